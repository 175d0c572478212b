import Derived.Test.YtdjnbjnlnjhllaaDoorFBLaw2
set_option linter.unusedVariables false
set_option linter.unusedSimpArgs false
namespace Go.Proofs.YtdjnbjnlnjhllaaDoor
open Go Go.Am
theorem Zq{s:Mb}{i:Nat}(h:i<s.words.length):Am.get (vns s) i=Am.get s.words i:=by
 unfold vns Am.get
 rw[List.getD_eq_getElem?_getD,List.getD_eq_getElem?_getD,List.append_assoc,List.getElem?_append_left h]
theorem Xb{s:Mb}{i:Nat}(h:i<s.Mj.length):Am.get (vns s) (s.words.length+i)=Am.get s.Mj i:=by
 unfold vns Am.get
 rw[List.getD_eq_getElem?_getD,List.getD_eq_getElem?_getD,List.append_assoc,List.getElem?_append_right (by omega),List.getElem?_append_left (by omega)]
 congr 2;omega
theorem Xc{s:Mb}{i:Nat}(h:i<s.parts.length):Am.get (vns s) (s.words.length+s.Mj.length+i)=Am.get s.parts i:=by
 unfold vns Am.get
 rw[List.getD_eq_getElem?_getD,List.getD_eq_getElem?_getD,List.getElem?_append_right (by simp only[List.length_append];omega)]
 congr 2;simp only[List.length_append];omega
structure QT(s:Mb):Prop where
 form:OkF s.form
 len:(vns s).length≤300
 name:∀x∈vns s,MI x
 uniq:∀i j,i<j→j<(vns s).length→Am.get (vns s) i≠Am.get (vns s) j
 words:∀x∈s.words,fre s.form [] x
 Mj:∀x∈s.Mj,Wx (Oa s.form) x∨Vq (Oa s.form) x
 parts:∀x∈s.parts,¬Wx (Oa s.form) x∧Vq (Oa s.form) x
 d9H:QOk s
theorem OkS.good{s:Mb}(h:OkS s):QT s:=by
 obtain⟨h1,h2,h3,h4⟩:=h
 have hvl:=Tn s
 have hn:∀j,j<(vns s).length→MI (Am.get (vns s) j):=fun j hj=>Classical.byContradiction fun h=>by
  have:=h3 j hj
  unfold Qj at this
  rw[if_pos h]at this
  exact absurd this (by decide)
 have hu:∀j,j<(vns s).length→Am.get (vns s) j∉ (vns s).take j:=fun j hj h=>by
  have:=h3 j hj
  unfold Qj at this
  rw[if_neg (fun e=>e (hn j hj)),if_pos h]at this
  exact absurd this (by decide)
 refine⟨h1,h2,fun x hx=>?_,fun i j hij hj e=>hu j hj ((Vr (by omega)).2 ⟨i,hij,e⟩),fun x hx=>?_,fun x hx=>?_,fun x hx=>?_,h4⟩
 ·obtain⟨j,hj,rfl⟩:=Na.1 hx
  exact hn j hj
 ·obtain⟨j,hj,rfl⟩:=Na.1 hx
  have hjv:j<(vns s).length:=by omega
  have:=h3 j hjv
  unfold Qj at this
  rw[if_neg (fun e=>e (hn j hjv)),if_neg (hu j hjv),if_pos hj]at this
  rw[←Zq hj]
  exact Classical.byContradiction fun h=>by rw[if_neg h]at this;exact absurd this (by decide)
 ·obtain⟨i,hi,rfl⟩:=Na.1 hx
  have hjv:s.words.length+i<(vns s).length:=by omega
  have:=h3 _ hjv
  unfold Qj at this
  rw[if_neg (fun e=>e (hn _ hjv)),if_neg (hu _ hjv),if_neg (by omega),if_pos (by omega)]at this
  rw[←Xb hi]
  exact Classical.byContradiction fun h=>by rw[if_neg h]at this;exact absurd this (by decide)
 ·obtain⟨i,hi,rfl⟩:=Na.1 hx
  have hjv:s.words.length+s.Mj.length+i<(vns s).length:=by omega
  have:=h3 _ hjv
  unfold Qj at this
  rw[if_neg (fun e=>e (hn _ hjv)),if_neg (hu _ hjv),if_neg (by omega),if_neg (by omega)]at this
  rw[←Xc hi]
  by_cases hw:Wx (Oa s.form) (Am.get (vns s) (s.words.length+s.Mj.length+i))
  ·rw[if_pos hw]at this;exact absurd this (by decide)
  ·rw[if_neg hw]at this
   exact⟨hw,Classical.byContradiction fun h=>by rw[if_neg h]at this;exact absurd this (by decide)⟩
def QU(s:Mb)(f:LZ):Prop:=(f.kind=2∧f.words.length=0)∧f.name∈s.parts
instance(s:Mb)(f:LZ):Decidable (QU s f):=inferInstanceAs (Decidable (_∧_))
def mkw(W bd:List Bs)(w:Bs):Bs:=if w∈bd then 63::w else if w∈W then 46::w else w
def mkn(s:Mb)(f:LZ):Bs:=if QK f.kind then 63::f.name else if QU s f then 43::f.name else if f.kind=2∧f.name∈s.Mj then 33::f.name else f.name
mutual
def Rl(s:Mb):LZ→List Bs→LZ
 | .mk k n w l,bd=>.mk k (mkn s (.mk k n w l)) (w.map (mkw s.words bd)) (OD s l (if QK k then n::bd else bd))
def OD(s:Mb):List LZ→List Bs→List LZ
 | [],_=>[]
 |f::l,bd=>Rl s f bd::OD s l bd
end
theorem UE(s:Mb)(f:LZ)(bd:List Bs):Rl s f bd= .mk f.kind (mkn s f) (f.words.map (mkw s.words bd)) (OD s f.subs (if QK f.kind then f.name::bd else bd)):=by cases f;rw[Rl];rfl
theorem XG(s:Mb):∀(l:List LZ) (bd:List Bs),(OD s l bd).length=l.length
 | [],_=>by rw[OD]
 |f::l,bd=>by rw[OD,List.length_cons,List.length_cons,XG s l]
theorem Zr(s:Mb):∀(l:List LZ) (x:LZ) (bd:List Bs),OD s (l++[x]) bd=OD s l bd++[Rl s x bd]
 | [],x,bd=>by simp[OD]
 |a::l,x,bd=>by rw[List.cons_append,OD,OD,Zr s l x];rfl
theorem d7s{W bd bd':List Bs}(h:∀y,y∈bd↔y∈bd')(w:Bs):mkw W bd w=mkw W bd' w:=by
 unfold mkw
 by_cases e:w∈bd
 ·rw[if_pos e,if_pos ((h w).1 e)]
 ·rw[if_neg e,if_neg fun e'=>e ((h w).2 e')]
mutual
theorem d3r(s:Mb):∀(f:LZ) (bd bd':List Bs),(∀y,y∈bd↔y∈bd')→Rl s f bd=Rl s f bd'
 | .mk k n w l,bd,bd',h=>by
   rw[Rl,Rl,Vs s l _ (if QK k then n::bd' else bd') (fun y=>?_),List.map_congr_left fun x _=>d7s h x]
   split
   ·simp[h y]
   ·exact h y
theorem Vs(s:Mb):∀(l:List LZ) (bd bd':List Bs),(∀y,y∈bd↔y∈bd')→OD s l bd=OD s l bd'
 | [],bd,bd',h=>by rw[OD,OD]
 |f::l,bd,bd',h=>by rw[OD,OD,d3r s f bd bd' h,Vs s l bd bd' h]
end
theorem d3s(s:Mb)(f:LZ):PB s f=some (decide (QU s f)):=by
 unfold PB QU
 simp only[NY]
 by_cases h1:f.kind=2<;>by_cases h2:f.words.length=0<;>simp[h1,h2,gd]
theorem i0Q{f:LZ}(hwf:WfF f):f.name.length≤30:=by
 have h:=OT ((Qe f).1 hwf).1
 by_cases hk:f.kind=2∨QK f.kind
 ·exact(h.2.2.1 hk).2.1
 ·rw[h.2.2.2.1 hk];decide
theorem Zs{f:LZ}(hwf:WfF f){x:Bs}(hx:x∈f.words):MI x:=(OT ((Qe f).1 hwf).1).2.2.2.2 x hx
theorem d5i(s:Mb)(g:LZ):∀(m:Nat) (f:LZ),SizeOf.sizeOf f≤m→WfF f→∀bd:List Bs,bd.length+ndF f≤100000→
 Evt (fun n=>MX n f bd g.kind g.name g.words g.subs s.words s.Mj s.parts) (fun r=>r=Rl s f bd):=by
 intro m
 induction m with
 |zero=>intro f h;cases f;simp only[LZ.mk.sizeOf_spec]at h;omega
 |succ m ih=>
  intro f hf hwf bd hbd
  have hnd:=WW f
  have hws:=d2c hwf
  have hsl:=d0S hwf
  have hnl:=i0Q hwf
  refine Evt.succ ?_
  simp only[MX]
  refine Evt.Mw (P:=ExP (fun t=>t=f.words.map (mkw s.words bd)) (fun _=>False)) ((Evt.range (fun k t=>t=(f.words.take k).map (mkw s.words bd)) (fun _=>False) (fun _=>False) (by simp) (fun k t hk ht=>?_)).mono fun e he=>?_) (fun t ht=>?_) (fun _ h=>h.elim)
  ·unfold PC
   simp only[NY,Option.bind_some]
   have hwl:=(Zs hwf (get_mem hk)).2.1
   have hsn:(f.words.take (k+1)).map (mkw s.words bd)=t++[mkw s.words bd (Am.get f.words k)]:=by rw[Od hk,List.map_append,ht];rfl
   have htl:t.length=k:=by rw[ht,List.length_map,List.length_take];omega
   refine Evt.cond (fun e=>Evt.chk (by unfold Qb;simp;omega) (Evt.Sk (Evt.chk ?_ (Evt.pure ?_)))) (fun e=>Evt.cond (fun e2=>Evt.chk (by unfold Qb;simp;omega) (Evt.Sk (Evt.chk ?_ (Evt.pure ?_)))) (fun e2=>Evt.Sk (Evt.chk ?_ (Evt.pure ?_))))
   ·rw[QS];simp only[List.length_append,List.length_cons,List.length_nil];omega
   ·replace e:=bx e
    show _=_
    rw[hsn];unfold mkw;rw[if_pos e];rfl
   ·rw[QS];simp only[List.length_append,List.length_cons,List.length_nil];omega
   ·replace e:=bx e
    replace e2:=bx e2
    show _=_
    rw[hsn];unfold mkw;rw[if_neg e,if_pos e2];rfl
   ·rw[QS];simp only[List.length_append,List.length_cons,List.length_nil];omega
   ·replace e:=bx e
    replace e2:=bx e2
    show _=_
    rw[hsn];unfold mkw;rw[if_neg e,if_neg e2]
  ·cases e with
   |ret r=>exact he
   |nxt t=>
    have:=he.elim id False.elim
    rw[List.take_length]at this
    exact this
  ·subst ht
   have key:∀(nm:Bs) (bd':List Bs),nm=mkn s f→(∀y,y∈bd'↔y∈(if QK f.kind then f.name::bd else bd))→bd'.length≤bd.length+1→
    Evt (fun n=>MU (MX n) f g.kind g.name g.words g.subs s.words s.Mj s.parts (f.words.map (mkw s.words bd)) (nm,bd')) (fun r=>r=Rl s f bd):=by
    intro nm bd' hnm hb hlen
    unfold MU
    refine Evt.Mw (P:=ExP (fun t=>t=OD s f.subs bd') (fun _=>False)) ((Evt.range (fun k t=>t=OD s (f.subs.take k) bd') (fun _=>False) (fun _=>False) (by simp[OD]) (fun k t hk ht=>?_)).mono fun e he=>?_) (fun t ht=>?_) (fun _ h=>h.elim)
    ·unfold PD
     have hsz:=Oi hk
     have htk:=Tl hk
     refine Evt.bind (ih _ (by omega) (Uh hwf hk) bd' (by omega)) fun v hv=>Evt.Sk (Evt.chk ?_ (Evt.pure ?_))
     ·rw[QS,ht];simp only[List.length_append,XG,List.length_take,List.length_cons,List.length_nil];omega
     ·show _=_
      rw[hv,ht,Od hk,Zr]
    ·cases e with
     |ret r=>exact he
     |nxt t=>
      have:=he.elim id False.elim
      rw[List.take_length]at this
      exact this
    ·unfold PE
     refine Evt.pure ?_
     have ht:t=OD s f.subs bd':=ht
     rw[UE,ht,hnm,Vs s f.subs _ _ hb]
   unfold PF
   simp only[UD,d3s,NY,Option.bind_some]
   refine Evt.cond (fun e=>?_) (fun e=>?_)
   ·replace e:=bx e
    refine Evt.bind (P:=fun v=>v=bd) (Evt.pure rfl) fun v hv=>?_
    subst hv
    refine Evt.Sk (Evt.chk ?_ (Evt.chk (by unfold Qb;simp;omega) (key _ _ (by unfold mkn;rw[if_pos e];rfl) (fun y=>?_) (by simp))))
    ·rw[QS];simp only[List.length_append,List.length_cons,List.length_nil];omega
    ·rw[if_pos e];simp[or_comm]
   ·replace e:=bx e
    have hb:∀y,y∈bd↔y∈(if QK f.kind then f.name::bd else bd):=fun y=>by rw[if_neg e]
    refine Evt.cond (fun e2=>?_) (fun e2=>?_)
    ·have e2:QU s f:=of_decide_eq_true e2
     exact Evt.chk (by unfold Qb;simp;omega) (key _ _ (by unfold mkn;rw[if_neg e,if_pos e2];rfl) hb (by omega))
    ·have e2:¬QU s f:=of_decide_eq_false e2
     refine Evt.bind (P:=fun v=>f.kind=2→v=decide (f.name∈s.Mj)) (Evt.gd (fun g=>Evt.pure fun _=>rfl) (fun g h=>by simp[h]at g)) fun v hv=>?_
     refine Evt.cond (fun e3=>?_) (fun e3=>?_)
     ·replace e3:=bx e3
      have:=hv e3.1
      rw[e3.2]at this
      exact Evt.chk (by unfold Qb;simp;omega) (key _ _ (by unfold mkn;rw[if_neg e,if_neg e2,if_pos ⟨e3.1,of_decide_eq_true this.symm⟩];rfl) hb (by omega))
     ·refine key _ _ ?_ hb (by omega)
      unfold mkn
      rw[if_neg e,if_neg e2,if_neg fun h=>?_]
      rw[hv h.1]at e3
      simp[h.1,h.2]at e3
theorem XH(c:UInt8)(l:List Bs)(hl:l.length≤1000000)(hx:∀x∈l,x.length≤1000000):Evt (fun _=>Oe [c] l) (fun r=>r=l.map (c:: ·)):=by
 unfold Oe
 refine Evt.Mw (P:=ExP (fun t=>t=l.map (c:: ·)) (fun _=>False)) ((Evt.range (fun k t=>t=(l.take k).map (c:: ·)) (fun _=>False) (fun _=>False) (by simp) (fun k t hk ht=>?_)).mono fun e he=>?_) (fun t ht=>?_) (fun _ h=>h.elim)
 ·unfold PG
  have:=hx _ (get_mem hk)
  refine Evt.chk (by unfold Qb;simp;omega) (Evt.Sk (Evt.chk ?_ (Evt.pure ?_)))
  ·rw[QS,ht];simp only[List.length_append,List.length_map,List.length_take,List.length_cons,List.length_nil];omega
  ·show _=_
   rw[Od hk,List.map_append,ht];rfl
 ·cases e with
  |ret r=>exact he
  |nxt t=>
   have:=he.elim id False.elim
   rw[List.take_length]at this
   exact this
 ·exact Evt.pure ht
def UF(s:Mb):Mb:=⟨Rl s s.form [],s.words.map (46:: ·),s.Mj.map (33:: ·),s.parts.map (43:: ·)⟩
theorem d3t{s:Mb}(h:QT s):Evt (fun n=>Qo n s) (fun r=>r=UF s):=by
 have hvl:=Tn s
 have hl:=h.len
 have hn:∀x∈vns s,x.length≤1000000:=fun x hx=>by have:=(h.name x hx).2.1;omega
 have hnd:=h.form.2.1
 unfold Qo
 refine Evt.bind (d5i s s.form _ s.form (Nat.le_refl _) h.form.1 [] (by simp;omega)) fun v1 hv1=>?_
 refine Evt.bind (XH 46 s.words (by omega) fun x hx=>hn x (List.mem_append.2 (.inl (List.mem_append.2 (.inl hx))))) fun v2 hv2=>?_
 refine Evt.bind (XH 33 s.Mj (by omega) fun x hx=>hn x (List.mem_append.2 (.inl (List.mem_append.2 (.inr hx))))) fun v3 hv3=>?_
 refine Evt.bind (XH 43 s.parts (by omega) fun x hx=>hn x (List.mem_append.2 (.inr hx))) fun v4 hv4=>?_
 subst hv1 hv2 hv3 hv4
 exact Evt.pure rfl
def zf:LZ:=.mk 0 [] [] []
abbrev Env:=List (Bs×Ma)
theorem XI{V:Type}(k:Bs)(v:V):∀m:List (Bs×V),assoc k (ML k v m)=some v
 | []=>by simp[ML,assoc]
 |(a,u)::m=>by
  rw[ML]
  split
  ·simp[assoc]
  ·rename_i h
   rw[assoc,if_neg h,XI k v m]
theorem d0X{V:Type}{k k':Bs}(h:k'≠k)(v:V):∀m:List (Bs×V),assoc k' (ML k v m)=assoc k' m
 | []=>by
   show(if k'=k then some v else assoc k' ([]:List (Bs×V)))=_
   rw[if_neg h]
 |(a,u)::m=>by
  rw[ML]
  split
  ·rename_i e
   subst e
   rw[assoc,assoc,if_neg h,if_neg h]
  ·rw[assoc,assoc,d0X h v m]
open Classical in
noncomputable def d1n(env:Env)(b:Ma):Option Env:=match assoc b.name env with
 |none=>some (ML b.name b env)
 |some b'=>if b'=b then some env else none
noncomputable def Sq:Env→List Ma→Option Env
 |env,[]=>some env
 |env,b::l=>(d1n env b).bind fun e=>Sq e l
theorem d4v:∀(a b:List Ma) (env:Env),Sq env (a++b)=(Sq env a).bind fun e=>Sq e b
 | [],b,env=>rfl
 |x::a,b,env=>by
  rw[List.cons_append,Sq,Sq]
  cases d1n env x with
  |none=>rfl
  |some e=>exact d4v a b e
theorem VJ{env e:Env}{b:Ma}(h:d1n env b=some e):assoc b.name e=some b∧(∀k c,assoc k env=some c→assoc k e=some c)∧(∀k c,assoc k e=some c→assoc k env=some c∨(b.name=k∧b=c)):=by
 unfold d1n at h
 split at h
 ·rename_i h0
  cases h
  refine⟨XI _ _ _,fun k c hc=>?_,fun k c hc=>?_⟩
  ·by_cases e:k=b.name
   ·rw[e,h0]at hc;cases hc
   ·rw[d0X e];exact hc
  ·by_cases e:k=b.name
   ·rw[e,XI]at hc
    exact .inr ⟨e.symm,Option.some.inj hc⟩
   ·rw[d0X e]at hc;exact .inl hc
 ·rename_i b' h0
  split at h
  ·rename_i hb
   cases h
   exact⟨by rw[h0,hb],fun k c hc=>hc,fun k c hc=>.inl hc⟩
  ·cases h
theorem VK:∀(ps:List Ma) (env e:Env),Sq env ps=some e→(∀b∈ps,assoc b.name e=some b)∧(∀k c,assoc k env=some c→assoc k e=some c)∧(∀k c,assoc k e=some c→assoc k env=some c∨(∃b∈ps,b.name=k∧b=c))
 | [],env,e,h=>by cases h;exact⟨fun b hb=>(by cases hb),fun k c hc=>hc,fun k c hc=>.inl hc⟩
 |b::l,env,e,h=>by
  rw[Sq]at h
  cases hp:d1n env b with
  |none=>rw[hp]at h;cases h
  |some e1=>
   rw[hp]at h
   obtain⟨p1,p2,p3⟩:=VJ hp
   obtain⟨r1,r2,r3⟩:=VK l e1 e h
   refine⟨fun c hc=>?_,fun k c hc=>r2 k c (p2 k c hc),fun k c hc=>?_⟩
   ·rcases List.mem_cons.1 hc with rfl|hc
    ·exact r2 _ _ p1
    ·exact r1 c hc
   ·rcases r3 k c hc with h|⟨x,hx,h1,h2⟩
    ·rcases p3 k c h with h|⟨h1,h2⟩
     ·exact .inl h
     ·exact .inr ⟨b,List.mem_cons_self ..,h1,h2⟩
    ·exact .inr ⟨x,List.mem_cons_of_mem _ hx,h1,h2⟩
def IsKey(k:Bs):Prop:=∃c t,k=c::t∧(c=33∨c=43∨c=46∨c=63)
theorem d4w{x:Bs}(h:MI x):¬IsKey x:=fun⟨c,t,e,hc⟩=>by
 have:=h.2.2.1.1
 subst e
 rcases hc with rfl|rfl|rfl|rfl<;>simp[PS]at this
def XJ(b:Ma):Prop:=SmF b.form∧((∃x,b.name=43::x∧b.text=[])∨(∃c x,b.name=c::x∧(c=33∨c=46∨c=63)∧b.form=zf))
def Vt(env:Env):Prop:=∀k b,assoc k env=some b→b.name=k∧XJ b
theorem d3u{env e:Env}{b:Ma}(h:Vt env)(hb:XJ b)(hp:d1n env b=some e):Vt e:=fun k c hc=>by
 rcases(VJ hp).2.2 k c hc with h1|⟨rfl,rfl⟩
 ·exact h k c h1
 ·exact⟨rfl,hb⟩
theorem d3v{env e:Env}{ps:List Ma}(h:Vt env)(hb:∀b∈ps,XJ b)(hp:Sq env ps=some e):Vt e:=fun k c hc=>by
 rcases(VK _ _ _ hp).2.2 k c hc with h1|⟨b,hm,h1,h2⟩
 ·exact h k c h1
 ·subst h2;exact⟨h1,hb _ hm⟩
theorem XJ.key{b:Ma}(h:XJ b):IsKey b.name:=by
 rcases h.2 with⟨x,e,_⟩|⟨c,x,e,hc,_⟩
 ·exact⟨43,x,e,by simp⟩
 ·exact⟨c,x,e,by rcases hc with h|h|h<;>simp[h]⟩
theorem i3d:SmF zf:=by unfold zf;rw[SmF];exact⟨by decide,by decide,by rw[d0V];trivial⟩
theorem d5j{c:UInt8}{x y:Bs}(h:c=33∨c=46∨c=63):XJ ⟨c::x,y,zf⟩:=⟨i3d,.inr ⟨c,x,rfl,h,rfl⟩⟩
def cat(a b:Option (List Ma)):Option (List Ma):=a.bind fun x=>b.bind fun y=>some (x++y)
theorem d3w(a b:Option (List Ma))(s:Env):(cat a b).bind (Sq s)=(a.bind (Sq s)).bind fun s'=>b.bind (Sq s'):=by
 cases a with
 |none=>rfl
 |some x=>
  cases b with
  |none=>
   show none=(Sq s x).bind fun s'=>none
   cases Sq s x<;>rfl
  |some y=>exact d4v x y s
theorem d8V(o:Option (List Ma))(b:Ma)(s:Env):(o.map (b:: ·)).bind (Sq s)=(d1n s b).bind fun s'=>o.bind (Sq s'):=by
 cases o with
 |none=>show none=_;cases d1n s b<;>rfl
 |some x=>rfl
def ptw(W bd:List Bs):List Bs→List Bs→Option (List Ma)
 |x::xs,y::ys=>if x∈bd then(ptw W bd xs ys).map (⟨63::x,y,zf⟩:: ·)else if x∈W then(ptw W bd xs ys).map (⟨46::x,y,zf⟩:: ·)else if x=y then ptw W bd xs ys else none
 | _,_=>some []
def pth(s:Mb)(f g:LZ):Option (List Ma):=
 if QK f.kind then some [⟨63::f.name,g.name,zf⟩]else if f.kind=2∧f.name∈s.Mj then some [⟨33::f.name,g.name,zf⟩]else if f.name=g.name then some []else none
mutual
def pts(s:Mb):LZ→List Bs→LZ→Option (List Ma)
 | .mk k n w l,bd,g=>if QU s (.mk k n w l)then some [⟨43::n,[],g⟩]
   else if k≠g.kind∨w.length≠g.words.length then none
   else cat (pth s (.mk k n w l) g) (cat (ptw s.words bd w g.words) (Ya s l (if QK k then n::bd else bd) g.subs))
def Ya(s:Mb):List LZ→List Bs→List LZ→Option (List Ma)
 | [],_,_=>some []
 |f::l,bd,gs=>match gs with
  | []=>some []
  |g::gs=>cat (pts s f bd g) (Ya s l bd gs)
end
theorem d4x(s:Mb)(f:LZ)(bd:List Bs)(g:LZ):pts s f bd g=if QU s f then some [⟨43::f.name,[],g⟩]else if f.kind≠g.kind∨f.words.length≠g.words.length then none else cat (pth s f g) (cat (ptw s.words bd f.words g.words) (Ya s f.subs (if QK f.kind then f.name::bd else bd) g.subs)):=by cases f;rw[pts];rfl
theorem d0l{a b:Option (List Ma)}{Q:Ma→Prop}(ha:∀x,a=some x→∀c∈x,Q c)(hb:∀x,b=some x→∀c∈x,Q c):∀x,cat a b=some x→∀c∈x,Q c:=fun x hx c hc=>by
 unfold cat at hx
 cases a with
 |none=>cases hx
 |some y=>
  cases b with
  |none=>cases hx
  |some z=>
   cases hx
   rcases List.mem_append.1 hc with h|h
   ·exact ha y rfl c h
   ·exact hb z rfl c h
theorem d9I(W bd:List Bs):∀(xs ys:List Bs) (ps:List Ma),ptw W bd xs ys=some ps→∀b∈ps,XJ b
 | [],ys,ps,h,b,hb=>by rw[ptw]at h;cases h;cases hb;simp
 |x::xs,[],ps,h,b,hb=>by rw[ptw]at h;cases h;cases hb;simp
 |x::xs,y::ys,ps,h,b,hb=>by
  rw[ptw]at h
  have ih:=d9I W bd xs ys
  have mp:∀c:Ma,XJ c→(ptw W bd xs ys).map (c:: ·)=some ps→XJ b:=fun c hc h=>by
   cases hp:ptw W bd xs ys with
   |none=>rw[hp]at h;cases h
   |some q=>
    rw[hp]at h;cases h
    rcases List.mem_cons.1 hb with rfl|hb
    ·exact hc
    ·exact ih q hp b hb
  split at h
  ·exact mp _ (d5j (.inr (.inr rfl))) h
  ·split at h
   ·exact mp _ (d5j (.inr (.inl rfl))) h
   ·split at h
    ·exact ih ps h b hb
    ·cases h
theorem i3e(s:Mb)(f g:LZ)(ps:List Ma)(h:pth s f g=some ps):∀b∈ps,XJ b:=fun b hb=>by
 unfold pth at h
 split at h
 ·cases h
  rw[List.mem_singleton]at hb;subst hb
  exact d5j (.inr (.inr rfl))
 ·split at h
  ·cases h
   rw[List.mem_singleton]at hb;subst hb
   exact d5j (.inl rfl)
  ·split at h
   ·cases h;cases hb
   ·cases h
mutual
theorem d2h(s:Mb):∀(f:LZ) (bd:List Bs) (g:LZ),SmF g→∀ps,pts s f bd g=some ps→∀b∈ps,XJ b
 | .mk k n w l,bd,g,hg,ps,h,b,hb=>by
   rw[pts]at h
   split at h
   ·cases h
    rw[List.mem_singleton]at hb;subst hb
    exact⟨hg,.inl ⟨n,rfl,rfl⟩⟩
   ·split at h
    ·cases h
    ·exact d0l (fun x hx=>i3e s _ g x hx) (d0l (fun x hx=>d9I _ _ _ _ x hx) (fun x hx=>d7t s l _ g.subs ((d4u g).1 hg).2.2 x hx)) ps h b hb
theorem d7t(s:Mb):∀(l:List LZ) (bd:List Bs) (gs:List LZ),d0V gs→∀ps,Ya s l bd gs=some ps→∀b∈ps,XJ b
 | [],bd,gs,hg,ps,h,b,hb=>by rw[Ya]at h;cases h;cases hb
 |f::l,bd,[],hg,ps,h,b,hb=>by rw[Ya]at h;cases h;cases hb
 |f::l,bd,g::gs,hg,ps,h,b,hb=>by
  rw[Ya]at h
  rw[d0V]at hg
  exact d0l (fun x hx=>d2h s f bd g hg.1 x hx) (fun x hx=>d7t s l bd gs hg.2 x hx) ps h b hb
end
theorem d8W(a b:List Bs):Nd a b=some (decide (a=b)):=by
 have h:Evt (fun _=>Nd a b) (fun r=>r=decide (a=b)):=by
  unfold Nd
  refine Evt.cond (fun e=>Evt.pure ?_) (fun e=>?_)
  ·replace e:=bx e
   exact(decide_eq_false fun h=>e (by rw[h])).symm
  replace e:=bx e
  have hl:a.length=b.length:=by omega
  refine Evt.Mw (Evt.scan (fun k _=>a.take k=b.take k) (fun k r=>r=false∧Am.get a k≠Am.get b k) (by simp) (fun k u hk hi=>?_)) (fun t ht=>?_) (fun r hr=>?_)
  ·unfold NI
   refine Evt.chk (by omega) (Evt.cond (fun e=>Evt.pure ?_) (fun e=>Evt.pure ?_))
   ·replace e:=bx e
    exact⟨rfl,e⟩
   ·replace e:=bx e
    show a.take (k+1)=b.take (k+1)
    rw[Od hk,Od (l:=b) (by omega),hi,e]
  ·unfold NJ
   refine Evt.pure (decide_eq_true ?_).symm
   have ht:a.take a.length=b.take a.length:=ht
   rw[List.take_length,hl,List.take_length]at ht
   exact ht
  ·obtain⟨k,_,_,_,rfl,h⟩:=hr
   exact(decide_eq_false fun e=>h (by rw[e])).symm
 obtain⟨r,rfl,N,hN⟩:=h
 exact hN N (Nat.le_refl _)
open Classical in
theorem i0R:∀(m:Nat) (f:LZ),SizeOf.sizeOf f≤m→SmF f→∀g:LZ,Evt (fun n=>Rm n f g) (fun r=>r=decide (f=g)):=by
 intro m
 induction m with
 |zero=>intro f h;cases f;simp only[LZ.mk.sizeOf_spec]at h;omega
 |succ m ih=>
  intro f hf hsm g
  obtain⟨_,hsl,hsm⟩:=(d4u f).1 hsm
  refine Evt.succ ?_
  simp only[Rm,d8W]
  refine Evt.bind (P:=fun v=>f.kind=g.kind→f.name=g.name→v=decide (f.words=g.words)) (Evt.gd (fun _=>Evt.pure fun _ _=>by congr) (fun h h1 h2=>by simp[h1,h2]at h)) fun v hv=>?_
  refine Evt.cond (fun e=>Evt.pure (decide_eq_false fun h=>?_).symm) (fun e=>?_)
  ·subst h
   have:=hv rfl rfl
   simp[this]at e
  have e1:f.kind=g.kind:=Classical.byContradiction fun h=>by simp[h]at e
  have e2:f.name=g.name:=Classical.byContradiction fun h=>by simp[h]at e
  have e3:f.words=g.words:=Classical.byContradiction fun h=>by have:=hv e1 e2;rw[decide_eq_false h]at this;simp[this]at e
  have e4:f.subs.length=g.subs.length:=Classical.byContradiction fun h=>by
   have:¬((f.subs.length:Int)=(g.subs.length:Int)):=by omega
   rw[decide_eq_false this]at e
   revert e
   cases (bif bif !decide (f.kind=g.kind)then true else !decide (f.name=g.name)then true else !v)<;>simp
  refine Evt.chk (by omega) (Evt.Mw (Evt.scan (fun k _=>f.subs.take k=g.subs.take k) (fun k r=>r=false∧Am.get f.subs k≠Am.get g.subs k) (by simp) (fun k u hk hi=>?_)) (fun t ht=>?_) (fun r hr=>?_))
  ·unfold RW
   have hsz:=Oi hk
   refine Evt.chk (by omega) (Evt.bind (ih _ (by omega) (Yr hsm _ (get_mem hk)) _) fun v2 hv2=>Evt.cond (fun e=>Evt.pure ?_) (fun e=>Evt.pure ?_))
   ·subst hv2
    exact⟨rfl,fun h=>by rw[decide_eq_true h]at e;cases e⟩
   ·subst hv2
    have h:Am.get f.subs k=Am.get g.subs k:=Classical.byContradiction fun h=>by rw[decide_eq_false h]at e;cases e
    show f.subs.take (k+1)=g.subs.take (k+1)
    rw[Od hk,Od (l:=g.subs) (by omega),hi,h]
  ·unfold RX
   refine Evt.pure (decide_eq_true ?_).symm
   have ht:f.subs.take f.subs.length=g.subs.take f.subs.length:=ht
   rw[List.take_length,e4,List.take_length]at ht
   cases f;cases g
   simp only[LZ.kind,LZ.name,LZ.words,LZ.subs]at*
   rw[e1,e2,e3,ht]
  ·obtain⟨k,_,_,_,rfl,h⟩:=hr
   exact(decide_eq_false fun e=>h (by rw[e])).symm
def RM(o:Option Env)(r:Bool×Env):Prop:=(∀e,o=some e→r=(true,e))∧(o=none→r.1=false)
theorem d2i{env:Env}(he:Vt env){c:UInt8}(hc:c=33∨c=46∨c=63)(x y:Bs):Evt (fun _=>Oz (c::x) y env) (RM (d1n env ⟨c::x,y,zf⟩)):=by
 unfold Oz d1n
 cases h:assoc (c::x) env with
 |none=>
  refine Evt.cond (fun e=>by simp at e) (fun _=>Evt.Sk (Evt.pure ?_))
  simp only[h]
  exact⟨fun e he=>by cases he;rfl,fun he=>by cases he⟩
 |some b=>
  refine Evt.cond (fun _=>Evt.pure ?_) (fun e=>by simp at e)
  simp only[h]
  obtain⟨h1,h2⟩:=he _ _ h
  have hiff:b=⟨c::x,y,zf⟩↔b.text=y:=by
   constructor
   ·intro e;rw[e]
   ·intro e
    obtain⟨_,h2⟩:=h2
    rcases h2 with⟨z,e1,_⟩|⟨c',z,e1,hc',e2⟩
    ·rw[h1]at e1
     have:=(List.cons.inj e1).1
     rcases hc with rfl|rfl|rfl<;>cases this
    ·cases b
     simp only at h1 e2 e
     rw[h1,e,e2]
  by_cases hb:b.text=y
  ·rw[if_pos (hiff.2 hb)]
   refine⟨fun e he=>?_,fun he=>by cases he⟩
   cases he
   show(decide (((some b).getD default).text=y),env)=_
   rw[decide_eq_true (show((some b).getD default).text=y from hb)]
  ·rw[if_neg fun e=>hb (hiff.1 e)]
   exact⟨fun e he=>(by cases he),fun _=>decide_eq_false hb⟩
def Has(bd:List Bs)(env:Env):Prop:=∀x∈bd,(assoc (63::x) env).isSome=true
theorem Has.mono{bd:List Bs}{env e:Env}(h:Has bd env)(hm:∀k c,assoc k env=some c→assoc k e=some c):Has bd e:=fun x hx=>by
 obtain⟨c,hc⟩:=Option.isSome_iff_exists.1 (h x hx)
 rw[hm _ _ hc];rfl
theorem VL{c:UInt8}{x:Bs}{l:List Bs}:(c::x)∈l.map (c:: ·)↔x∈l:=by
 rw[List.mem_map]
 exact⟨fun⟨y,hy,e⟩=>(List.cons.inj e).2▸hy,fun h=>⟨x,h,rfl⟩⟩
theorem d7u{c:UInt8}(hc:c=33∨c=43∨c=46∨c=63){k:Bs}{l:List Bs}(h:k∈l.map (c:: ·)):IsKey k:=by
 obtain⟨y,_,rfl⟩:=List.mem_map.1 h
 exact⟨c,y,rfl,hc⟩
theorem d8X{env:Env}(he:Vt env){x:Bs}(hx:¬IsKey x):assoc x env=none:=by
 cases h:assoc x env with
 |none=>rfl
 |some b=>
  obtain⟨h1,h2⟩:=he _ _ h
  exact absurd (h1▸h2.key) hx
section
variable {s:Mb}
theorem d4y{xs:List Bs}{k:Nat}(h:k<xs.length):xs.drop k=Am.get xs k::xs.drop (k+1):=i0O h
theorem d7v(W bd ys:List Bs):ptw W bd [] ys=some []:=by cases ys<;>simp[ptw]
theorem d8Y(env:Env)(b:Ma):Sq env [b]=d1n env b:=by
 rw[Sq]
 cases d1n env b<;>rfl
theorem d8Z{f g:LZ}(hf:WfF f)(hlen:f.words.length=g.words.length)(bd:List Bs){env:Env}(he:Vt env)(hh:Has bd env):
 Evt (fun _=>MY (OA (Rl s f bd) (UF s) g) (Rl s f bd).words.length env) (ExP (fun t=>(ptw s.words bd f.words g.words).bind (Sq env)=some t∧Vt t∧Has bd t) (fun r=>(ptw s.words bd f.words g.words).bind (Sq env)=none∧r.1=false)):=by
 have hml:(Rl s f bd).words.length=f.words.length:=by rw[UE];exact List.length_map _
 rw[hml]
 refine(Evt.range (fun k t=>(ptw s.words bd f.words g.words).bind (Sq env)=(ptw s.words bd (f.words.drop k) (g.words.drop k)).bind (Sq t)∧Vt t∧Has bd t) (fun _=>False) (fun r=>(ptw s.words bd f.words g.words).bind (Sq env)=none∧r.1=false) ⟨rfl,he,hh⟩ (fun k t hk ht=>?_)).mono fun e h=>?_
 ·obtain⟨ht,hte,hth⟩:=ht
  have hkg:k<g.words.length:=by omega
  have hkm:Am.get (Rl s f bd).words k=mkw s.words bd (Am.get f.words k):=by rw[UE];exact get_map _ hk
  rw[d4y hk,d4y hkg,ptw]at ht
  unfold OA
  simp only[hkm,NY]
  have nx:¬IsKey (Am.get f.words k):=d4w (Zs hf (get_mem hk))
  have fin:∀(c:UInt8),c=46∨c=63→(ptw s.words bd f.words g.words).bind (Sq env)=((ptw s.words bd (f.words.drop (k+1)) (g.words.drop (k+1))).map (⟨c::Am.get f.words k,Am.get g.words k,zf⟩:: ·)).bind (Sq t)→
   Evt (fun _:Nat=>chk ((k:Int)<(g.words.length:Int)) <| (Oz (c::Am.get f.words k) (Am.get g.words k) t).bind fun v14=>bif (!v14.1)then some (Ctl.ret (τ:=Env) (false,v14.2))else some (.nxt v14.2)) (d6H (fun t=>(ptw s.words bd f.words g.words).bind (Sq env)=(ptw s.words bd (f.words.drop (k+1)) (g.words.drop (k+1))).bind (Sq t)∧Vt t∧Has bd t) (fun _=>False) (fun r=>(ptw s.words bd f.words g.words).bind (Sq env)=none∧r.1=false)):=by
   intro c hc ht
   rw[d8V]at ht
   refine Evt.chk (by omega) (Evt.bind (d2i hte (hc.elim (fun h=>.inr (.inl h)) fun h=>.inr (.inr h)) _ _) fun v hv=>?_)
   cases hp:d1n t ⟨c::Am.get f.words k,Am.get g.words k,zf⟩with
   |none=>
    rw[hp]at ht hv
    have h1:=hv.2 rfl
    refine Evt.cond (fun _=>Evt.pure ⟨ht,rfl⟩) (fun e=>by rw[h1]at e;cases e)
   |some t'=>
    rw[hp]at ht hv
    have h1:=hv.1 _ rfl
    subst h1
    refine Evt.cond (fun e=>by cases e) (fun _=>Evt.pure ⟨ht,d3u hte (d5j (hc.elim (fun h=>.inr (.inl h)) fun h=>.inr (.inr h))) hp,hth.mono (VJ hp).2.1⟩)
  by_cases h1:Am.get f.words k∈bd
  ·rw[if_pos h1]at ht
   have e1:mkw s.words bd (Am.get f.words k)=63::Am.get f.words k:=by unfold mkw;rw[if_pos h1]
   rw[e1]
   have h2:=hth _ h1
   simp only[h2]
   exact fin 63 (.inr rfl) ht
  ·rw[if_neg h1]at ht
   by_cases h2:Am.get f.words k∈s.words
   ·rw[if_pos h2]at ht
    have e1:mkw s.words bd (Am.get f.words k)=46::Am.get f.words k:=by unfold mkw;rw[if_neg h1,if_pos h2]
    rw[e1]
    have h3:decide (46::Am.get f.words k∈(UF s).words)=true:=decide_eq_true (VL.2 h2)
    simp only[h3]
    cases h4:(assoc (46::Am.get f.words k) t).isSome
    ·exact fin 46 (.inl rfl) ht
    ·exact fin 46 (.inl rfl) ht
   ·rw[if_neg h2]at ht
    have e1:mkw s.words bd (Am.get f.words k)=Am.get f.words k:=by unfold mkw;rw[if_neg h1,if_neg h2]
    rw[e1]
    have h3:(assoc (Am.get f.words k) t).isSome=false:=by rw[d8X hte nx];rfl
    have h4:decide (Am.get f.words k∈(UF s).words)=false:=decide_eq_false fun h=>nx (d7u (.inr (.inr (.inl rfl))) h)
    simp only[h3,h4]
    refine Evt.chk (by omega) (Evt.cond (fun e=>Evt.pure ?_) (fun e=>Evt.pure ?_))
    ·replace e:=bx e
     rw[if_neg e]at ht
     exact⟨ht,rfl⟩
    ·replace e:=bx e
     rw[if_pos e]at ht
     exact⟨ht,hte,hth⟩
 ·cases e with
  |ret r=>exact h
  |nxt t=>
   obtain⟨h1,h2,h3⟩:=h.elim id False.elim
   rw[List.drop_length,d7v]at h1
   exact⟨h1,h2,h3⟩
open Classical in
theorem d7w:∀(m:Nat) (f:LZ),SizeOf.sizeOf f≤m→WfF f→∀(g:LZ),WfF g→∀(bd:List Bs) (env:Env),Vt env→Has bd env→
 Evt (fun n=>Mz n (UF s) (Rl s f bd) g env) (RM ((pts s f bd g).bind (Sq env))):=by
 intro m
 induction m with
 |zero=>intro f h;cases f;simp only[LZ.mk.sizeOf_spec]at h;omega
 |succ m ih=>
  intro f hf hwf g hwg bd env he hh
  have hnf:=OT ((Qe f).1 hwf).1
  have hng:=OT ((Qe g).1 hwg).1
  have hml:(Rl s f bd).words.length=f.words.length:=by rw[UE];exact List.length_map _
  have hmk:(Rl s f bd).kind=f.kind:=by rw[UE];rfl
  have hmn:(Rl s f bd).name=mkn s f:=by rw[UE];rfl
  have hms:(Rl s f bd).subs=OD s f.subs (if QK f.kind then f.name::bd else bd):=by rw[UE];rfl
  have hk2:f.kind=2→¬QK f.kind:=fun h=>by unfold QK;omega
  have hplain:f.kind=2→¬IsKey f.name:=fun h=>d4w (hnf.2.2.1 (.inl h))
  have hpart:QU (UF s) (Rl s f bd)↔QU s f:=by
   unfold QU
   rw[hmk,hml,hmn]
   constructor
   ·rintro⟨h1,h2⟩
    refine⟨h1,?_⟩
    unfold mkn at h2
    rw[if_neg (hk2 h1.1)]at h2
    split at h2
    ·rename_i h3;exact h3.2
    ·exfalso
     obtain⟨y,_,e⟩:=List.mem_map.1 h2
     split at e
     ·cases (List.cons.inj e).1
     ·exact hplain h1.1 (e▸ ⟨43,y,rfl,by simp⟩)
   ·rintro⟨h1,h2⟩
    refine⟨h1,?_⟩
    unfold mkn
    rw[if_neg (hk2 h1.1),if_pos (show QU s f from⟨h1,h2⟩)]
    exact VL.2 h2
  refine Evt.succ ?_
  simp only[Mz,d3s,Option.bind_some,UD,NY,hmk,hml,hmn]
  rw[d4x]
  refine Evt.cond (fun e=>?_) (fun e=>?_)
  ·have hp:QU s f:=hpart.1 (of_decide_eq_true e)
   rw[if_pos hp]
   have i6N:mkn s f=43::f.name:=by unfold mkn;rw[if_neg (hk2 hp.1.1),if_pos hp]
   rw[i6N]
   show Evt _ (RM (Sq env [_]))
   rw[d8Y]
   unfold d1n
   cases h:assoc (43::f.name) env with
   |none=>
    refine Evt.cond (fun e=>by simp at e) (fun _=>Evt.Sk (Evt.pure ?_))
    exact⟨fun e he=>by cases he;rfl,fun he=>by cases he⟩
   |some b=>
    refine Evt.cond (fun _=>?_) (fun e=>by simp at e)
    obtain⟨h1,h2⟩:=he _ _ h
    have hsm:=h2.1
    have htx:b.text=[]:=by
     rcases h2.2 with⟨z,e1,e2⟩|⟨c',z,e1,hc',e2⟩
     ·exact e2
     ·rw[h1]at e1
      have:=(List.cons.inj e1).1
      rcases hc' with rfl|rfl|rfl<;>cases this
    have hiff:b=⟨43::f.name,[],g⟩↔b.form=g:=by
     constructor
     ·intro e;rw[e]
     ·intro e
      cases b
      simp only at h1 htx e
      rw[h1,htx,e]
    refine Evt.bind (i0R _ b.form (Nat.le_refl _) hsm g) fun v hv=>Evt.pure ?_
    subst hv
    by_cases hb:b.form=g
    ·simp only[if_pos (hiff.2 hb),decide_eq_true hb]
     exact⟨fun e he=>by cases he;rfl,fun he=>by cases he⟩
    ·simp only[if_neg fun e=>hb (hiff.1 e),decide_eq_false hb]
     exact⟨fun e he=>(by cases he),fun _=>rfl⟩
  have hp:¬QU s f:=fun h=>(of_decide_eq_false e) (hpart.2 h)
  rw[if_neg hp]
  refine Evt.cond (fun e=>Evt.pure ?_) (fun e=>?_)
  ·have hc:f.kind≠g.kind∨f.words.length≠g.words.length:=Classical.byContradiction fun h=>by
    obtain⟨h1,h2⟩:=not_or.1 h
    have h1:=Classical.not_not.1 h1
    have h2:=Classical.not_not.1 h2
    simp[h1,h2]at e
   rw[if_pos hc]
   exact⟨fun e he=>(by cases he),fun _=>rfl⟩
  have hk:f.kind=g.kind:=Classical.byContradiction fun h=>by simp[h]at e
  have hl:f.words.length=g.words.length:=Classical.byContradiction fun h=>by
   have:¬((f.words.length:Int)=(g.words.length:Int)):=by omega
   simp[this]at e
  rw[if_neg fun h=>h.elim (fun h=>h hk) (fun h=>h hl),d3w]
  have hsl:f.subs.length=g.subs.length:=by have:=hnf.1;have:=hng.1;rw[hk]at *; omega
  have rest:∀i1A:Env,Vt i1A→Has bd i1A→Has (if QK f.kind then f.name::bd else bd) i1A→Evt (fun n=>NQ (Mz n) (Rl s f bd) (UF s) g i1A) (RM ((cat (ptw s.words bd f.words g.words) (Ya s f.subs (if QK f.kind then f.name::bd else bd) g.subs)).bind (Sq i1A))):=by
   intro i1A he1 hh1 i6O
   rw[d3w]
   unfold NQ
   refine Evt.Mw (d8Z hwf hl bd he1 hh1) (fun t ht=>?_) (fun r hr=>?_)
   ·obtain⟨ht,hte,hth⟩:=ht
    have hmono:Has (if QK f.kind then f.name::bd else bd) t:=by
     cases hw:ptw s.words bd f.words g.words with
     |none=>rw[hw]at ht;cases ht
     |some ps=>rw[hw]at ht;exact i6O.mono (VK _ _ _ ht).2.1
    rw[ht]
    unfold PI
    rw[hms,XG]
    refine Evt.Mw (P:=ExP (fun t'=>(Ya s f.subs (if QK f.kind then f.name::bd else bd) g.subs).bind (Sq t)=some t') (fun r=>(Ya s f.subs (if QK f.kind then f.name::bd else bd) g.subs).bind (Sq t)=none∧r.1=false)) ((Evt.range (fun k t'=>(Ya s f.subs (if QK f.kind then f.name::bd else bd) g.subs).bind (Sq t)=(Ya s (f.subs.drop k) (if QK f.kind then f.name::bd else bd) (g.subs.drop k)).bind (Sq t')∧Vt t'∧Has (if QK f.kind then f.name::bd else bd) t') (fun _=>False) (fun r=>(Ya s f.subs (if QK f.kind then f.name::bd else bd) g.subs).bind (Sq t)=none∧r.1=false) ⟨rfl,hte,hmono⟩ (fun k t' hk ht'=>?_)).mono fun e h=>?_) (fun t' ht'=>?_) (fun r hr=>?_)
    ·obtain⟨ht',i5O,i5P⟩:=ht'
     have hkg:k<g.subs.length:=by omega
     have hkm:Am.get (Rl s f bd).subs k=Rl s (Am.get f.subs k) (if QK f.kind then f.name::bd else bd):=by
      rw[hms]
      have:∀(l:List LZ) (bd:List Bs) (k:Nat),k<l.length→Am.get (OD s l bd) k=Rl s (Am.get l k) bd:=by
       intro l
       induction l with
       |nil=>intro bd k h;cases h
       |cons a l ih=>
        intro bd k h
        rw[OD]
        cases k with
        |zero=>rfl
        |succ k=>exact ih bd k (by simpa using h)
      exact this _ _ _ hk
     have e1:f.subs.drop k=Am.get f.subs k::f.subs.drop (k+1):=by rw[List.drop_eq_getElem_cons hk];simp[Am.get,hk]
     have e2:g.subs.drop k=Am.get g.subs k::g.subs.drop (k+1):=by rw[List.drop_eq_getElem_cons hkg];simp[Am.get,hkg]
     rw[e1,e2,Ya,d3w]at ht'
     unfold PJ
     simp only[hkm]
     have hsz:=Oi hk
     refine Evt.chk (by omega) (Evt.bind (ih _ (by omega) (Uh hwf hk) _ (Uh hwg hkg) _ t' i5O i5P) fun v hv=>?_)
     cases hp:(pts s (Am.get f.subs k) (if QK f.kind then f.name::bd else bd) (Am.get g.subs k)).bind (Sq t')with
     |none=>
      rw[hp]at ht' hv
      have h1:=hv.2 rfl
      exact Evt.cond (fun _=>Evt.pure ⟨ht',rfl⟩) (fun e=>by rw[h1]at e;cases e)
     |some t''=>
      rw[hp]at ht' hv
      have h1:=hv.1 _ rfl
      subst h1
      refine Evt.cond (fun e=>by cases e) (fun _=>Evt.pure ⟨ht',?_,?_⟩)
      ·cases hq:pts s (Am.get f.subs k) (if QK f.kind then f.name::bd else bd) (Am.get g.subs k)with
       |none=>rw[hq]at hp;cases hp
       |some ps=>rw[hq]at hp;exact d3v i5O (d2h s _ _ _ (WfF.sm _ (Uh hwg hkg)) ps hq) hp
      ·cases hq:pts s (Am.get f.subs k) (if QK f.kind then f.name::bd else bd) (Am.get g.subs k)with
       |none=>rw[hq]at hp;cases hp
       |some ps=>rw[hq]at hp;exact i5P.mono (VK _ _ _ hp).2.1
    ·cases e with
     |ret r=>exact h
     |nxt t'=>
      obtain⟨h1,h2,h3⟩:=h.elim id False.elim
      rw[List.drop_length,Ya]at h1
      exact h1
    ·unfold PK
     have ht':(Ya s f.subs (if QK f.kind then f.name::bd else bd) g.subs).bind (Sq t)=some t':=ht'
     refine Evt.pure ?_
     show RM ((some t).bind _) _
     rw[Option.bind_some,ht']
     exact⟨fun e he=>by cases he;rfl,fun he=>by cases he⟩
    ·show RM ((some t).bind _) _
     rw[Option.bind_some,hr.1]
     exact⟨fun e he=>(by cases he),fun _=>hr.2⟩
   ·rw[hr.1]
    exact⟨fun e he=>(by cases he),fun _=>hr.2⟩
  have i5Q:∀c:UInt8,c=33∨c=63→mkn s f=c::f.name→pth s f g=some [⟨c::f.name,g.name,zf⟩]→(QK f.kind→c=63)→Evt (fun n=>Nn (Mz n) (Rl s f bd) g env (UF s) true) (RM (((pth s f g).bind (Sq env)).bind fun s'=>(cat (ptw s.words bd f.words g.words) (Ya s f.subs (if QK f.kind then f.name::bd else bd) g.subs)).bind (Sq s'))):=by
   intro c hc hm hpt hq
   have hc3:c=33∨c=46∨c=63:=hc.elim .inl fun h=>.inr (.inr h)
   unfold Nn
   simp only[cond_true,hmn,hm,hpt]
   have e0:(some [(⟨c::f.name,g.name,zf⟩:Ma)]).bind (Sq env)=d1n env ⟨c::f.name,g.name,zf⟩:=by
    show Sq env [_]=_
    rw[Sq]
    cases d1n env ⟨c::f.name,g.name,zf⟩<;>rfl
   rw[e0]
   refine Evt.bind (d2i he hc3 f.name g.name) fun v hv=>?_
   cases hp:d1n env ⟨c::f.name,g.name,zf⟩with
   |none=>
    rw[hp]at hv
    have h1:=hv.2 rfl
    exact Evt.cond (fun _=>Evt.pure ⟨fun e he=>(by cases he),fun _=>rfl⟩) (fun e=>by rw[h1]at e;cases e)
   |some t=>
    rw[hp]at hv
    have h1:=hv.1 _ rfl
    subst h1
    refine Evt.cond (fun e=>by cases e) (fun _=>?_)
    have hm1:=hh.mono (VJ hp).2.1
    refine rest t (d3u he (d5j hc3) hp) hm1 ?_
    by_cases hqk:QK f.kind
    ·rw[if_pos hqk]
     intro x hx
     rcases List.mem_cons.1 hx with rfl|hx
     ·have:=(VJ hp).1
      obtain rfl:=hq hqk
      show(assoc (63::f.name) t).isSome=true
      rw[show assoc (63::f.name) t=some _ from this];rfl
     ·exact hm1 x hx
    ·rw[if_neg hqk];exact hm1
  refine Evt.cond (fun e=>?_) (fun e=>?_)
  ·have hq:QK f.kind:=of_decide_eq_true e
   rw[e]
   exact i5Q 63 (.inr rfl) (by unfold mkn;rw[if_pos hq]) (by unfold pth;rw[if_pos hq]) (fun _=>rfl)
  ·have hq:¬QK f.kind:=of_decide_eq_false e
   have i1B:mkn s f=if f.kind=2∧f.name∈s.Mj then 33::f.name else f.name:=by unfold mkn;rw[if_neg hq,if_neg hp]
   refine Evt.bind (P:=fun v=>f.kind=2→v=decide (mkn s f∈(UF s).Mj)) (Evt.gd (fun _=>Evt.pure fun _=>rfl) (fun g h=>by simp[h]at g)) fun v hv=>?_
   by_cases hpr:f.kind=2∧f.name∈s.Mj
   ·rw[if_pos hpr]at i1B
    have h1:=hv hpr.1
    rw[i1B,decide_eq_true (show(33::f.name:Bs)∈(UF s).Mj from VL.2 hpr.2)]at h1
    have e2:(bif decide (f.kind=2)then v else false)=true:=by simp[hpr.1,h1]
    rw[e2]
    exact i5Q 33 (.inl rfl) i1B (by unfold pth;rw[if_neg hq,if_pos hpr]) (fun h=>absurd h hq)
   ·rw[if_neg hpr]at i1B
    have e2:(bif decide (f.kind=2)then v else false)=false:=by
     by_cases h2:f.kind=2
     ·have h1:=hv h2
      rw[i1B,decide_eq_false (show ¬f.name∈(UF s).Mj from fun h=>hplain h2 (d7u (.inl rfl) h))]at h1
      simp[h1]
     ·simp[h2]
    rw[e2]
    have hpt:pth s f g=if f.name=g.name then some []else none:=by unfold pth;rw[if_neg hq,if_neg hpr]
    unfold Nn
    simp only[cond_false,hmn,i1B,hpt]
    refine Evt.cond (fun e=>Evt.pure ?_) (fun e=>?_)
    ·replace e:=bx e
     rw[if_neg e]
     exact⟨fun e he=>(by cases he),fun _=>rfl⟩
    ·replace e:=bx e
     rw[if_pos e]
     exact rest env he hh (by rw[if_neg hq];exact hh)
end
mutual
theorem d4z(s:Mb):∀(f:LZ) (bd:List Bs),ndF (Rl s f bd)=ndF f
 | .mk k n w l,bd=>by rw[Rl,ndF,ndF,d2j s l]
theorem d2j(s:Mb):∀(l:List LZ) (bd:List Bs),Pb (OD s l bd)=Pb l
 | [],bd=>by rw[OD]
 |f::l,bd=>by rw[OD,Pb,Pb,d4z s f,d2j s l]
end
mutual
theorem d4A(s:Mb):∀(f:LZ) (bd:List Bs),qs (Rl s f bd)=(qs f).map (63:: ·)
 | .mk k n w l,bd=>by
   rw[Rl,qs,qs,d2k s l,List.map_append]
   by_cases h:QK k
   ·have:mkn s (.mk k n w l)=63::n:=by unfold mkn;exact if_pos h
    simp only[if_pos h,this];rfl
   ·simp only[if_neg h];rfl
theorem d2k(s:Mb):∀(l:List LZ) (bd:List Bs),qsL (OD s l bd)=(qsL l).map (63:: ·)
 | [],bd=>by rw[OD,qsL];rfl
 |f::l,bd=>by rw[OD,qsL,qsL,d4A s f,d2k s l,List.map_append]
end
theorem d9a:∀(m:Nat) (f:LZ),SizeOf.sizeOf f≤m→SmF f→Evt (fun n=>Qp n f) (fun r=>r=f):=by
 intro m
 induction m with
 |zero=>intro f h;cases f;simp only[LZ.mk.sizeOf_spec]at h;omega
 |succ m ih=>
  intro f hf hsm
  obtain⟨_,hsl,hsm⟩:=(d4u f).1 hsm
  refine Evt.succ ?_
  simp only[Qp,NT,Option.bind_some]
  refine Evt.Mw (P:=ExP (fun t=>t=f.subs) (fun _=>False)) ((Evt.range (fun k t=>t=f.subs.take k) (fun _=>False) (fun _=>False) (by simp) (fun k t hk ht=>?_)).mono fun e he=>?_) (fun t ht=>?_) (fun _ h=>h.elim)
  ·unfold RD
   have hsz:=Oi hk
   refine Evt.bind (ih _ (by omega) (Yr hsm _ (get_mem hk))) fun v hv=>Evt.Sk (Evt.chk ?_ (Evt.pure ?_))
   ·rw[QS,ht];simp only[List.length_append,List.length_take,List.length_cons,List.length_nil];omega
   ·show _=_
    rw[hv,ht,Od hk]
  ·cases e with
   |ret r=>exact he
   |nxt t=>
    have:=he.elim id False.elim
    rw[List.take_length]at this
    exact this
  ·have ht:t=f.subs:=ht
   subst ht
   unfold RE
   refine Evt.pure ?_
   cases f;rfl
theorem d2l(x:Bs)(l:List Bs)(hl:l.length≤8000000):Ms x l=some (decide (x∈l)):=by
 have h:Evt (fun _=>Ms x l) (fun r=>r=decide (x∈l)):=by
  unfold Ms NU
  refine Evt.bind (P:=fun r=>0≤r↔x∈l) (Evt.chk (by omega) (Evt.Mw (Evt.scan (fun k _=>∀j,j<k→Am.get l j≠x) (fun k r=>r=(k:Int)∧Am.get l k=x) (fun j hj=>absurd hj (Nat.not_lt_zero _)) (fun k u hk hi=>?_)) (fun t ht=>?_) (fun r hr=>?_))) fun v hv=>Evt.pure ?_
  ·unfold Nr
   refine Evt.cond (fun e=>Evt.pure ?_) (fun e=>Evt.pure ?_)
   ·replace e:=bx e
    exact⟨rfl,e.symm⟩
   ·replace e:=bx e
    intro j hj
    by_cases ej:j=k
    ·subst ej;exact fun h=>e h.symm
    ·exact hi j (by omega)
  ·unfold Ns
   refine Evt.pure ⟨fun h=>absurd h (by decide),fun h=>?_⟩
   obtain⟨j,hj,e⟩:=Na.1 h
   exact absurd e (ht j hj)
  ·obtain⟨k,_,hk,_,rfl,e⟩:=hr
   exact⟨fun _=>Na.2 ⟨k,hk,e⟩,fun _=>by omega⟩
  ·by_cases h:x∈l
   ·simp[h,hv.2 h]
   ·have h3:¬0≤v:=fun h2=>h (hv.1 h2)
    simp only[h,h3,decide_false]
 obtain⟨r,rfl,N,hN⟩:=h
 exact hN N (Nat.le_refl _)
def ME(s:Mb):List Bs:=(s.words.map (46:: ·)++s.Mj.map (33:: ·)++s.parts.map (43:: ·))++(qs s.form).map (63:: ·)
def txE(e:Env)(k:Bs):Bs:=((assoc k e).getD default).text
def fmE(e:Env)(k:Bs):LZ:=((assoc k e).getD default).form
def caught(s:Mb)(e:Env):Prop:=∃w∈s.words,txE e (46::w)∈(qs s.form).map fun x=>txE e (63::x)
open Classical in
noncomputable def Yb(s:Mb)(g:LZ):List Ma×Bool:=match (pts s s.form [] g).bind (Sq [])with
 |none=>([],false)
 |some e=>if caught s e then([],false)else((ME s).map fun k=>⟨k.drop 1,txE e k,fmE e k⟩,true)
theorem d9J{e:Env}(h:Vt e)(k:Bs):SmF (fmE e k):=by
 unfold fmE
 cases hk:assoc k e with
 |none=>exact i3d
 |some b=>exact(h k b hk).2.1
theorem i0S{s:Mb}(hs:QT s){g:LZ}(hg:WfF g):Evt (fun n=>QD n s g) (fun r=>r=Yb s g):=by
 have hvl:=Tn s
 have hl:=hs.len
 have hnd:=hs.form.2.1
 have hql:(qs s.form).length≤200:=by rw[d0i];have:=d2a s.form;omega
 unfold QD
 refine Evt.bind (d3t hs) fun v1 hv1=>?_
 subst hv1
 refine Evt.bind (d7w _ s.form (Nat.le_refl _) hs.form.1 g hg [] [] (fun k b h=>by cases h) (fun x hx=>by cases hx)) fun v2 hv2=>?_
 unfold Yb
 cases hp:(pts s s.form [] g).bind (Sq [])with
 |none=>
  rw[hp]at hv2
  have h1:=hv2.2 rfl
  exact Evt.cond (fun _=>Evt.pure rfl) (fun e=>by rw[h1]at e;cases e)
 |some env=>
  rw[hp]at hv2
  have h1:=hv2.1 _ rfl
  subst h1
  have d7q:Vt env:=by
   cases hq:pts s s.form [] g with
   |none=>rw[hq]at hp;cases hp
   |some ps=>rw[hq]at hp;exact d3v (fun k b h=>by cases h) (d2h s _ _ _ (WfF.sm g hg) ps hq) hp
  refine Evt.cond (fun e=>by cases e) (fun _=>?_)
  have hqv:Evt (fun n=>Mp n (UF s).form) (fun r=>r=(qs s.form).map (63:: ·)):=by
   refine(Zm _ (UF s).form (Nat.le_refl _) ?_).mono fun r hr=>?_
   ·show ndF (Rl s s.form [])≤_
    rw[d4z];omega
   ·rw[hr];exact d4A s s.form []
  refine Evt.bind hqv fun v3 hv3=>?_
  subst hv3
  refine Evt.Mw (P:=ExP (fun t=>t=(qs s.form).map fun x=>txE env (63::x)) (fun _=>False)) ((Evt.range (fun k t=>t=((qs s.form).take k).map fun x=>txE env (63::x)) (fun _=>False) (fun _=>False) (by simp) (fun k t hk ht=>?_)).mono fun e he=>?_) (fun t ht=>?_) (fun _ h=>h.elim)
  ·rw[List.length_map]at hk
   unfold Rg
   rw[get_map _ hk]
   refine Evt.Sk (Evt.chk ?_ (Evt.pure ?_))
   ·rw[QS,ht];simp only[List.length_append,List.length_map,List.length_take,List.length_cons,List.length_nil];omega
   ·show _=_
    rw[Od hk,List.map_append,ht];rfl
  ·cases e with
   |ret r=>exact he
   |nxt t=>
    have:=he.elim id False.elim
    rw[List.length_map,List.take_length]at this
    exact this
  have ht:t=(qs s.form).map fun x=>txE env (63::x):=ht
  subst ht
  unfold Rh Ni
  have hfl: [(UF s).words,(UF s).Mj,(UF s).parts].flatten=s.words.map (46:: ·)++s.Mj.map (33:: ·)++s.parts.map (43:: ·):=by simp[UF]
  refine Evt.bind (P:=fun v=>v=s.words.map (46:: ·)++s.Mj.map (33:: ·)++s.parts.map (43:: ·)) ?_ fun v hv=>Evt.bind hqv fun v3 hv3=>?_
  ·unfold Ux
   simp only[Option.bind_assoc,Option.bind_some,hfl]
   exact Evt.bind (P:=fun v=>v=s.words.map (46:: ·)++s.Mj.map (33:: ·)++s.parts.map (43:: ·)) (Evt.chk ⟨by simp,by simp only[List.length_append,List.length_map];omega⟩ (Evt.pure rfl)) fun v hv=>Evt.pure hv
  subst hv hv3
  have i5a: [s.words.map (46:: ·)++s.Mj.map (33:: ·)++s.parts.map (43:: ·),(qs s.form).map (63:: ·)].flatten=ME s:=by simp[ME]
  refine Evt.bind (P:=fun v=>v=ME s) ?_ fun v hv=>?_
  ·unfold Ux
   rw[i5a]
   refine Evt.chk ⟨by simp,?_⟩ (Evt.pure rfl)
   unfold ME;simp only[List.length_append,List.length_map];omega
  subst hv
  have hkl:(ME s).length≤500:=by unfold ME;simp only[List.length_append,List.length_map];omega
  have hk1:∀k∈ME s,1≤k.length:=fun k hk=>by
   unfold ME at hk
   rcases List.mem_append.1 hk with hk|hk
   ·rcases List.mem_append.1 hk with hk|hk
    ·rcases List.mem_append.1 hk with hk|hk
     ·obtain⟨y,_,rfl⟩:=List.mem_map.1 hk;simp
     ·obtain⟨y,_,rfl⟩:=List.mem_map.1 hk;simp
    ·obtain⟨y,_,rfl⟩:=List.mem_map.1 hk;simp
   ·obtain⟨y,_,rfl⟩:=List.mem_map.1 hk;simp
  have hkw:∀w∈s.words,(46::w)∈ME s:=fun w hw=>List.mem_append.2 (.inl (List.mem_append.2 (.inl (List.mem_append.2 (.inl (VL.2 hw))))))
  refine Evt.Mw (P:=ExP (fun t=>t=((ME s).map fun k=>(⟨k.drop 1,txE env k,fmE env k⟩:Ma))∧¬caught s env) (fun r=>r=([],false)∧caught s env)) ((Evt.range (fun k t=>t=(((ME s).take k).map fun k=>(⟨k.drop 1,txE env k,fmE env k⟩:Ma))∧∀w∈s.words,(46::w)∈(ME s).take k→txE env (46::w)∉ (qs s.form).map fun x=>txE env (63::x)) (fun _=>False) (fun r=>r=([],false)∧caught s env) ⟨by simp,fun w _ h=>by simp at h⟩ (fun k t hk ht=>?_)).mono fun e he=>?_) (fun t ht=>?_) (fun r hr=>?_)
  ·obtain⟨ht1,ht2⟩:=ht
   unfold Ri
   have hc2:∀x,Ms x ((qs s.form).map fun x=>txE env (63::x))=some (decide (x∈(qs s.form).map fun x=>txE env (63::x))):=fun x=>d2l x _ (by rw[List.length_map];omega)
   simp only[NY,hc2,Option.bind_some]
   refine Evt.bind (P:=fun v=>(∃w∈s.words,Am.get (ME s) k=46::w)→v=decide (txE env (Am.get (ME s) k)∈(qs s.form).map fun x=>txE env (63::x))) (Evt.gd (fun _=>Evt.pure fun _=>rfl) (fun h ⟨w,hw,e⟩=>?_)) fun v hv=>Evt.cond (fun e=>Evt.pure ⟨rfl,?_⟩) (fun e=>?_)
   ·rw[e,decide_eq_true (show(46::w:Bs)∈(UF s).words from VL.2 hw)]at h;cases h
   ·replace e:=bx e
    obtain⟨e1,e2⟩:=e
    obtain⟨w,hw,e3⟩:=List.mem_map.1 (show _∈s.words.map (46:: ·)from e1)
    have:=hv ⟨w,hw,e3.symm⟩
    rw[e2]at this
    refine⟨w,hw,?_⟩
    rw[e3]
    exact of_decide_eq_true this.symm
   ·have hnw:∀w∈s.words,(46::w)∈(ME s).take (k+1)→txE env (46::w)∉ (qs s.form).map fun x=>txE env (63::x):=fun w hw hm=>by
     rw[Od hk]at hm
     rcases List.mem_append.1 hm with hm|hm
     ·exact ht2 w hw hm
     ·rw[List.mem_singleton]at hm
      intro hc
      have h1:=hv ⟨w,hw,hm.symm⟩
      rw[←hm,decide_eq_true hc]at h1
      rw[←hm,decide_eq_true (show(46::w:Bs)∈(UF s).words from VL.2 hw),h1]at e
      cases e
    have htl:t.length=k:=by rw[ht1,List.length_map,List.length_take];omega
    have hsn:((ME s).take (k+1)).map (fun k=>(⟨k.drop 1,txE env k,fmE env k⟩:Ma))=t++[⟨(Am.get (ME s) k).drop 1,txE env (Am.get (ME s) k),fmE env (Am.get (ME s) k)⟩]:=by rw[Od hk,List.map_append,ht1];rfl
    refine Evt.chk ⟨by omega,hk1 _ (get_mem hk)⟩ (Evt.cond (fun e=>?_) (fun e=>Evt.Sk (Evt.chk ?_ (Evt.pure ?_))))
    ·refine Evt.bind (d9a _ _ (Nat.le_refl _) (d9J d7q (Am.get (ME s) k))) fun v hv=>Evt.Sk (Evt.chk ?_ (Evt.pure ?_))
     ·rw[QS];simp only[List.length_append,List.length_cons,List.length_nil];omega
     ·subst hv
      exact⟨hsn.symm,hnw⟩
    ·rw[QS];simp only[List.length_append,List.length_cons,List.length_nil];omega
    ·exact⟨hsn.symm,hnw⟩
  ·cases e with
   |ret r=>exact he
   |nxt t=>
    obtain⟨h1,h2⟩:=he.elim id False.elim
    rw[List.take_length]at h1
    refine⟨h1,fun⟨w,hw,hc⟩=>?_⟩
    exact h2 w hw (by rw[List.take_length];exact hkw w hw) hc
  ·obtain⟨rfl,ht⟩:=ht
   unfold Rj
   refine Evt.pure ?_
   simp only[if_neg ht]
  ·obtain⟨rfl,hr⟩:=hr
   simp only[if_pos hr]
theorem i0T(u:Nat):∀c∈Lib.decDigits u,48≤c.toNat∧c.toNat≤57:=by
 induction u using Nat.strongRecOn with
 | _ u ih=>
   have one:∀v:Nat,v<10→48≤(UInt8.ofNat (48+v)).toNat∧(UInt8.ofNat (48+v)).toNat≤57:=fun v hv=>by
    simp only[UInt8.toNat_ofNat'];omega
   intro c hc
   by_cases h:u<10
   ·rw[Lib.decDigits,dif_pos h,List.mem_singleton]at hc
    subst hc;exact one u h
   ·rw[Lib.decDigits,dif_neg h]at hc
    rcases List.mem_append.1 hc with hc|hc
    ·exact ih (u / 10) (by omega) c hc
    ·rw[List.mem_singleton]at hc
     subst hc;exact one _ (Nat.mod_lt _ (by decide))
theorem i0U{m:Nat}(h:m≤1000000000):MI (vn m):=by
 have hl:=d7l h
 refine⟨by simp[vn],by simp[vn];omega,by simp[vn,PS],fun k hk=>?_⟩
 unfold OkC PS
 rw[Int.toNat_natCast]
 cases k with
 |zero=>left;simp[vn]
 |succ k=>
  right;left
  have hk2:k<(Lib.decDigits m).length:=by simpa[vn]using hk
  have:(vn m).getD (k+1) 0=(Lib.decDigits m)[k]:=by simp[vn,hk2]
  rw[this]
  have:=i0T m _ (List.getElem_mem hk2)
  omega
theorem d7x{k:Int}{n n':Bs}{w w':List Bs}{l l':List LZ}(h:Rk (.mk k n w l)=0)(hn:k=2→n'=n)(hq:QK k→MI n')(hn2:¬(k=2∨QK k)→n'=n)(hw:w'.length=w.length)(hl:l'.length=l.length)(hx:∀x∈w',MI x):Rk (.mk k n' w' l')=0:=by
 have o:=OT h
 refine d4n (by have:=o.1;show 0≤arF k;have h2:((l.length:Nat):Int)=arF k:=this;omega) (by show(l'.length:Int)=arF k;rw[hl];exact o.1) (by show Vl k w'.length;rw[hw];exact o.2.1) (fun h=>?_) (fun h=>?_) hx
 ·rcases h with h|h
  ·have h:k=2:=h
   have:=o.2.2.1 (.inl h)
   show MI n'
   rw[hn h];exact this
  ·exact hq h
 ·show n'=[]
  rw[hn2 h];exact o.2.2.2.1 h
mutual
theorem d9K(N:Nat→Bs)(q:Nat)(hN:∀i,i<q→MI (N i)):∀(f:LZ) (env:List (Bs×Bs)) (i:Nat),WfF f→i+nq f≤q→(∀p∈env,MI p.2)→WfF (ren N f env i)
 | .mk k n w s,env,i,h,hq,d7q=>by
   have h0:=(Qe _).1 h
   have hnn:Rk (.mk k n w s)=0:=h0.1
   have hss:WX s:=h0.2
   rw[nq]at hq
   rw[ren,Qe]
   refine⟨d7x hnn (fun e=>if_neg (by unfold QK;omega)) (fun e=>?_) (fun e=>if_neg fun e2=>e (.inr e2)) (List.length_map _) (Yq _ _ _ _) (fun x hx=>?_),?_⟩
   ·rw[if_pos e]
    rw[if_pos e]at hq
    exact hN i (by omega)
   ·obtain⟨y,hy,rfl⟩:=List.mem_map.1 hx
    have hyn:MI y:=Zs h hy
    by_cases hm:y∈env.map (·.1)
    ·obtain⟨p,hp,e⟩:=List.mem_map.1 (d6W hm)
     rw[←e];exact d7q p hp
    ·rw[d6V fun p hp e=>hm (List.mem_map.2 ⟨p,hp,e⟩)];exact hyn
   ·refine d7y N q hN s _ _ hss ?_ (fun p hp=>?_)
    ·by_cases e:QK k
     ·simp only[if_pos e]at hq ⊢; omega
     ·simp only[if_neg e]at hq ⊢; omega
    ·by_cases e:QK k
     ·rw[if_pos e]at hp
      rw[if_pos e]at hq
      rcases List.mem_cons.1 hp with rfl|hp
      ·exact hN i (by omega)
      ·exact d7q p hp
     ·rw[if_neg e]at hp;exact d7q p hp
theorem d7y(N:Nat→Bs)(q:Nat)(hN:∀i,i<q→MI (N i)):∀(l:List LZ) (env:List (Bs×Bs)) (i:Nat),WX l→i+nqL l≤q→(∀p∈env,MI p.2)→WX (SD N l env i)
 | [],env,i,_,_,_=>by rw[SD,WX];trivial
 |f::l,env,i,h,hq,d7q=>by
  rw[nqL]at hq
  rw[SD,WX]
  exact⟨d9K N q hN f env i (Nv.1 h f (List.mem_cons_self ..)) (by omega) d7q,d7y N q hN l env _ (Nv.2 fun x hx=>Nv.1 h x (List.mem_cons_of_mem _ hx)) (by omega) d7q⟩
end
theorem d4B{f:LZ}(h:OkF f):∃C:List Bs,C.length≤600∧∀x,fre f [] x↔x∈C:=by
 have:=h.2.1
 obtain⟨C,hC,_⟩:=Vp h.1 (by omega)
 exact⟨C,by omega,fun x=>(hC.1 x).symm⟩
theorem i3f{f:LZ}(h:OkF f):OkF (cf f):=by
 obtain⟨C,hCl,hC⟩:=d4B h
 have hnd:=h.2.1
 have hq:=d2a f
 have i6P:=d7n (fun x=>(hC x).1) 600 hCl
 refine⟨d9K _ 200 (fun i hi=>i0U (by have:=i6P i;omega)) f [] 0 h.1 (by omega) (fun p hp=>by cases hp),?_,?_⟩
 ·unfold cf;rw[d9D];exact h.2.1
 ·unfold cf;rw[d9E];exact h.2.2
mutual
noncomputable def d2m(s:Mb):LZ→Nat→List Ml
 | .mk k n w l,b=>(if(Yb s (.mk k n w l)).2 then [⟨(b:Int),(Yb s (.mk k n w l)).1⟩]else [])++Vu s l (b+1)
noncomputable def Vu(s:Mb):List LZ→Nat→List Ml
 | [],_=>[]
 |f::l,b=>d2m s f b++Vu s l (b+ndF f)
end
mutual
theorem d5k(s:Mb):∀(f:LZ) (b:Nat),(d2m s f b).length≤ndF f
 | .mk k n w l,b=>by
   rw[d2m,ndF,List.length_append]
   have:=Zt s l (b+1)
   split
   ·simp only[List.length_cons,List.length_nil];omega
   ·simp only[List.length_nil];omega
theorem Zt(s:Mb):∀(l:List LZ) (b:Nat),(Vu s l b).length≤Pb l
 | [],b=>by rw[Vu];simp
 |f::l,b=>by
  rw[Vu,Pb,List.length_append]
  have:=d5k s f b
  have:=Zt s l (b+ndF f)
  omega
end
theorem d4C(f:LZ):LZ.mk f.kind f.name f.words f.subs=f:=by cases f;rfl
theorem d7z{s:Mb}(hb:SB s)(g:LZ):Evt (fun n=>Qa n s g) (fun r=>∃v,d7k s v∧(v.code≠0→r=([],false,v))∧(v.code=0→¬OkF g→r=([],false,Wg g))∧(v.code=0→OkF g→r=((Yb s (cf g)).1,(Yb s (cf g)).2,⟨0,0⟩))):=by
 unfold Qa
 refine Evt.bind (Zo hb) fun v hv=>Evt.cond (fun e=>Evt.pure ⟨v,hv,fun _=>rfl,fun h=>?_,fun h=>?_⟩) (fun e=>?_)
 ·simp[h]at e
 ·simp[h]at e
 have hv0:v.code=0:=by simpa using e
 have hs:=((hv.code hv0).1).good
 refine Evt.bind (Qf g) fun w hw=>?_
 subst hw
 refine Evt.cond (fun e=>Evt.pure ⟨v,hv,fun h=>absurd hv0 h,fun _ _=>rfl,fun _ h=>?_⟩) (fun e=>?_)
 ·rw[WY h]at e;simp at e
 have hok:OkF g:=(RN g).1 (by simpa using e)
 refine Evt.bind (d0U hok) fun c hc=>?_
 subst hc
 refine Evt.bind (i0S hs (i3f hok).1) fun r hr=>?_
 subst hr
 exact Evt.pure ⟨v,hv,fun h=>absurd hv0 h,fun _ h=>absurd hok h,fun _ _=>rfl⟩
set_option maxRecDepth 1000000 in
theorem Xd(m:Nat):MK (m+300)=some true:=by kernel_rfl
theorem Ws:Evt MK (fun b=>b=true):=⟨true,rfl,300,fun n hn=>by
 obtain⟨m,rfl⟩:∃m,n=m+300:=⟨n-300,by omega⟩
 exact Xd m⟩
theorem i5b{s:Mb}(hw:s.words.length≤1048576∧∀x∈s.words,x.length≤1048576)(hp:s.Mj.length≤1048576∧∀x∈s.Mj,x.length≤1048576)(hq:s.parts.length≤1048576∧∀x∈s.parts,x.length≤1048576):SB s:=by
 refine⟨hw.1,hp.1,hq.1,fun x hx=>?_⟩
 rcases List.mem_append.1 hx with hx|hx
 ·rcases List.mem_append.1 hx with hx|hx
  ·have:=hw.2 x hx;omega
  ·have:=hp.2 x hx;omega
 ·have:=hq.2 x hx;omega
theorem ZK{l:List Bs}(hl:l.length≤8000000):Evt (fun n=>Np n l l) (fun b=>b=true):=by
 unfold Np
 refine Evt.cond (fun e=>by simp at e) (fun _=>?_)
 refine Evt.Mw (Evt.d6Q l.length (fun k s=>s=(k:Int)) (fun _=>True) (fun _=>False) rfl (fun k s hk hs=>?_) (fun s hs=>?_)) (fun t ht=>?_) (fun r hr=>?_)
 ·subst hs
  unfold MV
  refine Evt.cond (fun _=>Evt.chk (by omega) (Evt.chk (by omega) (Evt.cond (fun e=>by simp at e) (fun _=>Evt.pure ?_)))) (fun e=>by replace e:=bx e;omega)
  exact(Tt (by omega) (by omega)).trans rfl
 ·subst hs
  unfold MV
  exact Evt.cond (fun e=>by replace e:=bx e;omega) (fun _=>Evt.pure trivial)
 ·exact Evt.pure rfl
 ·exact False.elim hr
theorem d0Y:∀(m:Nat) (f:LZ),SizeOf.sizeOf f≤m→SmF f→Evt (fun n=>Mt n f f) (fun b=>b=true):=by
 intro m
 induction m with
 |zero=>intro f h;cases f;simp only[LZ.mk.sizeOf_spec]at h;omega
 |succ m ih=>
  intro f hf hsm
  obtain⟨hws,hsl,hsm⟩:=(d4u f).1 hsm
  refine Evt.succ ?_
  simp only[Mt]
  refine Evt.bind (P:=fun v=>v=true) (Evt.gd (fun _=>ZK (by omega)) (fun h=>by simp at h)) fun v hv=>?_
  subst hv
  refine Evt.cond (fun e=>by simp at e) (fun _=>?_)
  refine Evt.Mw (Evt.d6Q f.subs.length (fun k s=>s=(k:Int)) (fun _=>True) (fun _=>False) rfl (fun k s hk hs=>?_) (fun s hs=>?_)) (fun t ht=>?_) (fun r hr=>?_)
  ·subst hs
   unfold Ng
   have hsz:=Oi hk
   refine Evt.cond (fun _=>Evt.chk (by omega) (Evt.chk (by omega) ?_)) (fun e=>by replace e:=bx e;omega)
   simp only[Int.toNat_natCast]
   refine Evt.bind (ih _ (by omega) (Yr hsm _ (get_mem hk))) fun v hv=>?_
   subst hv
   refine Evt.cond (fun e=>by cases e) (fun _=>Evt.pure ?_)
   exact(Tt (by omega) (by omega)).trans rfl
  ·subst hs
   unfold Ng
   exact Evt.cond (fun e=>by replace e:=bx e;omega) (fun _=>Evt.pure trivial)
  ·exact Evt.pure rfl
  ·exact False.elim hr
def i3O(l:List Ma):Prop:=l.length≤1000∧∀b∈l,SmF b.form
theorem Uj{s:Mb}(hs:QT s):(ME s).length≤500:=by
 have hvl:=Tn s
 have hl:=hs.len
 have hnd:=hs.form.2.1
 have hql:(qs s.form).length≤200:=by rw[d0i];have:=d2a s.form;omega
 unfold ME;simp only[List.length_append,List.length_map];omega
open Classical in
theorem d9b{s:Mb}(hs:QT s){g:LZ}(hg:WfF g):i3O (Yb s g).1:=by
 unfold Yb
 cases hp:(pts s s.form [] g).bind (Sq [])with
 |none=>exact⟨by simp,fun b hb=>(by cases hb)⟩
 |some env=>
  have d7q:Vt env:=by
   cases hq:pts s s.form [] g with
   |none=>rw[hq]at hp;cases hp
   |some ps=>rw[hq]at hp;exact d3v (fun k b h=>by cases h) (d2h s _ _ _ (WfF.sm g hg) ps hq) hp
  show i3O (if caught s env then(([],false):List Ma×Bool)else _).1
  split
  ·exact⟨by simp,fun b hb=>(by cases hb)⟩
  ·refine⟨by rw[List.length_map];have:=Uj hs;omega,fun b hb=>?_⟩
   obtain⟨k,_,rfl⟩:=List.mem_map.1 hb
   exact d9J d7q k
mutual
theorem d7A{s:Mb}(hs:QT s):∀(g:LZ),WfF g→∀(b:Nat),∀x∈d2m s g b,i3O x.bindings∧∃m:Nat,x.at_=(m:Int)∧b≤m∧m<b+ndF g
 | .mk k n w l,hg,b,x,hx=>by
   rw[d2m]at hx
   rw[ndF]
   rcases List.mem_append.1 hx with hx|hx
   ·split at hx
    ·rw[List.mem_singleton]at hx
     subst hx
     exact⟨d9b hs hg,b,rfl,Nat.le_refl _,by omega⟩
    ·cases hx
   ·obtain⟨h1,m,h2,h3,h4⟩:=d0m hs l ((Qe _).1 hg).2 (b+1) x hx
    exact⟨h1,m,h2,by omega,by omega⟩
theorem d0m{s:Mb}(hs:QT s):∀(l:List LZ),WX l→∀(b:Nat),∀x∈Vu s l b,i3O x.bindings∧∃m:Nat,x.at_=(m:Int)∧b≤m∧m<b+Pb l
 | [],_,b,x,hx=>by rw[Vu]at hx;cases hx
 |f::l,hg,b,x,hx=>by
  rw[Vu]at hx
  rw[Pb]
  rcases List.mem_append.1 hx with hx|hx
  ·obtain⟨h1,m,h2,h3,h4⟩:=d7A hs f (Nv.1 hg f (List.mem_cons_self ..)) b x hx
   exact⟨h1,m,h2,by omega,by omega⟩
  ·obtain⟨h1,m,h2,h3,h4⟩:=d0m hs l (Nv.2 fun y hy=>Nv.1 hg y (List.mem_cons_of_mem _ hy)) (b+ndF f) x hx
   exact⟨h1,m,h2,by omega,by omega⟩
end
theorem i3g{f:LZ}(h:OkF f):fre (cf f) []=fre f []:=by
 obtain⟨C,_,hC⟩:=d4B h
 funext x
 exact propext (d7d (NN (fre f [])) (fre f []) (fun i=>i3b (fun x=>(hC x).1) i) f [] 0 (fun x hx=>hx) (fun p hp=>by cases hp) x)
theorem i5c{f:LZ}(h:OkF f):cf (cf f)=cf f:=by
 show ren (NN (fre (cf f) [])) (cf f) [] 0=cf f
 rw[i3g h]
 exact d7b (NN (fre f [])) f [] [] 0 (fun p hp=>by cases hp)
theorem d2n(f:LZ):Evt (fun n=>PV n f) (fun r=>(¬OkF f→r.2.code≠0)∧(OkF f→r=(cf f,⟨0,0⟩))):=by
 unfold PV
 refine Evt.bind (Qf f) fun v hv=>?_
 subst hv
 refine Evt.cond (fun e=>Evt.pure ⟨fun _=>by simpa using e,fun h=>?_⟩) (fun e=>?_)
 ·rw[WY h]at e;simp at e
 have hok:OkF f:=(RN f).1 (by simpa using e)
 refine Evt.bind (d0U hok) fun c hc=>Evt.pure ⟨fun h=>absurd hok h,fun _=>?_⟩
 rw[hc]
mutual
def Vv(R:List IT):LZ→List Bs→Nat→Prop
 | .mk k n w s,bd,p=>p<R.length∧Am.get R p=⟨k,n,w,w.map (fun x=>decide (x∈bd)),((p+ndF (.mk k n w s):Nat):Int)⟩∧Ru R s (if QK k then n::bd else bd) (p+1)
def Ru(R:List IT):List LZ→List Bs→Nat→Prop
 | [],_,_=>True
 |f::l,bd,p=>Vv R f bd p∧Ru R l bd (p+ndF f)
end
theorem d3x{α:Type}[Inhabited α](X:List α)(y:α)(Y:List α):Am.get (X++y::Y) X.length=y:=by unfold Am.get;simp
mutual
theorem d4D:∀(f:LZ) (ar:List Bs) (X Y:List IT),Vv (X++(d0R f ar X.length++Y)) f ar X.length
 | .mk k n w s,ar,X,Y=>by
   rw[Vv]
   have e:d0R (.mk k n w s) ar X.length=⟨k,n,w,w.map (fun x=>decide (x∈ar)),((X.length+ndF (.mk k n w s):Nat):Int)⟩::Ug s (if QK k then n::ar else ar) (X.length+1):=i0I _ _ _
   refine⟨by rw[e];simp,by rw[e];exact d3x _ _ _,?_⟩
   rw[e]
   have:=d2o s (if QK k then n::ar else ar) (X++[⟨k,n,w,w.map (fun x=>decide (x∈ar)),((X.length+ndF (.mk k n w s):Nat):Int)⟩]) Y
   rw[List.length_append,List.length_singleton,List.append_assoc]at this
   exact this
theorem d2o:∀(l:List LZ) (ar:List Bs) (X Y:List IT),Ru (X++(Ug l ar X.length++Y)) l ar X.length
 | [],ar,X,Y=>by rw[Ru];trivial
 |f::l,ar,X,Y=>by
  rw[Ru,Ug,List.append_assoc]
  refine⟨d4D f ar X _,?_⟩
  have:=d2o l ar (X++d0R f ar X.length) Y
  rw[List.length_append,WZ,List.append_assoc]at this
  exact this
end
theorem d6w(f:LZ)(ar:List Bs):Vv (d0R f ar 0) f ar 0:=by
 have:=d4D f ar [] []
 rw[List.nil_append,List.append_nil]at this
 exact this
mutual
theorem Vv.le{R:List IT}:∀ {f:LZ} {bd:List Bs} {p:Nat},Vv R f bd p→p+ndF f≤R.length
 | .mk k n w s,bd,p,h=>by
   rw[Vv]at h
   rw[ndF]
   cases s with
   |nil=>rw[Pb];omega
   |cons x l=>
    have:=Ru.le h.2.2 (by simp)
    omega
theorem Ru.le{R:List IT}:∀ {l:List LZ} {bd:List Bs} {p:Nat},Ru R l bd p→l≠ []→p+Pb l≤R.length
 | [],bd,p,h,hn=>absurd rfl hn
 |f::l,bd,p,h,_=>by
  rw[Ru]at h
  rw[Pb]
  cases l with
  |nil=>rw[Pb];have:=Vv.le h.1;omega
  |cons x l=>
   have:=Ru.le h.2 (by simp)
   omega
end
theorem Ru.get{R:List IT}:∀ {l:List LZ} {bd:List Bs} {p:Nat},Ru R l bd p→∀k,k<l.length→Vv R (Am.get l k) bd (p+Pb (l.take k))
 | [],_,_,_,k,hk=>by simp at hk
 |f::l,bd,p,h,0,_=>by
  rw[Ru]at h
  simpa[Pb,Am.get]using h.1
 |f::l,bd,p,h,k+1,hk=>by
  rw[Ru]at h
  have:=Ru.get h.2 k (by simpa using hk)
  rw[List.take_succ_cons,Pb, ←Nat.add_assoc]
  exact this
mutual
theorem Vv.node{R:List IT}:∀ {f:LZ} {bd:List Bs} {p:Nat},Vv R f bd p→∀j,j<ndF f→∃ar,Vv R (Am.get (Oa f) j) ar (p+j)
 | .mk k n w s,bd,p,h,0,_=>⟨bd,by rw[Oa];exact h⟩
 | .mk k n w s,bd,p,h,j+1,hj=>by
   rw[Vv]at h
   rw[ndF]at hj
   obtain⟨ar,ha⟩:=Ru.node h.2.2 j (by omega)
   refine⟨ar,?_⟩
   rw[Oa,show p+(j+1)=p+1+j by omega]
   exact ha
theorem Ru.node{R:List IT}:∀ {l:List LZ} {bd:List Bs} {p:Nat},Ru R l bd p→∀j,j<Pb l→∃ar,Vv R (Am.get (NC l) j) ar (p+j)
 | [],bd,p,h,j,hj=>by rw[Pb]at hj;omega
 |f::l,bd,p,h,j,hj=>by
  rw[Ru]at h
  rw[Pb]at hj
  rw[NC]
  by_cases e:j<ndF f
  ·have e1:Am.get (Oa f++NC l) j=Am.get (Oa f) j:=by
    unfold Am.get
    rw[List.getD_eq_getElem?_getD,List.getD_eq_getElem?_getD,List.getElem?_append_left (by rw[Tm];exact e)]
   rw[e1];exact Vv.node h.1 j e
  ·have e1:Am.get (Oa f++NC l) j=Am.get (NC l) (j-ndF f):=by
    unfold Am.get
    rw[List.getD_eq_getElem?_getD,List.getD_eq_getElem?_getD,List.getElem?_append_right (by rw[Tm];omega),Tm]
   obtain⟨ar,ha⟩:=Ru.node h.2 (j-ndF f) (by omega)
   refine⟨ar,?_⟩
   rw[e1,show p+j=p+ndF f+(j-ndF f)by omega]
   exact ha
end
theorem d2K{α:Type}[Inhabited α]{l m:List α}(hl:l.length=m.length)(h:∀j,j<l.length→Am.get l j=Am.get m j):l=m:=by
 refine List.ext_getElem hl fun j h1 h2=>?_
 have:=h j h1
 unfold Am.get at this
 simpa[h1,h2]using this
end Go.Proofs.YtdjnbjnlnjhllaaDoor
