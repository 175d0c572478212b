import Derived.Test.YtdjnbjnlnjhllaaDoorFQLaw2
set_option linter.unusedVariables false
set_option linter.unusedSimpArgs false
namespace Go.Proofs.YtdjnbjnlnjhllaaDoor
open Go Go.Am
theorem yX{s:w6}{i:Nat}(h:i<s.words.length):Am.get (vns s) i=Am.get s.words i:=by
 unfold vns Am.get
 rw[List.getD_eq_getElem?_getD,List.getD_eq_getElem?_getD,List.append_assoc,List.getElem?_append_left h]
theorem yY{s:w6}{i:Nat}(h:i<s.y5.length):Am.get (vns s) (s.words.length+i)=Am.get s.y5 i:=by
 unfold vns Am.get
 rw[List.getD_eq_getElem?_getD,List.getD_eq_getElem?_getD,List.append_assoc,List.getElem?_append_right (by omega),List.getElem?_append_left (by omega)]
 congr 2;omega
theorem yZ{s:w6}{i:Nat}(h:i<s.parts.length):Am.get (vns s) (s.words.length+s.y5.length+i)=Am.get s.parts i:=by
 unfold vns Am.get
 rw[List.getD_eq_getElem?_getD,List.getD_eq_getElem?_getD,List.getElem?_append_right (by simp only[List.length_append];omega)]
 congr 2;simp only[List.length_append];omega
structure rC(s:w6):Prop where
 form:OkF s.form
 len:(vns s).length≤300
 name:∀x∈vns s,D9 x
 uniq:∀i j,i<j→j<(vns s).length→Am.get (vns s) i≠Am.get (vns s) j
 words:∀x∈s.words,fre s.form [] x
 y5:∀x∈s.y5,iy (I8 s.form) x∨jj (I8 s.form) x
 parts:∀x∈s.parts,¬iy (I8 s.form) x∧jj (I8 s.form) x
 Jc:QOk s
theorem OkS.good{s:w6}(h:OkS s):rC s:=by
 obtain⟨h1,h2,h3,h4⟩:=h
 have hvl:=jc s
 have hn:∀j,j<(vns s).length→D9 (Am.get (vns s) j):=fun j hj=>Classical.byContradiction fun h=>by
  have:=h3 j hj
  unfold N5 at this
  rw[if_pos h]at this
  exact absurd this (by decide)
 have hu:∀j,j<(vns s).length→Am.get (vns s) j∉ (vns s).take j:=fun j hj h=>by
  have:=h3 j hj
  unfold N5 at this
  rw[if_neg (fun e=>e (hn j hj)),if_pos h]at this
  exact absurd this (by decide)
 refine⟨h1,h2,fun x hx=>?_,fun i j hij hj e=>hu j hj ((gY (by omega)).2 ⟨i,hij,e⟩),fun x hx=>?_,fun x hx=>?_,fun x hx=>?_,h4⟩
 ·obtain⟨j,hj,rfl⟩:=aF.1 hx
  exact hn j hj
 ·obtain⟨j,hj,rfl⟩:=aF.1 hx
  have hjv:j<(vns s).length:=by omega
  have:=h3 j hjv
  unfold N5 at this
  rw[if_neg (fun e=>e (hn j hjv)),if_neg (hu j hjv),if_pos hj]at this
  rw[←yX hj]
  exact Classical.byContradiction fun h=>by rw[if_neg h]at this;exact absurd this (by decide)
 ·obtain⟨i,hi,rfl⟩:=aF.1 hx
  have hjv:s.words.length+i<(vns s).length:=by omega
  have:=h3 _ hjv
  unfold N5 at this
  rw[if_neg (fun e=>e (hn _ hjv)),if_neg (hu _ hjv),if_neg (by omega),if_pos (by omega)]at this
  rw[←yY hi]
  exact Classical.byContradiction fun h=>by rw[if_neg h]at this;exact absurd this (by decide)
 ·obtain⟨i,hi,rfl⟩:=aF.1 hx
  have hjv:s.words.length+s.y5.length+i<(vns s).length:=by omega
  have:=h3 _ hjv
  unfold N5 at this
  rw[if_neg (fun e=>e (hn _ hjv)),if_neg (hu _ hjv),if_neg (by omega),if_neg (by omega)]at this
  rw[←yZ hi]
  by_cases hw:iy (I8 s.form) (Am.get (vns s) (s.words.length+s.y5.length+i))
  ·rw[if_pos hw]at this;exact absurd this (by decide)
  ·rw[if_neg hw]at this
   exact⟨hw,Classical.byContradiction fun h=>by rw[if_neg h]at this;exact absurd this (by decide)⟩
def eC(s:w6)(f:u5):Prop:=(f.kind=2∧f.words.length=0)∧f.name∈s.parts
instance(s:w6)(f:u5):Decidable (eC s f):=inferInstanceAs (Decidable (_∧_))
def mkw(W bd:List Bs)(w:Bs):Bs:=if w∈bd then 63::w else if w∈W then 46::w else w
def mkn(s:w6)(f:u5):Bs:=if QK f.kind then 63::f.name else if eC s f then 43::f.name else if f.kind=2∧f.name∈s.y5 then 33::f.name else f.name
mutual
def bk(s:w6):u5→List Bs→u5
 | .mk k n w l,bd=>.mk k (mkn s (.mk k n w l)) (w.map (mkw s.words bd)) (R9 s l (if QK k then n::bd else bd))
def R9(s:w6):List u5→List Bs→List u5
 | [],_=>[]
 |f::l,bd=>bk s f bd::R9 s l bd
end
theorem fY(s:w6)(f:u5)(bd:List Bs):bk s f bd= .mk f.kind (mkn s f) (f.words.map (mkw s.words bd)) (R9 s f.subs (if QK f.kind then f.name::bd else bd)):=by cases f;rw[bk];rfl
theorem kH(s:w6):∀(l:List u5) (bd:List Bs),(R9 s l bd).length=l.length
 | [],_=>by rw[R9]
 |f::l,bd=>by rw[R9,List.length_cons,List.length_cons,kH s l]
theorem nH(s:w6):∀(l:List u5) (x:u5) (bd:List Bs),R9 s (l++[x]) bd=R9 s l bd++[bk s x bd]
 | [],x,bd=>by simp[R9]
 |a::l,x,bd=>by rw[List.cons_append,R9,R9,nH s l x];rfl
theorem za{W bd bd':List Bs}(h:∀y,y∈bd↔y∈bd')(w:Bs):mkw W bd w=mkw W bd' w:=by
 unfold mkw
 by_cases e:w∈bd
 ·rw[if_pos e,if_pos ((h w).1 e)]
 ·rw[if_neg e,if_neg fun e'=>e ((h w).2 e')]
mutual
theorem tq(s:w6):∀(f:u5) (bd bd':List Bs),(∀y,y∈bd↔y∈bd')→bk s f bd=bk s f bd'
 | .mk k n w l,bd,bd',h=>by
   rw[bk,bk,gZ s l _ (if QK k then n::bd' else bd') (fun y=>?_),List.map_congr_left fun x _=>za h x]
   split
   ·simp[h y]
   ·exact h y
theorem gZ(s:w6):∀(l:List u5) (bd bd':List Bs),(∀y,y∈bd↔y∈bd')→R9 s l bd=R9 s l bd'
 | [],bd,bd',h=>by rw[R9,R9]
 |f::l,bd,bd',h=>by rw[R9,R9,tq s f bd bd' h,gZ s l bd bd' h]
end
theorem zc(s:w6)(f:u5):ak s f=some (decide (eC s f)):=by
 unfold ak eC
 simp only[P6]
 by_cases h1:f.kind=2<;>by_cases h2:f.words.length=0<;>simp[h1,h2,gd]
theorem Dc{f:u5}(hwf:WfF f):f.name.length≤30:=by
 have h:=cX ((cR f).1 hwf).1
 by_cases hk:f.kind=2∨QK f.kind
 ·exact(h.2.2.1 hk).2.1
 ·rw[h.2.2.2.1 hk];decide
theorem tu{f:u5}(hwf:WfF f){x:Bs}(hx:x∈f.words):D9 x:=(cX ((cR f).1 hwf).1).2.2.2.2 x hx
theorem vK(s:w6)(g:u5):∀(m:Nat) (f:u5),SizeOf.sizeOf f≤m→WfF f→∀bd:List Bs,bd.length+ndF f≤100000→
 Evt (fun n=>E4 n f bd g.kind g.name g.words g.subs s.words s.y5 s.parts) (fun r=>r=bk s f bd):=by
 intro m
 induction m with
 |zero=>intro f h;cases f;simp only[u5.mk.sizeOf_spec]at h;omega
 |succ m ih=>
  intro f hf hwf bd hbd
  have hnd:=nA f
  have hws:=nC hwf
  have hsl:=nD hwf
  have hnl:=Dc hwf
  refine Evt.succ ?_
  simp only[E4]
  refine Evt.y4 (P:=ExP (fun t=>t=f.words.map (mkw s.words bd)) (fun _=>False)) ((Evt.range (fun k t=>t=(f.words.take k).map (mkw s.words bd)) (fun _=>False) (fun _=>False) (by simp) (fun k t hk ht=>?_)).mono fun e he=>?_) (fun t ht=>?_) (fun _ h=>h.elim)
  ·unfold V6
   simp only[P6,Option.bind_some]
   have hwl:=(tu hwf (get_mem hk)).2.1
   have hsn:(f.words.take (k+1)).map (mkw s.words bd)=t++[mkw s.words bd (Am.get f.words k)]:=by rw[F3 hk,List.map_append,ht];rfl
   have htl:t.length=k:=by rw[ht,List.length_map,List.length_take];omega
   refine Evt.cond (fun e=>Evt.chk (by unfold X8;simp;omega) (Evt.aB (Evt.chk ?_ (Evt.pure ?_)))) (fun e=>Evt.cond (fun e2=>Evt.chk (by unfold X8;simp;omega) (Evt.aB (Evt.chk ?_ (Evt.pure ?_)))) (fun e2=>Evt.aB (Evt.chk ?_ (Evt.pure ?_))))
   ·rw[Y4];simp only[List.length_append,List.length_cons,List.length_nil];omega
   ·replace e:=bx e
    show _=_
    rw[hsn];unfold mkw;rw[if_pos e];rfl
   ·rw[Y4];simp only[List.length_append,List.length_cons,List.length_nil];omega
   ·replace e:=bx e
    replace e2:=bx e2
    show _=_
    rw[hsn];unfold mkw;rw[if_neg e,if_pos e2];rfl
   ·rw[Y4];simp only[List.length_append,List.length_cons,List.length_nil];omega
   ·replace e:=bx e
    replace e2:=bx e2
    show _=_
    rw[hsn];unfold mkw;rw[if_neg e,if_neg e2]
  ·cases e with
   |ret r=>exact he
   |nxt t=>
    have:=he.elim id False.elim
    rw[List.take_length]at this
    exact this
  ·subst ht
   have key:∀(nm:Bs) (bd':List Bs),nm=mkn s f→(∀y,y∈bd'↔y∈(if QK f.kind then f.name::bd else bd))→bd'.length≤bd.length+1→
    Evt (fun n=>E1 (E4 n) f g.kind g.name g.words g.subs s.words s.y5 s.parts (f.words.map (mkw s.words bd)) (nm,bd')) (fun r=>r=bk s f bd):=by
    intro nm bd' hnm hb hlen
    unfold E1
    refine Evt.y4 (P:=ExP (fun t=>t=R9 s f.subs bd') (fun _=>False)) ((Evt.range (fun k t=>t=R9 s (f.subs.take k) bd') (fun _=>False) (fun _=>False) (by simp[R9]) (fun k t hk ht=>?_)).mono fun e he=>?_) (fun t ht=>?_) (fun _ h=>h.elim)
    ·unfold V7
     have hsz:=V0 hk
     have htk:=dK hk
     refine Evt.bind (ih _ (by omega) (jM hwf hk) bd' (by omega)) fun v hv=>Evt.aB (Evt.chk ?_ (Evt.pure ?_))
     ·rw[Y4,ht];simp only[List.length_append,kH,List.length_take,List.length_cons,List.length_nil];omega
     ·show _=_
      rw[hv,ht,F3 hk,nH]
    ·cases e with
     |ret r=>exact he
     |nxt t=>
      have:=he.elim id False.elim
      rw[List.take_length]at this
      exact this
    ·unfold V8
     refine Evt.pure ?_
     have ht:t=R9 s f.subs bd':=ht
     rw[fY,ht,hnm,gZ s f.subs _ _ hb]
   unfold V9
   simp only[iw,zc,P6,Option.bind_some]
   refine Evt.cond (fun e=>?_) (fun e=>?_)
   ·replace e:=bx e
    refine Evt.bind (P:=fun v=>v=bd) (Evt.pure rfl) fun v hv=>?_
    subst hv
    refine Evt.aB (Evt.chk ?_ (Evt.chk (by unfold X8;simp;omega) (key _ _ (by unfold mkn;rw[if_pos e];rfl) (fun y=>?_) (by simp))))
    ·rw[Y4];simp only[List.length_append,List.length_cons,List.length_nil];omega
    ·rw[if_pos e];simp[or_comm]
   ·replace e:=bx e
    have hb:∀y,y∈bd↔y∈(if QK f.kind then f.name::bd else bd):=fun y=>by rw[if_neg e]
    refine Evt.cond (fun e2=>?_) (fun e2=>?_)
    ·have e2:eC s f:=of_decide_eq_true e2
     exact Evt.chk (by unfold X8;simp;omega) (key _ _ (by unfold mkn;rw[if_neg e,if_pos e2];rfl) hb (by omega))
    ·have e2:¬eC s f:=of_decide_eq_false e2
     refine Evt.bind (P:=fun v=>f.kind=2→v=decide (f.name∈s.y5)) (Evt.gd (fun g=>Evt.pure fun _=>rfl) (fun g h=>by simp[h]at g)) fun v hv=>?_
     refine Evt.cond (fun e3=>?_) (fun e3=>?_)
     ·replace e3:=bx e3
      have:=hv e3.1
      rw[e3.2]at this
      exact Evt.chk (by unfold X8;simp;omega) (key _ _ (by unfold mkn;rw[if_neg e,if_neg e2,if_pos ⟨e3.1,of_decide_eq_true this.symm⟩];rfl) hb (by omega))
     ·refine key _ _ ?_ hb (by omega)
      unfold mkn
      rw[if_neg e,if_neg e2,if_neg fun h=>?_]
      rw[hv h.1]at e3
      simp[h.1,h.2]at e3
theorem kI(c:UInt8)(l:List Bs)(hl:l.length≤1000000)(hx:∀x∈l,x.length≤1000000):Evt (fun _=>N7 [c] l) (fun r=>r=l.map (c:: ·)):=by
 unfold N7
 refine Evt.y4 (P:=ExP (fun t=>t=l.map (c:: ·)) (fun _=>False)) ((Evt.range (fun k t=>t=(l.take k).map (c:: ·)) (fun _=>False) (fun _=>False) (by simp) (fun k t hk ht=>?_)).mono fun e he=>?_) (fun t ht=>?_) (fun _ h=>h.elim)
 ·unfold W0
  have:=hx _ (get_mem hk)
  refine Evt.chk (by unfold X8;simp;omega) (Evt.aB (Evt.chk ?_ (Evt.pure ?_)))
  ·rw[Y4,ht];simp only[List.length_append,List.length_map,List.length_take,List.length_cons,List.length_nil];omega
  ·show _=_
   rw[F3 hk,List.map_append,ht];rfl
 ·cases e with
  |ret r=>exact he
  |nxt t=>
   have:=he.elim id False.elim
   rw[List.take_length]at this
   exact this
 ·exact Evt.pure ht
def fZ(s:w6):w6:=⟨bk s s.form [],s.words.map (46:: ·),s.y5.map (33:: ·),s.parts.map (43:: ·)⟩
theorem tv{s:w6}(h:rC s):Evt (fun n=>Z2 n s) (fun r=>r=fZ s):=by
 have hvl:=jc s
 have hl:=h.len
 have hn:∀x∈vns s,x.length≤1000000:=fun x hx=>by have:=(h.name x hx).2.1;omega
 have hnd:=h.form.2.1
 unfold Z2
 refine Evt.bind (vK s s.form _ s.form (Nat.le_refl _) h.form.1 [] (by simp;omega)) fun v1 hv1=>?_
 refine Evt.bind (kI 46 s.words (by omega) fun x hx=>hn x (List.mem_append.2 (.inl (List.mem_append.2 (.inl hx))))) fun v2 hv2=>?_
 refine Evt.bind (kI 33 s.y5 (by omega) fun x hx=>hn x (List.mem_append.2 (.inl (List.mem_append.2 (.inr hx))))) fun v3 hv3=>?_
 refine Evt.bind (kI 43 s.parts (by omega) fun x hx=>hn x (List.mem_append.2 (.inr hx))) fun v4 hv4=>?_
 subst hv1 hv2 hv3 hv4
 exact Evt.pure rfl
def zf:u5:=.mk 0 [] [] []
abbrev Env:=List (Bs×u7)
theorem kJ{V:Type}(k:Bs)(v:V):∀m:List (Bs×V),assoc k (D1 k v m)=some v
 | []=>by simp[D1,assoc]
 |(a,u)::m=>by
  rw[D1]
  split
  ·simp[assoc]
  ·rename_i h
   rw[assoc,if_neg h,kJ k v m]
theorem pT{V:Type}{k k':Bs}(h:k'≠k)(v:V):∀m:List (Bs×V),assoc k' (D1 k v m)=assoc k' m
 | []=>by
   show(if k'=k then some v else assoc k' ([]:List (Bs×V)))=_
   rw[if_neg h]
 |(a,u)::m=>by
  rw[D1]
  split
  ·rename_i e
   subst e
   rw[assoc,assoc,if_neg h,if_neg h]
  ·rw[assoc,assoc,pT h v m]
open Classical in
noncomputable def rD(env:Env)(b:u7):Option Env:=match assoc b.name env with
 |none=>some (D1 b.name b env)
 |some b'=>if b'=b then some env else none
noncomputable def dS:Env→List u7→Option Env
 |env,[]=>some env
 |env,b::l=>(rD env b).bind fun e=>dS e l
theorem uK:∀(a b:List u7) (env:Env),dS env (a++b)=(dS env a).bind fun e=>dS e b
 | [],b,env=>rfl
 |x::a,b,env=>by
  rw[List.cons_append,dS,dS]
  cases rD env x with
  |none=>rfl
  |some e=>exact uK a b e
theorem jN{env e:Env}{b:u7}(h:rD env b=some e):assoc b.name e=some b∧(∀k c,assoc k env=some c→assoc k e=some c)∧(∀k c,assoc k e=some c→assoc k env=some c∨(b.name=k∧b=c)):=by
 unfold rD at h
 split at h
 ·rename_i h0
  cases h
  refine⟨kJ _ _ _,fun k c hc=>?_,fun k c hc=>?_⟩
  ·by_cases e:k=b.name
   ·rw[e,h0]at hc;cases hc
   ·rw[pT e];exact hc
  ·by_cases e:k=b.name
   ·rw[e,kJ]at hc
    exact .inr ⟨e.symm,Option.some.inj hc⟩
   ·rw[pT e]at hc;exact .inl hc
 ·rename_i b' h0
  split at h
  ·rename_i hb
   cases h
   exact⟨by rw[h0,hb],fun k c hc=>hc,fun k c hc=>.inl hc⟩
  ·cases h
theorem lR:∀(ps:List u7) (env e:Env),dS env ps=some e→(∀b∈ps,assoc b.name e=some b)∧(∀k c,assoc k env=some c→assoc k e=some c)∧(∀k c,assoc k e=some c→assoc k env=some c∨(∃b∈ps,b.name=k∧b=c))
 | [],env,e,h=>by cases h;exact⟨fun b hb=>(by cases hb),fun k c hc=>hc,fun k c hc=>.inl hc⟩
 |b::l,env,e,h=>by
  rw[dS]at h
  cases hp:rD env b with
  |none=>rw[hp]at h;cases h
  |some e1=>
   rw[hp]at h
   obtain⟨p1,p2,p3⟩:=jN hp
   obtain⟨r1,r2,r3⟩:=lR l e1 e h
   refine⟨fun c hc=>?_,fun k c hc=>r2 k c (p2 k c hc),fun k c hc=>?_⟩
   ·rcases List.mem_cons.1 hc with rfl|hc
    ·exact r2 _ _ p1
    ·exact r1 c hc
   ·rcases r3 k c hc with h|⟨x,hx,h1,h2⟩
    ·rcases p3 k c h with h|⟨h1,h2⟩
     ·exact .inl h
     ·exact .inr ⟨b,List.mem_cons_self ..,h1,h2⟩
    ·exact .inr ⟨x,List.mem_cons_of_mem _ hx,h1,h2⟩
def IsKey(k:Bs):Prop:=∃c t,k=c::t∧(c=33∨c=43∨c=46∨c=63)
theorem uL{x:Bs}(h:D9 x):¬IsKey x:=fun⟨c,t,e,hc⟩=>by
 have:=h.2.2.1.1
 subst e
 rcases hc with rfl|rfl|rfl|rfl<;>simp[C8]at this
def ly(b:u7):Prop:=SmF b.form∧((∃x,b.name=43::x∧b.text=[])∨(∃c x,b.name=c::x∧(c=33∨c=46∨c=63)∧b.form=zf))
def iD(env:Env):Prop:=∀k b,assoc k env=some b→b.name=k∧ly b
theorem zd{env e:Env}{b:u7}(h:iD env)(hb:ly b)(hp:rD env b=some e):iD e:=fun k c hc=>by
 rcases(jN hp).2.2 k c hc with h1|⟨rfl,rfl⟩
 ·exact h k c h1
 ·exact⟨rfl,hb⟩
theorem tw{env e:Env}{ps:List u7}(h:iD env)(hb:∀b∈ps,ly b)(hp:dS env ps=some e):iD e:=fun k c hc=>by
 rcases(lR _ _ _ hp).2.2 k c hc with h1|⟨b,hm,h1,h2⟩
 ·exact h k c h1
 ·subst h2;exact⟨h1,hb _ hm⟩
theorem ly.key{b:u7}(h:ly b):IsKey b.name:=by
 rcases h.2 with⟨x,e,_⟩|⟨c,x,e,hc,_⟩
 ·exact⟨43,x,e,by simp⟩
 ·exact⟨c,x,e,by rcases hc with h|h|h<;>simp[h]⟩
theorem FJ:SmF zf:=by unfold zf;rw[SmF];exact⟨by decide,by decide,by rw[pR];trivial⟩
theorem vL{c:UInt8}{x y:Bs}(h:c=33∨c=46∨c=63):ly ⟨c::x,y,zf⟩:=⟨FJ,.inr ⟨c,x,rfl,h,rfl⟩⟩
def cat(a b:Option (List u7)):Option (List u7):=a.bind fun x=>b.bind fun y=>some (x++y)
theorem tA(a b:Option (List u7))(s:Env):(cat a b).bind (dS s)=(a.bind (dS s)).bind fun s'=>b.bind (dS s'):=by
 cases a with
 |none=>rfl
 |some x=>
  cases b with
  |none=>
   show none=(dS s x).bind fun s'=>none
   cases dS s x<;>rfl
  |some y=>exact uK x y s
theorem AX(o:Option (List u7))(b:u7)(s:Env):(o.map (b:: ·)).bind (dS s)=(rD s b).bind fun s'=>o.bind (dS s'):=by
 cases o with
 |none=>show none=_;cases rD s b<;>rfl
 |some x=>rfl
def ptw(W bd:List Bs):List Bs→List Bs→Option (List u7)
 |x::xs,y::ys=>if x∈bd then(ptw W bd xs ys).map (⟨63::x,y,zf⟩:: ·)else if x∈W then(ptw W bd xs ys).map (⟨46::x,y,zf⟩:: ·)else if x=y then ptw W bd xs ys else none
 | _,_=>some []
def pth(s:w6)(f g:u5):Option (List u7):=
 if QK f.kind then some [⟨63::f.name,g.name,zf⟩]else if f.kind=2∧f.name∈s.y5 then some [⟨33::f.name,g.name,zf⟩]else if f.name=g.name then some []else none
mutual
def pts(s:w6):u5→List Bs→u5→Option (List u7)
 | .mk k n w l,bd,g=>if eC s (.mk k n w l)then some [⟨43::n,[],g⟩]
   else if k≠g.kind∨w.length≠g.words.length then none
   else cat (pth s (.mk k n w l) g) (cat (ptw s.words bd w g.words) (rE s l (if QK k then n::bd else bd) g.subs))
def rE(s:w6):List u5→List Bs→List u5→Option (List u7)
 | [],_,_=>some []
 |f::l,bd,gs=>match gs with
  | []=>some []
  |g::gs=>cat (pts s f bd g) (rE s l bd gs)
end
theorem FK(s:w6)(f:u5)(bd:List Bs)(g:u5):pts s f bd g=if eC s f then some [⟨43::f.name,[],g⟩]else if f.kind≠g.kind∨f.words.length≠g.words.length then none else cat (pth s f g) (cat (ptw s.words bd f.words g.words) (rE s f.subs (if QK f.kind then f.name::bd else bd) g.subs)):=by cases f;rw[pts];rfl
theorem ze{a b:Option (List u7)}{Q:u7→Prop}(ha:∀x,a=some x→∀c∈x,Q c)(hb:∀x,b=some x→∀c∈x,Q c):∀x,cat a b=some x→∀c∈x,Q c:=fun x hx c hc=>by
 unfold cat at hx
 cases a with
 |none=>cases hx
 |some y=>
  cases b with
  |none=>cases hx
  |some z=>
   cases hx
   rcases List.mem_append.1 hc with h|h
   ·exact ha y rfl c h
   ·exact hb z rfl c h
theorem BQ(W bd:List Bs):∀(xs ys:List Bs) (ps:List u7),ptw W bd xs ys=some ps→∀b∈ps,ly b
 | [],ys,ps,h,b,hb=>by rw[ptw]at h;cases h;cases hb;simp
 |x::xs,[],ps,h,b,hb=>by rw[ptw]at h;cases h;cases hb;simp
 |x::xs,y::ys,ps,h,b,hb=>by
  rw[ptw]at h
  have ih:=BQ W bd xs ys
  have mp:∀c:u7,ly c→(ptw W bd xs ys).map (c:: ·)=some ps→ly b:=fun c hc h=>by
   cases hp:ptw W bd xs ys with
   |none=>rw[hp]at h;cases h
   |some q=>
    rw[hp]at h;cases h
    rcases List.mem_cons.1 hb with rfl|hb
    ·exact hc
    ·exact ih q hp b hb
  split at h
  ·exact mp _ (vL (.inr (.inr rfl))) h
  ·split at h
   ·exact mp _ (vL (.inr (.inl rfl))) h
   ·split at h
    ·exact ih ps h b hb
    ·cases h
theorem FL(s:w6)(f g:u5)(ps:List u7)(h:pth s f g=some ps):∀b∈ps,ly b:=fun b hb=>by
 unfold pth at h
 split at h
 ·cases h
  rw[List.mem_singleton]at hb;subst hb
  exact vL (.inr (.inr rfl))
 ·split at h
  ·cases h
   rw[List.mem_singleton]at hb;subst hb
   exact vL (.inl rfl)
  ·split at h
   ·cases h;cases hb
   ·cases h
mutual
theorem uM(s:w6):∀(f:u5) (bd:List Bs) (g:u5),SmF g→∀ps,pts s f bd g=some ps→∀b∈ps,ly b
 | .mk k n w l,bd,g,hg,ps,h,b,hb=>by
   rw[pts]at h
   split at h
   ·cases h
    rw[List.mem_singleton]at hb;subst hb
    exact⟨hg,.inl ⟨n,rfl,rfl⟩⟩
   ·split at h
    ·cases h
    ·exact ze (fun x hx=>FL s _ g x hx) (ze (fun x hx=>BQ _ _ _ _ x hx) (fun x hx=>zh s l _ g.subs ((uJ g).1 hg).2.2 x hx)) ps h b hb
theorem zh(s:w6):∀(l:List u5) (bd:List Bs) (gs:List u5),pR gs→∀ps,rE s l bd gs=some ps→∀b∈ps,ly b
 | [],bd,gs,hg,ps,h,b,hb=>by rw[rE]at h;cases h;cases hb
 |f::l,bd,[],hg,ps,h,b,hb=>by rw[rE]at h;cases h;cases hb
 |f::l,bd,g::gs,hg,ps,h,b,hb=>by
  rw[rE]at h
  rw[pR]at hg
  exact ze (fun x hx=>uM s f bd g hg.1 x hx) (fun x hx=>zh s l bd gs hg.2 x hx) ps h b hb
end
theorem AY(a b:List Bs):E8 a b=some (decide (a=b)):=by
 have h:Evt (fun _=>E8 a b) (fun r=>r=decide (a=b)):=by
  unfold E8
  refine Evt.cond (fun e=>Evt.pure ?_) (fun e=>?_)
  ·replace e:=bx e
   exact(decide_eq_false fun h=>e (by rw[h])).symm
  replace e:=bx e
  have hl:a.length=b.length:=by omega
  refine Evt.y4 (Evt.scan (fun k _=>a.take k=b.take k) (fun k r=>r=false∧Am.get a k≠Am.get b k) (by simp) (fun k u hk hi=>?_)) (fun t ht=>?_) (fun r hr=>?_)
  ·unfold K4
   refine Evt.chk (by omega) (Evt.cond (fun e=>Evt.pure ?_) (fun e=>Evt.pure ?_))
   ·replace e:=bx e
    exact⟨rfl,e⟩
   ·replace e:=bx e
    show a.take (k+1)=b.take (k+1)
    rw[F3 hk,F3 (l:=b) (by omega),hi,e]
  ·unfold K5
   refine Evt.pure (decide_eq_true ?_).symm
   have ht:a.take a.length=b.take a.length:=ht
   rw[List.take_length,hl,List.take_length]at ht
   exact ht
  ·obtain⟨k,_,_,_,rfl,h⟩:=hr
   exact(decide_eq_false fun e=>h (by rw[e])).symm
 obtain⟨r,rfl,N,hN⟩:=h
 exact hN N (Nat.le_refl _)
open Classical in
theorem Dd:∀(m:Nat) (f:u5),SizeOf.sizeOf f≤m→SmF f→∀g:u5,Evt (fun n=>bn n f g) (fun r=>r=decide (f=g)):=by
 intro m
 induction m with
 |zero=>intro f h;cases f;simp only[u5.mk.sizeOf_spec]at h;omega
 |succ m ih=>
  intro f hf hsm g
  obtain⟨_,hsl,hsm⟩:=(uJ f).1 hsm
  refine Evt.succ ?_
  simp only[bn,AY]
  refine Evt.bind (P:=fun v=>f.kind=g.kind→f.name=g.name→v=decide (f.words=g.words)) (Evt.gd (fun _=>Evt.pure fun _ _=>by congr) (fun h h1 h2=>by simp[h1,h2]at h)) fun v hv=>?_
  refine Evt.cond (fun e=>Evt.pure (decide_eq_false fun h=>?_).symm) (fun e=>?_)
  ·subst h
   have:=hv rfl rfl
   simp[this]at e
  have e1:f.kind=g.kind:=Classical.byContradiction fun h=>by simp[h]at e
  have e2:f.name=g.name:=Classical.byContradiction fun h=>by simp[h]at e
  have e3:f.words=g.words:=Classical.byContradiction fun h=>by have:=hv e1 e2;rw[decide_eq_false h]at this;simp[this]at e
  have e4:f.subs.length=g.subs.length:=Classical.byContradiction fun h=>by
   have:¬((f.subs.length:Int)=(g.subs.length:Int)):=by omega
   rw[decide_eq_false this]at e
   revert e
   cases (bif bif !decide (f.kind=g.kind)then true else !decide (f.name=g.name)then true else !v)<;>simp
  refine Evt.chk (by omega) (Evt.y4 (Evt.scan (fun k _=>f.subs.take k=g.subs.take k) (fun k r=>r=false∧Am.get f.subs k≠Am.get g.subs k) (by simp) (fun k u hk hi=>?_)) (fun t ht=>?_) (fun r hr=>?_))
  ·unfold cw
   have hsz:=V0 hk
   refine Evt.chk (by omega) (Evt.bind (ih _ (by omega) (lQ hsm _ (get_mem hk)) _) fun v2 hv2=>Evt.cond (fun e=>Evt.pure ?_) (fun e=>Evt.pure ?_))
   ·subst hv2
    exact⟨rfl,fun h=>by rw[decide_eq_true h]at e;cases e⟩
   ·subst hv2
    have h:Am.get f.subs k=Am.get g.subs k:=Classical.byContradiction fun h=>by rw[decide_eq_false h]at e;cases e
    show f.subs.take (k+1)=g.subs.take (k+1)
    rw[F3 hk,F3 (l:=g.subs) (by omega),hi,h]
  ·unfold cx
   refine Evt.pure (decide_eq_true ?_).symm
   have ht:f.subs.take f.subs.length=g.subs.take f.subs.length:=ht
   rw[List.take_length,e4,List.take_length]at ht
   cases f;cases g
   simp only[u5.kind,u5.name,u5.words,u5.subs]at*
   rw[e1,e2,e3,ht]
  ·obtain⟨k,_,_,_,rfl,h⟩:=hr
   exact(decide_eq_false fun e=>h (by rw[e])).symm
def RM(o:Option Env)(r:Bool×Env):Prop:=(∀e,o=some e→r=(true,e))∧(o=none→r.1=false)
theorem rF{env:Env}(he:iD env){c:UInt8}(hc:c=33∨c=46∨c=63)(x y:Bs):Evt (fun _=>Q8 (c::x) y env) (RM (rD env ⟨c::x,y,zf⟩)):=by
 unfold Q8 rD
 cases h:assoc (c::x) env with
 |none=>
  refine Evt.cond (fun e=>by simp at e) (fun _=>Evt.aB (Evt.pure ?_))
  simp only[h]
  exact⟨fun e he=>by cases he;rfl,fun he=>by cases he⟩
 |some b=>
  refine Evt.cond (fun _=>Evt.pure ?_) (fun e=>by simp at e)
  simp only[h]
  obtain⟨h1,h2⟩:=he _ _ h
  have hiff:b=⟨c::x,y,zf⟩↔b.text=y:=by
   constructor
   ·intro e;rw[e]
   ·intro e
    obtain⟨_,h2⟩:=h2
    rcases h2 with⟨z,e1,_⟩|⟨c',z,e1,hc',e2⟩
    ·rw[h1]at e1
     have:=(List.cons.inj e1).1
     rcases hc with rfl|rfl|rfl<;>cases this
    ·cases b
     simp only at h1 e2 e
     rw[h1,e,e2]
  by_cases hb:b.text=y
  ·rw[if_pos (hiff.2 hb)]
   refine⟨fun e he=>?_,fun he=>by cases he⟩
   cases he
   show(decide (((some b).getD default).text=y),env)=_
   rw[decide_eq_true (show((some b).getD default).text=y from hb)]
  ·rw[if_neg fun e=>hb (hiff.1 e)]
   exact⟨fun e he=>(by cases he),fun _=>decide_eq_false hb⟩
def Has(bd:List Bs)(env:Env):Prop:=∀x∈bd,(assoc (63::x) env).isSome=true
theorem Has.mono{bd:List Bs}{env e:Env}(h:Has bd env)(hm:∀k c,assoc k env=some c→assoc k e=some c):Has bd e:=fun x hx=>by
 obtain⟨c,hc⟩:=Option.isSome_iff_exists.1 (h x hx)
 rw[hm _ _ hc];rfl
theorem iz{c:UInt8}{x:Bs}{l:List Bs}:(c::x)∈l.map (c:: ·)↔x∈l:=by
 rw[List.mem_map]
 exact⟨fun⟨y,hy,e⟩=>(List.cons.inj e).2▸hy,fun h=>⟨x,h,rfl⟩⟩
theorem zi{c:UInt8}(hc:c=33∨c=43∨c=46∨c=63){k:Bs}{l:List Bs}(h:k∈l.map (c:: ·)):IsKey k:=by
 obtain⟨y,_,rfl⟩:=List.mem_map.1 h
 exact⟨c,y,rfl,hc⟩
theorem AZ{env:Env}(he:iD env){x:Bs}(hx:¬IsKey x):assoc x env=none:=by
 cases h:assoc x env with
 |none=>rfl
 |some b=>
  obtain⟨h1,h2⟩:=he _ _ h
  exact absurd (h1▸h2.key) hx
section
variable {s:w6}
theorem uN{xs:List Bs}{k:Nat}(h:k<xs.length):xs.drop k=Am.get xs k::xs.drop (k+1):=Da h
theorem Df(W bd ys:List Bs):ptw W bd [] ys=some []:=by cases ys<;>simp[ptw]
theorem Ba(env:Env)(b:u7):dS env [b]=rD env b:=by
 rw[dS]
 cases rD env b<;>rfl
theorem Bb{f g:u5}(hf:WfF f)(hlen:f.words.length=g.words.length)(bd:List Bs){env:Env}(he:iD env)(hh:Has bd env):
 Evt (fun _=>G9 (Q9 (bk s f bd) (fZ s) g) (bk s f bd).words.length env) (ExP (fun t=>(ptw s.words bd f.words g.words).bind (dS env)=some t∧iD t∧Has bd t) (fun r=>(ptw s.words bd f.words g.words).bind (dS env)=none∧r.1=false)):=by
 have hml:(bk s f bd).words.length=f.words.length:=by rw[fY];exact List.length_map _
 rw[hml]
 refine(Evt.range (fun k t=>(ptw s.words bd f.words g.words).bind (dS env)=(ptw s.words bd (f.words.drop k) (g.words.drop k)).bind (dS t)∧iD t∧Has bd t) (fun _=>False) (fun r=>(ptw s.words bd f.words g.words).bind (dS env)=none∧r.1=false) ⟨rfl,he,hh⟩ (fun k t hk ht=>?_)).mono fun e h=>?_
 ·obtain⟨ht,hte,hth⟩:=ht
  have hkg:k<g.words.length:=by omega
  have hkm:Am.get (bk s f bd).words k=mkw s.words bd (Am.get f.words k):=by rw[fY];exact get_map _ hk
  rw[uN hk,uN hkg,ptw]at ht
  unfold Q9
  simp only[hkm,P6]
  have nx:¬IsKey (Am.get f.words k):=uL (tu hf (get_mem hk))
  have fin:∀(c:UInt8),c=46∨c=63→(ptw s.words bd f.words g.words).bind (dS env)=((ptw s.words bd (f.words.drop (k+1)) (g.words.drop (k+1))).map (⟨c::Am.get f.words k,Am.get g.words k,zf⟩:: ·)).bind (dS t)→
   Evt (fun _:Nat=>chk ((k:Int)<(g.words.length:Int)) <| (Q8 (c::Am.get f.words k) (Am.get g.words k) t).bind fun v14=>bif (!v14.1)then some (Ctl.ret (τ:=Env) (false,v14.2))else some (.nxt v14.2)) (zC (fun t=>(ptw s.words bd f.words g.words).bind (dS env)=(ptw s.words bd (f.words.drop (k+1)) (g.words.drop (k+1))).bind (dS t)∧iD t∧Has bd t) (fun _=>False) (fun r=>(ptw s.words bd f.words g.words).bind (dS env)=none∧r.1=false)):=by
   intro c hc ht
   rw[AX]at ht
   refine Evt.chk (by omega) (Evt.bind (rF hte (hc.elim (fun h=>.inr (.inl h)) fun h=>.inr (.inr h)) _ _) fun v hv=>?_)
   cases hp:rD t ⟨c::Am.get f.words k,Am.get g.words k,zf⟩with
   |none=>
    rw[hp]at ht hv
    have h1:=hv.2 rfl
    refine Evt.cond (fun _=>Evt.pure ⟨ht,rfl⟩) (fun e=>by rw[h1]at e;cases e)
   |some t'=>
    rw[hp]at ht hv
    have h1:=hv.1 _ rfl
    subst h1
    refine Evt.cond (fun e=>by cases e) (fun _=>Evt.pure ⟨ht,zd hte (vL (hc.elim (fun h=>.inr (.inl h)) fun h=>.inr (.inr h))) hp,hth.mono (jN hp).2.1⟩)
  by_cases h1:Am.get f.words k∈bd
  ·rw[if_pos h1]at ht
   have e1:mkw s.words bd (Am.get f.words k)=63::Am.get f.words k:=by unfold mkw;rw[if_pos h1]
   rw[e1]
   have h2:=hth _ h1
   simp only[h2]
   exact fin 63 (.inr rfl) ht
  ·rw[if_neg h1]at ht
   by_cases h2:Am.get f.words k∈s.words
   ·rw[if_pos h2]at ht
    have e1:mkw s.words bd (Am.get f.words k)=46::Am.get f.words k:=by unfold mkw;rw[if_neg h1,if_pos h2]
    rw[e1]
    have h3:decide (46::Am.get f.words k∈(fZ s).words)=true:=decide_eq_true (iz.2 h2)
    simp only[h3]
    cases h4:(assoc (46::Am.get f.words k) t).isSome
    ·exact fin 46 (.inl rfl) ht
    ·exact fin 46 (.inl rfl) ht
   ·rw[if_neg h2]at ht
    have e1:mkw s.words bd (Am.get f.words k)=Am.get f.words k:=by unfold mkw;rw[if_neg h1,if_neg h2]
    rw[e1]
    have h3:(assoc (Am.get f.words k) t).isSome=false:=by rw[AZ hte nx];rfl
    have h4:decide (Am.get f.words k∈(fZ s).words)=false:=decide_eq_false fun h=>nx (zi (.inr (.inr (.inl rfl))) h)
    simp only[h3,h4]
    refine Evt.chk (by omega) (Evt.cond (fun e=>Evt.pure ?_) (fun e=>Evt.pure ?_))
    ·replace e:=bx e
     rw[if_neg e]at ht
     exact⟨ht,rfl⟩
    ·replace e:=bx e
     rw[if_pos e]at ht
     exact⟨ht,hte,hth⟩
 ·cases e with
  |ret r=>exact h
  |nxt t=>
   obtain⟨h1,h2,h3⟩:=h.elim id False.elim
   rw[List.drop_length,Df]at h1
   exact⟨h1,h2,h3⟩
open Classical in
theorem zj:∀(m:Nat) (f:u5),SizeOf.sizeOf f≤m→WfF f→∀(g:u5),WfF g→∀(bd:List Bs) (env:Env),iD env→Has bd env→
 Evt (fun n=>B6 n (fZ s) (bk s f bd) g env) (RM ((pts s f bd g).bind (dS env))):=by
 intro m
 induction m with
 |zero=>intro f h;cases f;simp only[u5.mk.sizeOf_spec]at h;omega
 |succ m ih=>
  intro f hf hwf g hwg bd env he hh
  have hnf:=cX ((cR f).1 hwf).1
  have hng:=cX ((cR g).1 hwg).1
  have hml:(bk s f bd).words.length=f.words.length:=by rw[fY];exact List.length_map _
  have hmk:(bk s f bd).kind=f.kind:=by rw[fY];rfl
  have hmn:(bk s f bd).name=mkn s f:=by rw[fY];rfl
  have hms:(bk s f bd).subs=R9 s f.subs (if QK f.kind then f.name::bd else bd):=by rw[fY];rfl
  have hk2:f.kind=2→¬QK f.kind:=fun h=>by unfold QK;omega
  have hplain:f.kind=2→¬IsKey f.name:=fun h=>uL (hnf.2.2.1 (.inl h))
  have hpart:eC (fZ s) (bk s f bd)↔eC s f:=by
   unfold eC
   rw[hmk,hml,hmn]
   constructor
   ·rintro⟨h1,h2⟩
    refine⟨h1,?_⟩
    unfold mkn at h2
    rw[if_neg (hk2 h1.1)]at h2
    split at h2
    ·rename_i h3;exact h3.2
    ·exfalso
     obtain⟨y,_,e⟩:=List.mem_map.1 h2
     split at e
     ·cases (List.cons.inj e).1
     ·exact hplain h1.1 (e▸ ⟨43,y,rfl,by simp⟩)
   ·rintro⟨h1,h2⟩
    refine⟨h1,?_⟩
    unfold mkn
    rw[if_neg (hk2 h1.1),if_pos (show eC s f from⟨h1,h2⟩)]
    exact iz.2 h2
  refine Evt.succ ?_
  simp only[B6,zc,Option.bind_some,iw,P6,hmk,hml,hmn]
  rw[FK]
  refine Evt.cond (fun e=>?_) (fun e=>?_)
  ·have hp:eC s f:=hpart.1 (of_decide_eq_true e)
   rw[if_pos hp]
   have Ke:mkn s f=43::f.name:=by unfold mkn;rw[if_neg (hk2 hp.1.1),if_pos hp]
   rw[Ke]
   show Evt _ (RM (dS env [_]))
   rw[Ba]
   unfold rD
   cases h:assoc (43::f.name) env with
   |none=>
    refine Evt.cond (fun e=>by simp at e) (fun _=>Evt.aB (Evt.pure ?_))
    exact⟨fun e he=>by cases he;rfl,fun he=>by cases he⟩
   |some b=>
    refine Evt.cond (fun _=>?_) (fun e=>by simp at e)
    obtain⟨h1,h2⟩:=he _ _ h
    have hsm:=h2.1
    have htx:b.text=[]:=by
     rcases h2.2 with⟨z,e1,e2⟩|⟨c',z,e1,hc',e2⟩
     ·exact e2
     ·rw[h1]at e1
      have:=(List.cons.inj e1).1
      rcases hc' with rfl|rfl|rfl<;>cases this
    have hiff:b=⟨43::f.name,[],g⟩↔b.form=g:=by
     constructor
     ·intro e;rw[e]
     ·intro e
      cases b
      simp only at h1 htx e
      rw[h1,htx,e]
    refine Evt.bind (Dd _ b.form (Nat.le_refl _) hsm g) fun v hv=>Evt.pure ?_
    subst hv
    by_cases hb:b.form=g
    ·simp only[if_pos (hiff.2 hb),decide_eq_true hb]
     exact⟨fun e he=>by cases he;rfl,fun he=>by cases he⟩
    ·simp only[if_neg fun e=>hb (hiff.1 e),decide_eq_false hb]
     exact⟨fun e he=>(by cases he),fun _=>rfl⟩
  have hp:¬eC s f:=fun h=>(of_decide_eq_false e) (hpart.2 h)
  rw[if_neg hp]
  refine Evt.cond (fun e=>Evt.pure ?_) (fun e=>?_)
  ·have hc:f.kind≠g.kind∨f.words.length≠g.words.length:=Classical.byContradiction fun h=>by
    obtain⟨h1,h2⟩:=not_or.1 h
    have h1:=Classical.not_not.1 h1
    have h2:=Classical.not_not.1 h2
    simp[h1,h2]at e
   rw[if_pos hc]
   exact⟨fun e he=>(by cases he),fun _=>rfl⟩
  have hk:f.kind=g.kind:=Classical.byContradiction fun h=>by simp[h]at e
  have hl:f.words.length=g.words.length:=Classical.byContradiction fun h=>by
   have:¬((f.words.length:Int)=(g.words.length:Int)):=by omega
   simp[this]at e
  rw[if_neg fun h=>h.elim (fun h=>h hk) (fun h=>h hl),tA]
  have hsl:f.subs.length=g.subs.length:=by have:=hnf.1;have:=hng.1;rw[hk]at *; omega
  have rest:∀DN:Env,iD DN→Has bd DN→Has (if QK f.kind then f.name::bd else bd) DN→Evt (fun n=>L0 (B6 n) (bk s f bd) (fZ s) g DN) (RM ((cat (ptw s.words bd f.words g.words) (rE s f.subs (if QK f.kind then f.name::bd else bd) g.subs)).bind (dS DN))):=by
   intro DN he1 hh1 Kf
   rw[tA]
   unfold L0
   refine Evt.y4 (Bb hwf hl bd he1 hh1) (fun t ht=>?_) (fun r hr=>?_)
   ·obtain⟨ht,hte,hth⟩:=ht
    have hmono:Has (if QK f.kind then f.name::bd else bd) t:=by
     cases hw:ptw s.words bd f.words g.words with
     |none=>rw[hw]at ht;cases ht
     |some ps=>rw[hw]at ht;exact Kf.mono (lR _ _ _ ht).2.1
    rw[ht]
    unfold W1
    rw[hms,kH]
    refine Evt.y4 (P:=ExP (fun t'=>(rE s f.subs (if QK f.kind then f.name::bd else bd) g.subs).bind (dS t)=some t') (fun r=>(rE s f.subs (if QK f.kind then f.name::bd else bd) g.subs).bind (dS t)=none∧r.1=false)) ((Evt.range (fun k t'=>(rE s f.subs (if QK f.kind then f.name::bd else bd) g.subs).bind (dS t)=(rE s (f.subs.drop k) (if QK f.kind then f.name::bd else bd) (g.subs.drop k)).bind (dS t')∧iD t'∧Has (if QK f.kind then f.name::bd else bd) t') (fun _=>False) (fun r=>(rE s f.subs (if QK f.kind then f.name::bd else bd) g.subs).bind (dS t)=none∧r.1=false) ⟨rfl,hte,hmono⟩ (fun k t' hk ht'=>?_)).mono fun e h=>?_) (fun t' ht'=>?_) (fun r hr=>?_)
    ·obtain⟨ht',Jd,Je⟩:=ht'
     have hkg:k<g.subs.length:=by omega
     have hkm:Am.get (bk s f bd).subs k=bk s (Am.get f.subs k) (if QK f.kind then f.name::bd else bd):=by
      rw[hms]
      have:∀(l:List u5) (bd:List Bs) (k:Nat),k<l.length→Am.get (R9 s l bd) k=bk s (Am.get l k) bd:=by
       intro l
       induction l with
       |nil=>intro bd k h;cases h
       |cons a l ih=>
        intro bd k h
        rw[R9]
        cases k with
        |zero=>rfl
        |succ k=>exact ih bd k (by simpa using h)
      exact this _ _ _ hk
     have e1:f.subs.drop k=Am.get f.subs k::f.subs.drop (k+1):=by rw[List.drop_eq_getElem_cons hk];simp[Am.get,hk]
     have e2:g.subs.drop k=Am.get g.subs k::g.subs.drop (k+1):=by rw[List.drop_eq_getElem_cons hkg];simp[Am.get,hkg]
     rw[e1,e2,rE,tA]at ht'
     unfold W3
     simp only[hkm]
     have hsz:=V0 hk
     refine Evt.chk (by omega) (Evt.bind (ih _ (by omega) (jM hwf hk) _ (jM hwg hkg) _ t' Jd Je) fun v hv=>?_)
     cases hp:(pts s (Am.get f.subs k) (if QK f.kind then f.name::bd else bd) (Am.get g.subs k)).bind (dS t')with
     |none=>
      rw[hp]at ht' hv
      have h1:=hv.2 rfl
      exact Evt.cond (fun _=>Evt.pure ⟨ht',rfl⟩) (fun e=>by rw[h1]at e;cases e)
     |some t''=>
      rw[hp]at ht' hv
      have h1:=hv.1 _ rfl
      subst h1
      refine Evt.cond (fun e=>by cases e) (fun _=>Evt.pure ⟨ht',?_,?_⟩)
      ·cases hq:pts s (Am.get f.subs k) (if QK f.kind then f.name::bd else bd) (Am.get g.subs k)with
       |none=>rw[hq]at hp;cases hp
       |some ps=>rw[hq]at hp;exact tw Jd (uM s _ _ _ (WfF.sm _ (jM hwg hkg)) ps hq) hp
      ·cases hq:pts s (Am.get f.subs k) (if QK f.kind then f.name::bd else bd) (Am.get g.subs k)with
       |none=>rw[hq]at hp;cases hp
       |some ps=>rw[hq]at hp;exact Je.mono (lR _ _ _ hp).2.1
    ·cases e with
     |ret r=>exact h
     |nxt t'=>
      obtain⟨h1,h2,h3⟩:=h.elim id False.elim
      rw[List.drop_length,rE]at h1
      exact h1
    ·unfold W4
     have ht':(rE s f.subs (if QK f.kind then f.name::bd else bd) g.subs).bind (dS t)=some t':=ht'
     refine Evt.pure ?_
     show RM ((some t).bind _) _
     rw[Option.bind_some,ht']
     exact⟨fun e he=>by cases he;rfl,fun he=>by cases he⟩
    ·show RM ((some t).bind _) _
     rw[Option.bind_some,hr.1]
     exact⟨fun e he=>(by cases he),fun _=>hr.2⟩
   ·rw[hr.1]
    exact⟨fun e he=>(by cases he),fun _=>hr.2⟩
  have Jf:∀c:UInt8,c=33∨c=63→mkn s f=c::f.name→pth s f g=some [⟨c::f.name,g.name,zf⟩]→(QK f.kind→c=63)→Evt (fun n=>G8 (B6 n) (bk s f bd) g env (fZ s) true) (RM (((pth s f g).bind (dS env)).bind fun s'=>(cat (ptw s.words bd f.words g.words) (rE s f.subs (if QK f.kind then f.name::bd else bd) g.subs)).bind (dS s'))):=by
   intro c hc hm hpt hq
   have hc3:c=33∨c=46∨c=63:=hc.elim .inl fun h=>.inr (.inr h)
   unfold G8
   simp only[cond_true,hmn,hm,hpt]
   have e0:(some [(⟨c::f.name,g.name,zf⟩:u7)]).bind (dS env)=rD env ⟨c::f.name,g.name,zf⟩:=by
    show dS env [_]=_
    rw[dS]
    cases rD env ⟨c::f.name,g.name,zf⟩<;>rfl
   rw[e0]
   refine Evt.bind (rF he hc3 f.name g.name) fun v hv=>?_
   cases hp:rD env ⟨c::f.name,g.name,zf⟩with
   |none=>
    rw[hp]at hv
    have h1:=hv.2 rfl
    exact Evt.cond (fun _=>Evt.pure ⟨fun e he=>(by cases he),fun _=>rfl⟩) (fun e=>by rw[h1]at e;cases e)
   |some t=>
    rw[hp]at hv
    have h1:=hv.1 _ rfl
    subst h1
    refine Evt.cond (fun e=>by cases e) (fun _=>?_)
    have hm1:=hh.mono (jN hp).2.1
    refine rest t (zd he (vL hc3) hp) hm1 ?_
    by_cases hqk:QK f.kind
    ·rw[if_pos hqk]
     intro x hx
     rcases List.mem_cons.1 hx with rfl|hx
     ·have:=(jN hp).1
      obtain rfl:=hq hqk
      show(assoc (63::f.name) t).isSome=true
      rw[show assoc (63::f.name) t=some _ from this];rfl
     ·exact hm1 x hx
    ·rw[if_neg hqk];exact hm1
  refine Evt.cond (fun e=>?_) (fun e=>?_)
  ·have hq:QK f.kind:=of_decide_eq_true e
   rw[e]
   exact Jf 63 (.inr rfl) (by unfold mkn;rw[if_pos hq]) (by unfold pth;rw[if_pos hq]) (fun _=>rfl)
  ·have hq:¬QK f.kind:=of_decide_eq_false e
   have DP:mkn s f=if f.kind=2∧f.name∈s.y5 then 33::f.name else f.name:=by unfold mkn;rw[if_neg hq,if_neg hp]
   refine Evt.bind (P:=fun v=>f.kind=2→v=decide (mkn s f∈(fZ s).y5)) (Evt.gd (fun _=>Evt.pure fun _=>rfl) (fun g h=>by simp[h]at g)) fun v hv=>?_
   by_cases hpr:f.kind=2∧f.name∈s.y5
   ·rw[if_pos hpr]at DP
    have h1:=hv hpr.1
    rw[DP,decide_eq_true (show(33::f.name:Bs)∈(fZ s).y5 from iz.2 hpr.2)]at h1
    have e2:(bif decide (f.kind=2)then v else false)=true:=by simp[hpr.1,h1]
    rw[e2]
    exact Jf 33 (.inl rfl) DP (by unfold pth;rw[if_neg hq,if_pos hpr]) (fun h=>absurd h hq)
   ·rw[if_neg hpr]at DP
    have e2:(bif decide (f.kind=2)then v else false)=false:=by
     by_cases h2:f.kind=2
     ·have h1:=hv h2
      rw[DP,decide_eq_false (show ¬f.name∈(fZ s).y5 from fun h=>hplain h2 (zi (.inl rfl) h))]at h1
      simp[h1]
     ·simp[h2]
    rw[e2]
    have hpt:pth s f g=if f.name=g.name then some []else none:=by unfold pth;rw[if_neg hq,if_neg hpr]
    unfold G8
    simp only[cond_false,hmn,DP,hpt]
    refine Evt.cond (fun e=>Evt.pure ?_) (fun e=>?_)
    ·replace e:=bx e
     rw[if_neg e]
     exact⟨fun e he=>(by cases he),fun _=>rfl⟩
    ·replace e:=bx e
     rw[if_pos e]
     exact rest env he hh (by rw[if_neg hq];exact hh)
end
mutual
theorem uO(s:w6):∀(f:u5) (bd:List Bs),ndF (bk s f bd)=ndF f
 | .mk k n w l,bd=>by rw[bk,ndF,ndF,rG s l]
theorem rG(s:w6):∀(l:List u5) (bd:List Bs),aJ (R9 s l bd)=aJ l
 | [],bd=>by rw[R9]
 |f::l,bd=>by rw[R9,aJ,aJ,uO s f,rG s l]
end
mutual
theorem uP(s:w6):∀(f:u5) (bd:List Bs),qs (bk s f bd)=(qs f).map (63:: ·)
 | .mk k n w l,bd=>by
   rw[bk,qs,qs,rH s l,List.map_append]
   by_cases h:QK k
   ·have:mkn s (.mk k n w l)=63::n:=by unfold mkn;exact if_pos h
    simp only[if_pos h,this];rfl
   ·simp only[if_neg h];rfl
theorem rH(s:w6):∀(l:List u5) (bd:List Bs),qsL (R9 s l bd)=(qsL l).map (63:: ·)
 | [],bd=>by rw[R9,qsL];rfl
 |f::l,bd=>by rw[R9,qsL,qsL,uP s f,rH s l,List.map_append]
end
theorem Bc:∀(m:Nat) (f:u5),SizeOf.sizeOf f≤m→SmF f→Evt (fun n=>Z4 n f) (fun r=>r=f):=by
 intro m
 induction m with
 |zero=>intro f h;cases f;simp only[u5.mk.sizeOf_spec]at h;omega
 |succ m ih=>
  intro f hf hsm
  obtain⟨_,hsl,hsm⟩:=(uJ f).1 hsm
  refine Evt.succ ?_
  simp only[Z4,M1,Option.bind_some]
  refine Evt.y4 (P:=ExP (fun t=>t=f.subs) (fun _=>False)) ((Evt.range (fun k t=>t=f.subs.take k) (fun _=>False) (fun _=>False) (by simp) (fun k t hk ht=>?_)).mono fun e he=>?_) (fun t ht=>?_) (fun _ h=>h.elim)
  ·unfold bP
   have hsz:=V0 hk
   refine Evt.bind (ih _ (by omega) (lQ hsm _ (get_mem hk))) fun v hv=>Evt.aB (Evt.chk ?_ (Evt.pure ?_))
   ·rw[Y4,ht];simp only[List.length_append,List.length_take,List.length_cons,List.length_nil];omega
   ·show _=_
    rw[hv,ht,F3 hk]
  ·cases e with
   |ret r=>exact he
   |nxt t=>
    have:=he.elim id False.elim
    rw[List.take_length]at this
    exact this
  ·have ht:t=f.subs:=ht
   subst ht
   unfold bQ
   refine Evt.pure ?_
   cases f;rfl
theorem rI(x:Bs)(l:List Bs)(hl:l.length≤8000000):A8 x l=some (decide (x∈l)):=by
 have h:Evt (fun _=>A8 x l) (fun r=>r=decide (x∈l)):=by
  unfold A8 M4
  refine Evt.bind (P:=fun r=>0≤r↔x∈l) (Evt.chk (by omega) (Evt.y4 (Evt.scan (fun k _=>∀j,j<k→Am.get l j≠x) (fun k r=>r=(k:Int)∧Am.get l k=x) (fun j hj=>absurd hj (Nat.not_lt_zero _)) (fun k u hk hi=>?_)) (fun t ht=>?_) (fun r hr=>?_))) fun v hv=>Evt.pure ?_
  ·unfold I5
   refine Evt.cond (fun e=>Evt.pure ?_) (fun e=>Evt.pure ?_)
   ·replace e:=bx e
    exact⟨rfl,e.symm⟩
   ·replace e:=bx e
    intro j hj
    by_cases ej:j=k
    ·subst ej;exact fun h=>e h.symm
    ·exact hi j (by omega)
  ·unfold I6
   refine Evt.pure ⟨fun h=>absurd h (by decide),fun h=>?_⟩
   obtain⟨j,hj,e⟩:=aF.1 h
   exact absurd e (ht j hj)
  ·obtain⟨k,_,hk,_,rfl,e⟩:=hr
   exact⟨fun _=>aF.2 ⟨k,hk,e⟩,fun _=>by omega⟩
  ·by_cases h:x∈l
   ·simp[h,hv.2 h]
   ·have h3:¬0≤v:=fun h2=>h (hv.1 h2)
    simp only[h,h3,decide_false]
 obtain⟨r,rfl,N,hN⟩:=h
 exact hN N (Nat.le_refl _)
def dL(s:w6):List Bs:=(s.words.map (46:: ·)++s.y5.map (33:: ·)++s.parts.map (43:: ·))++(qs s.form).map (63:: ·)
def txE(e:Env)(k:Bs):Bs:=((assoc k e).getD default).text
def fmE(e:Env)(k:Bs):u5:=((assoc k e).getD default).form
def caught(s:w6)(e:Env):Prop:=∃w∈s.words,txE e (46::w)∈(qs s.form).map fun x=>txE e (63::x)
open Classical in
noncomputable def kK(s:w6)(g:u5):List u7×Bool:=match (pts s s.form [] g).bind (dS [])with
 |none=>([],false)
 |some e=>if caught s e then([],false)else((dL s).map fun k=>⟨k.drop 1,txE e k,fmE e k⟩,true)
theorem BR{e:Env}(h:iD e)(k:Bs):SmF (fmE e k):=by
 unfold fmE
 cases hk:assoc k e with
 |none=>exact FJ
 |some b=>exact(h k b hk).2.1
theorem Dg{s:w6}(hs:rC s){g:u5}(hg:WfF g):Evt (fun n=>aq n s g) (fun r=>r=kK s g):=by
 have hvl:=jc s
 have hl:=hs.len
 have hnd:=hs.form.2.1
 have hql:(qs s.form).length≤200:=by rw[oH];have:=qU s.form;omega
 unfold aq
 refine Evt.bind (tv hs) fun v1 hv1=>?_
 subst hv1
 refine Evt.bind (zj _ s.form (Nat.le_refl _) hs.form.1 g hg [] [] (fun k b h=>by cases h) (fun x hx=>by cases hx)) fun v2 hv2=>?_
 unfold kK
 cases hp:(pts s s.form [] g).bind (dS [])with
 |none=>
  rw[hp]at hv2
  have h1:=hv2.2 rfl
  exact Evt.cond (fun _=>Evt.pure rfl) (fun e=>by rw[h1]at e;cases e)
 |some env=>
  rw[hp]at hv2
  have h1:=hv2.1 _ rfl
  subst h1
  have yV:iD env:=by
   cases hq:pts s s.form [] g with
   |none=>rw[hq]at hp;cases hp
   |some ps=>rw[hq]at hp;exact tw (fun k b h=>by cases h) (uM s _ _ _ (WfF.sm g hg) ps hq) hp
  refine Evt.cond (fun e=>by cases e) (fun _=>?_)
  have hqv:Evt (fun n=>y7 n (fZ s).form) (fun r=>r=(qs s.form).map (63:: ·)):=by
   refine(qZ _ (fZ s).form (Nat.le_refl _) ?_).mono fun r hr=>?_
   ·show ndF (bk s s.form [])≤_
    rw[uO];omega
   ·rw[hr];exact uP s s.form []
  refine Evt.bind hqv fun v3 hv3=>?_
  subst hv3
  refine Evt.y4 (P:=ExP (fun t=>t=(qs s.form).map fun x=>txE env (63::x)) (fun _=>False)) ((Evt.range (fun k t=>t=((qs s.form).take k).map fun x=>txE env (63::x)) (fun _=>False) (fun _=>False) (by simp) (fun k t hk ht=>?_)).mono fun e he=>?_) (fun t ht=>?_) (fun _ h=>h.elim)
  ·rw[List.length_map]at hk
   unfold aV
   rw[get_map _ hk]
   refine Evt.aB (Evt.chk ?_ (Evt.pure ?_))
   ·rw[Y4,ht];simp only[List.length_append,List.length_map,List.length_take,List.length_cons,List.length_nil];omega
   ·show _=_
    rw[F3 hk,List.map_append,ht];rfl
  ·cases e with
   |ret r=>exact he
   |nxt t=>
    have:=he.elim id False.elim
    rw[List.length_map,List.take_length]at this
    exact this
  have ht:t=(qs s.form).map fun x=>txE env (63::x):=ht
  subst ht
  unfold aW N4
  have hfl: [(fZ s).words,(fZ s).y5,(fZ s).parts].flatten=s.words.map (46:: ·)++s.y5.map (33:: ·)++s.parts.map (43:: ·):=by simp[fZ]
  refine Evt.bind (P:=fun v=>v=s.words.map (46:: ·)++s.y5.map (33:: ·)++s.parts.map (43:: ·)) ?_ fun v hv=>Evt.bind hqv fun v3 hv3=>?_
  ·unfold kB
   simp only[Option.bind_assoc,Option.bind_some,hfl]
   exact Evt.bind (P:=fun v=>v=s.words.map (46:: ·)++s.y5.map (33:: ·)++s.parts.map (43:: ·)) (Evt.chk ⟨by simp,by simp only[List.length_append,List.length_map];omega⟩ (Evt.pure rfl)) fun v hv=>Evt.pure hv
  subst hv hv3
  have Kg: [s.words.map (46:: ·)++s.y5.map (33:: ·)++s.parts.map (43:: ·),(qs s.form).map (63:: ·)].flatten=dL s:=by simp[dL]
  refine Evt.bind (P:=fun v=>v=dL s) ?_ fun v hv=>?_
  ·unfold kB
   rw[Kg]
   refine Evt.chk ⟨by simp,?_⟩ (Evt.pure rfl)
   unfold dL;simp only[List.length_append,List.length_map];omega
  subst hv
  have hkl:(dL s).length≤500:=by unfold dL;simp only[List.length_append,List.length_map];omega
  have hk1:∀k∈dL s,1≤k.length:=fun k hk=>by
   unfold dL at hk
   rcases List.mem_append.1 hk with hk|hk
   ·rcases List.mem_append.1 hk with hk|hk
    ·rcases List.mem_append.1 hk with hk|hk
     ·obtain⟨y,_,rfl⟩:=List.mem_map.1 hk;simp
     ·obtain⟨y,_,rfl⟩:=List.mem_map.1 hk;simp
    ·obtain⟨y,_,rfl⟩:=List.mem_map.1 hk;simp
   ·obtain⟨y,_,rfl⟩:=List.mem_map.1 hk;simp
  have hkw:∀w∈s.words,(46::w)∈dL s:=fun w hw=>List.mem_append.2 (.inl (List.mem_append.2 (.inl (List.mem_append.2 (.inl (iz.2 hw))))))
  refine Evt.y4 (P:=ExP (fun t=>t=((dL s).map fun k=>(⟨k.drop 1,txE env k,fmE env k⟩:u7))∧¬caught s env) (fun r=>r=([],false)∧caught s env)) ((Evt.range (fun k t=>t=(((dL s).take k).map fun k=>(⟨k.drop 1,txE env k,fmE env k⟩:u7))∧∀w∈s.words,(46::w)∈(dL s).take k→txE env (46::w)∉ (qs s.form).map fun x=>txE env (63::x)) (fun _=>False) (fun r=>r=([],false)∧caught s env) ⟨by simp,fun w _ h=>by simp at h⟩ (fun k t hk ht=>?_)).mono fun e he=>?_) (fun t ht=>?_) (fun r hr=>?_)
  ·obtain⟨ht1,ht2⟩:=ht
   unfold aX
   have hc2:∀x,A8 x ((qs s.form).map fun x=>txE env (63::x))=some (decide (x∈(qs s.form).map fun x=>txE env (63::x))):=fun x=>rI x _ (by rw[List.length_map];omega)
   simp only[P6,hc2,Option.bind_some]
   refine Evt.bind (P:=fun v=>(∃w∈s.words,Am.get (dL s) k=46::w)→v=decide (txE env (Am.get (dL s) k)∈(qs s.form).map fun x=>txE env (63::x))) (Evt.gd (fun _=>Evt.pure fun _=>rfl) (fun h ⟨w,hw,e⟩=>?_)) fun v hv=>Evt.cond (fun e=>Evt.pure ⟨rfl,?_⟩) (fun e=>?_)
   ·rw[e,decide_eq_true (show(46::w:Bs)∈(fZ s).words from iz.2 hw)]at h;cases h
   ·replace e:=bx e
    obtain⟨e1,e2⟩:=e
    obtain⟨w,hw,e3⟩:=List.mem_map.1 (show _∈s.words.map (46:: ·)from e1)
    have:=hv ⟨w,hw,e3.symm⟩
    rw[e2]at this
    refine⟨w,hw,?_⟩
    rw[e3]
    exact of_decide_eq_true this.symm
   ·have hnw:∀w∈s.words,(46::w)∈(dL s).take (k+1)→txE env (46::w)∉ (qs s.form).map fun x=>txE env (63::x):=fun w hw hm=>by
     rw[F3 hk]at hm
     rcases List.mem_append.1 hm with hm|hm
     ·exact ht2 w hw hm
     ·rw[List.mem_singleton]at hm
      intro hc
      have h1:=hv ⟨w,hw,hm.symm⟩
      rw[←hm,decide_eq_true hc]at h1
      rw[←hm,decide_eq_true (show(46::w:Bs)∈(fZ s).words from iz.2 hw),h1]at e
      cases e
    have htl:t.length=k:=by rw[ht1,List.length_map,List.length_take];omega
    have hsn:((dL s).take (k+1)).map (fun k=>(⟨k.drop 1,txE env k,fmE env k⟩:u7))=t++[⟨(Am.get (dL s) k).drop 1,txE env (Am.get (dL s) k),fmE env (Am.get (dL s) k)⟩]:=by rw[F3 hk,List.map_append,ht1];rfl
    refine Evt.chk ⟨by omega,hk1 _ (get_mem hk)⟩ (Evt.cond (fun e=>?_) (fun e=>Evt.aB (Evt.chk ?_ (Evt.pure ?_))))
    ·refine Evt.bind (Bc _ _ (Nat.le_refl _) (BR yV (Am.get (dL s) k))) fun v hv=>Evt.aB (Evt.chk ?_ (Evt.pure ?_))
     ·rw[Y4];simp only[List.length_append,List.length_cons,List.length_nil];omega
     ·subst hv
      exact⟨hsn.symm,hnw⟩
    ·rw[Y4];simp only[List.length_append,List.length_cons,List.length_nil];omega
    ·exact⟨hsn.symm,hnw⟩
  ·cases e with
   |ret r=>exact he
   |nxt t=>
    obtain⟨h1,h2⟩:=he.elim id False.elim
    rw[List.take_length]at h1
    refine⟨h1,fun⟨w,hw,hc⟩=>?_⟩
    exact h2 w hw (by rw[List.take_length];exact hkw w hw) hc
  ·obtain⟨rfl,ht⟩:=ht
   unfold aY
   refine Evt.pure ?_
   simp only[if_neg ht]
  ·obtain⟨rfl,hr⟩:=hr
   simp only[if_pos hr]
theorem Dh(u:Nat):∀c∈Lib.decDigits u,48≤c.toNat∧c.toNat≤57:=by
 induction u using Nat.strongRecOn with
 | _ u ih=>
   have one:∀v:Nat,v<10→48≤(UInt8.ofNat (48+v)).toNat∧(UInt8.ofNat (48+v)).toNat≤57:=fun v hv=>by
    simp only[UInt8.toNat_ofNat'];omega
   intro c hc
   by_cases h:u<10
   ·rw[Lib.decDigits,dif_pos h,List.mem_singleton]at hc
    subst hc;exact one u h
   ·rw[Lib.decDigits,dif_neg h]at hc
    rcases List.mem_append.1 hc with hc|hc
    ·exact ih (u / 10) (by omega) c hc
    ·rw[List.mem_singleton]at hc
     subst hc;exact one _ (Nat.mod_lt _ (by decide))
theorem Di{m:Nat}(h:m≤1000000000):D9 (vn m):=by
 have hl:=yQ h
 refine⟨by simp[vn],by simp[vn];omega,by simp[vn,C8],fun k hk=>?_⟩
 unfold OkC C8
 rw[Int.toNat_natCast]
 cases k with
 |zero=>left;simp[vn]
 |succ k=>
  right;left
  have hk2:k<(Lib.decDigits m).length:=by simpa[vn]using hk
  have:(vn m).getD (k+1) 0=(Lib.decDigits m)[k]:=by simp[vn,hk2]
  rw[this]
  have:=Dh m _ (List.getElem_mem hk2)
  omega
theorem zk{k:Int}{n n':Bs}{w w':List Bs}{l l':List u5}(h:W9 (.mk k n w l)=0)(hn:k=2→n'=n)(hq:QK k→D9 n')(hn2:¬(k=2∨QK k)→n'=n)(hw:w'.length=w.length)(hl:l'.length=l.length)(hx:∀x∈w',D9 x):W9 (.mk k n' w' l')=0:=by
 have o:=cX h
 refine AJ (by have:=o.1;show 0≤arF k;have h2:((l.length:Nat):Int)=arF k:=this;omega) (by show(l'.length:Int)=arF k;rw[hl];exact o.1) (by show cV k w'.length;rw[hw];exact o.2.1) (fun h=>?_) (fun h=>?_) hx
 ·rcases h with h|h
  ·have h:k=2:=h
   have:=o.2.2.1 (.inl h)
   show D9 n'
   rw[hn h];exact this
  ·exact hq h
 ·show n'=[]
  rw[hn2 h];exact o.2.2.2.1 h
mutual
theorem BS(N:Nat→Bs)(q:Nat)(hN:∀i,i<q→D9 (N i)):∀(f:u5) (env:List (Bs×Bs)) (i:Nat),WfF f→i+nq f≤q→(∀p∈env,D9 p.2)→WfF (ren N f env i)
 | .mk k n w s,env,i,h,hq,yV=>by
   have h0:=(cR _).1 h
   have hnn:W9 (.mk k n w s)=0:=h0.1
   have hss:lO s:=h0.2
   rw[nq]at hq
   rw[ren,cR]
   refine⟨zk hnn (fun e=>if_neg (by unfold QK;omega)) (fun e=>?_) (fun e=>if_neg fun e2=>e (.inr e2)) (List.length_map _) (lP _ _ _ _) (fun x hx=>?_),?_⟩
   ·rw[if_pos e]
    rw[if_pos e]at hq
    exact hN i (by omega)
   ·obtain⟨y,hy,rfl⟩:=List.mem_map.1 hx
    have hyn:D9 y:=tu h hy
    by_cases hm:y∈env.map (·.1)
    ·obtain⟨p,hp,e⟩:=List.mem_map.1 (yj hm)
     rw[←e];exact yV p hp
    ·rw[yh fun p hp e=>hm (List.mem_map.2 ⟨p,hp,e⟩)];exact hyn
   ·refine zl N q hN s _ _ hss ?_ (fun p hp=>?_)
    ·by_cases e:QK k
     ·simp only[if_pos e]at hq ⊢; omega
     ·simp only[if_neg e]at hq ⊢; omega
    ·by_cases e:QK k
     ·rw[if_pos e]at hp
      rw[if_pos e]at hq
      rcases List.mem_cons.1 hp with rfl|hp
      ·exact hN i (by omega)
      ·exact yV p hp
     ·rw[if_neg e]at hp;exact yV p hp
theorem zl(N:Nat→Bs)(q:Nat)(hN:∀i,i<q→D9 (N i)):∀(l:List u5) (env:List (Bs×Bs)) (i:Nat),lO l→i+nqL l≤q→(∀p∈env,D9 p.2)→lO (cM N l env i)
 | [],env,i,_,_,_=>by rw[cM,lO];trivial
 |f::l,env,i,h,hq,yV=>by
  rw[nqL]at hq
  rw[cM,lO]
  exact⟨BS N q hN f env i (N2.1 h f (List.mem_cons_self ..)) (by omega) yV,zl N q hN l env _ (N2.2 fun x hx=>N2.1 h x (List.mem_cons_of_mem _ hx)) (by omega) yV⟩
end
theorem uQ{f:u5}(h:OkF f):∃C:List Bs,C.length≤600∧∀x,fre f [] x↔x∈C:=by
 have:=h.2.1
 obtain⟨C,hC,_⟩:=gX h.1 (by omega)
 exact⟨C,by omega,fun x=>(hC.1 x).symm⟩
theorem tB{f:u5}(h:OkF f):OkF (cf f):=by
 obtain⟨C,hCl,hC⟩:=uQ h
 have hnd:=h.2.1
 have hq:=qU f
 have Kh:=yS (fun x=>(hC x).1) 600 hCl
 refine⟨BS _ 200 (fun i hi=>Di (by have:=Kh i;omega)) f [] 0 h.1 (by omega) (fun p hp=>by cases hp),?_,?_⟩
 ·unfold cf;rw[BM];exact h.2.1
 ·unfold cf;rw[BN];exact h.2.2
mutual
noncomputable def bD(s:w6):u5→Nat→List x9
 | .mk k n w l,b=>(if(kK s (.mk k n w l)).2 then [⟨(b:Int),(kK s (.mk k n w l)).1⟩]else [])++L1 s l (b+1)
noncomputable def L1(s:w6):List u5→Nat→List x9
 | [],_=>[]
 |f::l,b=>bD s f b++L1 s l (b+ndF f)
end
theorem rJ(s:w6)(f:u5)(b:Nat):bD s f b=(if(kK s f).2 then [⟨(b:Int),(kK s f).1⟩]else [])++L1 s f.subs (b+1):=by cases f;rw[bD];rfl
theorem kY(s:w6):∀(l:List u5) (x:u5) (b:Nat),L1 s (l++[x]) b=L1 s l b++bD s x (b+aJ l)
 | [],x,b=>by simp[L1,aJ]
 |a::l,x,b=>by rw[List.cons_append,L1,L1,kY s l x,aJ,List.append_assoc,Nat.add_assoc]
mutual
theorem kL(s:w6):∀(f:u5) (b:Nat),(bD s f b).length≤ndF f
 | .mk k n w l,b=>by
   rw[bD,ndF,List.length_append]
   have:=jd s l (b+1)
   split
   ·simp only[List.length_cons,List.length_nil];omega
   ·simp only[List.length_nil];omega
theorem jd(s:w6):∀(l:List u5) (b:Nat),(L1 s l b).length≤aJ l
 | [],b=>by rw[L1];simp
 |f::l,b=>by
  rw[L1,aJ,List.length_append]
  have:=kL s f b
  have:=jd s l (b+ndF f)
  omega
end
theorem Bd(f:u5):u5.mk f.kind f.name f.words f.subs=f:=by cases f;rfl
theorem Bf{s:w6}(hs:rC s):∀(m:Nat) (g:u5),SizeOf.sizeOf g≤m→WfF g→∀(b:Nat) (l:List x9),b+ndF g≤100000→l.length+ndF g≤100000→
 Evt (fun n=>J0 n g (b:Int) s.form.kind s.form.name s.form.words s.form.subs s.words s.y5 s.parts l) (fun r=>r=(((b+ndF g:Nat):Int),l++bD s g b)):=by
 intro m
 induction m with
 |zero=>intro f h;cases f;simp only[u5.mk.sizeOf_spec]at h;omega
 |succ m ih=>
  intro g hg hwf b l hb hl
  have hnd:=nA g
  refine Evt.succ ?_
  simp only[J0,Bd]
  have e0:(⟨s.form,s.words,s.y5,s.parts⟩:w6)=s:=rfl
  rw[e0]
  refine Evt.bind (Dg hs hwf) fun v hv=>?_
  subst hv
  have key:∀l':List x9,l'=l++(if(kK s g).2 then [⟨(b:Int),(kK s g).1⟩]else [])→Evt (fun n=>Q0 (J0 n) g s.form.kind s.form.name s.form.words s.form.subs s.words s.y5 s.parts (b:Int) l') (fun r=>r=(((b+ndF g:Nat):Int),l++bD s g b)):=by
   intro l' hl'
   have hll:l'.length≤l.length+1:=by rw[hl',List.length_append];split<;>simp
   unfold Q0
   have hw:wr .i64 ((b:Int)+1)=((b+1:Nat):Int):=by rw[T8 (by omega) (by omega)];rfl
   rw[hw]
   refine Evt.y4 (P:=ExP (fun t=>t=(((b+1+aJ g.subs:Nat):Int),l'++L1 s g.subs (b+1))) (fun _=>False)) ((Evt.range (fun k t=>t=(((b+1+aJ (g.subs.take k):Nat):Int),l'++L1 s (g.subs.take k) (b+1))) (fun _=>False) (fun _=>False) (by simp[aJ,L1]) (fun k t hk ht=>?_)).mono fun e he=>?_) (fun t ht=>?_) (fun _ h=>h.elim)
   ·subst ht
    unfold au
    have hsz:=V0 hk
    have htk:=dK hk
    have hfl:=jd s (g.subs.take k) (b+1)
    refine Evt.bind (ih _ (by omega) (jM hwf hk) (b+1+aJ (g.subs.take k)) _ (by omega) (by rw[List.length_append];omega)) fun v hv=>Evt.pure ?_
    subst hv
    show(_,_)=(_,_)
    rw[F3 hk,jL,kY,List.append_assoc,Nat.add_assoc (b+1)]
   ·cases e with
    |ret r=>exact he
    |nxt t=>
     have:=he.elim id False.elim
     rw[List.take_length]at this
     exact this
   ·unfold av
    have ht:t=(((b+1+aJ g.subs:Nat):Int),l'++L1 s g.subs (b+1)):=ht
    subst ht
    refine Evt.pure ?_
    show(_,_)=(_,_)
    rw[rJ,hl',List.append_assoc,hnd,Nat.add_assoc]
  refine Evt.cond (fun e=>Evt.aB (Evt.chk ?_ (key _ (by rw[if_pos e])))) (fun e=>key _ (by rw[if_neg (by rw[e];decide),List.append_nil]))
  rw[Y4,List.length_append,List.length_singleton];omega
theorem lS{s:w6}(hb:SB s)(g:u5):Evt (fun n=>P5 n s g) (fun r=>∃v,vI s v∧(v.code≠0→r=([],v))∧(v.code=0→¬OkF g→r=([],gW g))∧(v.code=0→OkF g→r=(bD s (cf g) 0,⟨0,0⟩))):=by
 unfold P5
 refine Evt.bind (nF hb) fun v hv=>Evt.cond (fun e=>Evt.pure ⟨v,hv,fun _=>rfl,fun h=>?_,fun h=>?_⟩) (fun e=>?_)
 ·simp[h]at e
 ·simp[h]at e
 have hv0:v.code=0:=by simpa using e
 have hs:=((hv.code hv0).1).good
 refine Evt.bind (bN g) fun w hw=>?_
 subst hw
 refine Evt.cond (fun e=>Evt.pure ⟨v,hv,fun h=>absurd hv0 h,fun _ _=>rfl,fun _ h=>?_⟩) (fun e=>?_)
 ·rw[jK h]at e;simp at e
 have hok:OkF g:=(bh g).1 (by simpa using e)
 refine Evt.bind (uI hok) fun c hc=>?_
 subst hc
 have:=(tB hok).2.1
 refine Evt.bind (Bf hs _ (cf g) (Nat.le_refl _) (tB hok).1 0 [] (by omega) (by simp;omega)) fun r hr=>?_
 subst hr
 refine Evt.pure ⟨v,hv,fun h=>absurd hv0 h,fun _ h=>absurd hok h,fun _ _=>?_⟩
 show([]++bD s (cf g) 0,_)=_
 rw[List.nil_append]
set_option maxRecDepth 1000000 in
theorem jO(m:Nat):y9 (m+300)=some true:=by kernel_rfl
theorem bp:Evt y9 (fun b=>b=true):=⟨true,rfl,300,fun n hn=>by
 obtain⟨m,rfl⟩:∃m,n=m+300:=⟨n-300,by omega⟩
 exact jO m⟩
theorem Ic{s:w6}(hw:s.words.length≤1048576∧∀x∈s.words,x.length≤1048576)(hp:s.y5.length≤1048576∧∀x∈s.y5,x.length≤1048576)(hq:s.parts.length≤1048576∧∀x∈s.parts,x.length≤1048576):SB s:=by
 refine⟨hw.1,hp.1,hq.1,fun x hx=>?_⟩
 rcases List.mem_append.1 hx with hx|hx
 ·rcases List.mem_append.1 hx with hx|hx
  ·have:=hw.2 x hx;omega
  ·have:=hp.2 x hx;omega
 ·have:=hq.2 x hx;omega
theorem nr{s:w6}(hb:SB s):Evt (fun n=>A9 n s) (fun b=>b=true):=by
 unfold A9
 refine Evt.bind bp fun v hv=>?_
 subst hv
 refine Evt.bind (P:=vI s) (Evt.gd (fun _=>nF hb) (fun h=>by cases h)) fun v2 h2=>Evt.bind (P:=vI s) (Evt.gd (fun _=>nW hb) (fun h=>by cases h)) fun v3 h3=>Evt.pure ?_
 rw[h2.uniq h3]
 simp
theorem nX{l:List Bs}(hl:l.length≤8000000):Evt (fun n=>H7 n l l) (fun b=>b=true):=by
 unfold H7
 refine Evt.cond (fun e=>by simp at e) (fun _=>?_)
 refine Evt.y4 (Evt.fV l.length (fun k s=>s=(k:Int)) (fun _=>True) (fun _=>False) rfl (fun k s hk hs=>?_) (fun s hs=>?_)) (fun t ht=>?_) (fun r hr=>?_)
 ·subst hs
  unfold E2
  refine Evt.cond (fun _=>Evt.chk (by omega) (Evt.chk (by omega) (Evt.cond (fun e=>by simp at e) (fun _=>Evt.pure ?_)))) (fun e=>by replace e:=bx e;omega)
  exact(T8 (by omega) (by omega)).trans rfl
 ·subst hs
  unfold E2
  exact Evt.cond (fun e=>by replace e:=bx e;omega) (fun _=>Evt.pure trivial)
 ·exact Evt.pure rfl
 ·exact False.elim hr
theorem pU:∀(m:Nat) (f:u5),SizeOf.sizeOf f≤m→SmF f→Evt (fun n=>B0 n f f) (fun b=>b=true):=by
 intro m
 induction m with
 |zero=>intro f h;cases f;simp only[u5.mk.sizeOf_spec]at h;omega
 |succ m ih=>
  intro f hf hsm
  obtain⟨hws,hsl,hsm⟩:=(uJ f).1 hsm
  refine Evt.succ ?_
  simp only[B0]
  refine Evt.bind (P:=fun v=>v=true) (Evt.gd (fun _=>nX (by omega)) (fun h=>by simp at h)) fun v hv=>?_
  subst hv
  refine Evt.cond (fun e=>by simp at e) (fun _=>?_)
  refine Evt.y4 (Evt.fV f.subs.length (fun k s=>s=(k:Int)) (fun _=>True) (fun _=>False) rfl (fun k s hk hs=>?_) (fun s hs=>?_)) (fun t ht=>?_) (fun r hr=>?_)
  ·subst hs
   unfold F1
   have hsz:=V0 hk
   refine Evt.cond (fun _=>Evt.chk (by omega) (Evt.chk (by omega) ?_)) (fun e=>by replace e:=bx e;omega)
   simp only[Int.toNat_natCast]
   refine Evt.bind (ih _ (by omega) (lQ hsm _ (get_mem hk))) fun v hv=>?_
   subst hv
   refine Evt.cond (fun e=>by cases e) (fun _=>Evt.pure ?_)
   exact(T8 (by omega) (by omega)).trans rfl
  ·subst hs
   unfold F1
   exact Evt.cond (fun e=>by replace e:=bx e;omega) (fun _=>Evt.pure trivial)
  ·exact Evt.pure rfl
  ·exact False.elim hr
def DQ(l:List u7):Prop:=l.length≤1000∧∀b∈l,SmF b.form
theorem fB{l:List u7}(h:DQ l):Evt (fun n=>C6 n l l) (fun b=>b=true):=by
 have hl:=h.1
 unfold C6
 refine Evt.cond (fun e=>by simp at e) (fun _=>?_)
 refine Evt.y4 (Evt.fV l.length (fun k s=>s=(k:Int)) (fun _=>True) (fun _=>False) rfl (fun k s hk hs=>?_) (fun s hs=>?_)) (fun t ht=>?_) (fun r hr=>?_)
 ·subst hs
  unfold C7
  refine Evt.cond (fun _=>Evt.chk (by omega) (Evt.chk (by omega) ?_)) (fun e=>by replace e:=bx e;omega)
  simp only[Int.toNat_natCast]
  refine Evt.bind (P:=fun v=>v=true) (Evt.gd (fun _=>pU _ _ (Nat.le_refl _) (h.2 _ (get_mem hk))) (fun h=>by simp at h)) fun v hv=>?_
  subst hv
  refine Evt.cond (fun e=>by simp at e) (fun _=>Evt.pure ?_)
  exact(T8 (by omega) (by omega)).trans rfl
 ·subst hs
  unfold C7
  exact Evt.cond (fun e=>by replace e:=bx e;omega) (fun _=>Evt.pure trivial)
 ·exact Evt.pure rfl
 ·exact False.elim hr
theorem zm{s:w6}(hs:rC s):(dL s).length≤500:=by
 have hvl:=jc s
 have hl:=hs.len
 have hnd:=hs.form.2.1
 have hql:(qs s.form).length≤200:=by rw[oH];have:=qU s.form;omega
 unfold dL;simp only[List.length_append,List.length_map];omega
open Classical in
theorem Bg{s:w6}(hs:rC s){g:u5}(hg:WfF g):DQ (kK s g).1:=by
 unfold kK
 cases hp:(pts s s.form [] g).bind (dS [])with
 |none=>exact⟨by simp,fun b hb=>(by cases hb)⟩
 |some env=>
  have yV:iD env:=by
   cases hq:pts s s.form [] g with
   |none=>rw[hq]at hp;cases hp
   |some ps=>rw[hq]at hp;exact tw (fun k b h=>by cases h) (uM s _ _ _ (WfF.sm g hg) ps hq) hp
  show DQ (if caught s env then(([],false):List u7×Bool)else _).1
  split
  ·exact⟨by simp,fun b hb=>(by cases hb)⟩
  ·refine⟨by rw[List.length_map];have:=zm hs;omega,fun b hb=>?_⟩
   obtain⟨k,_,rfl⟩:=List.mem_map.1 hb
   exact BR yV k
mutual
theorem nI{s:w6}(hs:rC s):∀(g:u5),WfF g→∀(b:Nat),∀x∈bD s g b,DQ x.bindings∧∃m:Nat,x.at_=(m:Int)∧b≤m∧m<b+ndF g
 | .mk k n w l,hg,b,x,hx=>by
   rw[bD]at hx
   rw[ndF]
   rcases List.mem_append.1 hx with hx|hx
   ·split at hx
    ·rw[List.mem_singleton]at hx
     subst hx
     exact⟨Bg hs hg,b,rfl,Nat.le_refl _,by omega⟩
    ·cases hx
   ·obtain⟨h1,m,h2,h3,h4⟩:=oM hs l ((cR _).1 hg).2 (b+1) x hx
    exact⟨h1,m,h2,by omega,by omega⟩
theorem oM{s:w6}(hs:rC s):∀(l:List u5),lO l→∀(b:Nat),∀x∈L1 s l b,DQ x.bindings∧∃m:Nat,x.at_=(m:Int)∧b≤m∧m<b+aJ l
 | [],_,b,x,hx=>by rw[L1]at hx;cases hx
 |f::l,hg,b,x,hx=>by
  rw[L1]at hx
  rw[aJ]
  rcases List.mem_append.1 hx with hx|hx
  ·obtain⟨h1,m,h2,h3,h4⟩:=nI hs f (N2.1 hg f (List.mem_cons_self ..)) b x hx
   exact⟨h1,m,h2,by omega,by omega⟩
  ·obtain⟨h1,m,h2,h3,h4⟩:=oM hs l (N2.2 fun y hy=>N2.1 hg y (List.mem_cons_of_mem _ hy)) (b+ndF f) x hx
   exact⟨h1,m,h2,by omega,by omega⟩
end
theorem FM{f:u5}(h:OkF f):fre (cf f) []=fre f []:=by
 obtain⟨C,_,hC⟩:=uQ h
 funext x
 exact propext (yw (NN (fre f [])) (fre f []) (fun i=>FH (fun x=>(hC x).1) i) f [] 0 (fun x hx=>hx) (fun p hp=>by cases hp) x)
theorem Ie{f:u5}(h:OkF f):cf (cf f)=cf f:=by
 show ren (NN (fre (cf f) [])) (cf f) [] 0=cf f
 rw[FM h]
 exact yu (NN (fre f [])) f [] [] 0 (fun p hp=>by cases hp)
theorem rK(f:u5):Evt (fun n=>X2 n f) (fun r=>(¬OkF f→r.2.code≠0)∧(OkF f→r=(cf f,⟨0,0⟩))):=by
 unfold X2
 refine Evt.bind (bN f) fun v hv=>?_
 subst hv
 refine Evt.cond (fun e=>Evt.pure ⟨fun _=>by simpa using e,fun h=>?_⟩) (fun e=>?_)
 ·rw[jK h]at e;simp at e
 have hok:OkF f:=(bh f).1 (by simpa using e)
 refine Evt.bind (uI hok) fun c hc=>Evt.pure ⟨fun h=>absurd hok h,fun _=>?_⟩
 rw[hc]
theorem qR{s:w6}(hb:SB s)(f:u5):Evt (fun n=>G5 n s f) (fun b=>b=true):=by
 unfold G5
 refine Evt.bind bp fun v hv=>?_
 subst hv
 refine Evt.cond (fun e=>by cases e) (fun _=>?_)
 refine Evt.bind (rK f) fun v2 h2=>?_
 by_cases hok:¬OkF f
 ·have:=h2.1 hok
  exact Evt.cond (fun _=>Evt.pure rfl) (fun e=>by simp at e;exact absurd e this)
 replace hok:=Classical.not_not.1 hok
 have h2:=h2.2 hok
 subst h2
 refine Evt.cond (fun e=>by simp at e) (fun _=>?_)
 refine Evt.bind (lS hb f) fun v3 ⟨w3,hw3,a3,b3,c3⟩=>Evt.bind (lS hb (cf f)) fun v4 ⟨w4,hw4,a4,b4,c4⟩=>?_
 obtain rfl:=hw3.uniq hw4
 have key:v3=v4∧v3.1.length≤200∧∀x∈v3.1,DQ x.bindings:=by
  by_cases h0:w3.code=0
  ·have e3:=c3 h0 hok
   have e4:=c4 h0 (tB hok)
   rw[Ie hok]at e4
   have hs:=((hw3.code h0).1).good
   refine⟨e3.trans e4.symm,?_,fun x hx=>?_⟩
   ·rw[e3]
    have:=kL s (cf f) 0
    have:=(tB hok).2.1
    show(bD s (cf f) 0).length≤200
    omega
   ·rw[e3]at hx
    exact(nI hs (cf f) (tB hok).1 0 x hx).1
  ·rw[a3 h0,a4 h0]
   exact⟨rfl,by simp,fun x hx=>by cases hx⟩
 obtain⟨rfl,hl,hbs⟩:=key
 refine Evt.cond (fun e=>by simp at e) (fun _=>?_)
 refine Evt.y4 (Evt.fV v3.1.length (fun k s=>s=(k:Int)) (fun _=>True) (fun _=>False) rfl (fun k t hk ht=>?_) (fun t ht=>?_)) (fun t ht=>?_) (fun r hr=>?_)
 ·subst ht
  unfold B9
  refine Evt.cond (fun _=>Evt.chk (by omega) (Evt.chk (by omega) ?_)) (fun e=>by replace e:=bx e;omega)
  simp only[Int.toNat_natCast]
  refine Evt.bind (P:=fun v=>v=true) (Evt.gd (fun _=>fB (hbs _ (get_mem hk))) (fun h=>by simp at h)) fun v hv=>?_
  subst hv
  refine Evt.cond (fun e=>by simp at e) (fun _=>Evt.pure ?_)
  exact(T8 (by omega) (by omega)).trans rfl
 ·subst ht
  unfold B9
  exact Evt.cond (fun e=>by replace e:=bx e;omega) (fun _=>Evt.pure trivial)
 ·exact Evt.pure rfl
 ·exact False.elim hr
def shf(x:x9):x9:=⟨x.at_+1,x.bindings⟩
mutual
theorem kZ(s:w6):∀(g:u5) (b:Nat),bD s g (b+1)=(bD s g b).map shf
 | .mk k n w l,b=>by
   rw[bD,bD,List.map_append,jP s l]
   congr 1
   split
   ·show [(⟨((b+1:Nat):Int),_⟩:x9)]=[⟨((b:Nat):Int)+1,_⟩]
    congr 2
   ·rfl
theorem jP(s:w6):∀(l:List u5) (b:Nat),L1 s l (b+1)=(L1 s l b).map shf
 | [],b=>by rw[L1,L1];rfl
 |f::l,b=>by
  rw[L1,L1,List.map_append,kZ s f,Nat.add_right_comm b 1 (ndF f),jP s l]
end
def neg(f:u5):u5:=.mk 4 [] [] [f]
theorem Dj(f:u5):fre (neg f) []=fre f []:=by
 funext x
 unfold neg
 rw[fre,gk,gk]
 have:¬QK 4:=by decide
 simp only[if_neg this,List.not_mem_nil,false_and,false_or,or_false]
theorem FN(f:u5):cf (neg f)=neg (cf f):=by
 unfold cf
 rw[Dj]
 unfold neg
 have:¬QK 4:=by decide
 rw[ren,cM,cM]
 simp only[if_neg this,List.map_nil,Nat.add_zero]
theorem zn(s:w6)(g:u5):bD s (neg g) 0=(if(kK s (neg g)).2 then [⟨0,(kK s (neg g)).1⟩]else [])++(bD s g 0).map shf:=by
 rw[rJ]
 show _++L1 s [g] (0+1)=_
 rw[L1,L1,List.append_nil,kZ]
 rfl
theorem qT{s:w6}(hb:SB s)(f:u5):Evt (fun n=>G6 n s f) (fun b=>b=true):=by
 unfold G6
 refine Evt.bind bp fun v hv=>?_
 subst hv
 refine Evt.cond (fun e=>by cases e) (fun _=>?_)
 refine Evt.bind (lS hb f) fun v3 ⟨w3,hw3,a3,b3,c3⟩=>Evt.bind (lS hb (neg f)) fun v4 ⟨w4,hw4,a4,b4,c4⟩=>?_
 obtain rfl:=hw3.uniq hw4
 refine Evt.cond (fun _=>Evt.pure rfl) (fun e=>?_)
 have e3:v3.2.code=0:=Classical.byContradiction fun h=>by simp[h]at e
 have e4:v4.2.code=0:=Classical.byContradiction fun h=>by simp[h]at e
 have h0:w3.code=0:=Classical.byContradiction fun h=>by rw[a3 h]at e3;exact h e3
 have hok:OkF f:=Classical.byContradiction fun h=>by rw[b3 h0 h]at e3;exact h ((bh f).1 e3)
 have Ki:OkF (neg f):=Classical.byContradiction fun h=>by rw[b4 h0 h]at e4;exact h ((bh (neg f)).1 e4)
 have d3:=c3 h0 hok
 have d4:=c4 h0 Ki
 rw[FN,zn]at d4
 have hs:=((hw3.code h0).1).good
 have hwf:=(tB hok).1
 have hnd:=(tB hok).2.1
 have hlen:=kL s (cf f) 0
 have hfo:=nI hs (cf f) hwf 0
 subst d3 d4
 generalize hL:bD s (cf f) 0=L at*
 have key:∀(j:Nat) (M:List x9),M.length=L.length+j→j≤1→(∀k,k<L.length→Am.get M (k+j)=shf (Am.get L k))→Evt (fun n=>A0 n (M,(⟨0,0⟩:w9)) (L,(⟨0,0⟩:w9)) (j:Int)) (fun b=>b=true):=by
  intro j M hM hj hg
  unfold A0
  have hw:wr .i64 ((L.length:Int)+(j:Int))=(M.length:Int):=by rw[T8 (by omega) (by omega)];omega
  show Evt (fun n=>bif (!decide ((M.length:Int)=wr .i64 ((L.length:Int)+(j:Int))))then _ else _) _
  rw[hw]
  refine Evt.cond (fun e=>by simp at e) (fun _=>?_)
  refine Evt.y4 (Evt.fV L.length (fun k t=>t=(k:Int)) (fun _=>True) (fun _=>False) rfl (fun k t hk ht=>?_) (fun t ht=>?_)) (fun t ht=>?_) (fun r hr=>?_)
  ·subst ht
   obtain⟨hbs,m,hm,hm1,hm2⟩:=hfo _ (get_mem hk)
   unfold C0
   have hw2:wr .i64 ((k:Int)+(j:Int))=((k+j:Nat):Int):=by rw[T8 (by omega) (by omega)];rfl
   have hw3:wr .i64 ((Am.get L k).at_+1)=(shf (Am.get L k)).at_:=by
    show _=(Am.get L k).at_+1
    rw[hm];exact T8 (by omega) (by omega)
   refine Evt.cond (fun _=>?_) (fun e=>by replace e:=bx e;omega)
   simp only[hw2,Int.toNat_natCast,hg k hk,hw3]
   refine Evt.chk (by omega) (Evt.chk (by omega) ?_)
   refine Evt.bind (P:=fun v=>v=true) (Evt.gd (fun _=>fB hbs) (fun h=>by simp at h)) fun v hv=>?_
   subst hv
   refine Evt.cond (fun e=>by simp at e) (fun _=>Evt.pure ?_)
   exact(T8 (by omega) (by omega)).trans rfl
  ·subst ht
   unfold C0
   exact Evt.cond (fun e=>by replace e:=bx e;omega) (fun _=>Evt.pure trivial)
  ·exact Evt.pure rfl
  ·exact False.elim hr
 have hmap:∀k,k<L.length→Am.get (L.map shf) k=shf (Am.get L k):=fun k hk=>get_map shf hk
 by_cases hbd:(kK s (neg (cf f))).2=true
 ·rw[if_pos hbd]
  refine Evt.chk (gV fun h=>by simp) (Evt.cond (fun _=>?_) (fun e=>?_))
  ·refine key 1 _ (by simp) (by omega) (fun k hk=>?_)
   rw[←hmap k hk]
   show Am.get (_::L.map shf) (k+1)=_
   unfold Am.get;rfl
  ·exfalso
   simp[Am.get]at e
 ·rw[if_neg hbd]
  have h1:(0:Int)<(((([]:List x9)++L.map shf).length:Nat):Int)→0<L.length:=fun h=>by simpa using h
  refine Evt.chk (gV fun h=>by simpa using h) (Evt.cond (fun e=>?_) (fun _=>?_))
  ·exfalso
   replace e:=bx e
   have hl:=h1 e.1
   have h2:(Am.get (([]:List x9)++L.map shf) 0).at_=(Am.get L 0).at_+1:=by rw[List.nil_append,hmap 0 hl];rfl
   obtain⟨_,m,hm,_⟩:=hfo _ (get_mem hl)
   have h3:=e.2
   rw[h2,hm]at h3
   omega
  ·exact key 0 _ (by simp) (by omega) (fun k hk=>by rw[List.nil_append,Nat.add_zero];exact hmap k hk)
end Go.Proofs.YtdjnbjnlnjhllaaDoor
