import Derived.Test.YtfacbpehlibilaaGreatDoorTZLaw2
set_option linter.unusedVariables false
set_option linter.unusedSimpArgs false
namespace Go.Proofs.YtfacbpehlibilaaGreatDoor
open Go Go.Am
theorem FZ{s:w9}{i:Nat}(h:i<s.words.length):Am.get (vns s) i=Am.get s.words i:=by
 unfold vns Am.get
 rw[List.getD_eq_getElem?_getD,List.getD_eq_getElem?_getD,List.append_assoc,List.getElem?_append_left h]
theorem Ga{s:w9}{i:Nat}(h:i<s.C4.length):Am.get (vns s) (s.words.length+i)=Am.get s.C4 i:=by
 unfold vns Am.get
 rw[List.getD_eq_getElem?_getD,List.getD_eq_getElem?_getD,List.append_assoc,List.getElem?_append_right (by omega),List.getElem?_append_left (by omega)]
 congr 2;omega
theorem Gb{s:w9}{i:Nat}(h:i<s.parts.length):Am.get (vns s) (s.words.length+s.C4.length+i)=Am.get s.parts i:=by
 unfold vns Am.get
 rw[List.getD_eq_getElem?_getD,List.getD_eq_getElem?_getD,List.getElem?_append_right (by simp only[List.length_append];omega)]
 congr 2;simp only[List.length_append];omega
structure Iv(s:w9):Prop where
 form:OkF s.form
 len:(vns s).length≤300
 name:∀x∈vns s,B9 x
 uniq:∀i j,i<j→j<(vns s).length→Am.get (vns s) i≠Am.get (vns s) j
 words:∀x∈s.words,fre s.form [] x
 C4:∀x∈s.C4,qJ (Z0 s.form) x∨sN (Z0 s.form) x
 parts:∀x∈s.parts,¬qJ (Z0 s.form) x∧sN (Z0 s.form) x
 RS:QOk s
theorem OkS.good{s:w9}(h:OkS s):Iv s:=by
 obtain⟨h1,h2,h3,h4⟩:=h
 have hvl:=wo s
 have hn:∀j,j<(vns s).length→B9 (Am.get (vns s) j):=fun j hj=>Classical.byContradiction fun h=>by
  have:=h3 j hj
  unfold bV at this
  rw[if_pos h]at this
  exact absurd this (by decide)
 have hu:∀j,j<(vns s).length→Am.get (vns s) j∉ (vns s).take j:=fun j hj h=>by
  have:=h3 j hj
  unfold bV at this
  rw[if_neg (fun e=>e (hn j hj)),if_pos h]at this
  exact absurd this (by decide)
 refine⟨h1,h2,fun x hx=>?_,fun i j hij hj e=>hu j hj ((yD (by omega)).2 ⟨i,hij,e⟩),fun x hx=>?_,fun x hx=>?_,fun x hx=>?_,h4⟩
 ·obtain⟨j,hj,rfl⟩:=V7.1 hx
  exact hn j hj
 ·obtain⟨j,hj,rfl⟩:=V7.1 hx
  have hjv:j<(vns s).length:=by omega
  have:=h3 j hjv
  unfold bV at this
  rw[if_neg (fun e=>e (hn j hjv)),if_neg (hu j hjv),if_pos hj]at this
  rw[←FZ hj]
  exact Classical.byContradiction fun h=>by rw[if_neg h]at this;exact absurd this (by decide)
 ·obtain⟨i,hi,rfl⟩:=V7.1 hx
  have hjv:s.words.length+i<(vns s).length:=by omega
  have:=h3 _ hjv
  unfold bV at this
  rw[if_neg (fun e=>e (hn _ hjv)),if_neg (hu _ hjv),if_neg (by omega),if_pos (by omega)]at this
  rw[←Ga hi]
  exact Classical.byContradiction fun h=>by rw[if_neg h]at this;exact absurd this (by decide)
 ·obtain⟨i,hi,rfl⟩:=V7.1 hx
  have hjv:s.words.length+s.C4.length+i<(vns s).length:=by omega
  have:=h3 _ hjv
  unfold bV at this
  rw[if_neg (fun e=>e (hn _ hjv)),if_neg (hu _ hjv),if_neg (by omega),if_neg (by omega)]at this
  rw[←Gb hi]
  by_cases hw:qJ (Z0 s.form) (Am.get (vns s) (s.words.length+s.C4.length+i))
  ·rw[if_pos hw]at this;exact absurd this (by decide)
  ·rw[if_neg hw]at this
   exact⟨hw,Classical.byContradiction fun h=>by rw[if_neg h]at this;exact absurd this (by decide)⟩
def cr(s:w9)(f:u5):Prop:=(f.kind=2∧f.words.length=0)∧f.name∈s.parts
instance(s:w9)(f:u5):Decidable (cr s f):=inferInstanceAs (Decidable (_∧_))
def mkw(W bd:List Bs)(w:Bs):Bs:=if w∈bd then 63::w else if w∈W then 46::w else w
def mkn(s:w9)(f:u5):Bs:=if QK f.kind then 63::f.name else if cr s f then 43::f.name else if f.kind=2∧f.name∈s.C4 then 33::f.name else f.name
mutual
def Z5(s:w9):u5→List Bs→u5
 | .mk k n w l,bd=>.mk k (mkn s (.mk k n w l)) (w.map (mkw s.words bd)) (S7 s l (if QK k then n::bd else bd))
def S7(s:w9):List u5→List Bs→List u5
 | [],_=>[]
 |f::l,bd=>Z5 s f bd::S7 s l bd
end
theorem eO(s:w9)(f:u5)(bd:List Bs):Z5 s f bd= .mk f.kind (mkn s f) (f.words.map (mkw s.words bd)) (S7 s f.subs (if QK f.kind then f.name::bd else bd)):=by cases f;rw[Z5];rfl
theorem lM(s:w9):∀(l:List u5) (bd:List Bs),(S7 s l bd).length=l.length
 | [],_=>by rw[S7]
 |f::l,bd=>by rw[S7,List.length_cons,List.length_cons,lM s l]
theorem sR(s:w9):∀(l:List u5) (x:u5) (bd:List Bs),S7 s (l++[x]) bd=S7 s l bd++[Z5 s x bd]
 | [],x,bd=>by simp[S7]
 |a::l,x,bd=>by rw[List.cons_append,S7,S7,sR s l x];rfl
theorem Gc{W bd bd':List Bs}(h:∀y,y∈bd↔y∈bd')(w:Bs):mkw W bd w=mkw W bd' w:=by
 unfold mkw
 by_cases e:w∈bd
 ·rw[if_pos e,if_pos ((h w).1 e)]
 ·rw[if_neg e,if_neg fun e'=>e ((h w).2 e')]
mutual
theorem Av(s:w9):∀(f:u5) (bd bd':List Bs),(∀y,y∈bd↔y∈bd')→Z5 s f bd=Z5 s f bd'
 | .mk k n w l,bd,bd',h=>by
   rw[Z5,Z5,kY s l _ (if QK k then n::bd' else bd') (fun y=>?_),List.map_congr_left fun x _=>Gc h x]
   split
   ·simp[h y]
   ·exact h y
theorem kY(s:w9):∀(l:List u5) (bd bd':List Bs),(∀y,y∈bd↔y∈bd')→S7 s l bd=S7 s l bd'
 | [],bd,bd',h=>by rw[S7,S7]
 |f::l,bd,bd',h=>by rw[S7,S7,Av s f bd bd' h,kY s l bd bd' h]
end
theorem pe(s:w9)(f:u5):D4 s f=some (decide (cr s f)):=by
 unfold D4 cr
 simp only[F9]
 by_cases h1:f.kind=2<;>by_cases h2:f.words.length=0<;>simp[h1,h2,gd]
theorem KP{f:u5}(hwf:WfF f):f.name.length≤30:=by
 have h:=Z8 ((Z4 f).1 hwf).1
 by_cases hk:f.kind=2∨QK f.kind
 ·exact(h.2.2.1 hk).2.1
 ·rw[h.2.2.2.1 hk];decide
theorem Aw{f:u5}(hwf:WfF f){x:Bs}(hx:x∈f.words):B9 x:=(Z8 ((Z4 f).1 hwf).1).2.2.2.2 x hx
theorem DC(s:w9)(g:u5):∀(m:Nat) (f:u5),SizeOf.sizeOf f≤m→WfF f→∀bd:List Bs,bd.length+ndF f≤100000→
 Evt (fun n=>J3 n f bd g.kind g.name g.words g.subs s.words s.C4 s.parts) (fun r=>r=Z5 s f bd):=by
 intro m
 induction m with
 |zero=>intro f h;cases f;simp only[u5.mk.sizeOf_spec]at h;omega
 |succ m ih=>
  intro f hf hwf bd hbd
  have hnd:=kr f
  have hws:=yA hwf
  have hsl:=wm hwf
  have hnl:=KP hwf
  refine Evt.succ ?_
  simp only[J3]
  refine Evt.C1 (P:=ExP (fun t=>t=f.words.map (mkw s.words bd)) (fun _=>False)) ((Evt.range (fun k t=>t=(f.words.take k).map (mkw s.words bd)) (fun _=>False) (fun _=>False) (by simp) (fun k t hk ht=>?_)).mono fun e he=>?_) (fun t ht=>?_) (fun _ h=>h.elim)
  ·unfold aY
   simp only[F9,Option.bind_some]
   have hwl:=(Aw hwf (get_mem hk)).2.1
   have hsn:(f.words.take (k+1)).map (mkw s.words bd)=t++[mkw s.words bd (Am.get f.words k)]:=by rw[D8 hk,List.map_append,ht];rfl
   have htl:t.length=k:=by rw[ht,List.length_map,List.length_take];omega
   refine Evt.cond (fun e=>Evt.chk (by unfold M5;simp;omega) (Evt.Q8 (Evt.chk ?_ (Evt.pure ?_)))) (fun e=>Evt.cond (fun e2=>Evt.chk (by unfold M5;simp;omega) (Evt.Q8 (Evt.chk ?_ (Evt.pure ?_)))) (fun e2=>Evt.Q8 (Evt.chk ?_ (Evt.pure ?_))))
   ·rw[J4];simp only[List.length_append,List.length_cons,List.length_nil];omega
   ·replace e:=bx e
    show _=_
    rw[hsn];unfold mkw;rw[if_pos e];rfl
   ·rw[J4];simp only[List.length_append,List.length_cons,List.length_nil];omega
   ·replace e:=bx e
    replace e2:=bx e2
    show _=_
    rw[hsn];unfold mkw;rw[if_neg e,if_pos e2];rfl
   ·rw[J4];simp only[List.length_append,List.length_cons,List.length_nil];omega
   ·replace e:=bx e
    replace e2:=bx e2
    show _=_
    rw[hsn];unfold mkw;rw[if_neg e,if_neg e2]
  ·cases e with
   |ret r=>exact he
   |nxt t=>
    have:=he.elim id False.elim
    rw[List.take_length]at this
    exact this
  ·subst ht
   have key:∀(nm:Bs) (bd':List Bs),nm=mkn s f→(∀y,y∈bd'↔y∈(if QK f.kind then f.name::bd else bd))→bd'.length≤bd.length+1→
    Evt (fun n=>I8 (J3 n) f g.kind g.name g.words g.subs s.words s.C4 s.parts (f.words.map (mkw s.words bd)) (nm,bd')) (fun r=>r=Z5 s f bd):=by
    intro nm bd' hnm hb hlen
    unfold I8
    refine Evt.C1 (P:=ExP (fun t=>t=S7 s f.subs bd') (fun _=>False)) ((Evt.range (fun k t=>t=S7 s (f.subs.take k) bd') (fun _=>False) (fun _=>False) (by simp[S7]) (fun k t hk ht=>?_)).mono fun e he=>?_) (fun t ht=>?_) (fun _ h=>h.elim)
    ·unfold aZ
     have hsz:=I6 hk
     have htk:=bE hk
     refine Evt.bind (ih _ (by omega) (sK hwf hk) bd' (by omega)) fun v hv=>Evt.Q8 (Evt.chk ?_ (Evt.pure ?_))
     ·rw[J4,ht];simp only[List.length_append,lM,List.length_take,List.length_cons,List.length_nil];omega
     ·show _=_
      rw[hv,ht,D8 hk,sR]
    ·cases e with
     |ret r=>exact he
     |nxt t=>
      have:=he.elim id False.elim
      rw[List.take_length]at this
      exact this
    ·unfold bf
     refine Evt.pure ?_
     have ht:t=S7 s f.subs bd':=ht
     rw[eO,ht,hnm,kY s f.subs _ _ hb]
   unfold bg
   simp only[aX,pe,F9,Option.bind_some]
   refine Evt.cond (fun e=>?_) (fun e=>?_)
   ·replace e:=bx e
    refine Evt.bind (P:=fun v=>v=bd) (Evt.pure rfl) fun v hv=>?_
    subst hv
    refine Evt.Q8 (Evt.chk ?_ (Evt.chk (by unfold M5;simp;omega) (key _ _ (by unfold mkn;rw[if_pos e];rfl) (fun y=>?_) (by simp))))
    ·rw[J4];simp only[List.length_append,List.length_cons,List.length_nil];omega
    ·rw[if_pos e];simp[or_comm]
   ·replace e:=bx e
    have hb:∀y,y∈bd↔y∈(if QK f.kind then f.name::bd else bd):=fun y=>by rw[if_neg e]
    refine Evt.cond (fun e2=>?_) (fun e2=>?_)
    ·have e2:cr s f:=of_decide_eq_true e2
     exact Evt.chk (by unfold M5;simp;omega) (key _ _ (by unfold mkn;rw[if_neg e,if_pos e2];rfl) hb (by omega))
    ·have e2:¬cr s f:=of_decide_eq_false e2
     refine Evt.bind (P:=fun v=>f.kind=2→v=decide (f.name∈s.C4)) (Evt.gd (fun g=>Evt.pure fun _=>rfl) (fun g h=>by simp[h]at g)) fun v hv=>?_
     refine Evt.cond (fun e3=>?_) (fun e3=>?_)
     ·replace e3:=bx e3
      have:=hv e3.1
      rw[e3.2]at this
      exact Evt.chk (by unfold M5;simp;omega) (key _ _ (by unfold mkn;rw[if_neg e,if_neg e2,if_pos ⟨e3.1,of_decide_eq_true this.symm⟩];rfl) hb (by omega))
     ·refine key _ _ ?_ hb (by omega)
      unfold mkn
      rw[if_neg e,if_neg e2,if_neg fun h=>?_]
      rw[hv h.1]at e3
      simp[h.1,h.2]at e3
theorem pq(c:UInt8)(l:List Bs)(hl:l.length≤1000000)(hx:∀x∈l,x.length≤1000000):Evt (fun _=>R8 [c] l) (fun r=>r=l.map (c:: ·)):=by
 unfold R8
 refine Evt.C1 (P:=ExP (fun t=>t=l.map (c:: ·)) (fun _=>False)) ((Evt.range (fun k t=>t=(l.take k).map (c:: ·)) (fun _=>False) (fun _=>False) (by simp) (fun k t hk ht=>?_)).mono fun e he=>?_) (fun t ht=>?_) (fun _ h=>h.elim)
 ·unfold bh
  have:=hx _ (get_mem hk)
  refine Evt.chk (by unfold M5;simp;omega) (Evt.Q8 (Evt.chk ?_ (Evt.pure ?_)))
  ·rw[J4,ht];simp only[List.length_append,List.length_map,List.length_take,List.length_cons,List.length_nil];omega
  ·show _=_
   rw[D8 hk,List.map_append,ht];rfl
 ·cases e with
  |ret r=>exact he
  |nxt t=>
   have:=he.elim id False.elim
   rw[List.take_length]at this
   exact this
 ·exact Evt.pure ht
def gu(s:w9):w9:=⟨Z5 s s.form [],s.words.map (46:: ·),s.C4.map (33:: ·),s.parts.map (43:: ·)⟩
theorem Ax{s:w9}(h:Iv s):Evt (fun n=>cu n s) (fun r=>r=gu s):=by
 have hvl:=wo s
 have hl:=h.len
 have hn:∀x∈vns s,x.length≤1000000:=fun x hx=>by have:=(h.name x hx).2.1;omega
 have hnd:=h.form.2.1
 unfold cu
 refine Evt.bind (DC s s.form _ s.form (Nat.le_refl _) h.form.1 [] (by simp;omega)) fun v1 hv1=>?_
 refine Evt.bind (pq 46 s.words (by omega) fun x hx=>hn x (List.mem_append.2 (.inl (List.mem_append.2 (.inl hx))))) fun v2 hv2=>?_
 refine Evt.bind (pq 33 s.C4 (by omega) fun x hx=>hn x (List.mem_append.2 (.inl (List.mem_append.2 (.inr hx))))) fun v3 hv3=>?_
 refine Evt.bind (pq 43 s.parts (by omega) fun x hx=>hn x (List.mem_append.2 (.inr hx))) fun v4 hv4=>?_
 subst hv1 hv2 hv3 hv4
 exact Evt.pure rfl
def zf:u5:=.mk 0 [] [] []
abbrev Env:=List (Bs×w5)
theorem gZ{V:Type}(k:Bs)(v:V):∀m:List (Bs×V),assoc k (B6 k v m)=some v
 | []=>by simp[B6,assoc]
 |(a,u)::m=>by
  rw[B6]
  split
  ·simp[assoc]
  ·rename_i h
   rw[assoc,if_neg h,gZ k v m]
theorem lN{V:Type}{k k':Bs}(h:k'≠k)(v:V):∀m:List (Bs×V),assoc k' (B6 k v m)=assoc k' m
 | []=>by
   show(if k'=k then some v else assoc k' ([]:List (Bs×V)))=_
   rw[if_neg h]
 |(a,u)::m=>by
  rw[B6]
  split
  ·rename_i e
   subst e
   rw[assoc,assoc,if_neg h,if_neg h]
  ·rw[assoc,assoc,lN h v m]
open Classical in
noncomputable def oE(env:Env)(b:w5):Option Env:=match assoc b.name env with
 |none=>some (B6 b.name b env)
 |some b'=>if b'=b then some env else none
noncomputable def bW:Env→List w5→Option Env
 |env,[]=>some env
 |env,b::l=>(oE env b).bind fun e=>bW e l
theorem Ch:∀(a b:List w5) (env:Env),bW env (a++b)=(bW env a).bind fun e=>bW e b
 | [],b,env=>rfl
 |x::a,b,env=>by
  rw[List.cons_append,bW,bW]
  cases oE env x with
  |none=>rfl
  |some e=>exact Ch a b e
theorem kd{env e:Env}{b:w5}(h:oE env b=some e):assoc b.name e=some b∧(∀k c,assoc k env=some c→assoc k e=some c)∧(∀k c,assoc k e=some c→assoc k env=some c∨(b.name=k∧b=c)):=by
 unfold oE at h
 split at h
 ·rename_i h0
  cases h
  refine⟨gZ _ _ _,fun k c hc=>?_,fun k c hc=>?_⟩
  ·by_cases e:k=b.name
   ·rw[e,h0]at hc;cases hc
   ·rw[lN e];exact hc
  ·by_cases e:k=b.name
   ·rw[e,gZ]at hc
    exact .inr ⟨e.symm,Option.some.inj hc⟩
   ·rw[lN e]at hc;exact .inl hc
 ·rename_i b' h0
  split at h
  ·rename_i hb
   cases h
   exact⟨by rw[h0,hb],fun k c hc=>hc,fun k c hc=>.inl hc⟩
  ·cases h
theorem jc:∀(ps:List w5) (env e:Env),bW env ps=some e→(∀b∈ps,assoc b.name e=some b)∧(∀k c,assoc k env=some c→assoc k e=some c)∧(∀k c,assoc k e=some c→assoc k env=some c∨(∃b∈ps,b.name=k∧b=c))
 | [],env,e,h=>by cases h;exact⟨fun b hb=>(by cases hb),fun k c hc=>hc,fun k c hc=>.inl hc⟩
 |b::l,env,e,h=>by
  rw[bW]at h
  cases hp:oE env b with
  |none=>rw[hp]at h;cases h
  |some e1=>
   rw[hp]at h
   obtain⟨p1,p2,p3⟩:=kd hp
   obtain⟨r1,r2,r3⟩:=jc l e1 e h
   refine⟨fun c hc=>?_,fun k c hc=>r2 k c (p2 k c hc),fun k c hc=>?_⟩
   ·rcases List.mem_cons.1 hc with rfl|hc
    ·exact r2 _ _ p1
    ·exact r1 c hc
   ·rcases r3 k c hc with h|⟨x,hx,h1,h2⟩
    ·rcases p3 k c h with h|⟨h1,h2⟩
     ·exact .inl h
     ·exact .inr ⟨b,List.mem_cons_self ..,h1,h2⟩
    ·exact .inr ⟨x,List.mem_cons_of_mem _ hx,h1,h2⟩
def IsKey(k:Bs):Prop:=∃c t,k=c::t∧(c=33∨c=43∨c=46∨c=63)
theorem wv{x:Bs}(h:B9 x):¬IsKey x:=fun⟨c,t,e,hc⟩=>by
 have:=h.2.2.1.1
 subst e
 rcases hc with rfl|rfl|rfl|rfl<;>simp[L4]at this
def qk(b:w5):Prop:=SmF b.form∧((∃x,b.name=43::x∧b.text=[])∨(∃c x,b.name=c::x∧(c=33∨c=46∨c=63)∧b.form=zf))
def ke(env:Env):Prop:=∀k b,assoc k env=some b→b.name=k∧qk b
theorem Ay{env e:Env}{b:w5}(h:ke env)(hb:qk b)(hp:oE env b=some e):ke e:=fun k c hc=>by
 rcases(kd hp).2.2 k c hc with h1|⟨rfl,rfl⟩
 ·exact h k c h1
 ·exact⟨rfl,hb⟩
theorem wz{env e:Env}{ps:List w5}(h:ke env)(hb:∀b∈ps,qk b)(hp:bW env ps=some e):ke e:=fun k c hc=>by
 rcases(jc _ _ _ hp).2.2 k c hc with h1|⟨b,hm,h1,h2⟩
 ·exact h k c h1
 ·subst h2;exact⟨h1,hb _ hm⟩
theorem qk.key{b:w5}(h:qk b):IsKey b.name:=by
 rcases h.2 with⟨x,e,_⟩|⟨c,x,e,hc,_⟩
 ·exact⟨43,x,e,by simp⟩
 ·exact⟨c,x,e,by rcases hc with h|h|h<;>simp[h]⟩
theorem Ow:SmF zf:=by unfold zf;rw[SmF];exact⟨by decide,by decide,by rw[nS];trivial⟩
theorem Az{c:UInt8}{x y:Bs}(h:c=33∨c=46∨c=63):qk ⟨c::x,y,zf⟩:=⟨Ow,.inr ⟨c,x,rfl,h,rfl⟩⟩
def cat(a b:Option (List w5)):Option (List w5):=a.bind fun x=>b.bind fun y=>some (x++y)
theorem pz(a b:Option (List w5))(s:Env):(cat a b).bind (bW s)=(a.bind (bW s)).bind fun s'=>b.bind (bW s'):=by
 cases a with
 |none=>rfl
 |some x=>
  cases b with
  |none=>
   show none=(bW s x).bind fun s'=>none
   cases bW s x<;>rfl
  |some y=>exact Ch x y s
theorem Iw(o:Option (List w5))(b:w5)(s:Env):(o.map (b:: ·)).bind (bW s)=(oE s b).bind fun s'=>o.bind (bW s'):=by
 cases o with
 |none=>show none=_;cases oE s b<;>rfl
 |some x=>rfl
def ptw(W bd:List Bs):List Bs→List Bs→Option (List w5)
 |x::xs,y::ys=>if x∈bd then(ptw W bd xs ys).map (⟨63::x,y,zf⟩:: ·)else if x∈W then(ptw W bd xs ys).map (⟨46::x,y,zf⟩:: ·)else if x=y then ptw W bd xs ys else none
 | _,_=>some []
def pth(s:w9)(f g:u5):Option (List w5):=
 if QK f.kind then some [⟨63::f.name,g.name,zf⟩]else if f.kind=2∧f.name∈s.C4 then some [⟨33::f.name,g.name,zf⟩]else if f.name=g.name then some []else none
mutual
def pts(s:w9):u5→List Bs→u5→Option (List w5)
 | .mk k n w l,bd,g=>if cr s (.mk k n w l)then some [⟨43::n,[],g⟩]
   else if k≠g.kind∨w.length≠g.words.length then none
   else cat (pth s (.mk k n w l) g) (cat (ptw s.words bd w g.words) (mR s l (if QK k then n::bd else bd) g.subs))
def mR(s:w9):List u5→List Bs→List u5→Option (List w5)
 | [],_,_=>some []
 |f::l,bd,gs=>match gs with
  | []=>some []
  |g::gs=>cat (pts s f bd g) (mR s l bd gs)
end
theorem pY(s:w9)(f:u5)(bd:List Bs)(g:u5):pts s f bd g=if cr s f then some [⟨43::f.name,[],g⟩]else if f.kind≠g.kind∨f.words.length≠g.words.length then none else cat (pth s f g) (cat (ptw s.words bd f.words g.words) (mR s f.subs (if QK f.kind then f.name::bd else bd) g.subs)):=by cases f;rw[pts];rfl
theorem Gd{a b:Option (List w5)}{Q:w5→Prop}(ha:∀x,a=some x→∀c∈x,Q c)(hb:∀x,b=some x→∀c∈x,Q c):∀x,cat a b=some x→∀c∈x,Q c:=fun x hx c hc=>by
 unfold cat at hx
 cases a with
 |none=>cases hx
 |some y=>
  cases b with
  |none=>cases hx
  |some z=>
   cases hx
   rcases List.mem_append.1 hc with h|h
   ·exact ha y rfl c h
   ·exact hb z rfl c h
theorem JA(W bd:List Bs):∀(xs ys:List Bs) (ps:List w5),ptw W bd xs ys=some ps→∀b∈ps,qk b
 | [],ys,ps,h,b,hb=>by rw[ptw]at h;cases h;cases hb;simp
 |x::xs,[],ps,h,b,hb=>by rw[ptw]at h;cases h;cases hb;simp
 |x::xs,y::ys,ps,h,b,hb=>by
  rw[ptw]at h
  have ih:=JA W bd xs ys
  have mp:∀c:w5,qk c→(ptw W bd xs ys).map (c:: ·)=some ps→qk b:=fun c hc h=>by
   cases hp:ptw W bd xs ys with
   |none=>rw[hp]at h;cases h
   |some q=>
    rw[hp]at h;cases h
    rcases List.mem_cons.1 hb with rfl|hb
    ·exact hc
    ·exact ih q hp b hb
  split at h
  ·exact mp _ (Az (.inr (.inr rfl))) h
  ·split at h
   ·exact mp _ (Az (.inr (.inl rfl))) h
   ·split at h
    ·exact ih ps h b hb
    ·cases h
theorem Ox(s:w9)(f g:u5)(ps:List w5)(h:pth s f g=some ps):∀b∈ps,qk b:=fun b hb=>by
 unfold pth at h
 split at h
 ·cases h
  rw[List.mem_singleton]at hb;subst hb
  exact Az (.inr (.inr rfl))
 ·split at h
  ·cases h
   rw[List.mem_singleton]at hb;subst hb
   exact Az (.inl rfl)
  ·split at h
   ·cases h;cases hb
   ·cases h
mutual
theorem yJ(s:w9):∀(f:u5) (bd:List Bs) (g:u5),SmF g→∀ps,pts s f bd g=some ps→∀b∈ps,qk b
 | .mk k n w l,bd,g,hg,ps,h,b,hb=>by
   rw[pts]at h
   split at h
   ·cases h
    rw[List.mem_singleton]at hb;subst hb
    exact⟨hg,.inl ⟨n,rfl,rfl⟩⟩
   ·split at h
    ·cases h
    ·exact Gd (fun x hx=>Ox s _ g x hx) (Gd (fun x hx=>JA _ _ _ _ x hx) (fun x hx=>Ge s l _ g.subs ((sQ g).1 hg).2.2 x hx)) ps h b hb
theorem Ge(s:w9):∀(l:List u5) (bd:List Bs) (gs:List u5),nS gs→∀ps,mR s l bd gs=some ps→∀b∈ps,qk b
 | [],bd,gs,hg,ps,h,b,hb=>by rw[mR]at h;cases h;cases hb
 |f::l,bd,[],hg,ps,h,b,hb=>by rw[mR]at h;cases h;cases hb
 |f::l,bd,g::gs,hg,ps,h,b,hb=>by
  rw[mR]at h
  rw[nS]at hg
  exact Gd (fun x hx=>yJ s f bd g hg.1 x hx) (fun x hx=>Ge s l bd gs hg.2 x hx) ps h b hb
end
theorem Ix(a b:List Bs):J7 a b=some (decide (a=b)):=by
 have h:Evt (fun _=>J7 a b) (fun r=>r=decide (a=b)):=by
  unfold J7
  refine Evt.cond (fun e=>Evt.pure ?_) (fun e=>?_)
  ·replace e:=bx e
   exact(decide_eq_false fun h=>e (by rw[h])).symm
  replace e:=bx e
  have hl:a.length=b.length:=by omega
  refine Evt.C1 (Evt.scan (fun k _=>a.take k=b.take k) (fun k r=>r=false∧Am.get a k≠Am.get b k) (by simp) (fun k u hk hi=>?_)) (fun t ht=>?_) (fun r hr=>?_)
  ·unfold O6
   refine Evt.chk (by omega) (Evt.cond (fun e=>Evt.pure ?_) (fun e=>Evt.pure ?_))
   ·replace e:=bx e
    exact⟨rfl,e⟩
   ·replace e:=bx e
    show a.take (k+1)=b.take (k+1)
    rw[D8 hk,D8 (l:=b) (by omega),hi,e]
  ·unfold O7
   refine Evt.pure (decide_eq_true ?_).symm
   have ht:a.take a.length=b.take a.length:=ht
   rw[List.take_length,hl,List.take_length]at ht
   exact ht
  ·obtain⟨k,_,_,_,rfl,h⟩:=hr
   exact(decide_eq_false fun e=>h (by rw[e])).symm
 obtain⟨r,rfl,N,hN⟩:=h
 exact hN N (Nat.le_refl _)
open Classical in
theorem Gf:∀(m:Nat) (f:u5),SizeOf.sizeOf f≤m→SmF f→∀g:u5,Evt (fun n=>dL n f g) (fun r=>r=decide (f=g)):=by
 intro m
 induction m with
 |zero=>intro f h;cases f;simp only[u5.mk.sizeOf_spec]at h;omega
 |succ m ih=>
  intro f hf hsm g
  obtain⟨_,hsl,hsm⟩:=(sQ f).1 hsm
  refine Evt.succ ?_
  simp only[dL,Ix]
  refine Evt.bind (P:=fun v=>f.kind=g.kind→f.name=g.name→v=decide (f.words=g.words)) (Evt.gd (fun _=>Evt.pure fun _ _=>by congr) (fun h h1 h2=>by simp[h1,h2]at h)) fun v hv=>?_
  refine Evt.cond (fun e=>Evt.pure (decide_eq_false fun h=>?_).symm) (fun e=>?_)
  ·subst h
   have:=hv rfl rfl
   simp[this]at e
  have e1:f.kind=g.kind:=Classical.byContradiction fun h=>by simp[h]at e
  have e2:f.name=g.name:=Classical.byContradiction fun h=>by simp[h]at e
  have e3:f.words=g.words:=Classical.byContradiction fun h=>by have:=hv e1 e2;rw[decide_eq_false h]at this;simp[this]at e
  have e4:f.subs.length=g.subs.length:=Classical.byContradiction fun h=>by
   have:¬((f.subs.length:Int)=(g.subs.length:Int)):=by omega
   rw[decide_eq_false this]at e
   revert e
   cases (bif bif !decide (f.kind=g.kind)then true else !decide (f.name=g.name)then true else !v)<;>simp
  refine Evt.chk (by omega) (Evt.C1 (Evt.scan (fun k _=>f.subs.take k=g.subs.take k) (fun k r=>r=false∧Am.get f.subs k≠Am.get g.subs k) (by simp) (fun k u hk hi=>?_)) (fun t ht=>?_) (fun r hr=>?_))
  ·unfold fV
   have hsz:=I6 hk
   refine Evt.chk (by omega) (Evt.bind (ih _ (by omega) (nT hsm _ (get_mem hk)) _) fun v2 hv2=>Evt.cond (fun e=>Evt.pure ?_) (fun e=>Evt.pure ?_))
   ·subst hv2
    exact⟨rfl,fun h=>by rw[decide_eq_true h]at e;cases e⟩
   ·subst hv2
    have h:Am.get f.subs k=Am.get g.subs k:=Classical.byContradiction fun h=>by rw[decide_eq_false h]at e;cases e
    show f.subs.take (k+1)=g.subs.take (k+1)
    rw[D8 hk,D8 (l:=g.subs) (by omega),hi,h]
  ·unfold fW
   refine Evt.pure (decide_eq_true ?_).symm
   have ht:f.subs.take f.subs.length=g.subs.take f.subs.length:=ht
   rw[List.take_length,e4,List.take_length]at ht
   cases f;cases g
   simp only[u5.kind,u5.name,u5.words,u5.subs]at*
   rw[e1,e2,e3,ht]
  ·obtain⟨k,_,_,_,rfl,h⟩:=hr
   exact(decide_eq_false fun e=>h (by rw[e])).symm
def RM(o:Option Env)(r:Bool×Env):Prop:=(∀e,o=some e→r=(true,e))∧(o=none→r.1=false)
theorem sS{env:Env}(he:ke env){c:UInt8}(hc:c=33∨c=46∨c=63)(x y:Bs):Evt (fun _=>U3 (c::x) y env) (RM (oE env ⟨c::x,y,zf⟩)):=by
 unfold U3 oE
 cases h:assoc (c::x) env with
 |none=>
  refine Evt.cond (fun e=>by simp at e) (fun _=>Evt.Q8 (Evt.pure ?_))
  simp only[h]
  exact⟨fun e he=>by cases he;rfl,fun he=>by cases he⟩
 |some b=>
  refine Evt.cond (fun _=>Evt.pure ?_) (fun e=>by simp at e)
  simp only[h]
  obtain⟨h1,h2⟩:=he _ _ h
  have hiff:b=⟨c::x,y,zf⟩↔b.text=y:=by
   constructor
   ·intro e;rw[e]
   ·intro e
    obtain⟨_,h2⟩:=h2
    rcases h2 with⟨z,e1,_⟩|⟨c',z,e1,hc',e2⟩
    ·rw[h1]at e1
     have:=(List.cons.inj e1).1
     rcases hc with rfl|rfl|rfl<;>cases this
    ·cases b
     simp only at h1 e2 e
     rw[h1,e,e2]
  by_cases hb:b.text=y
  ·rw[if_pos (hiff.2 hb)]
   refine⟨fun e he=>?_,fun he=>by cases he⟩
   cases he
   show(decide (((some b).getD default).text=y),env)=_
   rw[decide_eq_true (show((some b).getD default).text=y from hb)]
  ·rw[if_neg fun e=>hb (hiff.1 e)]
   exact⟨fun e he=>(by cases he),fun _=>decide_eq_false hb⟩
def Has(bd:List Bs)(env:Env):Prop:=∀x∈bd,(assoc (63::x) env).isSome=true
theorem Has.mono{bd:List Bs}{env e:Env}(h:Has bd env)(hm:∀k c,assoc k env=some c→assoc k e=some c):Has bd e:=fun x hx=>by
 obtain⟨c,hc⟩:=Option.isSome_iff_exists.1 (h x hx)
 rw[hm _ _ hc];rfl
theorem jd{c:UInt8}{x:Bs}{l:List Bs}:(c::x)∈l.map (c:: ·)↔x∈l:=by
 rw[List.mem_map]
 exact⟨fun⟨y,hy,e⟩=>(List.cons.inj e).2▸hy,fun h=>⟨x,h,rfl⟩⟩
theorem AA{c:UInt8}(hc:c=33∨c=43∨c=46∨c=63){k:Bs}{l:List Bs}(h:k∈l.map (c:: ·)):IsKey k:=by
 obtain⟨y,_,rfl⟩:=List.mem_map.1 h
 exact⟨c,y,rfl,hc⟩
theorem Iy{env:Env}(he:ke env){x:Bs}(hx:¬IsKey x):assoc x env=none:=by
 cases h:assoc x env with
 |none=>rfl
 |some b=>
  obtain⟨h1,h2⟩:=he _ _ h
  exact absurd (h1▸h2.key) hx
section
variable {s:w9}
theorem Ci{xs:List Bs}{k:Nat}(h:k<xs.length):xs.drop k=Am.get xs k::xs.drop (k+1):=KN h
theorem KQ(W bd ys:List Bs):ptw W bd [] ys=some []:=by cases ys<;>simp[ptw]
theorem Cj(env:Env)(b:w5):bW env [b]=oE env b:=by
 rw[bW]
 cases oE env b<;>rfl
theorem Ck{f g:u5}(hf:WfF f)(hlen:f.words.length=g.words.length)(bd:List Bs){env:Env}(he:ke env)(hh:Has bd env):
 Evt (fun _=>F2 (aJ (Z5 s f bd) (gu s) g) (Z5 s f bd).words.length env) (ExP (fun t=>(ptw s.words bd f.words g.words).bind (bW env)=some t∧ke t∧Has bd t) (fun r=>(ptw s.words bd f.words g.words).bind (bW env)=none∧r.1=false)):=by
 have hml:(Z5 s f bd).words.length=f.words.length:=by rw[eO];exact List.length_map _
 rw[hml]
 refine(Evt.range (fun k t=>(ptw s.words bd f.words g.words).bind (bW env)=(ptw s.words bd (f.words.drop k) (g.words.drop k)).bind (bW t)∧ke t∧Has bd t) (fun _=>False) (fun r=>(ptw s.words bd f.words g.words).bind (bW env)=none∧r.1=false) ⟨rfl,he,hh⟩ (fun k t hk ht=>?_)).mono fun e h=>?_
 ·obtain⟨ht,hte,hth⟩:=ht
  have hkg:k<g.words.length:=by omega
  have hkm:Am.get (Z5 s f bd).words k=mkw s.words bd (Am.get f.words k):=by rw[eO];exact get_map _ hk
  rw[Ci hk,Ci hkg,ptw]at ht
  unfold aJ
  simp only[hkm,F9]
  have nx:¬IsKey (Am.get f.words k):=wv (Aw hf (get_mem hk))
  have fin:∀(c:UInt8),c=46∨c=63→(ptw s.words bd f.words g.words).bind (bW env)=((ptw s.words bd (f.words.drop (k+1)) (g.words.drop (k+1))).map (⟨c::Am.get f.words k,Am.get g.words k,zf⟩:: ·)).bind (bW t)→
   Evt (fun _:Nat=>chk ((k:Int)<(g.words.length:Int)) <| (U3 (c::Am.get f.words k) (Am.get g.words k) t).bind fun v14=>bif (!v14.1)then some (Ctl.ret (τ:=Env) (false,v14.2))else some (.nxt v14.2)) (Jt (fun t=>(ptw s.words bd f.words g.words).bind (bW env)=(ptw s.words bd (f.words.drop (k+1)) (g.words.drop (k+1))).bind (bW t)∧ke t∧Has bd t) (fun _=>False) (fun r=>(ptw s.words bd f.words g.words).bind (bW env)=none∧r.1=false)):=by
   intro c hc ht
   rw[Iw]at ht
   refine Evt.chk (by omega) (Evt.bind (sS hte (hc.elim (fun h=>.inr (.inl h)) fun h=>.inr (.inr h)) _ _) fun v hv=>?_)
   cases hp:oE t ⟨c::Am.get f.words k,Am.get g.words k,zf⟩with
   |none=>
    rw[hp]at ht hv
    have h1:=hv.2 rfl
    refine Evt.cond (fun _=>Evt.pure ⟨ht,rfl⟩) (fun e=>by rw[h1]at e;cases e)
   |some t'=>
    rw[hp]at ht hv
    have h1:=hv.1 _ rfl
    subst h1
    refine Evt.cond (fun e=>by cases e) (fun _=>Evt.pure ⟨ht,Ay hte (Az (hc.elim (fun h=>.inr (.inl h)) fun h=>.inr (.inr h))) hp,hth.mono (kd hp).2.1⟩)
  by_cases h1:Am.get f.words k∈bd
  ·rw[if_pos h1]at ht
   have e1:mkw s.words bd (Am.get f.words k)=63::Am.get f.words k:=by unfold mkw;rw[if_pos h1]
   rw[e1]
   have h2:=hth _ h1
   simp only[h2]
   exact fin 63 (.inr rfl) ht
  ·rw[if_neg h1]at ht
   by_cases h2:Am.get f.words k∈s.words
   ·rw[if_pos h2]at ht
    have e1:mkw s.words bd (Am.get f.words k)=46::Am.get f.words k:=by unfold mkw;rw[if_neg h1,if_pos h2]
    rw[e1]
    have h3:decide (46::Am.get f.words k∈(gu s).words)=true:=decide_eq_true (jd.2 h2)
    simp only[h3]
    cases h4:(assoc (46::Am.get f.words k) t).isSome
    ·exact fin 46 (.inl rfl) ht
    ·exact fin 46 (.inl rfl) ht
   ·rw[if_neg h2]at ht
    have e1:mkw s.words bd (Am.get f.words k)=Am.get f.words k:=by unfold mkw;rw[if_neg h1,if_neg h2]
    rw[e1]
    have h3:(assoc (Am.get f.words k) t).isSome=false:=by rw[Iy hte nx];rfl
    have h4:decide (Am.get f.words k∈(gu s).words)=false:=decide_eq_false fun h=>nx (AA (.inr (.inr (.inl rfl))) h)
    simp only[h3,h4]
    refine Evt.chk (by omega) (Evt.cond (fun e=>Evt.pure ?_) (fun e=>Evt.pure ?_))
    ·replace e:=bx e
     rw[if_neg e]at ht
     exact⟨ht,rfl⟩
    ·replace e:=bx e
     rw[if_pos e]at ht
     exact⟨ht,hte,hth⟩
 ·cases e with
  |ret r=>exact h
  |nxt t=>
   obtain⟨h1,h2,h3⟩:=h.elim id False.elim
   rw[List.drop_length,KQ]at h1
   exact⟨h1,h2,h3⟩
open Classical in
theorem Oy:∀(m:Nat) (f:u5),SizeOf.sizeOf f≤m→WfF f→∀(g:u5),WfF g→∀(bd:List Bs) (env:Env),ke env→Has bd env→
 Evt (fun n=>E5 n (gu s) (Z5 s f bd) g env) (RM ((pts s f bd g).bind (bW env))):=by
 intro m
 induction m with
 |zero=>intro f h;cases f;simp only[u5.mk.sizeOf_spec]at h;omega
 |succ m ih=>
  intro f hf hwf g hwg bd env he hh
  have hnf:=Z8 ((Z4 f).1 hwf).1
  have hng:=Z8 ((Z4 g).1 hwg).1
  have hml:(Z5 s f bd).words.length=f.words.length:=by rw[eO];exact List.length_map _
  have hmk:(Z5 s f bd).kind=f.kind:=by rw[eO];rfl
  have hmn:(Z5 s f bd).name=mkn s f:=by rw[eO];rfl
  have hms:(Z5 s f bd).subs=S7 s f.subs (if QK f.kind then f.name::bd else bd):=by rw[eO];rfl
  have hk2:f.kind=2→¬QK f.kind:=fun h=>by unfold QK;omega
  have hplain:f.kind=2→¬IsKey f.name:=fun h=>wv (hnf.2.2.1 (.inl h))
  have hpart:cr (gu s) (Z5 s f bd)↔cr s f:=by
   unfold cr
   rw[hmk,hml,hmn]
   constructor
   ·rintro⟨h1,h2⟩
    refine⟨h1,?_⟩
    unfold mkn at h2
    rw[if_neg (hk2 h1.1)]at h2
    split at h2
    ·rename_i h3;exact h3.2
    ·exfalso
     obtain⟨y,_,e⟩:=List.mem_map.1 h2
     split at e
     ·cases (List.cons.inj e).1
     ·exact hplain h1.1 (e▸ ⟨43,y,rfl,by simp⟩)
   ·rintro⟨h1,h2⟩
    refine⟨h1,?_⟩
    unfold mkn
    rw[if_neg (hk2 h1.1),if_pos (show cr s f from⟨h1,h2⟩)]
    exact jd.2 h2
  refine Evt.succ ?_
  simp only[E5,pe,Option.bind_some,aX,F9,hmk,hml,hmn]
  rw[pY]
  refine Evt.cond (fun e=>?_) (fun e=>?_)
  ·have hp:cr s f:=hpart.1 (of_decide_eq_true e)
   rw[if_pos hp]
   have QT:mkn s f=43::f.name:=by unfold mkn;rw[if_neg (hk2 hp.1.1),if_pos hp]
   rw[QT]
   show Evt _ (RM (bW env [_]))
   rw[Cj]
   unfold oE
   cases h:assoc (43::f.name) env with
   |none=>
    refine Evt.cond (fun e=>by simp at e) (fun _=>Evt.Q8 (Evt.pure ?_))
    exact⟨fun e he=>by cases he;rfl,fun he=>by cases he⟩
   |some b=>
    refine Evt.cond (fun _=>?_) (fun e=>by simp at e)
    obtain⟨h1,h2⟩:=he _ _ h
    have hsm:=h2.1
    have htx:b.text=[]:=by
     rcases h2.2 with⟨z,e1,e2⟩|⟨c',z,e1,hc',e2⟩
     ·exact e2
     ·rw[h1]at e1
      have:=(List.cons.inj e1).1
      rcases hc' with rfl|rfl|rfl<;>cases this
    have hiff:b=⟨43::f.name,[],g⟩↔b.form=g:=by
     constructor
     ·intro e;rw[e]
     ·intro e
      cases b
      simp only at h1 htx e
      rw[h1,htx,e]
    refine Evt.bind (Gf _ b.form (Nat.le_refl _) hsm g) fun v hv=>Evt.pure ?_
    subst hv
    by_cases hb:b.form=g
    ·simp only[if_pos (hiff.2 hb),decide_eq_true hb]
     exact⟨fun e he=>by cases he;rfl,fun he=>by cases he⟩
    ·simp only[if_neg fun e=>hb (hiff.1 e),decide_eq_false hb]
     exact⟨fun e he=>(by cases he),fun _=>rfl⟩
  have hp:¬cr s f:=fun h=>(of_decide_eq_false e) (hpart.2 h)
  rw[if_neg hp]
  refine Evt.cond (fun e=>Evt.pure ?_) (fun e=>?_)
  ·have hc:f.kind≠g.kind∨f.words.length≠g.words.length:=Classical.byContradiction fun h=>by
    obtain⟨h1,h2⟩:=not_or.1 h
    have h1:=Classical.not_not.1 h1
    have h2:=Classical.not_not.1 h2
    simp[h1,h2]at e
   rw[if_pos hc]
   exact⟨fun e he=>(by cases he),fun _=>rfl⟩
  have hk:f.kind=g.kind:=Classical.byContradiction fun h=>by simp[h]at e
  have hl:f.words.length=g.words.length:=Classical.byContradiction fun h=>by
   have:¬((f.words.length:Int)=(g.words.length:Int)):=by omega
   simp[this]at e
  rw[if_neg fun h=>h.elim (fun h=>h hk) (fun h=>h hl),pz]
  have hsl:f.subs.length=g.subs.length:=by have:=hnf.1;have:=hng.1;rw[hk]at *; omega
  have rest:∀DE:Env,ke DE→Has bd DE→Has (if QK f.kind then f.name::bd else bd) DE→Evt (fun n=>L6 (E5 n) (Z5 s f bd) (gu s) g DE) (RM ((cat (ptw s.words bd f.words g.words) (mR s f.subs (if QK f.kind then f.name::bd else bd) g.subs)).bind (bW DE))):=by
   intro DE he1 hh1 QU
   rw[pz]
   unfold L6
   refine Evt.C1 (Ck hwf hl bd he1 hh1) (fun t ht=>?_) (fun r hr=>?_)
   ·obtain⟨ht,hte,hth⟩:=ht
    have hmono:Has (if QK f.kind then f.name::bd else bd) t:=by
     cases hw:ptw s.words bd f.words g.words with
     |none=>rw[hw]at ht;cases ht
     |some ps=>rw[hw]at ht;exact QU.mono (jc _ _ _ ht).2.1
    rw[ht]
    unfold aK
    rw[hms,lM]
    refine Evt.C1 (P:=ExP (fun t'=>(mR s f.subs (if QK f.kind then f.name::bd else bd) g.subs).bind (bW t)=some t') (fun r=>(mR s f.subs (if QK f.kind then f.name::bd else bd) g.subs).bind (bW t)=none∧r.1=false)) ((Evt.range (fun k t'=>(mR s f.subs (if QK f.kind then f.name::bd else bd) g.subs).bind (bW t)=(mR s (f.subs.drop k) (if QK f.kind then f.name::bd else bd) (g.subs.drop k)).bind (bW t')∧ke t'∧Has (if QK f.kind then f.name::bd else bd) t') (fun _=>False) (fun r=>(mR s f.subs (if QK f.kind then f.name::bd else bd) g.subs).bind (bW t)=none∧r.1=false) ⟨rfl,hte,hmono⟩ (fun k t' hk ht'=>?_)).mono fun e h=>?_) (fun t' ht'=>?_) (fun r hr=>?_)
    ·obtain⟨ht',Oz,OA⟩:=ht'
     have hkg:k<g.subs.length:=by omega
     have hkm:Am.get (Z5 s f bd).subs k=Z5 s (Am.get f.subs k) (if QK f.kind then f.name::bd else bd):=by
      rw[hms]
      have:∀(l:List u5) (bd:List Bs) (k:Nat),k<l.length→Am.get (S7 s l bd) k=Z5 s (Am.get l k) bd:=by
       intro l
       induction l with
       |nil=>intro bd k h;cases h
       |cons a l ih=>
        intro bd k h
        rw[S7]
        cases k with
        |zero=>rfl
        |succ k=>exact ih bd k (by simpa using h)
      exact this _ _ _ hk
     have e1:f.subs.drop k=Am.get f.subs k::f.subs.drop (k+1):=by rw[List.drop_eq_getElem_cons hk];simp[Am.get,hk]
     have e2:g.subs.drop k=Am.get g.subs k::g.subs.drop (k+1):=by rw[List.drop_eq_getElem_cons hkg];simp[Am.get,hkg]
     rw[e1,e2,mR,pz]at ht'
     unfold aL
     simp only[hkm]
     have hsz:=I6 hk
     refine Evt.chk (by omega) (Evt.bind (ih _ (by omega) (sK hwf hk) _ (sK hwg hkg) _ t' Oz OA) fun v hv=>?_)
     cases hp:(pts s (Am.get f.subs k) (if QK f.kind then f.name::bd else bd) (Am.get g.subs k)).bind (bW t')with
     |none=>
      rw[hp]at ht' hv
      have h1:=hv.2 rfl
      exact Evt.cond (fun _=>Evt.pure ⟨ht',rfl⟩) (fun e=>by rw[h1]at e;cases e)
     |some t''=>
      rw[hp]at ht' hv
      have h1:=hv.1 _ rfl
      subst h1
      refine Evt.cond (fun e=>by cases e) (fun _=>Evt.pure ⟨ht',?_,?_⟩)
      ·cases hq:pts s (Am.get f.subs k) (if QK f.kind then f.name::bd else bd) (Am.get g.subs k)with
       |none=>rw[hq]at hp;cases hp
       |some ps=>rw[hq]at hp;exact wz Oz (yJ s _ _ _ (WfF.sm _ (sK hwg hkg)) ps hq) hp
      ·cases hq:pts s (Am.get f.subs k) (if QK f.kind then f.name::bd else bd) (Am.get g.subs k)with
       |none=>rw[hq]at hp;cases hp
       |some ps=>rw[hq]at hp;exact OA.mono (jc _ _ _ hp).2.1
    ·cases e with
     |ret r=>exact h
     |nxt t'=>
      obtain⟨h1,h2,h3⟩:=h.elim id False.elim
      rw[List.drop_length,mR]at h1
      exact h1
    ·unfold aM
     have ht':(mR s f.subs (if QK f.kind then f.name::bd else bd) g.subs).bind (bW t)=some t':=ht'
     refine Evt.pure ?_
     show RM ((some t).bind _) _
     rw[Option.bind_some,ht']
     exact⟨fun e he=>by cases he;rfl,fun he=>by cases he⟩
    ·show RM ((some t).bind _) _
     rw[Option.bind_some,hr.1]
     exact⟨fun e he=>(by cases he),fun _=>hr.2⟩
   ·rw[hr.1]
    exact⟨fun e he=>(by cases he),fun _=>hr.2⟩
  have OB:∀c:UInt8,c=33∨c=63→mkn s f=c::f.name→pth s f g=some [⟨c::f.name,g.name,zf⟩]→(QK f.kind→c=63)→Evt (fun n=>G8 (E5 n) (Z5 s f bd) g env (gu s) true) (RM (((pth s f g).bind (bW env)).bind fun s'=>(cat (ptw s.words bd f.words g.words) (mR s f.subs (if QK f.kind then f.name::bd else bd) g.subs)).bind (bW s'))):=by
   intro c hc hm hpt hq
   have hc3:c=33∨c=46∨c=63:=hc.elim .inl fun h=>.inr (.inr h)
   unfold G8
   simp only[cond_true,hmn,hm,hpt]
   have e0:(some [(⟨c::f.name,g.name,zf⟩:w5)]).bind (bW env)=oE env ⟨c::f.name,g.name,zf⟩:=by
    show bW env [_]=_
    rw[bW]
    cases oE env ⟨c::f.name,g.name,zf⟩<;>rfl
   rw[e0]
   refine Evt.bind (sS he hc3 f.name g.name) fun v hv=>?_
   cases hp:oE env ⟨c::f.name,g.name,zf⟩with
   |none=>
    rw[hp]at hv
    have h1:=hv.2 rfl
    exact Evt.cond (fun _=>Evt.pure ⟨fun e he=>(by cases he),fun _=>rfl⟩) (fun e=>by rw[h1]at e;cases e)
   |some t=>
    rw[hp]at hv
    have h1:=hv.1 _ rfl
    subst h1
    refine Evt.cond (fun e=>by cases e) (fun _=>?_)
    have hm1:=hh.mono (kd hp).2.1
    refine rest t (Ay he (Az hc3) hp) hm1 ?_
    by_cases hqk:QK f.kind
    ·rw[if_pos hqk]
     intro x hx
     rcases List.mem_cons.1 hx with rfl|hx
     ·have:=(kd hp).1
      obtain rfl:=hq hqk
      show(assoc (63::f.name) t).isSome=true
      rw[show assoc (63::f.name) t=some _ from this];rfl
     ·exact hm1 x hx
    ·rw[if_neg hqk];exact hm1
  refine Evt.cond (fun e=>?_) (fun e=>?_)
  ·have hq:QK f.kind:=of_decide_eq_true e
   rw[e]
   exact OB 63 (.inr rfl) (by unfold mkn;rw[if_pos hq]) (by unfold pth;rw[if_pos hq]) (fun _=>rfl)
  ·have hq:¬QK f.kind:=of_decide_eq_false e
   have DF:mkn s f=if f.kind=2∧f.name∈s.C4 then 33::f.name else f.name:=by unfold mkn;rw[if_neg hq,if_neg hp]
   refine Evt.bind (P:=fun v=>f.kind=2→v=decide (mkn s f∈(gu s).C4)) (Evt.gd (fun _=>Evt.pure fun _=>rfl) (fun g h=>by simp[h]at g)) fun v hv=>?_
   by_cases hpr:f.kind=2∧f.name∈s.C4
   ·rw[if_pos hpr]at DF
    have h1:=hv hpr.1
    rw[DF,decide_eq_true (show(33::f.name:Bs)∈(gu s).C4 from jd.2 hpr.2)]at h1
    have e2:(bif decide (f.kind=2)then v else false)=true:=by simp[hpr.1,h1]
    rw[e2]
    exact OB 33 (.inl rfl) DF (by unfold pth;rw[if_neg hq,if_pos hpr]) (fun h=>absurd h hq)
   ·rw[if_neg hpr]at DF
    have e2:(bif decide (f.kind=2)then v else false)=false:=by
     by_cases h2:f.kind=2
     ·have h1:=hv h2
      rw[DF,decide_eq_false (show ¬f.name∈(gu s).C4 from fun h=>hplain h2 (AA (.inl rfl) h))]at h1
      simp[h1]
     ·simp[h2]
    rw[e2]
    have hpt:pth s f g=if f.name=g.name then some []else none:=by unfold pth;rw[if_neg hq,if_neg hpr]
    unfold G8
    simp only[cond_false,hmn,DF,hpt]
    refine Evt.cond (fun e=>Evt.pure ?_) (fun e=>?_)
    ·replace e:=bx e
     rw[if_neg e]
     exact⟨fun e he=>(by cases he),fun _=>rfl⟩
    ·replace e:=bx e
     rw[if_pos e]
     exact rest env he hh (by rw[if_neg hq];exact hh)
end
mutual
theorem Cl(s:w9):∀(f:u5) (bd:List Bs),ndF (Z5 s f bd)=ndF f
 | .mk k n w l,bd=>by rw[Z5,ndF,ndF,yK s l]
theorem yK(s:w9):∀(l:List u5) (bd:List Bs),T6 (S7 s l bd)=T6 l
 | [],bd=>by rw[S7]
 |f::l,bd=>by rw[S7,T6,T6,Cl s f,yK s l]
end
mutual
theorem Cm(s:w9):∀(f:u5) (bd:List Bs),qs (Z5 s f bd)=(qs f).map (63:: ·)
 | .mk k n w l,bd=>by
   rw[Z5,qs,qs,yL s l,List.map_append]
   by_cases h:QK k
   ·have:mkn s (.mk k n w l)=63::n:=by unfold mkn;exact if_pos h
    simp only[if_pos h,this];rfl
   ·simp only[if_neg h];rfl
theorem yL(s:w9):∀(l:List u5) (bd:List Bs),qsL (S7 s l bd)=(qsL l).map (63:: ·)
 | [],bd=>by rw[S7,qsL];rfl
 |f::l,bd=>by rw[S7,qsL,qsL,Cm s f,yL s l,List.map_append]
end
theorem Iz:∀(m:Nat) (f:u5),SizeOf.sizeOf f≤m→SmF f→Evt (fun n=>cw n f) (fun r=>r=f):=by
 intro m
 induction m with
 |zero=>intro f h;cases f;simp only[u5.mk.sizeOf_spec]at h;omega
 |succ m ih=>
  intro f hf hsm
  obtain⟨_,hsl,hsm⟩:=(sQ f).1 hsm
  refine Evt.succ ?_
  simp only[cw,T4,Option.bind_some]
  refine Evt.C1 (P:=ExP (fun t=>t=f.subs) (fun _=>False)) ((Evt.range (fun k t=>t=f.subs.take k) (fun _=>False) (fun _=>False) (by simp) (fun k t hk ht=>?_)).mono fun e he=>?_) (fun t ht=>?_) (fun _ h=>h.elim)
  ·unfold eP
   have hsz:=I6 hk
   refine Evt.bind (ih _ (by omega) (nT hsm _ (get_mem hk))) fun v hv=>Evt.Q8 (Evt.chk ?_ (Evt.pure ?_))
   ·rw[J4,ht];simp only[List.length_append,List.length_take,List.length_cons,List.length_nil];omega
   ·show _=_
    rw[hv,ht,D8 hk]
  ·cases e with
   |ret r=>exact he
   |nxt t=>
    have:=he.elim id False.elim
    rw[List.take_length]at this
    exact this
  ·have ht:t=f.subs:=ht
   subst ht
   unfold eR
   refine Evt.pure ?_
   cases f;rfl
theorem yM(x:Bs)(l:List Bs)(hl:l.length≤8000000):E3 x l=some (decide (x∈l)):=by
 have h:Evt (fun _=>E3 x l) (fun r=>r=decide (x∈l)):=by
  unfold E3 P6
  refine Evt.bind (P:=fun r=>0≤r↔x∈l) (Evt.chk (by omega) (Evt.C1 (Evt.scan (fun k _=>∀j,j<k→Am.get l j≠x) (fun k r=>r=(k:Int)∧Am.get l k=x) (fun j hj=>absurd hj (Nat.not_lt_zero _)) (fun k u hk hi=>?_)) (fun t ht=>?_) (fun r hr=>?_))) fun v hv=>Evt.pure ?_
  ·unfold M0
   refine Evt.cond (fun e=>Evt.pure ?_) (fun e=>Evt.pure ?_)
   ·replace e:=bx e
    exact⟨rfl,e.symm⟩
   ·replace e:=bx e
    intro j hj
    by_cases ej:j=k
    ·subst ej;exact fun h=>e h.symm
    ·exact hi j (by omega)
  ·unfold M1
   refine Evt.pure ⟨fun h=>absurd h (by decide),fun h=>?_⟩
   obtain⟨j,hj,e⟩:=V7.1 h
   exact absurd e (ht j hj)
  ·obtain⟨k,_,hk,_,rfl,e⟩:=hr
   exact⟨fun _=>V7.2 ⟨k,hk,e⟩,fun _=>by omega⟩
  ·by_cases h:x∈l
   ·simp[h,hv.2 h]
   ·have h3:¬0≤v:=fun h2=>h (hv.1 h2)
    simp only[h,h3,decide_false]
 obtain⟨r,rfl,N,hN⟩:=h
 exact hN N (Nat.le_refl _)
def gy(s:w9):List Bs:=(s.words.map (46:: ·)++s.C4.map (33:: ·)++s.parts.map (43:: ·))++(qs s.form).map (63:: ·)
def txE(e:Env)(k:Bs):Bs:=((assoc k e).getD default).text
def fmE(e:Env)(k:Bs):u5:=((assoc k e).getD default).form
def caught(s:w9)(e:Env):Prop:=∃w∈s.words,txE e (46::w)∈(qs s.form).map fun x=>txE e (63::x)
open Classical in
noncomputable def DG(s:w9)(g:u5):List w5×Bool:=match (pts s s.form [] g).bind (bW [])with
 |none=>([],false)
 |some e=>if caught s e then([],false)else((gy s).map fun k=>⟨k.drop 1,txE e k,fmE e k⟩,true)
theorem OC{e:Env}(h:ke e)(k:Bs):SmF (fmE e k):=by
 unfold fmE
 cases hk:assoc k e with
 |none=>exact Ow
 |some b=>exact(h k b hk).2.1
theorem KR(u:Nat):∀c∈Lib.decDigits u,48≤c.toNat∧c.toNat≤57:=by
 induction u using Nat.strongRecOn with
 | _ u ih=>
   have one:∀v:Nat,v<10→48≤(UInt8.ofNat (48+v)).toNat∧(UInt8.ofNat (48+v)).toNat≤57:=fun v hv=>by
    simp only[UInt8.toNat_ofNat'];omega
   intro c hc
   by_cases h:u<10
   ·rw[Lib.decDigits,dif_pos h,List.mem_singleton]at hc
    subst hc;exact one u h
   ·rw[Lib.decDigits,dif_neg h]at hc
    rcases List.mem_append.1 hc with hc|hc
    ·exact ih (u / 10) (by omega) c hc
    ·rw[List.mem_singleton]at hc
     subst hc;exact one _ (Nat.mod_lt _ (by decide))
theorem Gg{m:Nat}(h:m≤1000000000):B9 (vn m):=by
 have hl:=Ar h
 refine⟨by simp[vn],by simp[vn];omega,by simp[vn,L4],fun k hk=>?_⟩
 unfold OkC L4
 rw[Int.toNat_natCast]
 cases k with
 |zero=>left;simp[vn]
 |succ k=>
  right;left
  have hk2:k<(Lib.decDigits m).length:=by simpa[vn]using hk
  have:(vn m).getD (k+1) 0=(Lib.decDigits m)[k]:=by simp[vn,hk2]
  rw[this]
  have:=KR m _ (List.getElem_mem hk2)
  omega
theorem Gh{k:Int}{n n':Bs}{w w':List Bs}{l l':List u5}(h:dX (.mk k n w l)=0)(hn:k=2→n'=n)(hq:QK k→B9 n')(hn2:¬(k=2∨QK k)→n'=n)(hw:w'.length=w.length)(hl:l'.length=l.length)(hx:∀x∈w',B9 x):dX (.mk k n' w' l')=0:=by
 have o:=Z8 h
 refine Io (by have:=o.1;show 0≤arF k;have h2:((l.length:Nat):Int)=arF k:=this;omega) (by show(l'.length:Int)=arF k;rw[hl];exact o.1) (by show iE k w'.length;rw[hw];exact o.2.1) (fun h=>?_) (fun h=>?_) hx
 ·rcases h with h|h
  ·have h:k=2:=h
   have:=o.2.2.1 (.inl h)
   show B9 n'
   rw[hn h];exact this
  ·exact hq h
 ·show n'=[]
  rw[hn2 h];exact o.2.2.2.1 h
mutual
theorem JB(N:Nat→Bs)(q:Nat)(hN:∀i,i<q→B9 (N i)):∀(f:u5) (env:List (Bs×Bs)) (i:Nat),WfF f→i+nq f≤q→(∀p∈env,B9 p.2)→WfF (ren N f env i)
 | .mk k n w s,env,i,h,hq,Cg=>by
   have h0:=(Z4 _).1 h
   have hnn:dX (.mk k n w s)=0:=h0.1
   have hss:gY s:=h0.2
   rw[nq]at hq
   rw[ren,Z4]
   refine⟨Gh hnn (fun e=>if_neg (by unfold QK;omega)) (fun e=>?_) (fun e=>if_neg fun e2=>e (.inr e2)) (List.length_map _) (bP _ _ _ _) (fun x hx=>?_),?_⟩
   ·rw[if_pos e]
    rw[if_pos e]at hq
    exact hN i (by omega)
   ·obtain⟨y,hy,rfl⟩:=List.mem_map.1 hx
    have hyn:B9 y:=Aw h hy
    by_cases hm:y∈env.map (·.1)
    ·obtain⟨p,hp,e⟩:=List.mem_map.1 (vZ hm)
     rw[←e];exact Cg p hp
    ·rw[kV fun p hp e=>hm (List.mem_map.2 ⟨p,hp,e⟩)];exact hyn
   ·refine Gi N q hN s _ _ hss ?_ (fun p hp=>?_)
    ·by_cases e:QK k
     ·simp only[if_pos e]at hq ⊢; omega
     ·simp only[if_neg e]at hq ⊢; omega
    ·by_cases e:QK k
     ·rw[if_pos e]at hp
      rw[if_pos e]at hq
      rcases List.mem_cons.1 hp with rfl|hp
      ·exact hN i (by omega)
      ·exact Cg p hp
     ·rw[if_neg e]at hp;exact Cg p hp
theorem Gi(N:Nat→Bs)(q:Nat)(hN:∀i,i<q→B9 (N i)):∀(l:List u5) (env:List (Bs×Bs)) (i:Nat),gY l→i+nqL l≤q→(∀p∈env,B9 p.2)→gY (I7 N l env i)
 | [],env,i,_,_,_=>by rw[I7,gY];trivial
 |f::l,env,i,h,hq,Cg=>by
  rw[nqL]at hq
  rw[I7,gY]
  exact⟨JB N q hN f env i (N0.1 h f (List.mem_cons_self ..)) (by omega) Cg,Gi N q hN l env _ (N0.2 fun x hx=>N0.1 h x (List.mem_cons_of_mem _ hx)) (by omega) Cg⟩
end
theorem Cn{f:u5}(h:OkF f):∃C:List Bs,C.length≤600∧∀x,fre f [] x↔x∈C:=by
 have:=h.2.1
 obtain⟨C,hC,_⟩:=kX h.1 (by omega)
 exact⟨C,by omega,fun x=>(hC.1 x).symm⟩
theorem KS{f:u5}(h:OkF f):OkF (cf f):=by
 obtain⟨C,hCl,hC⟩:=Cn h
 have hnd:=h.2.1
 have hq:=oW f
 have QV:=yF (fun x=>(hC x).1) 600 hCl
 refine⟨JB _ 200 (fun i hi=>Gg (by have:=QV i;omega)) f [] 0 h.1 (by omega) (fun p hp=>by cases hp),?_,?_⟩
 ·unfold cf;rw[sI];exact h.2.1
 ·unfold cf;rw[uQ];exact h.2.2
theorem QW{s:w9}(hw:s.words.length≤1048576∧∀x∈s.words,x.length≤1048576)(hp:s.C4.length≤1048576∧∀x∈s.C4,x.length≤1048576)(hq:s.parts.length≤1048576∧∀x∈s.parts,x.length≤1048576):SB s:=by
 refine⟨hw.1,hp.1,hq.1,fun x hx=>?_⟩
 rcases List.mem_append.1 hx with hx|hx
 ·rcases List.mem_append.1 hx with hx|hx
  ·have:=hw.2 x hx;omega
  ·have:=hp.2 x hx;omega
 ·have:=hq.2 x hx;omega
theorem mA{l:List Bs}(hl:l.length≤8000000):Evt (fun n=>I3 n l l) (fun b=>b=true):=by
 unfold I3
 refine Evt.cond (fun e=>by simp at e) (fun _=>?_)
 refine Evt.C1 (Evt.vY l.length (fun k s=>s=(k:Int)) (fun _=>True) (fun _=>False) rfl (fun k s hk hs=>?_) (fun s hs=>?_)) (fun t ht=>?_) (fun r hr=>?_)
 ·subst hs
  unfold I9
  refine Evt.cond (fun _=>Evt.chk (by omega) (Evt.chk (by omega) (Evt.cond (fun e=>by simp at e) (fun _=>Evt.pure ?_)))) (fun e=>by replace e:=bx e;omega)
  exact(iy (by omega) (by omega)).trans rfl
 ·subst hs
  unfold I9
  exact Evt.cond (fun e=>by replace e:=bx e;omega) (fun _=>Evt.pure trivial)
 ·exact Evt.pure rfl
 ·exact False.elim hr
theorem eS:∀(m:Nat) (f:u5),SizeOf.sizeOf f≤m→SmF f→Evt (fun n=>C6 n f f) (fun b=>b=true):=by
 intro m
 induction m with
 |zero=>intro f h;cases f;simp only[u5.mk.sizeOf_spec]at h;omega
 |succ m ih=>
  intro f hf hsm
  obtain⟨hws,hsl,hsm⟩:=(sQ f).1 hsm
  refine Evt.succ ?_
  simp only[C6]
  refine Evt.bind (P:=fun v=>v=true) (Evt.gd (fun _=>mA (by omega)) (fun h=>by simp at h)) fun v hv=>?_
  subst hv
  refine Evt.cond (fun e=>by simp at e) (fun _=>?_)
  refine Evt.C1 (Evt.vY f.subs.length (fun k s=>s=(k:Int)) (fun _=>True) (fun _=>False) rfl (fun k s hk hs=>?_) (fun s hs=>?_)) (fun t ht=>?_) (fun r hr=>?_)
  ·subst hs
   unfold J9
   have hsz:=I6 hk
   refine Evt.cond (fun _=>Evt.chk (by omega) (Evt.chk (by omega) ?_)) (fun e=>by replace e:=bx e;omega)
   simp only[Int.toNat_natCast]
   refine Evt.bind (ih _ (by omega) (nT hsm _ (get_mem hk))) fun v hv=>?_
   subst hv
   refine Evt.cond (fun e=>by cases e) (fun _=>Evt.pure ?_)
   exact(iy (by omega) (by omega)).trans rfl
  ·subst hs
   unfold J9
   exact Evt.cond (fun e=>by replace e:=bx e;omega) (fun _=>Evt.pure trivial)
  ·exact Evt.pure rfl
  ·exact False.elim hr
theorem OD{f:u5}(h:OkF f):fre (cf f) []=fre f []:=by
 obtain⟨C,_,hC⟩:=Cn h
 funext x
 exact propext (sJ (NN (fre f [])) (fre f []) (fun i=>FW (fun x=>(hC x).1) i) f [] 0 (fun x hx=>hx) (fun p hp=>by cases hp) x)
theorem QX{f:u5}(h:OkF f):cf (cf f)=cf f:=by
 show ren (NN (fre (cf f) [])) (cf f) [] 0=cf f
 rw[OD h]
 exact FM (NN (fre f [])) f [] [] 0 (fun p hp=>by cases hp)
theorem yN{f:u5}(h:SmF f):f.words.length≤3:=((sQ f).1 h).1
theorem kZ{f:u5}(h:SmF f):f.subs.length≤2:=((sQ f).1 h).2.1
theorem mB{f:u5}(h:SmF f){k:Nat}(hk:k<f.subs.length):SmF (Am.get f.subs k):=nT ((sQ f).1 h).2.2 _ (get_mem hk)
theorem AB:∀(m:Nat) (f:u5),SizeOf.sizeOf f≤m→SmF f→∀(bd l:List Bs),bd.length+ndF f≤100000→l.length+3*ndF f≤300000→
 Evt (fun n=>E7 n f bd l) (fun r=>(∀x,x∈r↔x∈l∨fre f bd x)∧r.length≤l.length+3*ndF f):=by
 intro m
 induction m with
 |zero=>intro f h;cases f;simp only[u5.mk.sizeOf_spec]at h;omega
 |succ m ih=>
  intro f hf hwf bd l hbd hl
  have hnd:=kr f
  have hws:=yN hwf
  refine Evt.succ ?_
  simp only[E7]
  refine Evt.C1 (P:=ExP (fun t=>(∀x,x∈t↔x∈l∨(x∈f.words∧x∉bd))∧t.length≤l.length+3) (fun _=>False)) ((Evt.range (fun k s=>(∀x,x∈s↔x∈l∨(x∈f.words.take k∧x∉bd))∧s.length≤l.length+k) (fun _=>False) (fun _=>False) ⟨fun x=>by simp,by omega⟩ (fun k s hk hi=>?_)).mono fun e he=>?_) (fun t ht=>?_) (fun _ h=>h.elim)
  ·unfold S2
   simp only[F9,Option.bind_some]
   refine Evt.cond (fun e=>Evt.Q8 (Evt.chk ?_ (Evt.pure ⟨fun x=>?_,?_⟩))) (fun e=>Evt.pure ⟨fun x=>?_,by omega⟩)
   ·rw[J4];simp only[List.length_append,List.length_cons,List.length_nil];omega
   ·replace e:=bx e
    rw[List.mem_append,hi.1 x,D8 hk,List.mem_append,List.mem_singleton]
    by_cases hx:x=Am.get f.words k
    ·subst hx;simp[e]
    ·simp[hx]
   ·simp only[List.length_append,List.length_cons,List.length_nil];omega
   ·replace e:=bx e
    rw[hi.1 x,D8 hk,List.mem_append,List.mem_singleton]
    by_cases hx:x=Am.get f.words k
    ·subst hx;simp[e]
    ·simp[hx]
  ·cases e with
   |ret r=>exact he
   |nxt t=>
    obtain⟨h1,h2⟩:=he.elim id False.elim
    rw[List.take_length]at h1
    exact⟨h1,by omega⟩
  ·obtain⟨h1,h2⟩:=ht
   have key:∀bd':List Bs,(∀y,y∈bd'↔y∈(if QK f.kind then f.name::bd else bd))→bd'.length≤bd.length+1→Evt (fun n=>G9 (E7 n) f t bd') (fun r=>(∀x,x∈r↔x∈l∨fre f bd x)∧r.length≤l.length+3*ndF f):=by
    intro bd' hb hbl
    unfold G9
    refine Evt.C1 (P:=ExP (fun r=>(∀x,x∈r↔x∈t∨W8 f.subs bd' x)∧r.length≤t.length+3*T6 f.subs) (fun _=>False)) ((Evt.range (fun k s=>(∀x,x∈s↔x∈t∨W8 (f.subs.take k) bd' x)∧s.length≤t.length+3*T6 (f.subs.take k)) (fun _=>False) (fun _=>False) ⟨fun x=>by simp[W8],by omega⟩ (fun k s hk hi=>?_)).mono fun e he=>?_) (fun r hr=>?_) (fun _ h=>h.elim)
    ·unfold S4
     have hsz:=I6 hk
     have htk:=bE hk
     refine Evt.bind (ih _ (by omega) (mB hwf hk) bd' s (by omega) (by omega)) fun v hv=>Evt.pure ⟨fun x=>?_,?_⟩
     ·rw[hv.1 x,hi.1 x,D8 hk,yC,or_assoc]
     ·rw[D8 hk,gn]
      have:=hv.2
      have:=hi.2
      omega
    ·cases e with
     |ret r=>exact he
     |nxt r=>
      have:=he.elim id False.elim
      rw[List.take_length]at this
      exact this
    ·obtain⟨h3,h4⟩:=hr
     unfold S5
     refine Evt.pure ⟨fun x=>?_,by omega⟩
     rw[h3 x,h1 x,yw,lJ f.subs _ _ hb x,or_assoc]
   unfold S6
   simp only[aX,Option.bind_some]
   refine Evt.cond (fun e=>Evt.chk (by omega) (Evt.Q8 (Evt.chk ?_ (key _ (fun y=>?_) ?_)))) (fun e=>key _ (fun y=>?_) (by omega))
   ·rw[J4];simp only[List.length_append,List.length_cons,List.length_nil];omega
   ·replace e:=bx e
    rw[if_pos e];simp[or_comm]
   ·simp
   ·replace e:=bx e
    rw[if_neg e]
theorem kf{f:u5}(hwf:SmF f)(hn:ndF f≤50000):Evt (fun n=>N8 n f) (fun r=>(∀x,x∈r↔fre f [] x)∧r.length≤3*ndF f):=by
 unfold N8
 refine Evt.bind (AB _ f (Nat.le_refl _) hwf [] [] (by simp;omega) (by simp;omega)) fun v hv=>?_
 obtain⟨h1,h2⟩:=hv
 simp only[List.length_nil,Nat.zero_add]at h2
 unfold H8 K6
 have hlen:(jH cfB v).length=v.length:=(cC cfB v).length_eq
 refine Evt.bind (Evt.chk (by omega) (Evt.pure (P:=fun r=>r=jH cfB v) rfl)) fun r hr=>?_
 subst hr
 refine Evt.bind (Evt.chk (by omega) (Evt.pure (P:=fun r=>True) trivial)) fun _ _=>Evt.pure ⟨fun x=>?_,?_⟩
 ·rw[sL,(cC cfB v).mem_iff,h1 x]
  simp
 ·have:=Lib.compact_length_le (jH cfB v)
  omega
theorem AE{p:Bs→Prop}{C:List Bs}(hC:∀x,x∈C↔p x)(hCl:C.length≤10000):∀(m:Nat) (f:u5),SizeOf.sizeOf f≤m→SmF f→∀(env:List B0) (i b:Nat),env.length+ndF f≤100000→i+nq f≤1000→nx p b=num p i→
 Evt (fun n=>G7 n f env (b:Int) C) (fun r=>r.1=ren (NN p) f (oZ env) i∧∃b':Nat,r.2=(b':Int)∧nx p b'=num p (i+nq f)):=by
 intro m
 have hC2:∀x,p x→x∈C:=fun x=>(hC x).2
 induction m with
 |zero=>intro f h;cases f;simp only[u5.mk.sizeOf_spec]at h;omega
 |succ m ih=>
  intro f hf hwf env i b Cg hi hb
  have hnd:=kr f
  have hws:=yN hwf
  have hsl:=kZ hwf
  have hnq:=FE f
  refine Evt.succ ?_
  simp only[G7]
  refine Evt.C1 (P:=ExP (fun t=>t=f.words.map (sub (oZ env))) (fun _=>False)) ((Evt.range (fun k s=>s=(f.words.take k).map (sub (oZ env))) (fun _=>False) (fun _=>False) (by simp) (fun k s hk hs=>?_)).mono fun e he=>?_) (fun t ht=>?_) (fun _ h=>h.elim)
  ·unfold aA
   refine Evt.C1 (Ou (fun k=>(Am.get env k).from_) (fun k=>(Am.get env k).to_) env.length (by omega) (Am.get f.words k) (P0 env f k) (fun j hj=>?_) rfl) (fun t ht=>?_) (fun _ h=>h.elim)
   ·unfold P0
    have e1:decide (0≤(j:Int))=true:=decide_eq_true (by omega)
    rw[e1,cond_true,sk (by omega)]
    rfl
   ·unfold aB
    refine Evt.Q8 (Evt.chk ?_ (Evt.pure ?_))
    ·subst hs
     rw[J4];simp only[List.length_append,List.length_map,List.length_take,List.length_cons,List.length_nil];omega
    ·show _=_
     have ht:t=sub (oZ env) (Am.get f.words k):=ht
     rw[hs,ht,D8 hk,List.map_append];rfl
  ·cases e with
   |ret r=>exact he
   |nxt t=>
    have:=he.elim id False.elim
    rw[List.take_length]at this
    exact this
  ·subst ht
   have key:∀(env':List B0) (nm:Bs) (j c:Nat),nm=(if QK f.kind then NN p i else f.name)→oZ env'=(if QK f.kind then(f.name,NN p i)::oZ env else oZ env)→j=i+(if QK f.kind then 1 else 0)→nx p c=num p j→env'.length≤env.length+1→
    Evt (fun n=>L5 (G7 n) f C (f.words.map (sub (oZ env))) ((c:Int),nm,env')) (fun r=>r.1=ren (NN p) f (oZ env) i∧∃b':Nat,r.2=(b':Int)∧nx p b'=num p (i+nq f)):=by
    intro env' nm j c hnm KM hj hc hlen
    have hjn:j+nqL f.subs=i+nq f:=by omega
    unfold L5
    refine Evt.C1 (P:=ExP (fun t=>t.2=I7 (NN p) f.subs (oZ env') j∧∃b':Nat,t.1=(b':Int)∧nx p b'=num p (j+nqL f.subs)) (fun _=>False)) ((Evt.range (fun k s=>s.2=I7 (NN p) (f.subs.take k) (oZ env') j∧∃b':Nat,s.1=(b':Int)∧nx p b'=num p (j+nqL (f.subs.take k))) (fun _=>False) (fun _=>False) ⟨by simp[I7],c,rfl,by simpa[nqL]using hc⟩ (fun k s hk hs=>?_)).mono fun e he=>?_) (fun t ht=>?_) (fun _ h=>h.elim)
    ·obtain⟨hs1,b',hs2,hs3⟩:=hs
     unfold aC
     have hsz:=I6 hk
     have htk:=bE hk
     have hqk:=lK hk
     refine Evt.bind (P:=fun r=>r.1=ren (NN p) (Am.get f.subs k) (oZ env') (j+nqL (f.subs.take k))∧∃b'':Nat,r.2=(b'':Int)∧nx p b''=num p (j+nqL (f.subs.take k)+nq (Am.get f.subs k))) ?_ fun v hv=>Evt.Q8 (Evt.chk ?_ (Evt.pure ?_))
     ·rw[hs2]
      exact ih _ (by omega) (mB hwf hk) env' _ b' (by omega) (by omega) hs3
     ·rw[J4,hs1];simp only[List.length_append,bP,List.length_take,List.length_cons,List.length_nil];omega
     ·obtain⟨hv1,b'',hv2,hv3⟩:=hv
      refine⟨?_,b'',hv2,?_⟩
      ·show s.2++[v.1]=_
       rw[hs1,hv1,D8 hk,gq]
      ·rw[hv3,D8 hk,iZ,Nat.add_assoc]
    ·cases e with
     |ret r=>exact he
     |nxt t=>
      have:=he.elim id False.elim
      rw[List.take_length]at this
      exact this
    ·obtain⟨ht1,b',ht2,ht3⟩:=ht
     unfold aD
     refine Evt.pure ⟨?_,b',ht2,by rw[ht3,hjn]⟩
     show u5.mk _ _ _ _=_
     rw[sH,ht1,hnm,KM,hj]
   unfold aH
   simp only[aX,Option.bind_some]
   have hbl:=(Au hC2 b).1
   have hnl:=yF hC2 10000 hCl i
   refine Evt.cond (fun e=>?_) (fun e=>?_)
   ·replace e:=bx e
    rw[if_pos e]at hnq
    refine Evt.bind (yG hC (b:=b) (by omega)) fun v hv=>Evt.chk (by omega) (Evt.Q8 (Evt.chk ?_ ?_))
    ·rw[J4];simp only[List.length_append,List.length_cons,List.length_nil];omega
    ·subst hv
     exact key _ _ (i+1) (nx p b+1) (by rw[if_pos e,hb];rfl) (by rw[if_pos e,yH,hb];rfl) (by rw[if_pos e]) (by rw[hb];rfl) (by simp)
   ·replace e:=bx e
    rw[if_neg e]at hnq
    exact key _ _ i b (by rw[if_neg e]) (by rw[if_neg e]) (by rw[if_neg e];rfl) hb (by omega)
theorem yO{f:u5}(h:SmF f)(h2:ndF f≤200):Evt (fun n=>aT n f) (fun r=>r=cf f):=by
 unfold aT cW
 have hq:=oW f
 refine Evt.bind (P:=fun r=>r=cf f) (Evt.bind (kf h (by omega)) fun v hv=>?_) fun v hv=>Evt.pure hv
 refine Evt.C1 (P:=ExP (fun _=>True) (fun _=>False)) ⟨.nxt (),trivial,0,fun n _=>rfl⟩ (fun _ _=>?_) (fun _ h=>h.elim)
 unfold aI
 exact Evt.bind (AE hv.1 (by omega) _ f (Nat.le_refl _) h [] 0 0 (by simp;omega) (by omega) rfl) fun r hr=>Evt.pure hr.1
def Aft(env env' cE:List (Bs×Bs)):Prop:=∀w,B9 w→sub env' (sub env w)=sub cE w
theorem OE{env:List (Bs×Bs)}{w:Bs}:sub env w=w∨∃p∈env,sub env w=p.2:=by
 by_cases h:w∈env.map (·.1)
 ·obtain⟨p,hp,e⟩:=List.mem_map.1 (vZ h)
  exact .inr ⟨p,hp,e.symm⟩
 ·exact .inl (kV fun p hp e=>h (List.mem_map.2 ⟨p,hp,e⟩))
theorem Aft.put{N M:Nat→Bs}(hN:∀i j,N i=N j→i=j)(hN2:∀i,¬B9 (N i)){env env' cE:List (Bs×Bs)}{i:Nat}(he:∀p∈env,∃j,j<i∧p.2=N j)(h:Aft env env' cE)(n:Bs):Aft ((n,N i)::env) ((N i,M i)::env') ((n,M i)::cE):=fun w hw=>by
 by_cases e:n=w
 ·have a:sub ((n,N i)::env) w=N i:=by rw[K1,if_pos e]
  have b:sub ((n,M i)::cE) w=M i:=by rw[K1,if_pos e]
  rw[a,b,K1,if_pos rfl]
 ·have a:sub ((n,N i)::env) w=sub env w:=by rw[K1,if_neg e]
  have b:sub ((n,M i)::cE) w=sub cE w:=by rw[K1,if_neg e]
  rw[a,b,K1,if_neg fun e2=>?_]
  ·exact h w hw
  ·rcases OE (env:=env) (w:=w)with e3|⟨p,hp,e3⟩
   ·rw[e3]at e2
    exact hN2 i (e2▸hw)
   ·obtain⟨j,hj,e4⟩:=he p hp
    rw[e3,e4]at e2
    have:=hN _ _ e2
    omega
mutual
theorem Gj(N M:Nat→Bs)(hN:∀i j,N i=N j→i=j)(hN2:∀i,¬B9 (N i)):∀(f:u5) (env env' cE:List (Bs×Bs)) (i:Nat),WfF f→(∀p∈env,∃j,j<i∧p.2=N j)→Aft env env' cE→ren M (ren N f env i) env' i=ren M f cE i
 | .mk k n w s,env,env',cE,i,hwf,he,ha=>by
   have hn:=((Z4 _).1 hwf).1
   have hs:gY s:=((Z4 _).1 hwf).2
   have hw:=(Z8 hn).2.2.2.2
   have e1:(w.map (sub env)).map (sub env')=w.map (sub cE):=by
    rw[List.map_map]
    exact List.map_congr_left fun x hx=>ha x (hw x hx)
   rw[ren,ren,ren,e1]
   by_cases hq:QK k
   ·simp only[if_pos hq]
    rw[wA N M hN hN2 s _ _ _ (i+1) hs (fun p hp=>by
     rcases List.mem_cons.1 hp with rfl|hp
     ·exact⟨i,by omega,rfl⟩
     ·obtain⟨j,h1,h2⟩:=he p hp
      exact⟨j,by omega,h2⟩) (Aft.put hN hN2 he ha n)]
   ·simp only[if_neg hq]
    rw[wA N M hN hN2 s _ _ _ (i+0) hs he ha]
theorem wA(N M:Nat→Bs)(hN:∀i j,N i=N j→i=j)(hN2:∀i,¬B9 (N i)):∀(l:List u5) (env env' cE:List (Bs×Bs)) (i:Nat),gY l→(∀p∈env,∃j,j<i∧p.2=N j)→Aft env env' cE→I7 M (I7 N l env i) env' i=I7 M l cE i
 | [],env,env',cE,i,_,_,_=>by rw[I7,I7,I7]
 |x::l,env,env',cE,i,h,he,ha=>by
  rw[I7,I7,I7,Gj N M hN hN2 x _ _ _ i (N0.1 h x (List.mem_cons_self ..)) he ha,yu,wA N M hN hN2 l _ _ _ (i+nq x) (N0.2 fun y hy=>N0.1 h y (List.mem_cons_of_mem _ hy)) (fun p hp=>by
   obtain⟨j,h1,h2⟩:=he p hp
   exact⟨j,by omega,h2⟩) ha]
end
theorem OG{f:u5}(h:WfF f){N:Nat→Bs}(hN:∀i j,N i=N j→i=j)(hN2:∀i,¬B9 (N i)):cf (ren N f [] 0)=cf f:=by
 have e:fre (ren N f [] 0) []=fre f []:=by
  funext x
  exact propext (sJ N B9 hN2 f [] 0 (fun x hx=>kc f h _ x hx) (fun p hp=>by cases hp) x)
 show ren (NN (fre (ren N f [] 0) [])) (ren N f [] 0) [] 0=cf f
 rw[e]
 exact Gj N _ hN hN2 f [] [] [] 0 h (fun p hp=>by cases hp) (fun w _=>rfl)
def qn(i:Nat):Bs:=63::Lib.decDigits (i+1)
theorem Gk(i j:Nat)(h:qn i=qn j):i=j:=by have:=wq (List.cons.inj h).2;omega
theorem AF(i:Nat):¬B9 (qn i):=fun h=>by
 have:=h.2.2.1.1
 simp[L4,qn]at this
set_option maxRecDepth 1000000 in
theorem pA(m:Nat):E4 (m+300)=some true:=by kernel_rfl
theorem eT:Evt E4 (fun b=>b=true):=⟨true,rfl,300,fun n hn=>by
 obtain⟨m,rfl⟩:∃m,n=m+300:=⟨n-300,by omega⟩
 exact pA m⟩
end Go.Proofs.YtfacbpehlibilaaGreatDoor
