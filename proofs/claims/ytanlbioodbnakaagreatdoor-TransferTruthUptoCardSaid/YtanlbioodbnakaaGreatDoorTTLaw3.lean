import Derived.Test.YtanlbioodbnakaaGreatDoorTTLaw2
set_option linter.unusedVariables false
set_option linter.unusedSimpArgs false
namespace Go.Proofs.YtanlbioodbnakaaGreatDoor
open Go Go.Am
theorem FA{s:A8}{i:Nat}(h:i<s.words.length):Am.get (vns s) i=Am.get s.words i:=by
 unfold vns Am.get
 rw[List.getD_eq_getElem?_getD,List.getD_eq_getElem?_getD,List.append_assoc,List.getElem?_append_left h]
theorem FC{s:A8}{i:Nat}(h:i<s.E9.length):Am.get (vns s) (s.words.length+i)=Am.get s.E9 i:=by
 unfold vns Am.get
 rw[List.getD_eq_getElem?_getD,List.getD_eq_getElem?_getD,List.append_assoc,List.getElem?_append_right (by omega),List.getElem?_append_left (by omega)]
 congr 2;omega
theorem FD{s:A8}{i:Nat}(h:i<s.parts.length):Am.get (vns s) (s.words.length+s.E9.length+i)=Am.get s.parts i:=by
 unfold vns Am.get
 rw[List.getD_eq_getElem?_getD,List.getD_eq_getElem?_getD,List.getElem?_append_right (by simp only[List.length_append];omega)]
 congr 2;simp only[List.length_append];omega
structure KR(s:A8):Prop where
 form:OkF s.form
 len:(vns s).length≤300
 name:∀x∈vns s,D2 x
 uniq:∀i j,i<j→j<(vns s).length→Am.get (vns s) i≠Am.get (vns s) j
 words:∀x∈s.words,fre s.form [] x
 E9:∀x∈s.E9,qO (bN s.form) x∨sO (bN s.form) x
 parts:∀x∈s.parts,¬qO (bN s.form) x∧sO (bN s.form) x
 RW:QOk s
theorem OkS.good{s:A8}(h:OkS s):KR s:=by
 obtain⟨h1,h2,h3,h4⟩:=h
 have hvl:=vZ s
 have hn:∀j,j<(vns s).length→D2 (Am.get (vns s) j):=fun j hj=>Classical.byContradiction fun h=>by
  have:=h3 j hj
  unfold bO at this
  rw[if_pos h]at this
  exact absurd this (by decide)
 have hu:∀j,j<(vns s).length→Am.get (vns s) j∉ (vns s).take j:=fun j hj h=>by
  have:=h3 j hj
  unfold bO at this
  rw[if_neg (fun e=>e (hn j hj)),if_pos h]at this
  exact absurd this (by decide)
 refine⟨h1,h2,fun x hx=>?_,fun i j hij hj e=>hu j hj ((yj (by omega)).2 ⟨i,hij,e⟩),fun x hx=>?_,fun x hx=>?_,fun x hx=>?_,h4⟩
 ·obtain⟨j,hj,rfl⟩:=bD.1 hx
  exact hn j hj
 ·obtain⟨j,hj,rfl⟩:=bD.1 hx
  have hjv:j<(vns s).length:=by omega
  have:=h3 j hjv
  unfold bO at this
  rw[if_neg (fun e=>e (hn j hjv)),if_neg (hu j hjv),if_pos hj]at this
  rw[←FA hj]
  exact Classical.byContradiction fun h=>by rw[if_neg h]at this;exact absurd this (by decide)
 ·obtain⟨i,hi,rfl⟩:=bD.1 hx
  have hjv:s.words.length+i<(vns s).length:=by omega
  have:=h3 _ hjv
  unfold bO at this
  rw[if_neg (fun e=>e (hn _ hjv)),if_neg (hu _ hjv),if_neg (by omega),if_pos (by omega)]at this
  rw[←FC hi]
  exact Classical.byContradiction fun h=>by rw[if_neg h]at this;exact absurd this (by decide)
 ·obtain⟨i,hi,rfl⟩:=bD.1 hx
  have hjv:s.words.length+s.E9.length+i<(vns s).length:=by omega
  have:=h3 _ hjv
  unfold bO at this
  rw[if_neg (fun e=>e (hn _ hjv)),if_neg (hu _ hjv),if_neg (by omega),if_neg (by omega)]at this
  rw[←FD hi]
  by_cases hw:qO (bN s.form) (Am.get (vns s) (s.words.length+s.E9.length+i))
  ·rw[if_pos hw]at this;exact absurd this (by decide)
  ·rw[if_neg hw]at this
   exact⟨hw,Classical.byContradiction fun h=>by rw[if_neg h]at this;exact absurd this (by decide)⟩
def cS(s:A8)(f:u5):Prop:=(f.kind=2∧f.words.length=0)∧f.name∈s.parts
instance(s:A8)(f:u5):Decidable (cS s f):=inferInstanceAs (Decidable (_∧_))
def mkw(W bd:List Bs)(w:Bs):Bs:=if w∈bd then 63::w else if w∈W then 46::w else w
def mkn(s:A8)(f:u5):Bs:=if QK f.kind then 63::f.name else if cS s f then 43::f.name else if f.kind=2∧f.name∈s.E9 then 33::f.name else f.name
mutual
def Y7(s:A8):u5→List Bs→u5
 | .mk k n w l,bd=>.mk k (mkn s (.mk k n w l)) (w.map (mkw s.words bd)) (R6 s l (if QK k then n::bd else bd))
def R6(s:A8):List u5→List Bs→List u5
 | [],_=>[]
 |f::l,bd=>Y7 s f bd::R6 s l bd
end
theorem eT(s:A8)(f:u5)(bd:List Bs):Y7 s f bd= .mk f.kind (mkn s f) (f.words.map (mkw s.words bd)) (R6 s f.subs (if QK f.kind then f.name::bd else bd)):=by cases f;rw[Y7];rfl
theorem mz(s:A8):∀(l:List u5) (bd:List Bs),(R6 s l bd).length=l.length
 | [],_=>by rw[R6]
 |f::l,bd=>by rw[R6,List.length_cons,List.length_cons,mz s l]
theorem sR(s:A8):∀(l:List u5) (x:u5) (bd:List Bs),R6 s (l++[x]) bd=R6 s l bd++[Y7 s x bd]
 | [],x,bd=>by simp[R6]
 |a::l,x,bd=>by rw[List.cons_append,R6,R6,sR s l x];rfl
theorem FE{W bd bd':List Bs}(h:∀y,y∈bd↔y∈bd')(w:Bs):mkw W bd w=mkw W bd' w:=by
 unfold mkw
 by_cases e:w∈bd
 ·rw[if_pos e,if_pos ((h w).1 e)]
 ·rw[if_neg e,if_neg fun e'=>e ((h w).2 e')]
mutual
theorem zV(s:A8):∀(f:u5) (bd bd':List Bs),(∀y,y∈bd↔y∈bd')→Y7 s f bd=Y7 s f bd'
 | .mk k n w l,bd,bd',h=>by
   rw[Y7,Y7,lR s l _ (if QK k then n::bd' else bd') (fun y=>?_),List.map_congr_left fun x _=>FE h x]
   split
   ·simp[h y]
   ·exact h y
theorem lR(s:A8):∀(l:List u5) (bd bd':List Bs),(∀y,y∈bd↔y∈bd')→R6 s l bd=R6 s l bd'
 | [],bd,bd',h=>by rw[R6,R6]
 |f::l,bd,bd',h=>by rw[R6,R6,zV s f bd bd' h,lR s l bd bd' h]
end
theorem wj(s:A8)(f:u5):F5 s f=some (decide (cS s f)):=by
 unfold F5 cS
 simp only[J8]
 by_cases h1:f.kind=2<;>by_cases h2:f.words.length=0<;>simp[h1,h2,gd]
theorem KS{f:u5}(hwf:WfF f):f.name.length≤30:=by
 have h:=W1 ((Y6 f).1 hwf).1
 by_cases hk:f.kind=2∨QK f.kind
 ·exact(h.2.2.1 hk).2.1
 ·rw[h.2.2.2.1 hk];decide
theorem zW{f:u5}(hwf:WfF f){x:Bs}(hx:x∈f.words):D2 x:=(W1 ((Y6 f).1 hwf).1).2.2.2.2 x hx
theorem CX(s:A8)(g:u5):∀(m:Nat) (f:u5),SizeOf.sizeOf f≤m→WfF f→∀bd:List Bs,bd.length+ndF f≤100000→
 Evt (fun n=>I6 n f bd g.kind g.name g.words g.subs s.words s.E9 s.parts) (fun r=>r=Y7 s f bd):=by
 intro m
 induction m with
 |zero=>intro f h;cases f;simp only[u5.mk.sizeOf_spec]at h;omega
 |succ m ih=>
  intro f hf hwf bd hbd
  have hnd:=sK f
  have hws:=Bo hwf
  have hsl:=zR hwf
  have hnl:=KS hwf
  refine Evt.succ ?_
  simp only[I6]
  refine Evt.C2 (P:=ExP (fun t=>t=f.words.map (mkw s.words bd)) (fun _=>False)) ((Evt.range (fun k t=>t=(f.words.take k).map (mkw s.words bd)) (fun _=>False) (fun _=>False) (by simp) (fun k t hk ht=>?_)).mono fun e he=>?_) (fun t ht=>?_) (fun _ h=>h.elim)
  ·unfold aF
   simp only[J8,Option.bind_some]
   have hwl:=(zW hwf (get_mem hk)).2.1
   have hsn:(f.words.take (k+1)).map (mkw s.words bd)=t++[mkw s.words bd (Am.get f.words k)]:=by rw[F8 hk,List.map_append,ht];rfl
   have htl:t.length=k:=by rw[ht,List.length_map,List.length_take];omega
   refine Evt.cond (fun e=>Evt.chk (by unfold M4;simp;omega) (Evt.P6 (Evt.chk ?_ (Evt.pure ?_)))) (fun e=>Evt.cond (fun e2=>Evt.chk (by unfold M4;simp;omega) (Evt.P6 (Evt.chk ?_ (Evt.pure ?_)))) (fun e2=>Evt.P6 (Evt.chk ?_ (Evt.pure ?_))))
   ·rw[M0];simp only[List.length_append,List.length_cons,List.length_nil];omega
   ·replace e:=bx e
    show _=_
    rw[hsn];unfold mkw;rw[if_pos e];rfl
   ·rw[M0];simp only[List.length_append,List.length_cons,List.length_nil];omega
   ·replace e:=bx e
    replace e2:=bx e2
    show _=_
    rw[hsn];unfold mkw;rw[if_neg e,if_pos e2];rfl
   ·rw[M0];simp only[List.length_append,List.length_cons,List.length_nil];omega
   ·replace e:=bx e
    replace e2:=bx e2
    show _=_
    rw[hsn];unfold mkw;rw[if_neg e,if_neg e2]
  ·cases e with
   |ret r=>exact he
   |nxt t=>
    have:=he.elim id False.elim
    rw[List.take_length]at this
    exact this
  ·subst ht
   have key:∀(nm:Bs) (bd':List Bs),nm=mkn s f→(∀y,y∈bd'↔y∈(if QK f.kind then f.name::bd else bd))→bd'.length≤bd.length+1→
    Evt (fun n=>I0 (I6 n) f g.kind g.name g.words g.subs s.words s.E9 s.parts (f.words.map (mkw s.words bd)) (nm,bd')) (fun r=>r=Y7 s f bd):=by
    intro nm bd' hnm hb hlen
    unfold I0
    refine Evt.C2 (P:=ExP (fun t=>t=R6 s f.subs bd') (fun _=>False)) ((Evt.range (fun k t=>t=R6 s (f.subs.take k) bd') (fun _=>False) (fun _=>False) (by simp[R6]) (fun k t hk ht=>?_)).mono fun e he=>?_) (fun t ht=>?_) (fun _ h=>h.elim)
    ·unfold aG
     have hsz:=J6 hk
     have htk:=gR hk
     refine Evt.bind (ih _ (by omega) (ng hwf hk) bd' (by omega)) fun v hv=>Evt.P6 (Evt.chk ?_ (Evt.pure ?_))
     ·rw[M0,ht];simp only[List.length_append,mz,List.length_take,List.length_cons,List.length_nil];omega
     ·show _=_
      rw[hv,ht,F8 hk,sR]
    ·cases e with
     |ret r=>exact he
     |nxt t=>
      have:=he.elim id False.elim
      rw[List.take_length]at this
      exact this
    ·unfold aH
     refine Evt.pure ?_
     have ht:t=R6 s f.subs bd':=ht
     rw[eT,ht,hnm,lR s f.subs _ _ hb]
   unfold aI
   simp only[dc,wj,J8,Option.bind_some]
   refine Evt.cond (fun e=>?_) (fun e=>?_)
   ·replace e:=bx e
    refine Evt.bind (P:=fun v=>v=bd) (Evt.pure rfl) fun v hv=>?_
    subst hv
    refine Evt.P6 (Evt.chk ?_ (Evt.chk (by unfold M4;simp;omega) (key _ _ (by unfold mkn;rw[if_pos e];rfl) (fun y=>?_) (by simp))))
    ·rw[M0];simp only[List.length_append,List.length_cons,List.length_nil];omega
    ·rw[if_pos e];simp[or_comm]
   ·replace e:=bx e
    have hb:∀y,y∈bd↔y∈(if QK f.kind then f.name::bd else bd):=fun y=>by rw[if_neg e]
    refine Evt.cond (fun e2=>?_) (fun e2=>?_)
    ·have e2:cS s f:=of_decide_eq_true e2
     exact Evt.chk (by unfold M4;simp;omega) (key _ _ (by unfold mkn;rw[if_neg e,if_pos e2];rfl) hb (by omega))
    ·have e2:¬cS s f:=of_decide_eq_false e2
     refine Evt.bind (P:=fun v=>f.kind=2→v=decide (f.name∈s.E9)) (Evt.gd (fun g=>Evt.pure fun _=>rfl) (fun g h=>by simp[h]at g)) fun v hv=>?_
     refine Evt.cond (fun e3=>?_) (fun e3=>?_)
     ·replace e3:=bx e3
      have:=hv e3.1
      rw[e3.2]at this
      exact Evt.chk (by unfold M4;simp;omega) (key _ _ (by unfold mkn;rw[if_neg e,if_neg e2,if_pos ⟨e3.1,of_decide_eq_true this.symm⟩];rfl) hb (by omega))
     ·refine key _ _ ?_ hb (by omega)
      unfold mkn
      rw[if_neg e,if_neg e2,if_neg fun h=>?_]
      rw[hv h.1]at e3
      simp[h.1,h.2]at e3
theorem pO(c:UInt8)(l:List Bs)(hl:l.length≤1000000)(hx:∀x∈l,x.length≤1000000):Evt (fun _=>Q6 [c] l) (fun r=>r=l.map (c:: ·)):=by
 unfold Q6
 refine Evt.C2 (P:=ExP (fun t=>t=l.map (c:: ·)) (fun _=>False)) ((Evt.range (fun k t=>t=(l.take k).map (c:: ·)) (fun _=>False) (fun _=>False) (by simp) (fun k t hk ht=>?_)).mono fun e he=>?_) (fun t ht=>?_) (fun _ h=>h.elim)
 ·unfold aJ
  have:=hx _ (get_mem hk)
  refine Evt.chk (by unfold M4;simp;omega) (Evt.P6 (Evt.chk ?_ (Evt.pure ?_)))
  ·rw[M0,ht];simp only[List.length_append,List.length_map,List.length_take,List.length_cons,List.length_nil];omega
  ·show _=_
   rw[F8 hk,List.map_append,ht];rfl
 ·cases e with
  |ret r=>exact he
  |nxt t=>
   have:=he.elim id False.elim
   rw[List.take_length]at this
   exact this
 ·exact Evt.pure ht
def gS(s:A8):A8:=⟨Y7 s s.form [],s.words.map (46:: ·),s.E9.map (33:: ·),s.parts.map (43:: ·)⟩
theorem zX{s:A8}(h:KR s):Evt (fun n=>bU n s) (fun r=>r=gS s):=by
 have hvl:=vZ s
 have hl:=h.len
 have hn:∀x∈vns s,x.length≤1000000:=fun x hx=>by have:=(h.name x hx).2.1;omega
 have hnd:=h.form.2.1
 unfold bU
 refine Evt.bind (CX s s.form _ s.form (Nat.le_refl _) h.form.1 [] (by simp;omega)) fun v1 hv1=>?_
 refine Evt.bind (pO 46 s.words (by omega) fun x hx=>hn x (List.mem_append.2 (.inl (List.mem_append.2 (.inl hx))))) fun v2 hv2=>?_
 refine Evt.bind (pO 33 s.E9 (by omega) fun x hx=>hn x (List.mem_append.2 (.inl (List.mem_append.2 (.inr hx))))) fun v3 hv3=>?_
 refine Evt.bind (pO 43 s.parts (by omega) fun x hx=>hn x (List.mem_append.2 (.inr hx))) fun v4 hv4=>?_
 subst hv1 hv2 hv3 hv4
 exact Evt.pure rfl
def zf:u5:=.mk 0 [] [] []
abbrev Env:=List (Bs×w6)
theorem mA{V:Type}(k:Bs)(v:V):∀m:List (Bs×V),assoc k (C5 k v m)=some v
 | []=>by simp[C5,assoc]
 |(a,u)::m=>by
  rw[C5]
  split
  ·simp[assoc]
  ·rename_i h
   rw[assoc,if_neg h,mA k v m]
theorem qS{V:Type}{k k':Bs}(h:k'≠k)(v:V):∀m:List (Bs×V),assoc k' (C5 k v m)=assoc k' m
 | []=>by
   show(if k'=k then some v else assoc k' ([]:List (Bs×V)))=_
   rw[if_neg h]
 |(a,u)::m=>by
  rw[C5]
  split
  ·rename_i e
   subst e
   rw[assoc,assoc,if_neg h,if_neg h]
  ·rw[assoc,assoc,qS h v m]
open Classical in
noncomputable def qT(env:Env)(b:w6):Option Env:=match assoc b.name env with
 |none=>some (C5 b.name b env)
 |some b'=>if b'=b then some env else none
noncomputable def cT:Env→List w6→Option Env
 |env,[]=>some env
 |env,b::l=>(qT env b).bind fun e=>cT e l
theorem Bu:∀(a b:List w6) (env:Env),cT env (a++b)=(cT env a).bind fun e=>cT e b
 | [],b,env=>rfl
 |x::a,b,env=>by
  rw[List.cons_append,cT,cT]
  cases qT env x with
  |none=>rfl
  |some e=>exact Bu a b e
theorem kG{env e:Env}{b:w6}(h:qT env b=some e):assoc b.name e=some b∧(∀k c,assoc k env=some c→assoc k e=some c)∧(∀k c,assoc k e=some c→assoc k env=some c∨(b.name=k∧b=c)):=by
 unfold qT at h
 split at h
 ·rename_i h0
  cases h
  refine⟨mA _ _ _,fun k c hc=>?_,fun k c hc=>?_⟩
  ·by_cases e:k=b.name
   ·rw[e,h0]at hc;cases hc
   ·rw[qS e];exact hc
  ·by_cases e:k=b.name
   ·rw[e,mA]at hc
    exact .inr ⟨e.symm,Option.some.inj hc⟩
   ·rw[qS e]at hc;exact .inl hc
 ·rename_i b' h0
  split at h
  ·rename_i hb
   cases h
   exact⟨by rw[h0,hb],fun k c hc=>hc,fun k c hc=>.inl hc⟩
  ·cases h
theorem mB:∀(ps:List w6) (env e:Env),cT env ps=some e→(∀b∈ps,assoc b.name e=some b)∧(∀k c,assoc k env=some c→assoc k e=some c)∧(∀k c,assoc k e=some c→assoc k env=some c∨(∃b∈ps,b.name=k∧b=c))
 | [],env,e,h=>by cases h;exact⟨fun b hb=>(by cases hb),fun k c hc=>hc,fun k c hc=>.inl hc⟩
 |b::l,env,e,h=>by
  rw[cT]at h
  cases hp:qT env b with
  |none=>rw[hp]at h;cases h
  |some e1=>
   rw[hp]at h
   obtain⟨p1,p2,p3⟩:=kG hp
   obtain⟨r1,r2,r3⟩:=mB l e1 e h
   refine⟨fun c hc=>?_,fun k c hc=>r2 k c (p2 k c hc),fun k c hc=>?_⟩
   ·rcases List.mem_cons.1 hc with rfl|hc
    ·exact r2 _ _ p1
    ·exact r1 c hc
   ·rcases r3 k c hc with h|⟨x,hx,h1,h2⟩
    ·rcases p3 k c h with h|⟨h1,h2⟩
     ·exact .inl h
     ·exact .inr ⟨b,List.mem_cons_self ..,h1,h2⟩
    ·exact .inr ⟨x,List.mem_cons_of_mem _ hx,h1,h2⟩
def IsKey(k:Bs):Prop:=∃c t,k=c::t∧(c=33∨c=43∨c=46∨c=63)
theorem wm{x:Bs}(h:D2 x):¬IsKey x:=fun⟨c,t,e,hc⟩=>by
 have:=h.2.2.1.1
 subst e
 rcases hc with rfl|rfl|rfl|rfl<;>simp[dY]at this
def qv(b:w6):Prop:=SmF b.form∧((∃x,b.name=43::x∧b.text=[])∨(∃c x,b.name=c::x∧(c=33∨c=46∨c=63)∧b.form=zf))
def kY(env:Env):Prop:=∀k b,assoc k env=some b→b.name=k∧qv b
theorem zY{env e:Env}{b:w6}(h:kY env)(hb:qv b)(hp:qT env b=some e):kY e:=fun k c hc=>by
 rcases(kG hp).2.2 k c hc with h1|⟨rfl,rfl⟩
 ·exact h k c h1
 ·exact⟨rfl,hb⟩
theorem zZ{env e:Env}{ps:List w6}(h:kY env)(hb:∀b∈ps,qv b)(hp:cT env ps=some e):kY e:=fun k c hc=>by
 rcases(mB _ _ _ hp).2.2 k c hc with h1|⟨b,hm,h1,h2⟩
 ·exact h k c h1
 ·subst h2;exact⟨h1,hb _ hm⟩
theorem qv.key{b:w6}(h:qv b):IsKey b.name:=by
 rcases h.2 with⟨x,e,_⟩|⟨c,x,e,hc,_⟩
 ·exact⟨43,x,e,by simp⟩
 ·exact⟨c,x,e,by rcases hc with h|h|h<;>simp[h]⟩
theorem Om:SmF zf:=by unfold zf;rw[SmF];exact⟨by decide,by decide,by rw[qQ];trivial⟩
theorem Aa{c:UInt8}{x y:Bs}(h:c=33∨c=46∨c=63):qv ⟨c::x,y,zf⟩:=⟨Om,.inr ⟨c,x,rfl,h,rfl⟩⟩
def cat(a b:Option (List w6)):Option (List w6):=a.bind fun x=>b.bind fun y=>some (x++y)
theorem pP(a b:Option (List w6))(s:Env):(cat a b).bind (cT s)=(a.bind (cT s)).bind fun s'=>b.bind (cT s'):=by
 cases a with
 |none=>rfl
 |some x=>
  cases b with
  |none=>
   show none=(cT s x).bind fun s'=>none
   cases cT s x<;>rfl
  |some y=>exact Bu x y s
theorem Io(o:Option (List w6))(b:w6)(s:Env):(o.map (b:: ·)).bind (cT s)=(qT s b).bind fun s'=>o.bind (cT s'):=by
 cases o with
 |none=>show none=_;cases qT s b<;>rfl
 |some x=>rfl
def ptw(W bd:List Bs):List Bs→List Bs→Option (List w6)
 |x::xs,y::ys=>if x∈bd then(ptw W bd xs ys).map (⟨63::x,y,zf⟩:: ·)else if x∈W then(ptw W bd xs ys).map (⟨46::x,y,zf⟩:: ·)else if x=y then ptw W bd xs ys else none
 | _,_=>some []
def pth(s:A8)(f g:u5):Option (List w6):=
 if QK f.kind then some [⟨63::f.name,g.name,zf⟩]else if f.kind=2∧f.name∈s.E9 then some [⟨33::f.name,g.name,zf⟩]else if f.name=g.name then some []else none
mutual
def pts(s:A8):u5→List Bs→u5→Option (List w6)
 | .mk k n w l,bd,g=>if cS s (.mk k n w l)then some [⟨43::n,[],g⟩]
   else if k≠g.kind∨w.length≠g.words.length then none
   else cat (pth s (.mk k n w l) g) (cat (ptw s.words bd w g.words) (pQ s l (if QK k then n::bd else bd) g.subs))
def pQ(s:A8):List u5→List Bs→List u5→Option (List w6)
 | [],_,_=>some []
 |f::l,bd,gs=>match gs with
  | []=>some []
  |g::gs=>cat (pts s f bd g) (pQ s l bd gs)
end
theorem FH(s:A8)(f:u5)(bd:List Bs)(g:u5):pts s f bd g=if cS s f then some [⟨43::f.name,[],g⟩]else if f.kind≠g.kind∨f.words.length≠g.words.length then none else cat (pth s f g) (cat (ptw s.words bd f.words g.words) (pQ s f.subs (if QK f.kind then f.name::bd else bd) g.subs)):=by cases f;rw[pts];rfl
theorem FI{a b:Option (List w6)}{Q:w6→Prop}(ha:∀x,a=some x→∀c∈x,Q c)(hb:∀x,b=some x→∀c∈x,Q c):∀x,cat a b=some x→∀c∈x,Q c:=fun x hx c hc=>by
 unfold cat at hx
 cases a with
 |none=>cases hx
 |some y=>
  cases b with
  |none=>cases hx
  |some z=>
   cases hx
   rcases List.mem_append.1 hc with h|h
   ·exact ha y rfl c h
   ·exact hb z rfl c h
theorem Jv(W bd:List Bs):∀(xs ys:List Bs) (ps:List w6),ptw W bd xs ys=some ps→∀b∈ps,qv b
 | [],ys,ps,h,b,hb=>by rw[ptw]at h;cases h;cases hb;simp
 |x::xs,[],ps,h,b,hb=>by rw[ptw]at h;cases h;cases hb;simp
 |x::xs,y::ys,ps,h,b,hb=>by
  rw[ptw]at h
  have ih:=Jv W bd xs ys
  have mp:∀c:w6,qv c→(ptw W bd xs ys).map (c:: ·)=some ps→qv b:=fun c hc h=>by
   cases hp:ptw W bd xs ys with
   |none=>rw[hp]at h;cases h
   |some q=>
    rw[hp]at h;cases h
    rcases List.mem_cons.1 hb with rfl|hb
    ·exact hc
    ·exact ih q hp b hb
  split at h
  ·exact mp _ (Aa (.inr (.inr rfl))) h
  ·split at h
   ·exact mp _ (Aa (.inr (.inl rfl))) h
   ·split at h
    ·exact ih ps h b hb
    ·cases h
theorem Oo(s:A8)(f g:u5)(ps:List w6)(h:pth s f g=some ps):∀b∈ps,qv b:=fun b hb=>by
 unfold pth at h
 split at h
 ·cases h
  rw[List.mem_singleton]at hb;subst hb
  exact Aa (.inr (.inr rfl))
 ·split at h
  ·cases h
   rw[List.mem_singleton]at hb;subst hb
   exact Aa (.inl rfl)
  ·split at h
   ·cases h;cases hb
   ·cases h
mutual
theorem Bv(s:A8):∀(f:u5) (bd:List Bs) (g:u5),SmF g→∀ps,pts s f bd g=some ps→∀b∈ps,qv b
 | .mk k n w l,bd,g,hg,ps,h,b,hb=>by
   rw[pts]at h
   split at h
   ·cases h
    rw[List.mem_singleton]at hb;subst hb
    exact⟨hg,.inl ⟨n,rfl,rfl⟩⟩
   ·split at h
    ·cases h
    ·exact FI (fun x hx=>Oo s _ g x hx) (FI (fun x hx=>Jv _ _ _ _ x hx) (fun x hx=>FJ s l _ g.subs ((uR g).1 hg).2.2 x hx)) ps h b hb
theorem FJ(s:A8):∀(l:List u5) (bd:List Bs) (gs:List u5),qQ gs→∀ps,pQ s l bd gs=some ps→∀b∈ps,qv b
 | [],bd,gs,hg,ps,h,b,hb=>by rw[pQ]at h;cases h;cases hb
 |f::l,bd,[],hg,ps,h,b,hb=>by rw[pQ]at h;cases h;cases hb
 |f::l,bd,g::gs,hg,ps,h,b,hb=>by
  rw[pQ]at h
  rw[qQ]at hg
  exact FI (fun x hx=>Bv s f bd g hg.1 x hx) (fun x hx=>FJ s l bd gs hg.2 x hx) ps h b hb
end
theorem Ip(a b:List Bs):J2 a b=some (decide (a=b)):=by
 have h:Evt (fun _=>J2 a b) (fun r=>r=decide (a=b)):=by
  unfold J2
  refine Evt.cond (fun e=>Evt.pure ?_) (fun e=>?_)
  ·replace e:=bx e
   exact(decide_eq_false fun h=>e (by rw[h])).symm
  replace e:=bx e
  have hl:a.length=b.length:=by omega
  refine Evt.C2 (Evt.scan (fun k _=>a.take k=b.take k) (fun k r=>r=false∧Am.get a k≠Am.get b k) (by simp) (fun k u hk hi=>?_)) (fun t ht=>?_) (fun r hr=>?_)
  ·unfold N8
   refine Evt.chk (by omega) (Evt.cond (fun e=>Evt.pure ?_) (fun e=>Evt.pure ?_))
   ·replace e:=bx e
    exact⟨rfl,e⟩
   ·replace e:=bx e
    show a.take (k+1)=b.take (k+1)
    rw[F8 hk,F8 (l:=b) (by omega),hi,e]
  ·unfold N9
   refine Evt.pure (decide_eq_true ?_).symm
   have ht:a.take a.length=b.take a.length:=ht
   rw[List.take_length,hl,List.take_length]at ht
   exact ht
  ·obtain⟨k,_,_,_,rfl,h⟩:=hr
   exact(decide_eq_false fun e=>h (by rw[e])).symm
 obtain⟨r,rfl,N,hN⟩:=h
 exact hN N (Nat.le_refl _)
open Classical in
theorem FK:∀(m:Nat) (f:u5),SizeOf.sizeOf f≤m→SmF f→∀g:u5,Evt (fun n=>dN n f g) (fun r=>r=decide (f=g)):=by
 intro m
 induction m with
 |zero=>intro f h;cases f;simp only[u5.mk.sizeOf_spec]at h;omega
 |succ m ih=>
  intro f hf hsm g
  obtain⟨_,hsl,hsm⟩:=(uR f).1 hsm
  refine Evt.succ ?_
  simp only[dN,Ip]
  refine Evt.bind (P:=fun v=>f.kind=g.kind→f.name=g.name→v=decide (f.words=g.words)) (Evt.gd (fun _=>Evt.pure fun _ _=>by congr) (fun h h1 h2=>by simp[h1,h2]at h)) fun v hv=>?_
  refine Evt.cond (fun e=>Evt.pure (decide_eq_false fun h=>?_).symm) (fun e=>?_)
  ·subst h
   have:=hv rfl rfl
   simp[this]at e
  have e1:f.kind=g.kind:=Classical.byContradiction fun h=>by simp[h]at e
  have e2:f.name=g.name:=Classical.byContradiction fun h=>by simp[h]at e
  have e3:f.words=g.words:=Classical.byContradiction fun h=>by have:=hv e1 e2;rw[decide_eq_false h]at this;simp[this]at e
  have e4:f.subs.length=g.subs.length:=Classical.byContradiction fun h=>by
   have:¬((f.subs.length:Int)=(g.subs.length:Int)):=by omega
   rw[decide_eq_false this]at e
   revert e
   cases (bif bif !decide (f.kind=g.kind)then true else !decide (f.name=g.name)then true else !v)<;>simp
  refine Evt.chk (by omega) (Evt.C2 (Evt.scan (fun k _=>f.subs.take k=g.subs.take k) (fun k r=>r=false∧Am.get f.subs k≠Am.get g.subs k) (by simp) (fun k u hk hi=>?_)) (fun t ht=>?_) (fun r hr=>?_))
  ·unfold gD
   have hsz:=J6 hk
   refine Evt.chk (by omega) (Evt.bind (ih _ (by omega) (qR hsm _ (get_mem hk)) _) fun v2 hv2=>Evt.cond (fun e=>Evt.pure ?_) (fun e=>Evt.pure ?_))
   ·subst hv2
    exact⟨rfl,fun h=>by rw[decide_eq_true h]at e;cases e⟩
   ·subst hv2
    have h:Am.get f.subs k=Am.get g.subs k:=Classical.byContradiction fun h=>by rw[decide_eq_false h]at e;cases e
    show f.subs.take (k+1)=g.subs.take (k+1)
    rw[F8 hk,F8 (l:=g.subs) (by omega),hi,h]
  ·unfold gF
   refine Evt.pure (decide_eq_true ?_).symm
   have ht:f.subs.take f.subs.length=g.subs.take f.subs.length:=ht
   rw[List.take_length,e4,List.take_length]at ht
   cases f;cases g
   simp only[u5.kind,u5.name,u5.words,u5.subs]at*
   rw[e1,e2,e3,ht]
  ·obtain⟨k,_,_,_,rfl,h⟩:=hr
   exact(decide_eq_false fun e=>h (by rw[e])).symm
def RM(o:Option Env)(r:Bool×Env):Prop:=(∀e,o=some e→r=(true,e))∧(o=none→r.1=false)
theorem sS{env:Env}(he:kY env){c:UInt8}(hc:c=33∨c=46∨c=63)(x y:Bs):Evt (fun _=>T7 (c::x) y env) (RM (qT env ⟨c::x,y,zf⟩)):=by
 unfold T7 qT
 cases h:assoc (c::x) env with
 |none=>
  refine Evt.cond (fun e=>by simp at e) (fun _=>Evt.P6 (Evt.pure ?_))
  simp only[h]
  exact⟨fun e he=>by cases he;rfl,fun he=>by cases he⟩
 |some b=>
  refine Evt.cond (fun _=>Evt.pure ?_) (fun e=>by simp at e)
  simp only[h]
  obtain⟨h1,h2⟩:=he _ _ h
  have hiff:b=⟨c::x,y,zf⟩↔b.text=y:=by
   constructor
   ·intro e;rw[e]
   ·intro e
    obtain⟨_,h2⟩:=h2
    rcases h2 with⟨z,e1,_⟩|⟨c',z,e1,hc',e2⟩
    ·rw[h1]at e1
     have:=(List.cons.inj e1).1
     rcases hc with rfl|rfl|rfl<;>cases this
    ·cases b
     simp only at h1 e2 e
     rw[h1,e,e2]
  by_cases hb:b.text=y
  ·rw[if_pos (hiff.2 hb)]
   refine⟨fun e he=>?_,fun he=>by cases he⟩
   cases he
   show(decide (((some b).getD default).text=y),env)=_
   rw[decide_eq_true (show((some b).getD default).text=y from hb)]
  ·rw[if_neg fun e=>hb (hiff.1 e)]
   exact⟨fun e he=>(by cases he),fun _=>decide_eq_false hb⟩
def Has(bd:List Bs)(env:Env):Prop:=∀x∈bd,(assoc (63::x) env).isSome=true
theorem Has.mono{bd:List Bs}{env e:Env}(h:Has bd env)(hm:∀k c,assoc k env=some c→assoc k e=some c):Has bd e:=fun x hx=>by
 obtain⟨c,hc⟩:=Option.isSome_iff_exists.1 (h x hx)
 rw[hm _ _ hc];rfl
theorem ju{c:UInt8}{x:Bs}{l:List Bs}:(c::x)∈l.map (c:: ·)↔x∈l:=by
 rw[List.mem_map]
 exact⟨fun⟨y,hy,e⟩=>(List.cons.inj e).2▸hy,fun h=>⟨x,h,rfl⟩⟩
theorem Ab{c:UInt8}(hc:c=33∨c=43∨c=46∨c=63){k:Bs}{l:List Bs}(h:k∈l.map (c:: ·)):IsKey k:=by
 obtain⟨y,_,rfl⟩:=List.mem_map.1 h
 exact⟨c,y,rfl,hc⟩
theorem Iq{env:Env}(he:kY env){x:Bs}(hx:¬IsKey x):assoc x env=none:=by
 cases h:assoc x env with
 |none=>rfl
 |some b=>
  obtain⟨h1,h2⟩:=he _ _ h
  exact absurd (h1▸h2.key) hx
section
variable {s:A8}
theorem Bw{xs:List Bs}{k:Nat}(h:k<xs.length):xs.drop k=Am.get xs k::xs.drop (k+1):=KP h
theorem KT(W bd ys:List Bs):ptw W bd [] ys=some []:=by cases ys<;>simp[ptw]
theorem Bx(env:Env)(b:w6):cT env [b]=qT env b:=by
 rw[cT]
 cases qT env b<;>rfl
theorem Bz{f g:u5}(hf:WfF f)(hlen:f.words.length=g.words.length)(bd:List Bs){env:Env}(he:kY env)(hh:Has bd env):
 Evt (fun _=>D4 (Z9 (Y7 s f bd) (gS s) g) (Y7 s f bd).words.length env) (ExP (fun t=>(ptw s.words bd f.words g.words).bind (cT env)=some t∧kY t∧Has bd t) (fun r=>(ptw s.words bd f.words g.words).bind (cT env)=none∧r.1=false)):=by
 have hml:(Y7 s f bd).words.length=f.words.length:=by rw[eT];exact List.length_map _
 rw[hml]
 refine(Evt.range (fun k t=>(ptw s.words bd f.words g.words).bind (cT env)=(ptw s.words bd (f.words.drop k) (g.words.drop k)).bind (cT t)∧kY t∧Has bd t) (fun _=>False) (fun r=>(ptw s.words bd f.words g.words).bind (cT env)=none∧r.1=false) ⟨rfl,he,hh⟩ (fun k t hk ht=>?_)).mono fun e h=>?_
 ·obtain⟨ht,hte,hth⟩:=ht
  have hkg:k<g.words.length:=by omega
  have hkm:Am.get (Y7 s f bd).words k=mkw s.words bd (Am.get f.words k):=by rw[eT];exact get_map _ hk
  rw[Bw hk,Bw hkg,ptw]at ht
  unfold Z9
  simp only[hkm,J8]
  have nx:¬IsKey (Am.get f.words k):=wm (zW hf (get_mem hk))
  have fin:∀(c:UInt8),c=46∨c=63→(ptw s.words bd f.words g.words).bind (cT env)=((ptw s.words bd (f.words.drop (k+1)) (g.words.drop (k+1))).map (⟨c::Am.get f.words k,Am.get g.words k,zf⟩:: ·)).bind (cT t)→
   Evt (fun _:Nat=>chk ((k:Int)<(g.words.length:Int)) <| (T7 (c::Am.get f.words k) (Am.get g.words k) t).bind fun v14=>bif (!v14.1)then some (Ctl.ret (τ:=Env) (false,v14.2))else some (.nxt v14.2)) (HZ (fun t=>(ptw s.words bd f.words g.words).bind (cT env)=(ptw s.words bd (f.words.drop (k+1)) (g.words.drop (k+1))).bind (cT t)∧kY t∧Has bd t) (fun _=>False) (fun r=>(ptw s.words bd f.words g.words).bind (cT env)=none∧r.1=false)):=by
   intro c hc ht
   rw[Io]at ht
   refine Evt.chk (by omega) (Evt.bind (sS hte (hc.elim (fun h=>.inr (.inl h)) fun h=>.inr (.inr h)) _ _) fun v hv=>?_)
   cases hp:qT t ⟨c::Am.get f.words k,Am.get g.words k,zf⟩with
   |none=>
    rw[hp]at ht hv
    have h1:=hv.2 rfl
    refine Evt.cond (fun _=>Evt.pure ⟨ht,rfl⟩) (fun e=>by rw[h1]at e;cases e)
   |some t'=>
    rw[hp]at ht hv
    have h1:=hv.1 _ rfl
    subst h1
    refine Evt.cond (fun e=>by cases e) (fun _=>Evt.pure ⟨ht,zY hte (Aa (hc.elim (fun h=>.inr (.inl h)) fun h=>.inr (.inr h))) hp,hth.mono (kG hp).2.1⟩)
  by_cases h1:Am.get f.words k∈bd
  ·rw[if_pos h1]at ht
   have e1:mkw s.words bd (Am.get f.words k)=63::Am.get f.words k:=by unfold mkw;rw[if_pos h1]
   rw[e1]
   have h2:=hth _ h1
   simp only[h2]
   exact fin 63 (.inr rfl) ht
  ·rw[if_neg h1]at ht
   by_cases h2:Am.get f.words k∈s.words
   ·rw[if_pos h2]at ht
    have e1:mkw s.words bd (Am.get f.words k)=46::Am.get f.words k:=by unfold mkw;rw[if_neg h1,if_pos h2]
    rw[e1]
    have h3:decide (46::Am.get f.words k∈(gS s).words)=true:=decide_eq_true (ju.2 h2)
    simp only[h3]
    cases h4:(assoc (46::Am.get f.words k) t).isSome
    ·exact fin 46 (.inl rfl) ht
    ·exact fin 46 (.inl rfl) ht
   ·rw[if_neg h2]at ht
    have e1:mkw s.words bd (Am.get f.words k)=Am.get f.words k:=by unfold mkw;rw[if_neg h1,if_neg h2]
    rw[e1]
    have h3:(assoc (Am.get f.words k) t).isSome=false:=by rw[Iq hte nx];rfl
    have h4:decide (Am.get f.words k∈(gS s).words)=false:=decide_eq_false fun h=>nx (Ab (.inr (.inr (.inl rfl))) h)
    simp only[h3,h4]
    refine Evt.chk (by omega) (Evt.cond (fun e=>Evt.pure ?_) (fun e=>Evt.pure ?_))
    ·replace e:=bx e
     rw[if_neg e]at ht
     exact⟨ht,rfl⟩
    ·replace e:=bx e
     rw[if_pos e]at ht
     exact⟨ht,hte,hth⟩
 ·cases e with
  |ret r=>exact h
  |nxt t=>
   obtain⟨h1,h2,h3⟩:=h.elim id False.elim
   rw[List.drop_length,KT]at h1
   exact⟨h1,h2,h3⟩
open Classical in
theorem Oq:∀(m:Nat) (f:u5),SizeOf.sizeOf f≤m→WfF f→∀(g:u5),WfF g→∀(bd:List Bs) (env:Env),kY env→Has bd env→
 Evt (fun n=>E8 n (gS s) (Y7 s f bd) g env) (RM ((pts s f bd g).bind (cT env))):=by
 intro m
 induction m with
 |zero=>intro f h;cases f;simp only[u5.mk.sizeOf_spec]at h;omega
 |succ m ih=>
  intro f hf hwf g hwg bd env he hh
  have hnf:=W1 ((Y6 f).1 hwf).1
  have hng:=W1 ((Y6 g).1 hwg).1
  have hml:(Y7 s f bd).words.length=f.words.length:=by rw[eT];exact List.length_map _
  have hmk:(Y7 s f bd).kind=f.kind:=by rw[eT];rfl
  have hmn:(Y7 s f bd).name=mkn s f:=by rw[eT];rfl
  have hms:(Y7 s f bd).subs=R6 s f.subs (if QK f.kind then f.name::bd else bd):=by rw[eT];rfl
  have hk2:f.kind=2→¬QK f.kind:=fun h=>by unfold QK;omega
  have hplain:f.kind=2→¬IsKey f.name:=fun h=>wm (hnf.2.2.1 (.inl h))
  have hpart:cS (gS s) (Y7 s f bd)↔cS s f:=by
   unfold cS
   rw[hmk,hml,hmn]
   constructor
   ·rintro⟨h1,h2⟩
    refine⟨h1,?_⟩
    unfold mkn at h2
    rw[if_neg (hk2 h1.1)]at h2
    split at h2
    ·rename_i h3;exact h3.2
    ·exfalso
     obtain⟨y,_,e⟩:=List.mem_map.1 h2
     split at e
     ·cases (List.cons.inj e).1
     ·exact hplain h1.1 (e▸ ⟨43,y,rfl,by simp⟩)
   ·rintro⟨h1,h2⟩
    refine⟨h1,?_⟩
    unfold mkn
    rw[if_neg (hk2 h1.1),if_pos (show cS s f from⟨h1,h2⟩)]
    exact ju.2 h2
  refine Evt.succ ?_
  simp only[E8,wj,Option.bind_some,dc,J8,hmk,hml,hmn]
  rw[FH]
  refine Evt.cond (fun e=>?_) (fun e=>?_)
  ·have hp:cS s f:=hpart.1 (of_decide_eq_true e)
   rw[if_pos hp]
   have QZ:mkn s f=43::f.name:=by unfold mkn;rw[if_neg (hk2 hp.1.1),if_pos hp]
   rw[QZ]
   show Evt _ (RM (cT env [_]))
   rw[Bx]
   unfold qT
   cases h:assoc (43::f.name) env with
   |none=>
    refine Evt.cond (fun e=>by simp at e) (fun _=>Evt.P6 (Evt.pure ?_))
    exact⟨fun e he=>by cases he;rfl,fun he=>by cases he⟩
   |some b=>
    refine Evt.cond (fun _=>?_) (fun e=>by simp at e)
    obtain⟨h1,h2⟩:=he _ _ h
    have hsm:=h2.1
    have htx:b.text=[]:=by
     rcases h2.2 with⟨z,e1,e2⟩|⟨c',z,e1,hc',e2⟩
     ·exact e2
     ·rw[h1]at e1
      have:=(List.cons.inj e1).1
      rcases hc' with rfl|rfl|rfl<;>cases this
    have hiff:b=⟨43::f.name,[],g⟩↔b.form=g:=by
     constructor
     ·intro e;rw[e]
     ·intro e
      cases b
      simp only at h1 htx e
      rw[h1,htx,e]
    refine Evt.bind (FK _ b.form (Nat.le_refl _) hsm g) fun v hv=>Evt.pure ?_
    subst hv
    by_cases hb:b.form=g
    ·simp only[if_pos (hiff.2 hb),decide_eq_true hb]
     exact⟨fun e he=>by cases he;rfl,fun he=>by cases he⟩
    ·simp only[if_neg fun e=>hb (hiff.1 e),decide_eq_false hb]
     exact⟨fun e he=>(by cases he),fun _=>rfl⟩
  have hp:¬cS s f:=fun h=>(of_decide_eq_false e) (hpart.2 h)
  rw[if_neg hp]
  refine Evt.cond (fun e=>Evt.pure ?_) (fun e=>?_)
  ·have hc:f.kind≠g.kind∨f.words.length≠g.words.length:=Classical.byContradiction fun h=>by
    obtain⟨h1,h2⟩:=not_or.1 h
    have h1:=Classical.not_not.1 h1
    have h2:=Classical.not_not.1 h2
    simp[h1,h2]at e
   rw[if_pos hc]
   exact⟨fun e he=>(by cases he),fun _=>rfl⟩
  have hk:f.kind=g.kind:=Classical.byContradiction fun h=>by simp[h]at e
  have hl:f.words.length=g.words.length:=Classical.byContradiction fun h=>by
   have:¬((f.words.length:Int)=(g.words.length:Int)):=by omega
   simp[this]at e
  rw[if_neg fun h=>h.elim (fun h=>h hk) (fun h=>h hl),pP]
  have hsl:f.subs.length=g.subs.length:=by have:=hnf.1;have:=hng.1;rw[hk]at *; omega
  have rest:∀CY:Env,kY CY→Has bd CY→Has (if QK f.kind then f.name::bd else bd) CY→Evt (fun n=>K9 (E8 n) (Y7 s f bd) (gS s) g CY) (RM ((cat (ptw s.words bd f.words g.words) (pQ s f.subs (if QK f.kind then f.name::bd else bd) g.subs)).bind (cT CY))):=by
   intro CY he1 hh1 Ra
   rw[pP]
   unfold K9
   refine Evt.C2 (Bz hwf hl bd he1 hh1) (fun t ht=>?_) (fun r hr=>?_)
   ·obtain⟨ht,hte,hth⟩:=ht
    have hmono:Has (if QK f.kind then f.name::bd else bd) t:=by
     cases hw:ptw s.words bd f.words g.words with
     |none=>rw[hw]at ht;cases ht
     |some ps=>rw[hw]at ht;exact Ra.mono (mB _ _ _ ht).2.1
    rw[ht]
    unfold ah
    rw[hms,mz]
    refine Evt.C2 (P:=ExP (fun t'=>(pQ s f.subs (if QK f.kind then f.name::bd else bd) g.subs).bind (cT t)=some t') (fun r=>(pQ s f.subs (if QK f.kind then f.name::bd else bd) g.subs).bind (cT t)=none∧r.1=false)) ((Evt.range (fun k t'=>(pQ s f.subs (if QK f.kind then f.name::bd else bd) g.subs).bind (cT t)=(pQ s (f.subs.drop k) (if QK f.kind then f.name::bd else bd) (g.subs.drop k)).bind (cT t')∧kY t'∧Has (if QK f.kind then f.name::bd else bd) t') (fun _=>False) (fun r=>(pQ s f.subs (if QK f.kind then f.name::bd else bd) g.subs).bind (cT t)=none∧r.1=false) ⟨rfl,hte,hmono⟩ (fun k t' hk ht'=>?_)).mono fun e h=>?_) (fun t' ht'=>?_) (fun r hr=>?_)
    ·obtain⟨ht',Ot,Ou⟩:=ht'
     have hkg:k<g.subs.length:=by omega
     have hkm:Am.get (Y7 s f bd).subs k=Y7 s (Am.get f.subs k) (if QK f.kind then f.name::bd else bd):=by
      rw[hms]
      have:∀(l:List u5) (bd:List Bs) (k:Nat),k<l.length→Am.get (R6 s l bd) k=Y7 s (Am.get l k) bd:=by
       intro l
       induction l with
       |nil=>intro bd k h;cases h
       |cons a l ih=>
        intro bd k h
        rw[R6]
        cases k with
        |zero=>rfl
        |succ k=>exact ih bd k (by simpa using h)
      exact this _ _ _ hk
     have e1:f.subs.drop k=Am.get f.subs k::f.subs.drop (k+1):=by rw[List.drop_eq_getElem_cons hk];simp[Am.get,hk]
     have e2:g.subs.drop k=Am.get g.subs k::g.subs.drop (k+1):=by rw[List.drop_eq_getElem_cons hkg];simp[Am.get,hkg]
     rw[e1,e2,pQ,pP]at ht'
     unfold aj
     simp only[hkm]
     have hsz:=J6 hk
     refine Evt.chk (by omega) (Evt.bind (ih _ (by omega) (ng hwf hk) _ (ng hwg hkg) _ t' Ot Ou) fun v hv=>?_)
     cases hp:(pts s (Am.get f.subs k) (if QK f.kind then f.name::bd else bd) (Am.get g.subs k)).bind (cT t')with
     |none=>
      rw[hp]at ht' hv
      have h1:=hv.2 rfl
      exact Evt.cond (fun _=>Evt.pure ⟨ht',rfl⟩) (fun e=>by rw[h1]at e;cases e)
     |some t''=>
      rw[hp]at ht' hv
      have h1:=hv.1 _ rfl
      subst h1
      refine Evt.cond (fun e=>by cases e) (fun _=>Evt.pure ⟨ht',?_,?_⟩)
      ·cases hq:pts s (Am.get f.subs k) (if QK f.kind then f.name::bd else bd) (Am.get g.subs k)with
       |none=>rw[hq]at hp;cases hp
       |some ps=>rw[hq]at hp;exact zZ Ot (Bv s _ _ _ (WfF.sm _ (ng hwg hkg)) ps hq) hp
      ·cases hq:pts s (Am.get f.subs k) (if QK f.kind then f.name::bd else bd) (Am.get g.subs k)with
       |none=>rw[hq]at hp;cases hp
       |some ps=>rw[hq]at hp;exact Ou.mono (mB _ _ _ hp).2.1
    ·cases e with
     |ret r=>exact h
     |nxt t'=>
      obtain⟨h1,h2,h3⟩:=h.elim id False.elim
      rw[List.drop_length,pQ]at h1
      exact h1
    ·unfold ak
     have ht':(pQ s f.subs (if QK f.kind then f.name::bd else bd) g.subs).bind (cT t)=some t':=ht'
     refine Evt.pure ?_
     show RM ((some t).bind _) _
     rw[Option.bind_some,ht']
     exact⟨fun e he=>by cases he;rfl,fun he=>by cases he⟩
    ·show RM ((some t).bind _) _
     rw[Option.bind_some,hr.1]
     exact⟨fun e he=>(by cases he),fun _=>hr.2⟩
   ·rw[hr.1]
    exact⟨fun e he=>(by cases he),fun _=>hr.2⟩
  have Ov:∀c:UInt8,c=33∨c=63→mkn s f=c::f.name→pth s f g=some [⟨c::f.name,g.name,zf⟩]→(QK f.kind→c=63)→Evt (fun n=>G7 (E8 n) (Y7 s f bd) g env (gS s) true) (RM (((pth s f g).bind (cT env)).bind fun s'=>(cat (ptw s.words bd f.words g.words) (pQ s f.subs (if QK f.kind then f.name::bd else bd) g.subs)).bind (cT s'))):=by
   intro c hc hm hpt hq
   have hc3:c=33∨c=46∨c=63:=hc.elim .inl fun h=>.inr (.inr h)
   unfold G7
   simp only[cond_true,hmn,hm,hpt]
   have e0:(some [(⟨c::f.name,g.name,zf⟩:w6)]).bind (cT env)=qT env ⟨c::f.name,g.name,zf⟩:=by
    show cT env [_]=_
    rw[cT]
    cases qT env ⟨c::f.name,g.name,zf⟩<;>rfl
   rw[e0]
   refine Evt.bind (sS he hc3 f.name g.name) fun v hv=>?_
   cases hp:qT env ⟨c::f.name,g.name,zf⟩with
   |none=>
    rw[hp]at hv
    have h1:=hv.2 rfl
    exact Evt.cond (fun _=>Evt.pure ⟨fun e he=>(by cases he),fun _=>rfl⟩) (fun e=>by rw[h1]at e;cases e)
   |some t=>
    rw[hp]at hv
    have h1:=hv.1 _ rfl
    subst h1
    refine Evt.cond (fun e=>by cases e) (fun _=>?_)
    have hm1:=hh.mono (kG hp).2.1
    refine rest t (zY he (Aa hc3) hp) hm1 ?_
    by_cases hqk:QK f.kind
    ·rw[if_pos hqk]
     intro x hx
     rcases List.mem_cons.1 hx with rfl|hx
     ·have:=(kG hp).1
      obtain rfl:=hq hqk
      show(assoc (63::f.name) t).isSome=true
      rw[show assoc (63::f.name) t=some _ from this];rfl
     ·exact hm1 x hx
    ·rw[if_neg hqk];exact hm1
  refine Evt.cond (fun e=>?_) (fun e=>?_)
  ·have hq:QK f.kind:=of_decide_eq_true e
   rw[e]
   exact Ov 63 (.inr rfl) (by unfold mkn;rw[if_pos hq]) (by unfold pth;rw[if_pos hq]) (fun _=>rfl)
  ·have hq:¬QK f.kind:=of_decide_eq_false e
   have CZ:mkn s f=if f.kind=2∧f.name∈s.E9 then 33::f.name else f.name:=by unfold mkn;rw[if_neg hq,if_neg hp]
   refine Evt.bind (P:=fun v=>f.kind=2→v=decide (mkn s f∈(gS s).E9)) (Evt.gd (fun _=>Evt.pure fun _=>rfl) (fun g h=>by simp[h]at g)) fun v hv=>?_
   by_cases hpr:f.kind=2∧f.name∈s.E9
   ·rw[if_pos hpr]at CZ
    have h1:=hv hpr.1
    rw[CZ,decide_eq_true (show(33::f.name:Bs)∈(gS s).E9 from ju.2 hpr.2)]at h1
    have e2:(bif decide (f.kind=2)then v else false)=true:=by simp[hpr.1,h1]
    rw[e2]
    exact Ov 33 (.inl rfl) CZ (by unfold pth;rw[if_neg hq,if_pos hpr]) (fun h=>absurd h hq)
   ·rw[if_neg hpr]at CZ
    have e2:(bif decide (f.kind=2)then v else false)=false:=by
     by_cases h2:f.kind=2
     ·have h1:=hv h2
      rw[CZ,decide_eq_false (show ¬f.name∈(gS s).E9 from fun h=>hplain h2 (Ab (.inl rfl) h))]at h1
      simp[h1]
     ·simp[h2]
    rw[e2]
    have hpt:pth s f g=if f.name=g.name then some []else none:=by unfold pth;rw[if_neg hq,if_neg hpr]
    unfold G7
    simp only[cond_false,hmn,CZ,hpt]
    refine Evt.cond (fun e=>Evt.pure ?_) (fun e=>?_)
    ·replace e:=bx e
     rw[if_neg e]
     exact⟨fun e he=>(by cases he),fun _=>rfl⟩
    ·replace e:=bx e
     rw[if_pos e]
     exact rest env he hh (by rw[if_neg hq];exact hh)
end
mutual
theorem BA(s:A8):∀(f:u5) (bd:List Bs),ndF (Y7 s f bd)=ndF f
 | .mk k n w l,bd=>by rw[Y7,ndF,ndF,yr s l]
theorem yr(s:A8):∀(l:List u5) (bd:List Bs),bT (R6 s l bd)=bT l
 | [],bd=>by rw[R6]
 |f::l,bd=>by rw[R6,bT,bT,BA s f,yr s l]
end
mutual
theorem BD(s:A8):∀(f:u5) (bd:List Bs),qs (Y7 s f bd)=(qs f).map (63:: ·)
 | .mk k n w l,bd=>by
   rw[Y7,qs,qs,yt s l,List.map_append]
   by_cases h:QK k
   ·have:mkn s (.mk k n w l)=63::n:=by unfold mkn;exact if_pos h
    simp only[if_pos h,this];rfl
   ·simp only[if_neg h];rfl
theorem yt(s:A8):∀(l:List u5) (bd:List Bs),qsL (R6 s l bd)=(qsL l).map (63:: ·)
 | [],bd=>by rw[R6,qsL];rfl
 |f::l,bd=>by rw[R6,qsL,qsL,BD s f,yt s l,List.map_append]
end
theorem Ir:∀(m:Nat) (f:u5),SizeOf.sizeOf f≤m→SmF f→Evt (fun n=>bV n f) (fun r=>r=f):=by
 intro m
 induction m with
 |zero=>intro f h;cases f;simp only[u5.mk.sizeOf_spec]at h;omega
 |succ m ih=>
  intro f hf hsm
  obtain⟨_,hsl,hsm⟩:=(uR f).1 hsm
  refine Evt.succ ?_
  simp only[bV,S0,Option.bind_some]
  refine Evt.C2 (P:=ExP (fun t=>t=f.subs) (fun _=>False)) ((Evt.range (fun k t=>t=f.subs.take k) (fun _=>False) (fun _=>False) (by simp) (fun k t hk ht=>?_)).mono fun e he=>?_) (fun t ht=>?_) (fun _ h=>h.elim)
  ·unfold eU
   have hsz:=J6 hk
   refine Evt.bind (ih _ (by omega) (qR hsm _ (get_mem hk))) fun v hv=>Evt.P6 (Evt.chk ?_ (Evt.pure ?_))
   ·rw[M0,ht];simp only[List.length_append,List.length_take,List.length_cons,List.length_nil];omega
   ·show _=_
    rw[hv,ht,F8 hk]
  ·cases e with
   |ret r=>exact he
   |nxt t=>
    have:=he.elim id False.elim
    rw[List.take_length]at this
    exact this
  ·have ht:t=f.subs:=ht
   subst ht
   unfold eV
   refine Evt.pure ?_
   cases f;rfl
theorem yu(x:Bs)(l:List Bs)(hl:l.length≤8000000):E5 x l=some (decide (x∈l)):=by
 have h:Evt (fun _=>E5 x l) (fun r=>r=decide (x∈l)):=by
  unfold E5 O6
  refine Evt.bind (P:=fun r=>0≤r↔x∈l) (Evt.chk (by omega) (Evt.C2 (Evt.scan (fun k _=>∀j,j<k→Am.get l j≠x) (fun k r=>r=(k:Int)∧Am.get l k=x) (fun j hj=>absurd hj (Nat.not_lt_zero _)) (fun k u hk hi=>?_)) (fun t ht=>?_) (fun r hr=>?_))) fun v hv=>Evt.pure ?_
  ·unfold L2
   refine Evt.cond (fun e=>Evt.pure ?_) (fun e=>Evt.pure ?_)
   ·replace e:=bx e
    exact⟨rfl,e.symm⟩
   ·replace e:=bx e
    intro j hj
    by_cases ej:j=k
    ·subst ej;exact fun h=>e h.symm
    ·exact hi j (by omega)
  ·unfold L3
   refine Evt.pure ⟨fun h=>absurd h (by decide),fun h=>?_⟩
   obtain⟨j,hj,e⟩:=bD.1 h
   exact absurd e (ht j hj)
  ·obtain⟨k,_,hk,_,rfl,e⟩:=hr
   exact⟨fun _=>bD.2 ⟨k,hk,e⟩,fun _=>by omega⟩
  ·by_cases h:x∈l
   ·simp[h,hv.2 h]
   ·have h3:¬0≤v:=fun h2=>h (hv.1 h2)
    simp only[h,h3,decide_false]
 obtain⟨r,rfl,N,hN⟩:=h
 exact hN N (Nat.le_refl _)
def iU(s:A8):List Bs:=(s.words.map (46:: ·)++s.E9.map (33:: ·)++s.parts.map (43:: ·))++(qs s.form).map (63:: ·)
def txE(e:Env)(k:Bs):Bs:=((assoc k e).getD default).text
def fmE(e:Env)(k:Bs):u5:=((assoc k e).getD default).form
def caught(s:A8)(e:Env):Prop:=∃w∈s.words,txE e (46::w)∈(qs s.form).map fun x=>txE e (63::x)
open Classical in
noncomputable def Iu(s:A8)(g:u5):List w6×Bool:=match (pts s s.form [] g).bind (cT [])with
 |none=>([],false)
 |some e=>if caught s e then([],false)else((iU s).map fun k=>⟨k.drop 1,txE e k,fmE e k⟩,true)
theorem Ow{e:Env}(h:kY e)(k:Bs):SmF (fmE e k):=by
 unfold fmE
 cases hk:assoc k e with
 |none=>exact Om
 |some b=>exact(h k b hk).2.1
theorem KU(u:Nat):∀c∈Lib.decDigits u,48≤c.toNat∧c.toNat≤57:=by
 induction u using Nat.strongRecOn with
 | _ u ih=>
   have one:∀v:Nat,v<10→48≤(UInt8.ofNat (48+v)).toNat∧(UInt8.ofNat (48+v)).toNat≤57:=fun v hv=>by
    simp only[UInt8.toNat_ofNat'];omega
   intro c hc
   by_cases h:u<10
   ·rw[Lib.decDigits,dif_pos h,List.mem_singleton]at hc
    subst hc;exact one u h
   ·rw[Lib.decDigits,dif_neg h]at hc
    rcases List.mem_append.1 hc with hc|hc
    ·exact ih (u / 10) (by omega) c hc
    ·rw[List.mem_singleton]at hc
     subst hc;exact one _ (Nat.mod_lt _ (by decide))
theorem KV{m:Nat}(h:m≤1000000000):D2 (vn m):=by
 have hl:=zT h
 refine⟨by simp[vn],by simp[vn];omega,by simp[vn,dY],fun k hk=>?_⟩
 unfold OkC dY
 rw[Int.toNat_natCast]
 cases k with
 |zero=>left;simp[vn]
 |succ k=>
  right;left
  have hk2:k<(Lib.decDigits m).length:=by simpa[vn]using hk
  have:(vn m).getD (k+1) 0=(Lib.decDigits m)[k]:=by simp[vn,hk2]
  rw[this]
  have:=KU m _ (List.getElem_mem hk2)
  omega
theorem FL{k:Int}{n n':Bs}{w w':List Bs}{l l':List u5}(h:eD (.mk k n w l)=0)(hn:k=2→n'=n)(hq:QK k→D2 n')(hn2:¬(k=2∨QK k)→n'=n)(hw:w'.length=w.length)(hl:l'.length=l.length)(hx:∀x∈w',D2 x):eD (.mk k n' w' l')=0:=by
 have o:=W1 h
 refine Ij (by have:=o.1;show 0≤arF k;have h2:((l.length:Nat):Int)=arF k:=this;omega) (by show(l'.length:Int)=arF k;rw[hl];exact o.1) (by show hJ k w'.length;rw[hw];exact o.2.1) (fun h=>?_) (fun h=>?_) hx
 ·rcases h with h|h
  ·have h:k=2:=h
   have:=o.2.2.1 (.inl h)
   show D2 n'
   rw[hn h];exact this
  ·exact hq h
 ·show n'=[]
  rw[hn2 h];exact o.2.2.2.1 h
mutual
theorem Jw(N:Nat→Bs)(q:Nat)(hN:∀i,i<q→D2 (N i)):∀(f:u5) (env:List (Bs×Bs)) (i:Nat),WfF f→i+nq f≤q→(∀p∈env,D2 p.2)→WfF (ren N f env i)
 | .mk k n w s,env,i,h,hq,Iv=>by
   have h0:=(Y6 _).1 h
   have hnn:eD (.mk k n w s)=0:=h0.1
   have hss:kE s:=h0.2
   rw[nq]at hq
   rw[ren,Y6]
   refine⟨FL hnn (fun e=>if_neg (by unfold QK;omega)) (fun e=>?_) (fun e=>if_neg fun e2=>e (.inr e2)) (List.length_map _) (gy _ _ _ _) (fun x hx=>?_),?_⟩
   ·rw[if_pos e]
    rw[if_pos e]at hq
    exact hN i (by omega)
   ·obtain⟨y,hy,rfl⟩:=List.mem_map.1 hx
    have hyn:D2 y:=zW h hy
    by_cases hm:y∈env.map (·.1)
    ·obtain⟨p,hp,e⟩:=List.mem_map.1 (vV hm)
     rw[←e];exact Iv p hp
    ·rw[sL fun p hp e=>hm (List.mem_map.2 ⟨p,hp,e⟩)];exact hyn
   ·refine FM N q hN s _ _ hss ?_ (fun p hp=>?_)
    ·by_cases e:QK k
     ·simp only[if_pos e]at hq ⊢; omega
     ·simp only[if_neg e]at hq ⊢; omega
    ·by_cases e:QK k
     ·rw[if_pos e]at hp
      rw[if_pos e]at hq
      rcases List.mem_cons.1 hp with rfl|hp
      ·exact hN i (by omega)
      ·exact Iv p hp
     ·rw[if_neg e]at hp;exact Iv p hp
theorem FM(N:Nat→Bs)(q:Nat)(hN:∀i,i<q→D2 (N i)):∀(l:List u5) (env:List (Bs×Bs)) (i:Nat),kE l→i+nqL l≤q→(∀p∈env,D2 p.2)→kE (O8 N l env i)
 | [],env,i,_,_,_=>by rw[O8,kE];trivial
 |f::l,env,i,h,hq,Iv=>by
  rw[nqL]at hq
  rw[O8,kE]
  exact⟨Jw N q hN f env i (M6.1 h f (List.mem_cons_self ..)) (by omega) Iv,FM N q hN l env _ (M6.2 fun x hx=>M6.1 h x (List.mem_cons_of_mem _ hx)) (by omega) Iv⟩
end
theorem BF{f:u5}(h:OkF f):∃C:List Bs,C.length≤600∧∀x,fre f [] x↔x∈C:=by
 have:=h.2.1
 obtain⟨C,hC,_⟩:=lQ h.1 (by omega)
 exact⟨C,by omega,fun x=>(hC.1 x).symm⟩
theorem Rb{f:u5}(h:OkF f):OkF (cf f):=by
 obtain⟨C,hCl,hC⟩:=BF h
 have hnd:=h.2.1
 have hq:=zO f
 have Tt:=Fv (fun x=>(hC x).1) 600 hCl
 refine⟨Jw _ 200 (fun i hi=>KV (by have:=Tt i;omega)) f [] 0 h.1 (by omega) (fun p hp=>by cases hp),?_,?_⟩
 ·unfold cf;rw[Fh];exact h.2.1
 ·unfold cf;rw[Fj];exact h.2.2
structure Found{α:Type}[Inhabited α](l:List α)(f:α→Int)(r:Int×Bool):Prop where
 place:∃t:Nat,r.1=(t:Int)∧t≤l.length∧(∀j,j<t→f (Am.get l j)<0)∧(∀j,t≤j→j<l.length→¬f (Am.get l j)<0)∧r.2=(decide (t<l.length)&&decide (f (Am.get l t)=0))
theorem Da{α:Type}[Inhabited α](l:List α)(f:α→Int)(cm:α→Option Int)(hcm:∀x,cm x=some (f x))(hl:l.length≤1000000)(hm:∀i j,i<j→j<l.length→¬f (Am.get l i)<0→¬f (Am.get l j)<0)
 (body:Int×Int→Option (Ctl (Int×Bool) (Int×Int) Int)) (hb:∀s,body s=bif decide (s.2<s.1)then
  chk (0≤(wr .i64 (Int.fdiv (wr .u64 (wr .i64 (s.2+s.1))) (2^(min 1 64))))∧(wr .i64 (Int.fdiv (wr .u64 (wr .i64 (s.2+s.1))) (2^(min 1 64))))<(l.length:Int)) <|
  (cm (Am.get l ((wr .i64 (Int.fdiv (wr .u64 (wr .i64 (s.2+s.1))) (2^(min 1 64)))).toNat))).bind fun v6=>
  bif decide (v6<0)then some (.nxt (s.1,(wr .i64 ((wr .i64 (Int.fdiv (wr .u64 (wr .i64 (s.2+s.1))) (2^(min 1 64))))+1))))
  else some (.nxt ((wr .i64 (Int.fdiv (wr .u64 (wr .i64 (s.2+s.1))) (2^(min 1 64)))),s.2))
  else some (.brk s.2))
 (af:Int→Option (Int×Bool)) (ha:∀t,af t=chk (jH (decide (t<(l.length:Int))) (0≤t)∧jH (decide (t<(l.length:Int))) (t<(l.length:Int))) (
  (gd (decide (t<(l.length:Int))) (cm (Am.get l t.toNat)) default).bind fun v10=>some (t,(bif decide (t<(l.length:Int))then decide (v10=0)else false)))):
 Evt (fun n=>C2 (Y4 body n ((l.length:Int),0)) af) (Found l f):=by
 refine Evt.C2 (P:=ExP (fun t:Int=>0≤t∧t≤l.length∧(∀j:Nat,(j:Int)<t→f (Am.get l j)<0)∧(∀j:Nat,t≤(j:Int)→j<l.length→¬f (Am.get l j)<0)) (fun _:Int×Bool=>False))
  (Evt.loop (body:=fun _=>body) (fun s:Int×Int=>(s.1-s.2).toNat) (fun s=>(0≤s.2∧s.2≤s.1∧s.1≤l.length)∧(∀j:Nat,(j:Int)<s.2→f (Am.get l j)<0)∧(∀j:Nat,s.1≤(j:Int)→j<l.length→¬f (Am.get l j)<0))
   (fun t:Int=>0≤t∧t≤l.length∧(∀j:Nat,(j:Int)<t→f (Am.get l j)<0)∧(∀j:Nat,t≤(j:Int)→j<l.length→¬f (Am.get l j)<0)) (fun _=>False)
   ⟨⟨by show(0:Int)≤0;omega,by show(0:Int)≤(l.length:Int);omega,by show(l.length:Int)≤(l.length:Int);omega⟩,fun j hj=>by have:(j:Int)<0:=hj;omega,fun j hj hj2=>by have:(l.length:Int)≤j:=hj;omega⟩ (fun s hs=>?_)) (fun t ht=>?_) (fun _ h=>h.elim)
 ·obtain⟨hs,hlo,hhi⟩:=hs
  show Evt (fun _=>body s) _
  rw[hb]
  refine Evt.cond (fun e=>?_) (fun e=>Evt.pure ?_)
  ·replace e:=bx e
   rw[half (by omega) e (by omega),hcm]
   have hw:wr .i64 ((s.2+s.1) / 2+1)=(s.2+s.1) / 2+1:=cr (by omega) (by omega)
   refine Evt.chk (by omega) (Evt.cond (fun e2=>Evt.pure ?_) (fun e2=>Evt.pure ?_))
   ·replace e2:=bx e2
    rw[hw]
    refine⟨⟨⟨by show(0:Int)≤_;omega,by show _≤s.1;omega,hs.2.2⟩,fun j hj=>?_,hhi⟩,by show(s.1-((s.2+s.1) / 2+1)).toNat<_;omega⟩
    have hj:(j:Int)<(s.2+s.1) / 2+1:=hj
    by_cases ej:j=((s.2+s.1) / 2).toNat
    ·rw[ej];exact e2
    ·exact Classical.byContradiction fun h=>hm j ((s.2+s.1) / 2).toNat (by omega) (by omega) h e2
   ·replace e2:=bx e2
    have e2:=Int.not_lt.2 e2
    refine⟨⟨⟨hs.1,by show s.2≤_;omega,by show _≤(l.length:Int);omega⟩,hlo,fun j hj hj2=>?_⟩,by show((s.2+s.1) / 2-s.2).toNat<_;omega⟩
    have hj:(s.2+s.1) / 2≤(j:Int):=hj
    by_cases ej:j=((s.2+s.1) / 2).toNat
    ·rw[ej];exact e2
    ·exact hm ((s.2+s.1) / 2).toNat j (by omega) hj2 e2
  ·replace e:=bx e
   exact⟨hs.1,by omega,hlo,fun j hj=>hhi j (by omega)⟩
 ·obtain⟨t0,t1,hlo,hhi⟩:=(ht:0≤t∧_)
  rw[ha]
  refine Evt.chk ⟨by unfold jH;intro _;exact t0,by unfold jH;intro h;exact of_decide_eq_true h⟩ ?_
  refine Evt.bind (P:=fun v=>t<l.length→v=f (Am.get l t.toNat)) (Evt.gd (fun _=>Evt.of (hcm _) fun _=>rfl) (fun e h=>absurd h (of_decide_eq_false e))) fun v hv=>Evt.pure ⟨t.toNat,by show t=_;omega,by omega,fun j hj=>hlo j (by omega),fun j hj=>hhi j (by omega),?_⟩
  show(bif decide (t<(l.length:Int))then decide (v=0)else false)=_
  by_cases h:t<l.length
  ·have h':t.toNat<l.length:=by omega
   rw[decide_eq_true h,decide_eq_true h',cond_true,hv h];rfl
  ·have h':¬t.toNat<l.length:=by omega
   rw[decide_eq_false h,decide_eq_false h'];rfl
theorem uS:∀a:Bs,Op.bytesLess a a=false
 | []=>rfl
 |x::a=>by
  rw[Op.bytesLess,uS a]
  have:¬x<x:=UInt8.lt_irrefl x
  simp[this]
theorem wo:∀ {a b c:Bs},Op.bytesLess a b=true→Op.bytesLess b c=true→Op.bytesLess a c=true
 | _,[],_,h,_=>by rw[Op.bytesLess.eq_def]at h;cases h
 | _,_::_,[],_,h=>by rw[Op.bytesLess.eq_def]at h;cases h
 | [],_::_,_::_,_,_=>rfl
 |x::a,y::b,z::c,h,k=>by
  rw[Op.bytesLess]at h k⊢
  simp only[Bool.or_eq_true,decide_eq_true_eq,Bool.and_eq_true,beq_iff_eq]at h k⊢
  rcases h with h|⟨rfl,h⟩
  ·rcases k with k|⟨rfl,k⟩
   ·exact .inl (UInt8.lt_trans h k)
   ·exact .inl h
  ·rcases k with k|⟨rfl,k⟩
   ·exact .inl k
   ·exact .inr ⟨rfl,wo h k⟩
theorem FN:∀(a b:Bs),Op.bytesLess a b=true∨a=b∨Op.bytesLess b a=true
 | [],[]=>.inr (.inl rfl)
 | [],_::_=>.inl rfl
 | _::_,[]=>.inr (.inr rfl)
 |x::a,y::b=>by
  rw[Op.bytesLess,Op.bytesLess]
  simp only[Bool.or_eq_true,decide_eq_true_eq,Bool.and_eq_true,beq_iff_eq]
  by_cases h:x=y
  ·subst h
   rcases FN a b with h|h|h
   ·exact .inl (.inr ⟨rfl,h⟩)
   ·exact .inr (.inl (by rw[h]))
   ·exact .inr (.inr (.inr ⟨rfl,h⟩))
  ·have h':x.toNat≠y.toNat:=fun e=>h (UInt8.toNat_inj.1 e)
   rcases Nat.lt_or_gt_of_ne h' with h1|h1
   ·exact .inl (.inl (UInt8.lt_iff_toNat_lt.2 h1))
   ·exact .inr (.inr (.inl (UInt8.lt_iff_toNat_lt.2 h1)))
theorem FP{a b:Bs}(h:Op.bytesLess a b=true):Op.bytesLess b a=false:=by
 cases e:Op.bytesLess b a with
 |false=>rfl
 |true=>have:=wo h e;rw[uS]at this;cases this
def ltK(a b:Bs×Int):Prop:=Op.bytesLess a.1 b.1=true∨(a.1=b.1∧a.2<b.2)
theorem wq(a:Bs×Int):¬ltK a a:=fun h=>h.elim (fun h=>by rw[uS]at h;cases h) (fun h=>by omega)
theorem sT{a b c:Bs×Int}(h:ltK a b)(k:ltK b c):ltK a c:=by
 rcases h with h|⟨h,h'⟩
 ·rcases k with k|⟨k,k'⟩
  ·exact .inl (wo h k)
  ·exact .inl (k▸h)
 ·rcases k with k|⟨k,k'⟩
  ·exact .inl (h▸k)
  ·exact .inr ⟨h.trans k,by omega⟩
theorem KW(a b:Bs×Int):ltK a b∨a=b∨ltK b a:=by
 rcases FN a.1 b.1 with h|h|h
 ·exact .inl (.inl h)
 ·rcases Int.lt_trichotomy a.2 b.2 with k|k|k
  ·exact .inl (.inr ⟨h,k⟩)
  ·exact .inr (.inl (Prod.ext h k))
  ·exact .inr (.inr (.inr ⟨h.symm,k⟩))
 ·exact .inr (.inr (.inl h))
open Classical in
noncomputable def Dr(a b:Bs×Int):Int:=if ltK a b then -1 else if a=b then 0 else 1
theorem sU{a b:Bs×Int}:Dr a b<0↔ltK a b:=by
 unfold Dr
 constructor
 ·intro h
  split at h
  ·assumption
  ·split at h<;>omega
 ·intro h;rw[if_pos h];decide
theorem FQ{a b:Bs×Int}:Dr a b=0↔a=b:=by
 unfold Dr
 constructor
 ·intro h
  split at h
  ·omega
  ·split at h
   ·assumption
   ·omega
 ·intro h
  subst h
  rw[if_neg (wq _),if_pos rfl]
theorem FT(a b:Bs):V5 a b=some (if Op.bytesLess a b=true then -1 else if a=b then 0 else 1):=by
 unfold V5 cU
 simp only[Option.bind_some,cond_false]
 cases h:Op.bytesLess a b with
 |true=>rfl
 |false=>
  by_cases e:a=b
  ·simp[e]
  ·simp[e]
theorem FU(a b:Int):aD a b=some (if a<b then -1 else if b<a then 1 else 0):=by
 obtain⟨r,hr,N,hN⟩:=vU a b
 rw[←hr];exact hN N (Nat.le_refl _)
theorem Iw(a b:Int):oK [a,b]=some (if a≠0 then a else b):=by
 unfold oK
 simp only[D4,List.length_cons,List.length_nil,Z6,kH,show Am.get [a,b] 0=a from rfl,show Am.get [a,b] (0+1)=b from rfl]
 by_cases h:a=0
 ·by_cases h':b=0
  ·simp[h,h',C2,kI]
  ·simp[h,h',C2]
 ·simp[h,C2]
def fJ(x:w7):Bs×Int:=(x.name,x.arity)
theorem uT(a b:w7):aA a b=some (Dr (fJ a) (fJ b)):=by
 unfold aA
 rw[FT,FU]
 simp only[Option.bind_some,Iw]
 congr 1
 by_cases h:Op.bytesLess a.name b.name=true
 ·have:ltK (fJ a) (fJ b):=.inl h
  unfold Dr
  rw[if_pos this]
  simp[h]
 ·rw[if_neg h]
  by_cases e:a.name=b.name
  ·rw[if_pos e]
   simp only[ne_eq,not_true_eq_false,if_false]
   by_cases h1:a.arity<b.arity
   ·have:ltK (fJ a) (fJ b):=.inr ⟨e,h1⟩
    unfold Dr
    rw[if_pos this,if_pos h1]
   ·have hn:¬ltK (fJ a) (fJ b):=fun h'=>h'.elim h fun h'=>h1 h'.2
    unfold Dr
    rw[if_neg hn,if_neg h1]
    by_cases h2:b.arity<a.arity
    ·rw[if_pos h2,if_neg]
     intro e'
     have:=congrArg Prod.snd e'
     have:a.arity=b.arity:=this
     omega
    ·rw[if_neg h2,if_pos]
     exact Prod.ext e (by show a.arity=b.arity;omega)
  ·rw[if_neg e]
   have hn:¬ltK (fJ a) (fJ b):=fun h'=>h'.elim h fun h'=>e h'.1
   unfold Dr
   rw[if_neg hn,if_neg fun e'=>e (congrArg Prod.fst e')]
   simp
open Classical in
noncomputable def Mt{α:Type}[Inhabited α](x:Nat→Option α):α:=Classical.epsilon fun r=>∃N,∀n,N≤n→x n=some r
theorem FV{α:Type}[Inhabited α]{x:Nat→Option α}{P:α→Prop}(h:Evt x P):Evt x (fun r=>r=Mt x)∧P (Mt x):=by
 obtain⟨r,hr,hN⟩:=h
 have hx:∃r,∃N,∀n,N≤n→x n=some r:=⟨r,hN⟩
 have he:=Classical.epsilon_spec hx
 obtain⟨M,hM⟩:=he
 obtain⟨N,hN2⟩:=hN
 have e:r=Mt x:=Option.some.inj ((hN2 (max N M) (by omega)).symm.trans (hM (max N M) (by omega)))
 exact⟨⟨r,e,N,hN2⟩,e▸hr⟩
theorem FW{α:Type}[Inhabited α](l:List α)(cm:α→Option Int)(hcm:∀x,(cm x).isSome=true)(hl:l.length≤4611686018427387904)
 (body:Int×Int→Option (Ctl (Int×Bool) (Int×Int) Int)) (hb:∀s,body s=bif decide (s.2<s.1)then
  chk (0≤(wr .i64 (Int.fdiv (wr .u64 (wr .i64 (s.2+s.1))) (2^(min 1 64))))∧(wr .i64 (Int.fdiv (wr .u64 (wr .i64 (s.2+s.1))) (2^(min 1 64))))<(l.length:Int)) <|
  (cm (Am.get l ((wr .i64 (Int.fdiv (wr .u64 (wr .i64 (s.2+s.1))) (2^(min 1 64)))).toNat))).bind fun v6=>
  bif decide (v6<0)then some (.nxt (s.1,(wr .i64 ((wr .i64 (Int.fdiv (wr .u64 (wr .i64 (s.2+s.1))) (2^(min 1 64))))+1))))
  else some (.nxt ((wr .i64 (Int.fdiv (wr .u64 (wr .i64 (s.2+s.1))) (2^(min 1 64)))),s.2))
  else some (.brk s.2))
 (af:Int→Option (Int×Bool)) (ha:∀t,af t=chk (jH (decide (t<(l.length:Int))) (0≤t)∧jH (decide (t<(l.length:Int))) (t<(l.length:Int))) (
  (gd (decide (t<(l.length:Int))) (cm (Am.get l t.toNat)) default).bind fun v10=>some (t,(bif decide (t<(l.length:Int))then decide (v10=0)else false)))):
 Evt (fun n=>C2 (Y4 body n ((l.length:Int),0)) af) (fun r=>r.2=true→0≤r.1∧r.1<l.length):=by
 refine Evt.C2 (P:=ExP (fun t:Int=>0≤t∧t≤l.length) (fun _:Int×Bool=>False))
  (Evt.loop (body:=fun _=>body) (fun s:Int×Int=>(s.1-s.2).toNat) (fun s=>0≤s.2∧s.2≤s.1∧s.1≤l.length)
   (fun t:Int=>0≤t∧t≤l.length) (fun _=>False)
   ⟨by show(0:Int)≤0;omega,by show(0:Int)≤(l.length:Int);omega,by show(l.length:Int)≤(l.length:Int);omega⟩ (fun s hs=>?_)) (fun t ht=>?_) (fun _ h=>h.elim)
 ·show Evt (fun _=>body s) _
  rw[hb]
  refine Evt.cond (fun e=>?_) (fun e=>Evt.pure ?_)
  ·replace e:=bx e
   rw[half (by omega) e (by omega)]
   have hw:wr .i64 ((s.2+s.1) / 2+1)=(s.2+s.1) / 2+1:=cr (by omega) (by omega)
   obtain⟨v,hv⟩:=Option.isSome_iff_exists.1 (hcm (Am.get l ((s.2+s.1) / 2).toNat))
   rw[hv]
   refine Evt.chk (by omega) (Evt.cond (fun e2=>Evt.pure ?_) (fun e2=>Evt.pure ?_))
   ·rw[hw]
    exact⟨⟨by show(0:Int)≤_;omega,by show _≤s.1;omega,hs.2.2⟩,by show(s.1-((s.2+s.1) / 2+1)).toNat<_;omega⟩
   ·exact⟨⟨hs.1,by show s.2≤_;omega,by show _≤(l.length:Int);omega⟩,by show((s.2+s.1) / 2-s.2).toNat<_;omega⟩
  ·replace e:=bx e
   exact⟨hs.1,by omega⟩
 ·obtain⟨t0,t1⟩:=(ht:0≤t∧_)
  rw[ha]
  refine Evt.chk ⟨by unfold jH;intro _;exact t0,by unfold jH;intro h;exact of_decide_eq_true h⟩ ?_
  obtain⟨v,hv⟩:=Option.isSome_iff_exists.1 (hcm (Am.get l t.toNat))
  rw[hv]
  refine Evt.bind (P:=fun _=>True) (Evt.gd (fun _=>Evt.pure trivial) (fun _=>trivial)) fun v _=>Evt.pure fun h=>⟨t0,?_⟩
  have h:(bif decide (t<(l.length:Int))then decide (v=0)else false)=true:=h
  by_cases e:t<(l.length:Int)
  ·exact e
  ·rw[decide_eq_false e]at h;cases h
def StK(l:List w7):Prop:=∀i j,i<j→j<l.length→ltK (fJ (Am.get l i)) (fJ (Am.get l j))
theorem StK.uniq{l:List w7}(h:StK l){i j:Nat}(hi:i<l.length)(hj:j<l.length)(e:fJ (Am.get l i)=fJ (Am.get l j)):i=j:=by
 rcases Nat.lt_trichotomy i j with h1|h1|h1
 ·have:=h i j h1 hj;rw[e]at this;exact absurd this (wq _)
 ·exact h1
 ·have:=h j i h1 hi;rw[e]at this;exact absurd this (wq _)
theorem Ix{m:B4}(h:StK m.relations)(hl:m.relations.length≤1000000)(nm:Bs)(a:Int):Evt (fun n=>eW n m nm a) (fun r=>(∃k,k<m.relations.length∧fJ (Am.get m.relations k)=(nm,a)∧r=(Am.get m.relations k,true))∨((∀k,k<m.relations.length→fJ (Am.get m.relations k)≠(nm,a))∧r=(⟨[],0,[]⟩,false))):=by
 unfold eW C9
 refine Evt.bind (P:=Found m.relations fun x=>Dr (fJ x) (nm,a)) (Da m.relations (fun x=>Dr (fJ x) (nm,a)) (fun x=>aA x (w7.mk nm a [])) (fun x=>uT _ _) hl (fun i j hij hj hi=>?_) _ (fun s=>rfl) _ (fun t=>rfl)) fun v hv=>?_
 ·rw[sU]at hi⊢
  exact fun h'=>hi (sT (h i j hij hj) h')
 ·obtain⟨t,h1,h2,h3,h4,h5⟩:=hv.place
  refine Evt.cond (fun e=>Evt.pure (.inr ⟨fun k hk ek=>?_,rfl⟩)) (fun e=>?_)
  ·rw[h5]at e
   simp only[Bool.not_eq_true',Bool.and_eq_false_iff,decide_eq_false_iff_not]at e
   have hkt:¬k<t:=fun hkt=>by
    have:=h3 k hkt
    rw[sU,ek]at this
    exact wq _ this
   have htl:t<m.relations.length:=by omega
   have e:=e.resolve_left (fun h=>h htl)
   rw[FQ]at e
   have h6:=h4 t (Nat.le_refl _) htl
   rw[sU]at h6
   have hne:k≠t:=fun e'=>e (e'▸ek)
   have:=h t k (by omega) hk
   rw[ek]at this
   exact h6 this
  ·rw[h5]at e
   simp only[Bool.not_eq_false',Bool.and_eq_true,decide_eq_true_eq]at e
   refine Evt.chk (by omega) (Evt.pure (.inl ⟨t,e.1,FQ.1 e.2,?_⟩))
   rw[h1,Int.toNat_natCast]
noncomputable def Ds(cs:List A0)(w:Bs):Int×Bool:=Mt fun n=>S1 n ⟨0,cs,[]⟩ w
theorem nI{sz:Int}{cs:List A0}{rs:List w7}(hl:cs.length≤1000000)(w:Bs):Evt (fun n=>S1 n ⟨sz,cs,rs⟩ w) (fun r=>r=Ds cs w):=by
 have:Evt (fun n=>S1 n ⟨0,cs,[]⟩ w) (fun _=>True):=by
  unfold S1 D3
  refine Evt.bind (FW cs (fun x=>br x w) (fun x=>?_) (by omega) _ (fun s=>rfl) _ (fun t=>rfl)) fun v hv=>?_
  ·unfold br;rw[FT];rfl
  ·refine Evt.cond (fun e=>Evt.pure trivial) (fun e=>?_)
   have:=hv (by simpa using e)
   exact Evt.chk this (Evt.pure trivial)
 exact(FV this).1.congr fun n=>rfl
theorem yw(a b:List Int):(E2 a b).isSome=true:=by
 have:Evt (fun _=>E2 a b) (fun _=>True):=by
  unfold E2
  refine Evt.C2 (P:=fun _=>True) ((Evt.range (fun _ _=>True) (fun _=>True) (fun _=>True) trivial (fun k s hk hs=>?_)).mono fun _ _=>trivial) (fun t ht=>?_) (fun _ _=>trivial)
  ·unfold U6
   refine Evt.cond (fun e=>Evt.pure trivial) (fun e=>?_)
   replace e:=bx e
   refine Evt.chk e ?_
   rw[FU]
   simp only[Option.bind_some]
   exact Evt.cond (fun e=>Evt.pure trivial) (fun e=>Evt.pure trivial)
  ·unfold U7
   exact Evt.cond (fun e=>Evt.pure trivial) (fun e=>Evt.pure trivial)
 obtain⟨r,_,N,hN⟩:=this
 rw[show E2 a b=some r from hN N (Nat.le_refl _)];rfl
noncomputable def RX(l:List (List Int))(t:List Int):Bool:=(Mt fun n=>D0 n l t).2
theorem FX{l:List (List Int)}(hl:l.length≤4611686018427387904)(t:List Int):Evt (fun n=>D0 n l t) (fun r=>r.2=RX l t):=by
 have:Evt (fun n=>D0 n l t) (fun _=>True):=by
  unfold D0
  exact(FW l (fun x=>E2 x t) (fun x=>yw _ _) hl _ (fun s=>rfl) _ (fun t=>rfl)).mono fun _ _=>trivial
 exact(FV this).1.mono fun r hr=>by rw[hr];rfl
end Go.Proofs.YtanlbioodbnakaaGreatDoor
