import Derived.Test.YtdjnbjnlnjhllaaGreatDoorFMLaw2
set_option linter.unusedVariables false
set_option linter.unusedSimpArgs false
namespace Go.Proofs.YtdjnbjnlnjhllaaGreatDoor
open Go Go.Am
theorem r3y{s:i8I}{i:Nat}(h:i<s.words.length):Am.get (vns s) i=Am.get s.words i:=by
 unfold vns Am.get
 rw[List.getD_eq_getElem?_getD,List.getD_eq_getElem?_getD,List.append_assoc,List.getElem?_append_left h]
theorem r1b{s:i8I}{i:Nat}(h:i<s.i8M.length):Am.get (vns s) (s.words.length+i)=Am.get s.i8M i:=by
 unfold vns Am.get
 rw[List.getD_eq_getElem?_getD,List.getD_eq_getElem?_getD,List.append_assoc,List.getElem?_append_right (by omega),List.getElem?_append_left (by omega)]
 congr 2;omega
theorem r1c{s:i8I}{i:Nat}(h:i<s.parts.length):Am.get (vns s) (s.words.length+s.i8M.length+i)=Am.get s.parts i:=by
 unfold vns Am.get
 rw[List.getD_eq_getElem?_getD,List.getD_eq_getElem?_getD,List.getElem?_append_right (by simp only[List.length_append];omega)]
 congr 2;simp only[List.length_append];omega
structure p7X(s:i8I):Prop where
 form:OkF s.form
 len:(vns s).length≤300
 name:∀x∈vns s,p0a x
 uniq:∀i j,i<j→j<(vns s).length→Am.get (vns s) i≠Am.get (vns s) j
 words:∀x∈s.words,fre s.form [] x
 i8M:∀x∈s.i8M,p8D (i9g s.form) x∨p8e (i9g s.form) x
 parts:∀x∈s.parts,¬p8D (i9g s.form) x∧p8e (i9g s.form) x
 u4n:QOk s
theorem OkS.good{s:i8I}(h:OkS s):p7X s:=by
 obtain⟨h1,h2,h3,h4⟩:=h
 have hvl:=p4K s
 have hn:∀j,j<(vns s).length→p0a (Am.get (vns s) j):=fun j hj=>Classical.byContradiction fun h=>by
  have:=h3 j hj
  unfold p2y at this
  rw[if_pos h]at this
  exact absurd this (by decide)
 have hu:∀j,j<(vns s).length→Am.get (vns s) j∉ (vns s).take j:=fun j hj h=>by
  have:=h3 j hj
  unfold p2y at this
  rw[if_neg (fun e=>e (hn j hj)),if_pos h]at this
  exact absurd this (by decide)
 refine⟨h1,h2,fun x hx=>?_,fun i j hij hj e=>hu j hj ((p6C (by omega)).2 ⟨i,hij,e⟩),fun x hx=>?_,fun x hx=>?_,fun x hx=>?_,h4⟩
 ·obtain⟨j,hj,rfl⟩:=p1x.1 hx
  exact hn j hj
 ·obtain⟨j,hj,rfl⟩:=p1x.1 hx
  have hjv:j<(vns s).length:=by omega
  have:=h3 j hjv
  unfold p2y at this
  rw[if_neg (fun e=>e (hn j hjv)),if_neg (hu j hjv),if_pos hj]at this
  rw[←r3y hj]
  exact Classical.byContradiction fun h=>by rw[if_neg h]at this;exact absurd this (by decide)
 ·obtain⟨i,hi,rfl⟩:=p1x.1 hx
  have hjv:s.words.length+i<(vns s).length:=by omega
  have:=h3 _ hjv
  unfold p2y at this
  rw[if_neg (fun e=>e (hn _ hjv)),if_neg (hu _ hjv),if_neg (by omega),if_pos (by omega)]at this
  rw[←r1b hi]
  exact Classical.byContradiction fun h=>by rw[if_neg h]at this;exact absurd this (by decide)
 ·obtain⟨i,hi,rfl⟩:=p1x.1 hx
  have hjv:s.words.length+s.i8M.length+i<(vns s).length:=by omega
  have:=h3 _ hjv
  unfold p2y at this
  rw[if_neg (fun e=>e (hn _ hjv)),if_neg (hu _ hjv),if_neg (by omega),if_neg (by omega)]at this
  rw[←r1c hi]
  by_cases hw:p8D (i9g s.form) (Am.get (vns s) (s.words.length+s.i8M.length+i))
  ·rw[if_pos hw]at this;exact absurd this (by decide)
  ·rw[if_neg hw]at this
   exact⟨hw,Classical.byContradiction fun h=>by rw[if_neg h]at this;exact absurd this (by decide)⟩
def p6f(s:i8I)(f:i8F):Prop:=(f.kind=2∧f.words.length=0)∧f.name∈s.parts
instance(s:i8I)(f:i8F):Decidable (p6f s f):=inferInstanceAs (Decidable (_∧_))
def mkw(W bd:List Bs)(w:Bs):Bs:=if w∈bd then 63::w else if w∈W then 46::w else w
def mkn(s:i8I)(f:i8F):Bs:=if QK f.kind then 63::f.name else if p6f s f then 43::f.name else if f.kind=2∧f.name∈s.i8M then 33::f.name else f.name
mutual
def p5F(s:i8I):i8F→List Bs→i8F
 | .mk k n w l,bd=>.mk k (mkn s (.mk k n w l)) (w.map (mkw s.words bd)) (p3u s l (if QK k then n::bd else bd))
def p3u(s:i8I):List i8F→List Bs→List i8F
 | [],_=>[]
 |f::l,bd=>p5F s f bd::p3u s l bd
end
theorem p8Q(s:i8I)(f:i8F)(bd:List Bs):p5F s f bd= .mk f.kind (mkn s f) (f.words.map (mkw s.words bd)) (p3u s f.subs (if QK f.kind then f.name::bd else bd)):=by cases f;rw[p5F];rfl
theorem r1L(s:i8I):∀(l:List i8F) (bd:List Bs),(p3u s l bd).length=l.length
 | [],_=>by rw[p3u]
 |f::l,bd=>by rw[p3u,List.length_cons,List.length_cons,r1L s l]
theorem r3z(s:i8I):∀(l:List i8F) (x:i8F) (bd:List Bs),p3u s (l++[x]) bd=p3u s l bd++[p5F s x bd]
 | [],x,bd=>by simp[p3u]
 |a::l,x,bd=>by rw[List.cons_append,p3u,p3u,r3z s l x];rfl
theorem u1E{W bd bd':List Bs}(h:∀y,y∈bd↔y∈bd')(w:Bs):mkw W bd w=mkw W bd' w:=by
 unfold mkw
 by_cases e:w∈bd
 ·rw[if_pos e,if_pos ((h w).1 e)]
 ·rw[if_neg e,if_neg fun e'=>e ((h w).2 e')]
mutual
theorem r7A(s:i8I):∀(f:i8F) (bd bd':List Bs),(∀y,y∈bd↔y∈bd')→p5F s f bd=p5F s f bd'
 | .mk k n w l,bd,bd',h=>by
   rw[p5F,p5F,p9y s l _ (if QK k then n::bd' else bd') (fun y=>?_),List.map_congr_left fun x _=>u1E h x]
   split
   ·simp[h y]
   ·exact h y
theorem p9y(s:i8I):∀(l:List i8F) (bd bd':List Bs),(∀y,y∈bd↔y∈bd')→p3u s l bd=p3u s l bd'
 | [],bd,bd',h=>by rw[p3u,p3u]
 |f::l,bd,bd',h=>by rw[p3u,p3u,r7A s f bd bd' h,p9y s l bd bd' h]
end
theorem u1F(s:i8I)(f:i8F):p5g s f=some (decide (p6f s f)):=by
 unfold p5g p6f
 simp only[p2V]
 by_cases h1:f.kind=2<;>by_cases h2:f.words.length=0<;>simp[h1,h2,gd]
theorem u5B{f:i8F}(hwf:WfF f):f.name.length≤30:=by
 have h:=p3F ((p4O f).1 hwf).1
 by_cases hk:f.kind=2∨QK f.kind
 ·exact(h.2.2.1 hk).2.1
 ·rw[h.2.2.2.1 hk];decide
theorem r7B{f:i8F}(hwf:WfF f){x:Bs}(hx:x∈f.words):p0a x:=(p3F ((p4O f).1 hwf).1).2.2.2.2 x hx
theorem r9u(s:i8I)(g:i8F):∀(m:Nat) (f:i8F),SizeOf.sizeOf f≤m→WfF f→∀bd:List Bs,bd.length+ndF f≤100000→
 Evt (fun n=>p0p n f bd g.kind g.name g.words g.subs s.words s.i8M s.parts) (fun r=>r=p5F s f bd):=by
 intro m
 induction m with
 |zero=>intro f h;cases f;simp only[i8F.mk.sizeOf_spec]at h;omega
 |succ m ih=>
  intro f hf hwf bd hbd
  have hnd:=p9u f
  have hws:=p9w hwf
  have hsl:=r0p hwf
  have hnl:=u5B hwf
  refine Evt.succ ?_
  simp only[p0p]
  refine Evt.i8R (P:=ExP (fun t=>t=f.words.map (mkw s.words bd)) (fun _=>False)) ((Evt.range (fun k t=>t=(f.words.take k).map (mkw s.words bd)) (fun _=>False) (fun _=>False) (by simp) (fun k t hk ht=>?_)).mono fun e he=>?_) (fun t ht=>?_) (fun _ h=>h.elim)
  ·unfold p4n
   simp only[p2V,Option.bind_some]
   have hwl:=(r7B hwf (get_mem hk)).2.1
   have hsn:(f.words.take (k+1)).map (mkw s.words bd)=t++[mkw s.words bd (Am.get f.words k)]:=by rw[i9n hk,List.map_append,ht];rfl
   have htl:t.length=k:=by rw[ht,List.length_map,List.length_take];omega
   refine Evt.cond (fun e=>Evt.chk (by unfold p1w;simp;omega) (Evt.p1m (Evt.chk ?_ (Evt.pure ?_)))) (fun e=>Evt.cond (fun e2=>Evt.chk (by unfold p1w;simp;omega) (Evt.p1m (Evt.chk ?_ (Evt.pure ?_)))) (fun e2=>Evt.p1m (Evt.chk ?_ (Evt.pure ?_))))
   ·rw[p0q];simp only[List.length_append,List.length_cons,List.length_nil];omega
   ·replace e:=bx e
    show _=_
    rw[hsn];unfold mkw;rw[if_pos e];rfl
   ·rw[p0q];simp only[List.length_append,List.length_cons,List.length_nil];omega
   ·replace e:=bx e
    replace e2:=bx e2
    show _=_
    rw[hsn];unfold mkw;rw[if_neg e,if_pos e2];rfl
   ·rw[p0q];simp only[List.length_append,List.length_cons,List.length_nil];omega
   ·replace e:=bx e
    replace e2:=bx e2
    show _=_
    rw[hsn];unfold mkw;rw[if_neg e,if_neg e2]
  ·cases e with
   |ret r=>exact he
   |nxt t=>
    have:=he.elim id False.elim
    rw[List.take_length]at this
    exact this
  ·subst ht
   have key:∀(nm:Bs) (bd':List Bs),nm=mkn s f→(∀y,y∈bd'↔y∈(if QK f.kind then f.name::bd else bd))→bd'.length≤bd.length+1→
    Evt (fun n=>p0j (p0p n) f g.kind g.name g.words g.subs s.words s.i8M s.parts (f.words.map (mkw s.words bd)) (nm,bd')) (fun r=>r=p5F s f bd):=by
    intro nm bd' hnm hb hlen
    unfold p0j
    refine Evt.i8R (P:=ExP (fun t=>t=p3u s f.subs bd') (fun _=>False)) ((Evt.range (fun k t=>t=p3u s (f.subs.take k) bd') (fun _=>False) (fun _=>False) (by simp[p3u]) (fun k t hk ht=>?_)).mono fun e he=>?_) (fun t ht=>?_) (fun _ h=>h.elim)
    ·unfold p4o
     have hsz:=p0V hk
     have htk:=p5Y hk
     refine Evt.bind (ih _ (by omega) (p6B hwf hk) bd' (by omega)) fun v hv=>Evt.p1m (Evt.chk ?_ (Evt.pure ?_))
     ·rw[p0q,ht];simp only[List.length_append,r1L,List.length_take,List.length_cons,List.length_nil];omega
     ·show _=_
      rw[hv,ht,i9n hk,r3z]
    ·cases e with
     |ret r=>exact he
     |nxt t=>
      have:=he.elim id False.elim
      rw[List.take_length]at this
      exact this
    ·unfold p4p
     refine Evt.pure ?_
     have ht:t=p3u s f.subs bd':=ht
     rw[p8Q,ht,hnm,p9y s f.subs _ _ hb]
   unfold p4q
   simp only[p9K,u1F,p2V,Option.bind_some]
   refine Evt.cond (fun e=>?_) (fun e=>?_)
   ·replace e:=bx e
    refine Evt.bind (P:=fun v=>v=bd) (Evt.pure rfl) fun v hv=>?_
    subst hv
    refine Evt.p1m (Evt.chk ?_ (Evt.chk (by unfold p1w;simp;omega) (key _ _ (by unfold mkn;rw[if_pos e];rfl) (fun y=>?_) (by simp))))
    ·rw[p0q];simp only[List.length_append,List.length_cons,List.length_nil];omega
    ·rw[if_pos e];simp[or_comm]
   ·replace e:=bx e
    have hb:∀y,y∈bd↔y∈(if QK f.kind then f.name::bd else bd):=fun y=>by rw[if_neg e]
    refine Evt.cond (fun e2=>?_) (fun e2=>?_)
    ·have e2:p6f s f:=of_decide_eq_true e2
     exact Evt.chk (by unfold p1w;simp;omega) (key _ _ (by unfold mkn;rw[if_neg e,if_pos e2];rfl) hb (by omega))
    ·have e2:¬p6f s f:=of_decide_eq_false e2
     refine Evt.bind (P:=fun v=>f.kind=2→v=decide (f.name∈s.i8M)) (Evt.gd (fun g=>Evt.pure fun _=>rfl) (fun g h=>by simp[h]at g)) fun v hv=>?_
     refine Evt.cond (fun e3=>?_) (fun e3=>?_)
     ·replace e3:=bx e3
      have:=hv e3.1
      rw[e3.2]at this
      exact Evt.chk (by unfold p1w;simp;omega) (key _ _ (by unfold mkn;rw[if_neg e,if_neg e2,if_pos ⟨e3.1,of_decide_eq_true this.symm⟩];rfl) hb (by omega))
     ·refine key _ _ ?_ hb (by omega)
      unfold mkn
      rw[if_neg e,if_neg e2,if_neg fun h=>?_]
      rw[hv h.1]at e3
      simp[h.1,h.2]at e3
theorem r1M(c:UInt8)(l:List Bs)(hl:l.length≤1000000)(hx:∀x∈l,x.length≤1000000):Evt (fun _=>p2A [c] l) (fun r=>r=l.map (c:: ·)):=by
 unfold p2A
 refine Evt.i8R (P:=ExP (fun t=>t=l.map (c:: ·)) (fun _=>False)) ((Evt.range (fun k t=>t=(l.take k).map (c:: ·)) (fun _=>False) (fun _=>False) (by simp) (fun k t hk ht=>?_)).mono fun e he=>?_) (fun t ht=>?_) (fun _ h=>h.elim)
 ·unfold p4r
  have:=hx _ (get_mem hk)
  refine Evt.chk (by unfold p1w;simp;omega) (Evt.p1m (Evt.chk ?_ (Evt.pure ?_)))
  ·rw[p0q,ht];simp only[List.length_append,List.length_map,List.length_take,List.length_cons,List.length_nil];omega
  ·show _=_
   rw[i9n hk,List.map_append,ht];rfl
 ·cases e with
  |ret r=>exact he
  |nxt t=>
   have:=he.elim id False.elim
   rw[List.take_length]at this
   exact this
 ·exact Evt.pure ht
def p8R(s:i8I):i8I:=⟨p5F s s.form [],s.words.map (46:: ·),s.i8M.map (33:: ·),s.parts.map (43:: ·)⟩
theorem r7C{s:i8I}(h:p7X s):Evt (fun n=>p4U n s) (fun r=>r=p8R s):=by
 have hvl:=p4K s
 have hl:=h.len
 have hn:∀x∈vns s,x.length≤1000000:=fun x hx=>by have:=(h.name x hx).2.1;omega
 have hnd:=h.form.2.1
 unfold p4U
 refine Evt.bind (r9u s s.form _ s.form (Nat.le_refl _) h.form.1 [] (by simp;omega)) fun v1 hv1=>?_
 refine Evt.bind (r1M 46 s.words (by omega) fun x hx=>hn x (List.mem_append.2 (.inl (List.mem_append.2 (.inl hx))))) fun v2 hv2=>?_
 refine Evt.bind (r1M 33 s.i8M (by omega) fun x hx=>hn x (List.mem_append.2 (.inl (List.mem_append.2 (.inr hx))))) fun v3 hv3=>?_
 refine Evt.bind (r1M 43 s.parts (by omega) fun x hx=>hn x (List.mem_append.2 (.inr hx))) fun v4 hv4=>?_
 subst hv1 hv2 hv3 hv4
 exact Evt.pure rfl
def zf:i8F:=.mk 0 [] [] []
abbrev Env:=List (Bs×i8H)
theorem r1N{V:Type}(k:Bs)(v:V):∀m:List (Bs×V),assoc k (i9J k v m)=some v
 | []=>by simp[i9J,assoc]
 |(a,u)::m=>by
  rw[i9J]
  split
  ·simp[assoc]
  ·rename_i h
   rw[assoc,if_neg h,r1N k v m]
theorem r5e{V:Type}{k k':Bs}(h:k'≠k)(v:V):∀m:List (Bs×V),assoc k' (i9J k v m)=assoc k' m
 | []=>by
   show(if k'=k then some v else assoc k' ([]:List (Bs×V)))=_
   rw[if_neg h]
 |(a,u)::m=>by
  rw[i9J]
  split
  ·rename_i e
   subst e
   rw[assoc,assoc,if_neg h,if_neg h]
  ·rw[assoc,assoc,r5e h v m]
open Classical in
noncomputable def p8S(env:Env)(b:i8H):Option Env:=match assoc b.name env with
 |none=>some (i9J b.name b env)
 |some b'=>if b'=b then some env else none
noncomputable def p4s:Env→List i8H→Option Env
 |env,[]=>some env
 |env,b::l=>(p8S env b).bind fun e=>p4s e l
theorem r8D:∀(a b:List i8H) (env:Env),p4s env (a++b)=(p4s env a).bind fun e=>p4s e b
 | [],b,env=>rfl
 |x::a,b,env=>by
  rw[List.cons_append,p4s,p4s]
  cases p8S env x with
  |none=>rfl
  |some e=>exact r8D a b e
theorem p9N{env e:Env}{b:i8H}(h:p8S env b=some e):assoc b.name e=some b∧(∀k c,assoc k env=some c→assoc k e=some c)∧(∀k c,assoc k e=some c→assoc k env=some c∨(b.name=k∧b=c)):=by
 unfold p8S at h
 split at h
 ·rename_i h0
  cases h
  refine⟨r1N _ _ _,fun k c hc=>?_,fun k c hc=>?_⟩
  ·by_cases e:k=b.name
   ·rw[e,h0]at hc;cases hc
   ·rw[r5e e];exact hc
  ·by_cases e:k=b.name
   ·rw[e,r1N]at hc
    exact .inr ⟨e.symm,Option.some.inj hc⟩
   ·rw[r5e e]at hc;exact .inl hc
 ·rename_i b' h0
  split at h
  ·rename_i hb
   cases h
   exact⟨by rw[h0,hb],fun k c hc=>hc,fun k c hc=>.inl hc⟩
  ·cases h
theorem r1d:∀(ps:List i8H) (env e:Env),p4s env ps=some e→(∀b∈ps,assoc b.name e=some b)∧(∀k c,assoc k env=some c→assoc k e=some c)∧(∀k c,assoc k e=some c→assoc k env=some c∨(∃b∈ps,b.name=k∧b=c))
 | [],env,e,h=>by cases h;exact⟨fun b hb=>(by cases hb),fun k c hc=>hc,fun k c hc=>.inl hc⟩
 |b::l,env,e,h=>by
  rw[p4s]at h
  cases hp:p8S env b with
  |none=>rw[hp]at h;cases h
  |some e1=>
   rw[hp]at h
   obtain⟨p1,p2,p3⟩:=p9N hp
   obtain⟨r1,r2,r3⟩:=r1d l e1 e h
   refine⟨fun c hc=>?_,fun k c hc=>r2 k c (p2 k c hc),fun k c hc=>?_⟩
   ·rcases List.mem_cons.1 hc with rfl|hc
    ·exact r2 _ _ p1
    ·exact r1 c hc
   ·rcases r3 k c hc with h|⟨x,hx,h1,h2⟩
    ·rcases p3 k c h with h|⟨h1,h2⟩
     ·exact .inl h
     ·exact .inr ⟨b,List.mem_cons_self ..,h1,h2⟩
    ·exact .inr ⟨x,List.mem_cons_of_mem _ hx,h1,h2⟩
def IsKey(k:Bs):Prop:=∃c t,k=c::t∧(c=33∨c=43∨c=46∨c=63)
theorem r8E{x:Bs}(h:p0a x):¬IsKey x:=fun⟨c,t,e,hc⟩=>by
 have:=h.2.2.1.1
 subst e
 rcases hc with rfl|rfl|rfl|rfl<;>simp[i9O]at this
def r1e(b:i8H):Prop:=SmF b.form∧((∃x,b.name=43::x∧b.text=[])∨(∃c x,b.name=c::x∧(c=33∨c=46∨c=63)∧b.form=zf))
def p9z(env:Env):Prop:=∀k b,assoc k env=some b→b.name=k∧r1e b
theorem r7D{env e:Env}{b:i8H}(h:p9z env)(hb:r1e b)(hp:p8S env b=some e):p9z e:=fun k c hc=>by
 rcases(p9N hp).2.2 k c hc with h1|⟨rfl,rfl⟩
 ·exact h k c h1
 ·exact⟨rfl,hb⟩
theorem r7E{env e:Env}{ps:List i8H}(h:p9z env)(hb:∀b∈ps,r1e b)(hp:p4s env ps=some e):p9z e:=fun k c hc=>by
 rcases(r1d _ _ _ hp).2.2 k c hc with h1|⟨b,hm,h1,h2⟩
 ·exact h k c h1
 ·subst h2;exact⟨h1,hb _ hm⟩
theorem r1e.key{b:i8H}(h:r1e b):IsKey b.name:=by
 rcases h.2 with⟨x,e,_⟩|⟨c,x,e,hc,_⟩
 ·exact⟨43,x,e,by simp⟩
 ·exact⟨c,x,e,by rcases hc with h|h|h<;>simp[h]⟩
theorem u7P:SmF zf:=by unfold zf;rw[SmF];exact⟨by decide,by decide,by rw[r5c];trivial⟩
theorem r7F{c:UInt8}{x y:Bs}(h:c=33∨c=46∨c=63):r1e ⟨c::x,y,zf⟩:=⟨u7P,.inr ⟨c,x,rfl,h,rfl⟩⟩
def cat(a b:Option (List i8H)):Option (List i8H):=a.bind fun x=>b.bind fun y=>some (x++y)
theorem r5f(a b:Option (List i8H))(s:Env):(cat a b).bind (p4s s)=(a.bind (p4s s)).bind fun s'=>b.bind (p4s s'):=by
 cases a with
 |none=>rfl
 |some x=>
  cases b with
  |none=>
   show none=(p4s s x).bind fun s'=>none
   cases p4s s x<;>rfl
  |some y=>exact r8D x y s
theorem r8F(o:Option (List i8H))(b:i8H)(s:Env):(o.map (b:: ·)).bind (p4s s)=(p8S s b).bind fun s'=>o.bind (p4s s'):=by
 cases o with
 |none=>show none=_;cases p8S s b<;>rfl
 |some x=>rfl
def ptw(W bd:List Bs):List Bs→List Bs→Option (List i8H)
 |x::xs,y::ys=>if x∈bd then(ptw W bd xs ys).map (⟨63::x,y,zf⟩:: ·)else if x∈W then(ptw W bd xs ys).map (⟨46::x,y,zf⟩:: ·)else if x=y then ptw W bd xs ys else none
 | _,_=>some []
def pth(s:i8I)(f g:i8F):Option (List i8H):=
 if QK f.kind then some [⟨63::f.name,g.name,zf⟩]else if f.kind=2∧f.name∈s.i8M then some [⟨33::f.name,g.name,zf⟩]else if f.name=g.name then some []else none
mutual
def pts(s:i8I):i8F→List Bs→i8F→Option (List i8H)
 | .mk k n w l,bd,g=>if p6f s (.mk k n w l)then some [⟨43::n,[],g⟩]
   else if k≠g.kind∨w.length≠g.words.length then none
   else cat (pth s (.mk k n w l) g) (cat (ptw s.words bd w g.words) (r2i s l (if QK k then n::bd else bd) g.subs))
def r2i(s:i8I):List i8F→List Bs→List i8F→Option (List i8H)
 | [],_,_=>some []
 |f::l,bd,gs=>match gs with
  | []=>some []
  |g::gs=>cat (pts s f bd g) (r2i s l bd gs)
end
theorem u1G(s:i8I)(f:i8F)(bd:List Bs)(g:i8F):pts s f bd g=if p6f s f then some [⟨43::f.name,[],g⟩]else if f.kind≠g.kind∨f.words.length≠g.words.length then none else cat (pth s f g) (cat (ptw s.words bd f.words g.words) (r2i s f.subs (if QK f.kind then f.name::bd else bd) g.subs)):=by cases f;rw[pts];rfl
theorem u1H{a b:Option (List i8H)}{Q:i8H→Prop}(ha:∀x,a=some x→∀c∈x,Q c)(hb:∀x,b=some x→∀c∈x,Q c):∀x,cat a b=some x→∀c∈x,Q c:=fun x hx c hc=>by
 unfold cat at hx
 cases a with
 |none=>cases hx
 |some y=>
  cases b with
  |none=>cases hx
  |some z=>
   cases hx
   rcases List.mem_append.1 hc with h|h
   ·exact ha y rfl c h
   ·exact hb z rfl c h
theorem u4o(W bd:List Bs):∀(xs ys:List Bs) (ps:List i8H),ptw W bd xs ys=some ps→∀b∈ps,r1e b
 | [],ys,ps,h,b,hb=>by rw[ptw]at h;cases h;cases hb;simp
 |x::xs,[],ps,h,b,hb=>by rw[ptw]at h;cases h;cases hb;simp
 |x::xs,y::ys,ps,h,b,hb=>by
  rw[ptw]at h
  have ih:=u4o W bd xs ys
  have mp:∀c:i8H,r1e c→(ptw W bd xs ys).map (c:: ·)=some ps→r1e b:=fun c hc h=>by
   cases hp:ptw W bd xs ys with
   |none=>rw[hp]at h;cases h
   |some q=>
    rw[hp]at h;cases h
    rcases List.mem_cons.1 hb with rfl|hb
    ·exact hc
    ·exact ih q hp b hb
  split at h
  ·exact mp _ (r7F (.inr (.inr rfl))) h
  ·split at h
   ·exact mp _ (r7F (.inr (.inl rfl))) h
   ·split at h
    ·exact ih ps h b hb
    ·cases h
theorem u7Q(s:i8I)(f g:i8F)(ps:List i8H)(h:pth s f g=some ps):∀b∈ps,r1e b:=fun b hb=>by
 unfold pth at h
 split at h
 ·cases h
  rw[List.mem_singleton]at hb;subst hb
  exact r7F (.inr (.inr rfl))
 ·split at h
  ·cases h
   rw[List.mem_singleton]at hb;subst hb
   exact r7F (.inl rfl)
  ·split at h
   ·cases h;cases hb
   ·cases h
mutual
theorem r8G(s:i8I):∀(f:i8F) (bd:List Bs) (g:i8F),SmF g→∀ps,pts s f bd g=some ps→∀b∈ps,r1e b
 | .mk k n w l,bd,g,hg,ps,h,b,hb=>by
   rw[pts]at h
   split at h
   ·cases h
    rw[List.mem_singleton]at hb;subst hb
    exact⟨hg,.inl ⟨n,rfl,rfl⟩⟩
   ·split at h
    ·cases h
    ·exact u1H (fun x hx=>u7Q s _ g x hx) (u1H (fun x hx=>u4o _ _ _ _ x hx) (fun x hx=>u1I s l _ g.subs ((r4s g).1 hg).2.2 x hx)) ps h b hb
theorem u1I(s:i8I):∀(l:List i8F) (bd:List Bs) (gs:List i8F),r5c gs→∀ps,r2i s l bd gs=some ps→∀b∈ps,r1e b
 | [],bd,gs,hg,ps,h,b,hb=>by rw[r2i]at h;cases h;cases hb
 |f::l,bd,[],hg,ps,h,b,hb=>by rw[r2i]at h;cases h;cases hb
 |f::l,bd,g::gs,hg,ps,h,b,hb=>by
  rw[r2i]at h
  rw[r5c]at hg
  exact u1H (fun x hx=>r8G s f bd g hg.1 x hx) (fun x hx=>u1I s l bd gs hg.2 x hx) ps h b hb
end
theorem u3t(a b:List Bs):p0w a b=some (decide (a=b)):=by
 have h:Evt (fun _=>p0w a b) (fun r=>r=decide (a=b)):=by
  unfold p0w
  refine Evt.cond (fun e=>Evt.pure ?_) (fun e=>?_)
  ·replace e:=bx e
   exact(decide_eq_false fun h=>e (by rw[h])).symm
  replace e:=bx e
  have hl:a.length=b.length:=by omega
  refine Evt.i8R (Evt.scan (fun k _=>a.take k=b.take k) (fun k r=>r=false∧Am.get a k≠Am.get b k) (by simp) (fun k u hk hi=>?_)) (fun t ht=>?_) (fun r hr=>?_)
  ·unfold p1B
   refine Evt.chk (by omega) (Evt.cond (fun e=>Evt.pure ?_) (fun e=>Evt.pure ?_))
   ·replace e:=bx e
    exact⟨rfl,e⟩
   ·replace e:=bx e
    show a.take (k+1)=b.take (k+1)
    rw[i9n hk,i9n (l:=b) (by omega),hi,e]
  ·unfold p1C
   refine Evt.pure (decide_eq_true ?_).symm
   have ht:a.take a.length=b.take a.length:=ht
   rw[List.take_length,hl,List.take_length]at ht
   exact ht
  ·obtain⟨k,_,_,_,rfl,h⟩:=hr
   exact(decide_eq_false fun e=>h (by rw[e])).symm
 obtain⟨r,rfl,N,hN⟩:=h
 exact hN N (Nat.le_refl _)
open Classical in
theorem u5C:∀(m:Nat) (f:i8F),SizeOf.sizeOf f≤m→SmF f→∀g:i8F,Evt (fun n=>p5G n f g) (fun r=>r=decide (f=g)):=by
 intro m
 induction m with
 |zero=>intro f h;cases f;simp only[i8F.mk.sizeOf_spec]at h;omega
 |succ m ih=>
  intro f hf hsm g
  obtain⟨_,hsl,hsm⟩:=(r4s f).1 hsm
  refine Evt.succ ?_
  simp only[p5G,u3t]
  refine Evt.bind (P:=fun v=>f.kind=g.kind→f.name=g.name→v=decide (f.words=g.words)) (Evt.gd (fun _=>Evt.pure fun _ _=>by congr) (fun h h1 h2=>by simp[h1,h2]at h)) fun v hv=>?_
  refine Evt.cond (fun e=>Evt.pure (decide_eq_false fun h=>?_).symm) (fun e=>?_)
  ·subst h
   have:=hv rfl rfl
   simp[this]at e
  have e1:f.kind=g.kind:=Classical.byContradiction fun h=>by simp[h]at e
  have e2:f.name=g.name:=Classical.byContradiction fun h=>by simp[h]at e
  have e3:f.words=g.words:=Classical.byContradiction fun h=>by have:=hv e1 e2;rw[decide_eq_false h]at this;simp[this]at e
  have e4:f.subs.length=g.subs.length:=Classical.byContradiction fun h=>by
   have:¬((f.subs.length:Int)=(g.subs.length:Int)):=by omega
   rw[decide_eq_false this]at e
   revert e
   cases (bif bif !decide (f.kind=g.kind)then true else !decide (f.name=g.name)then true else !v)<;>simp
  refine Evt.chk (by omega) (Evt.i8R (Evt.scan (fun k _=>f.subs.take k=g.subs.take k) (fun k r=>r=false∧Am.get f.subs k≠Am.get g.subs k) (by simp) (fun k u hk hi=>?_)) (fun t ht=>?_) (fun r hr=>?_))
  ·unfold p6t
   have hsz:=p0V hk
   refine Evt.chk (by omega) (Evt.bind (ih _ (by omega) (p9M hsm _ (get_mem hk)) _) fun v2 hv2=>Evt.cond (fun e=>Evt.pure ?_) (fun e=>Evt.pure ?_))
   ·subst hv2
    exact⟨rfl,fun h=>by rw[decide_eq_true h]at e;cases e⟩
   ·subst hv2
    have h:Am.get f.subs k=Am.get g.subs k:=Classical.byContradiction fun h=>by rw[decide_eq_false h]at e;cases e
    show f.subs.take (k+1)=g.subs.take (k+1)
    rw[i9n hk,i9n (l:=g.subs) (by omega),hi,h]
  ·unfold p6u
   refine Evt.pure (decide_eq_true ?_).symm
   have ht:f.subs.take f.subs.length=g.subs.take f.subs.length:=ht
   rw[List.take_length,e4,List.take_length]at ht
   cases f;cases g
   simp only[i8F.kind,i8F.name,i8F.words,i8F.subs]at*
   rw[e1,e2,e3,ht]
  ·obtain⟨k,_,_,_,rfl,h⟩:=hr
   exact(decide_eq_false fun e=>h (by rw[e])).symm
def RM(o:Option Env)(r:Bool×Env):Prop:=(∀e,o=some e→r=(true,e))∧(o=none→r.1=false)
theorem r6t{env:Env}(he:p9z env){c:UInt8}(hc:c=33∨c=46∨c=63)(x y:Bs):Evt (fun _=>p3g (c::x) y env) (RM (p8S env ⟨c::x,y,zf⟩)):=by
 unfold p3g p8S
 cases h:assoc (c::x) env with
 |none=>
  refine Evt.cond (fun e=>by simp at e) (fun _=>Evt.p1m (Evt.pure ?_))
  simp only[h]
  exact⟨fun e he=>by cases he;rfl,fun he=>by cases he⟩
 |some b=>
  refine Evt.cond (fun _=>Evt.pure ?_) (fun e=>by simp at e)
  simp only[h]
  obtain⟨h1,h2⟩:=he _ _ h
  have hiff:b=⟨c::x,y,zf⟩↔b.text=y:=by
   constructor
   ·intro e;rw[e]
   ·intro e
    obtain⟨_,h2⟩:=h2
    rcases h2 with⟨z,e1,_⟩|⟨c',z,e1,hc',e2⟩
    ·rw[h1]at e1
     have:=(List.cons.inj e1).1
     rcases hc with rfl|rfl|rfl<;>cases this
    ·cases b
     simp only at h1 e2 e
     rw[h1,e,e2]
  by_cases hb:b.text=y
  ·rw[if_pos (hiff.2 hb)]
   refine⟨fun e he=>?_,fun he=>by cases he⟩
   cases he
   show(decide (((some b).getD default).text=y),env)=_
   rw[decide_eq_true (show((some b).getD default).text=y from hb)]
  ·rw[if_neg fun e=>hb (hiff.1 e)]
   exact⟨fun e he=>(by cases he),fun _=>decide_eq_false hb⟩
def Has(bd:List Bs)(env:Env):Prop:=∀x∈bd,(assoc (63::x) env).isSome=true
theorem Has.mono{bd:List Bs}{env e:Env}(h:Has bd env)(hm:∀k c,assoc k env=some c→assoc k e=some c):Has bd e:=fun x hx=>by
 obtain⟨c,hc⟩:=Option.isSome_iff_exists.1 (h x hx)
 rw[hm _ _ hc];rfl
theorem p9O{c:UInt8}{x:Bs}{l:List Bs}:(c::x)∈l.map (c:: ·)↔x∈l:=by
 rw[List.mem_map]
 exact⟨fun⟨y,hy,e⟩=>(List.cons.inj e).2▸hy,fun h=>⟨x,h,rfl⟩⟩
theorem u1J{c:UInt8}(hc:c=33∨c=43∨c=46∨c=63){k:Bs}{l:List Bs}(h:k∈l.map (c:: ·)):IsKey k:=by
 obtain⟨y,_,rfl⟩:=List.mem_map.1 h
 exact⟨c,y,rfl,hc⟩
theorem u3u{env:Env}(he:p9z env){x:Bs}(hx:¬IsKey x):assoc x env=none:=by
 cases h:assoc x env with
 |none=>rfl
 |some b=>
  obtain⟨h1,h2⟩:=he _ _ h
  exact absurd (h1▸h2.key) hx
section
variable {s:i8I}
theorem r8H{xs:List Bs}{k:Nat}(h:k<xs.length):xs.drop k=Am.get xs k::xs.drop (k+1):=r3x h
theorem u1K(W bd ys:List Bs):ptw W bd [] ys=some []:=by cases ys<;>simp[ptw]
theorem r5g(env:Env)(b:i8H):p4s env [b]=p8S env b:=by
 rw[p4s]
 cases p8S env b<;>rfl
theorem u3v{f g:i8F}(hf:WfF f)(hlen:f.words.length=g.words.length)(bd:List Bs){env:Env}(he:p9z env)(hh:Has bd env):
 Evt (fun _=>i9P (p3h (p5F s f bd) (p8R s) g) (p5F s f bd).words.length env) (ExP (fun t=>(ptw s.words bd f.words g.words).bind (p4s env)=some t∧p9z t∧Has bd t) (fun r=>(ptw s.words bd f.words g.words).bind (p4s env)=none∧r.1=false)):=by
 have hml:(p5F s f bd).words.length=f.words.length:=by rw[p8Q];exact List.length_map _
 rw[hml]
 refine(Evt.range (fun k t=>(ptw s.words bd f.words g.words).bind (p4s env)=(ptw s.words bd (f.words.drop k) (g.words.drop k)).bind (p4s t)∧p9z t∧Has bd t) (fun _=>False) (fun r=>(ptw s.words bd f.words g.words).bind (p4s env)=none∧r.1=false) ⟨rfl,he,hh⟩ (fun k t hk ht=>?_)).mono fun e h=>?_
 ·obtain⟨ht,hte,hth⟩:=ht
  have hkg:k<g.words.length:=by omega
  have hkm:Am.get (p5F s f bd).words k=mkw s.words bd (Am.get f.words k):=by rw[p8Q];exact get_map _ hk
  rw[r8H hk,r8H hkg,ptw]at ht
  unfold p3h
  simp only[hkm,p2V]
  have nx:¬IsKey (Am.get f.words k):=r8E (r7B hf (get_mem hk))
  have fin:∀(c:UInt8),c=46∨c=63→(ptw s.words bd f.words g.words).bind (p4s env)=((ptw s.words bd (f.words.drop (k+1)) (g.words.drop (k+1))).map (⟨c::Am.get f.words k,Am.get g.words k,zf⟩:: ·)).bind (p4s t)→
   Evt (fun _:Nat=>chk ((k:Int)<(g.words.length:Int)) <| (p3g (c::Am.get f.words k) (Am.get g.words k) t).bind fun v14=>bif (!v14.1)then some (Ctl.ret (τ:=Env) (false,v14.2))else some (.nxt v14.2)) (u0P (fun t=>(ptw s.words bd f.words g.words).bind (p4s env)=(ptw s.words bd (f.words.drop (k+1)) (g.words.drop (k+1))).bind (p4s t)∧p9z t∧Has bd t) (fun _=>False) (fun r=>(ptw s.words bd f.words g.words).bind (p4s env)=none∧r.1=false)):=by
   intro c hc ht
   rw[r8F]at ht
   refine Evt.chk (by omega) (Evt.bind (r6t hte (hc.elim (fun h=>.inr (.inl h)) fun h=>.inr (.inr h)) _ _) fun v hv=>?_)
   cases hp:p8S t ⟨c::Am.get f.words k,Am.get g.words k,zf⟩with
   |none=>
    rw[hp]at ht hv
    have h1:=hv.2 rfl
    refine Evt.cond (fun _=>Evt.pure ⟨ht,rfl⟩) (fun e=>by rw[h1]at e;cases e)
   |some t'=>
    rw[hp]at ht hv
    have h1:=hv.1 _ rfl
    subst h1
    refine Evt.cond (fun e=>by cases e) (fun _=>Evt.pure ⟨ht,r7D hte (r7F (hc.elim (fun h=>.inr (.inl h)) fun h=>.inr (.inr h))) hp,hth.mono (p9N hp).2.1⟩)
  by_cases h1:Am.get f.words k∈bd
  ·rw[if_pos h1]at ht
   have e1:mkw s.words bd (Am.get f.words k)=63::Am.get f.words k:=by unfold mkw;rw[if_pos h1]
   rw[e1]
   have h2:=hth _ h1
   simp only[h2]
   exact fin 63 (.inr rfl) ht
  ·rw[if_neg h1]at ht
   by_cases h2:Am.get f.words k∈s.words
   ·rw[if_pos h2]at ht
    have e1:mkw s.words bd (Am.get f.words k)=46::Am.get f.words k:=by unfold mkw;rw[if_neg h1,if_pos h2]
    rw[e1]
    have h3:decide (46::Am.get f.words k∈(p8R s).words)=true:=decide_eq_true (p9O.2 h2)
    simp only[h3]
    cases h4:(assoc (46::Am.get f.words k) t).isSome
    ·exact fin 46 (.inl rfl) ht
    ·exact fin 46 (.inl rfl) ht
   ·rw[if_neg h2]at ht
    have e1:mkw s.words bd (Am.get f.words k)=Am.get f.words k:=by unfold mkw;rw[if_neg h1,if_neg h2]
    rw[e1]
    have h3:(assoc (Am.get f.words k) t).isSome=false:=by rw[u3u hte nx];rfl
    have h4:decide (Am.get f.words k∈(p8R s).words)=false:=decide_eq_false fun h=>nx (u1J (.inr (.inr (.inl rfl))) h)
    simp only[h3,h4]
    refine Evt.chk (by omega) (Evt.cond (fun e=>Evt.pure ?_) (fun e=>Evt.pure ?_))
    ·replace e:=bx e
     rw[if_neg e]at ht
     exact⟨ht,rfl⟩
    ·replace e:=bx e
     rw[if_pos e]at ht
     exact⟨ht,hte,hth⟩
 ·cases e with
  |ret r=>exact h
  |nxt t=>
   obtain⟨h1,h2,h3⟩:=h.elim id False.elim
   rw[List.drop_length,u1K]at h1
   exact⟨h1,h2,h3⟩
open Classical in
theorem u1L:∀(m:Nat) (f:i8F),SizeOf.sizeOf f≤m→WfF f→∀(g:i8F),WfF g→∀(bd:List Bs) (env:Env),p9z env→Has bd env→
 Evt (fun n=>i9u n (p8R s) (p5F s f bd) g env) (RM ((pts s f bd g).bind (p4s env))):=by
 intro m
 induction m with
 |zero=>intro f h;cases f;simp only[i8F.mk.sizeOf_spec]at h;omega
 |succ m ih=>
  intro f hf hwf g hwg bd env he hh
  have hnf:=p3F ((p4O f).1 hwf).1
  have hng:=p3F ((p4O g).1 hwg).1
  have hml:(p5F s f bd).words.length=f.words.length:=by rw[p8Q];exact List.length_map _
  have hmk:(p5F s f bd).kind=f.kind:=by rw[p8Q];rfl
  have hmn:(p5F s f bd).name=mkn s f:=by rw[p8Q];rfl
  have hms:(p5F s f bd).subs=p3u s f.subs (if QK f.kind then f.name::bd else bd):=by rw[p8Q];rfl
  have hk2:f.kind=2→¬QK f.kind:=fun h=>by unfold QK;omega
  have hplain:f.kind=2→¬IsKey f.name:=fun h=>r8E (hnf.2.2.1 (.inl h))
  have hpart:p6f (p8R s) (p5F s f bd)↔p6f s f:=by
   unfold p6f
   rw[hmk,hml,hmn]
   constructor
   ·rintro⟨h1,h2⟩
    refine⟨h1,?_⟩
    unfold mkn at h2
    rw[if_neg (hk2 h1.1)]at h2
    split at h2
    ·rename_i h3;exact h3.2
    ·exfalso
     obtain⟨y,_,e⟩:=List.mem_map.1 h2
     split at e
     ·cases (List.cons.inj e).1
     ·exact hplain h1.1 (e▸ ⟨43,y,rfl,by simp⟩)
   ·rintro⟨h1,h2⟩
    refine⟨h1,?_⟩
    unfold mkn
    rw[if_neg (hk2 h1.1),if_pos (show p6f s f from⟨h1,h2⟩)]
    exact p9O.2 h2
  refine Evt.succ ?_
  simp only[i9u,u1F,Option.bind_some,p9K,p2V,hmk,hml,hmn]
  rw[u1G]
  refine Evt.cond (fun e=>?_) (fun e=>?_)
  ·have hp:p6f s f:=hpart.1 (of_decide_eq_true e)
   rw[if_pos hp]
   have w1W:mkn s f=43::f.name:=by unfold mkn;rw[if_neg (hk2 hp.1.1),if_pos hp]
   rw[w1W]
   show Evt _ (RM (p4s env [_]))
   rw[r5g]
   unfold p8S
   cases h:assoc (43::f.name) env with
   |none=>
    refine Evt.cond (fun e=>by simp at e) (fun _=>Evt.p1m (Evt.pure ?_))
    exact⟨fun e he=>by cases he;rfl,fun he=>by cases he⟩
   |some b=>
    refine Evt.cond (fun _=>?_) (fun e=>by simp at e)
    obtain⟨h1,h2⟩:=he _ _ h
    have hsm:=h2.1
    have htx:b.text=[]:=by
     rcases h2.2 with⟨z,e1,e2⟩|⟨c',z,e1,hc',e2⟩
     ·exact e2
     ·rw[h1]at e1
      have:=(List.cons.inj e1).1
      rcases hc' with rfl|rfl|rfl<;>cases this
    have hiff:b=⟨43::f.name,[],g⟩↔b.form=g:=by
     constructor
     ·intro e;rw[e]
     ·intro e
      cases b
      simp only at h1 htx e
      rw[h1,htx,e]
    refine Evt.bind (u5C _ b.form (Nat.le_refl _) hsm g) fun v hv=>Evt.pure ?_
    subst hv
    by_cases hb:b.form=g
    ·simp only[if_pos (hiff.2 hb),decide_eq_true hb]
     exact⟨fun e he=>by cases he;rfl,fun he=>by cases he⟩
    ·simp only[if_neg fun e=>hb (hiff.1 e),decide_eq_false hb]
     exact⟨fun e he=>(by cases he),fun _=>rfl⟩
  have hp:¬p6f s f:=fun h=>(of_decide_eq_false e) (hpart.2 h)
  rw[if_neg hp]
  refine Evt.cond (fun e=>Evt.pure ?_) (fun e=>?_)
  ·have hc:f.kind≠g.kind∨f.words.length≠g.words.length:=Classical.byContradiction fun h=>by
    obtain⟨h1,h2⟩:=not_or.1 h
    have h1:=Classical.not_not.1 h1
    have h2:=Classical.not_not.1 h2
    simp[h1,h2]at e
   rw[if_pos hc]
   exact⟨fun e he=>(by cases he),fun _=>rfl⟩
  have hk:f.kind=g.kind:=Classical.byContradiction fun h=>by simp[h]at e
  have hl:f.words.length=g.words.length:=Classical.byContradiction fun h=>by
   have:¬((f.words.length:Int)=(g.words.length:Int)):=by omega
   simp[this]at e
  rw[if_neg fun h=>h.elim (fun h=>h hk) (fun h=>h hl),r5f]
  have hsl:f.subs.length=g.subs.length:=by have:=hnf.1;have:=hng.1;rw[hk]at *; omega
  have rest:∀u2m:Env,p9z u2m→Has bd u2m→Has (if QK f.kind then f.name::bd else bd) u2m→Evt (fun n=>p1J (i9u n) (p5F s f bd) (p8R s) g u2m) (RM ((cat (ptw s.words bd f.words g.words) (r2i s f.subs (if QK f.kind then f.name::bd else bd) g.subs)).bind (p4s u2m))):=by
   intro u2m he1 hh1 w1X
   rw[r5f]
   unfold p1J
   refine Evt.i8R (u3v hwf hl bd he1 hh1) (fun t ht=>?_) (fun r hr=>?_)
   ·obtain⟨ht,hte,hth⟩:=ht
    have hmono:Has (if QK f.kind then f.name::bd else bd) t:=by
     cases hw:ptw s.words bd f.words g.words with
     |none=>rw[hw]at ht;cases ht
     |some ps=>rw[hw]at ht;exact w1X.mono (r1d _ _ _ ht).2.1
    rw[ht]
    unfold p4t
    rw[hms,r1L]
    refine Evt.i8R (P:=ExP (fun t'=>(r2i s f.subs (if QK f.kind then f.name::bd else bd) g.subs).bind (p4s t)=some t') (fun r=>(r2i s f.subs (if QK f.kind then f.name::bd else bd) g.subs).bind (p4s t)=none∧r.1=false)) ((Evt.range (fun k t'=>(r2i s f.subs (if QK f.kind then f.name::bd else bd) g.subs).bind (p4s t)=(r2i s (f.subs.drop k) (if QK f.kind then f.name::bd else bd) (g.subs.drop k)).bind (p4s t')∧p9z t'∧Has (if QK f.kind then f.name::bd else bd) t') (fun _=>False) (fun r=>(r2i s f.subs (if QK f.kind then f.name::bd else bd) g.subs).bind (p4s t)=none∧r.1=false) ⟨rfl,hte,hmono⟩ (fun k t' hk ht'=>?_)).mono fun e h=>?_) (fun t' ht'=>?_) (fun r hr=>?_)
    ·obtain⟨ht',w0G,w0H⟩:=ht'
     have hkg:k<g.subs.length:=by omega
     have hkm:Am.get (p5F s f bd).subs k=p5F s (Am.get f.subs k) (if QK f.kind then f.name::bd else bd):=by
      rw[hms]
      have:∀(l:List i8F) (bd:List Bs) (k:Nat),k<l.length→Am.get (p3u s l bd) k=p5F s (Am.get l k) bd:=by
       intro l
       induction l with
       |nil=>intro bd k h;cases h
       |cons a l ih=>
        intro bd k h
        rw[p3u]
        cases k with
        |zero=>rfl
        |succ k=>exact ih bd k (by simpa using h)
      exact this _ _ _ hk
     have e1:f.subs.drop k=Am.get f.subs k::f.subs.drop (k+1):=by rw[List.drop_eq_getElem_cons hk];simp[Am.get,hk]
     have e2:g.subs.drop k=Am.get g.subs k::g.subs.drop (k+1):=by rw[List.drop_eq_getElem_cons hkg];simp[Am.get,hkg]
     rw[e1,e2,r2i,r5f]at ht'
     unfold p4u
     simp only[hkm]
     have hsz:=p0V hk
     refine Evt.chk (by omega) (Evt.bind (ih _ (by omega) (p6B hwf hk) _ (p6B hwg hkg) _ t' w0G w0H) fun v hv=>?_)
     cases hp:(pts s (Am.get f.subs k) (if QK f.kind then f.name::bd else bd) (Am.get g.subs k)).bind (p4s t')with
     |none=>
      rw[hp]at ht' hv
      have h1:=hv.2 rfl
      exact Evt.cond (fun _=>Evt.pure ⟨ht',rfl⟩) (fun e=>by rw[h1]at e;cases e)
     |some t''=>
      rw[hp]at ht' hv
      have h1:=hv.1 _ rfl
      subst h1
      refine Evt.cond (fun e=>by cases e) (fun _=>Evt.pure ⟨ht',?_,?_⟩)
      ·cases hq:pts s (Am.get f.subs k) (if QK f.kind then f.name::bd else bd) (Am.get g.subs k)with
       |none=>rw[hq]at hp;cases hp
       |some ps=>rw[hq]at hp;exact r7E w0G (r8G s _ _ _ (WfF.sm _ (p6B hwg hkg)) ps hq) hp
      ·cases hq:pts s (Am.get f.subs k) (if QK f.kind then f.name::bd else bd) (Am.get g.subs k)with
       |none=>rw[hq]at hp;cases hp
       |some ps=>rw[hq]at hp;exact w0H.mono (r1d _ _ _ hp).2.1
    ·cases e with
     |ret r=>exact h
     |nxt t'=>
      obtain⟨h1,h2,h3⟩:=h.elim id False.elim
      rw[List.drop_length,r2i]at h1
      exact h1
    ·unfold p4v
     have ht':(r2i s f.subs (if QK f.kind then f.name::bd else bd) g.subs).bind (p4s t)=some t':=ht'
     refine Evt.pure ?_
     show RM ((some t).bind _) _
     rw[Option.bind_some,ht']
     exact⟨fun e he=>by cases he;rfl,fun he=>by cases he⟩
    ·show RM ((some t).bind _) _
     rw[Option.bind_some,hr.1]
     exact⟨fun e he=>(by cases he),fun _=>hr.2⟩
   ·rw[hr.1]
    exact⟨fun e he=>(by cases he),fun _=>hr.2⟩
  have w0I:∀c:UInt8,c=33∨c=63→mkn s f=c::f.name→pth s f g=some [⟨c::f.name,g.name,zf⟩]→(QK f.kind→c=63)→Evt (fun n=>p0U (i9u n) (p5F s f bd) g env (p8R s) true) (RM (((pth s f g).bind (p4s env)).bind fun s'=>(cat (ptw s.words bd f.words g.words) (r2i s f.subs (if QK f.kind then f.name::bd else bd) g.subs)).bind (p4s s'))):=by
   intro c hc hm hpt hq
   have hc3:c=33∨c=46∨c=63:=hc.elim .inl fun h=>.inr (.inr h)
   unfold p0U
   simp only[cond_true,hmn,hm,hpt]
   have e0:(some [(⟨c::f.name,g.name,zf⟩:i8H)]).bind (p4s env)=p8S env ⟨c::f.name,g.name,zf⟩:=by
    show p4s env [_]=_
    rw[p4s]
    cases p8S env ⟨c::f.name,g.name,zf⟩<;>rfl
   rw[e0]
   refine Evt.bind (r6t he hc3 f.name g.name) fun v hv=>?_
   cases hp:p8S env ⟨c::f.name,g.name,zf⟩with
   |none=>
    rw[hp]at hv
    have h1:=hv.2 rfl
    exact Evt.cond (fun _=>Evt.pure ⟨fun e he=>(by cases he),fun _=>rfl⟩) (fun e=>by rw[h1]at e;cases e)
   |some t=>
    rw[hp]at hv
    have h1:=hv.1 _ rfl
    subst h1
    refine Evt.cond (fun e=>by cases e) (fun _=>?_)
    have hm1:=hh.mono (p9N hp).2.1
    refine rest t (r7D he (r7F hc3) hp) hm1 ?_
    by_cases hqk:QK f.kind
    ·rw[if_pos hqk]
     intro x hx
     rcases List.mem_cons.1 hx with rfl|hx
     ·have:=(p9N hp).1
      obtain rfl:=hq hqk
      show(assoc (63::f.name) t).isSome=true
      rw[show assoc (63::f.name) t=some _ from this];rfl
     ·exact hm1 x hx
    ·rw[if_neg hqk];exact hm1
  refine Evt.cond (fun e=>?_) (fun e=>?_)
  ·have hq:QK f.kind:=of_decide_eq_true e
   rw[e]
   exact w0I 63 (.inr rfl) (by unfold mkn;rw[if_pos hq]) (by unfold pth;rw[if_pos hq]) (fun _=>rfl)
  ·have hq:¬QK f.kind:=of_decide_eq_false e
   have u6k:mkn s f=if f.kind=2∧f.name∈s.i8M then 33::f.name else f.name:=by unfold mkn;rw[if_neg hq,if_neg hp]
   refine Evt.bind (P:=fun v=>f.kind=2→v=decide (mkn s f∈(p8R s).i8M)) (Evt.gd (fun _=>Evt.pure fun _=>rfl) (fun g h=>by simp[h]at g)) fun v hv=>?_
   by_cases hpr:f.kind=2∧f.name∈s.i8M
   ·rw[if_pos hpr]at u6k
    have h1:=hv hpr.1
    rw[u6k,decide_eq_true (show(33::f.name:Bs)∈(p8R s).i8M from p9O.2 hpr.2)]at h1
    have e2:(bif decide (f.kind=2)then v else false)=true:=by simp[hpr.1,h1]
    rw[e2]
    exact w0I 33 (.inl rfl) u6k (by unfold pth;rw[if_neg hq,if_pos hpr]) (fun h=>absurd h hq)
   ·rw[if_neg hpr]at u6k
    have e2:(bif decide (f.kind=2)then v else false)=false:=by
     by_cases h2:f.kind=2
     ·have h1:=hv h2
      rw[u6k,decide_eq_false (show ¬f.name∈(p8R s).i8M from fun h=>hplain h2 (u1J (.inl rfl) h))]at h1
      simp[h1]
     ·simp[h2]
    rw[e2]
    have hpt:pth s f g=if f.name=g.name then some []else none:=by unfold pth;rw[if_neg hq,if_neg hpr]
    unfold p0U
    simp only[cond_false,hmn,u6k,hpt]
    refine Evt.cond (fun e=>Evt.pure ?_) (fun e=>?_)
    ·replace e:=bx e
     rw[if_neg e]
     exact⟨fun e he=>(by cases he),fun _=>rfl⟩
    ·replace e:=bx e
     rw[if_pos e]
     exact rest env he hh (by rw[if_neg hq];exact hh)
end
mutual
theorem r8I(s:i8I):∀(f:i8F) (bd:List Bs),ndF (p5F s f bd)=ndF f
 | .mk k n w l,bd=>by rw[p5F,ndF,ndF,r6u s l]
theorem r6u(s:i8I):∀(l:List i8F) (bd:List Bs),p3T (p3u s l bd)=p3T l
 | [],bd=>by rw[p3u]
 |f::l,bd=>by rw[p3u,p3T,p3T,r8I s f,r6u s l]
end
mutual
theorem r8J(s:i8I):∀(f:i8F) (bd:List Bs),qs (p5F s f bd)=(qs f).map (63:: ·)
 | .mk k n w l,bd=>by
   rw[p5F,qs,qs,r6v s l,List.map_append]
   by_cases h:QK k
   ·have:mkn s (.mk k n w l)=63::n:=by unfold mkn;exact if_pos h
    simp only[if_pos h,this];rfl
   ·simp only[if_neg h];rfl
theorem r6v(s:i8I):∀(l:List i8F) (bd:List Bs),qsL (p3u s l bd)=(qsL l).map (63:: ·)
 | [],bd=>by rw[p3u,qsL];rfl
 |f::l,bd=>by rw[p3u,qsL,qsL,r8J s f,r6v s l,List.map_append]
end
theorem u3w:∀(m:Nat) (f:i8F),SizeOf.sizeOf f≤m→SmF f→Evt (fun n=>p4V n f) (fun r=>r=f):=by
 intro m
 induction m with
 |zero=>intro f h;cases f;simp only[i8F.mk.sizeOf_spec]at h;omega
 |succ m ih=>
  intro f hf hsm
  obtain⟨_,hsl,hsm⟩:=(r4s f).1 hsm
  refine Evt.succ ?_
  simp only[p4V,p2a,Option.bind_some]
  refine Evt.i8R (P:=ExP (fun t=>t=f.subs) (fun _=>False)) ((Evt.range (fun k t=>t=f.subs.take k) (fun _=>False) (fun _=>False) (by simp) (fun k t hk ht=>?_)).mono fun e he=>?_) (fun t ht=>?_) (fun _ h=>h.elim)
  ·unfold p6a
   have hsz:=p0V hk
   refine Evt.bind (ih _ (by omega) (p9M hsm _ (get_mem hk))) fun v hv=>Evt.p1m (Evt.chk ?_ (Evt.pure ?_))
   ·rw[p0q,ht];simp only[List.length_append,List.length_take,List.length_cons,List.length_nil];omega
   ·show _=_
    rw[hv,ht,i9n hk]
  ·cases e with
   |ret r=>exact he
   |nxt t=>
    have:=he.elim id False.elim
    rw[List.take_length]at this
    exact this
  ·have ht:t=f.subs:=ht
   subst ht
   unfold p6b
   refine Evt.pure ?_
   cases f;rfl
theorem r6w(x:Bs)(l:List Bs)(hl:l.length≤8000000):i9j x l=some (decide (x∈l)):=by
 have h:Evt (fun _=>i9j x l) (fun r=>r=decide (x∈l)):=by
  unfold i9j p2b
  refine Evt.bind (P:=fun r=>0≤r↔x∈l) (Evt.chk (by omega) (Evt.i8R (Evt.scan (fun k _=>∀j,j<k→Am.get l j≠x) (fun k r=>r=(k:Int)∧Am.get l k=x) (fun j hj=>absurd hj (Nat.not_lt_zero _)) (fun k u hk hi=>?_)) (fun t ht=>?_) (fun r hr=>?_))) fun v hv=>Evt.pure ?_
  ·unfold p1h
   refine Evt.cond (fun e=>Evt.pure ?_) (fun e=>Evt.pure ?_)
   ·replace e:=bx e
    exact⟨rfl,e.symm⟩
   ·replace e:=bx e
    intro j hj
    by_cases ej:j=k
    ·subst ej;exact fun h=>e h.symm
    ·exact hi j (by omega)
  ·unfold p1i
   refine Evt.pure ⟨fun h=>absurd h (by decide),fun h=>?_⟩
   obtain⟨j,hj,e⟩:=p1x.1 h
   exact absurd e (ht j hj)
  ·obtain⟨k,_,hk,_,rfl,e⟩:=hr
   exact⟨fun _=>p1x.2 ⟨k,hk,e⟩,fun _=>by omega⟩
  ·by_cases h:x∈l
   ·simp[h,hv.2 h]
   ·have h3:¬0≤v:=fun h2=>h (hv.1 h2)
    simp only[h,h3,decide_false]
 obtain⟨r,rfl,N,hN⟩:=h
 exact hN N (Nat.le_refl _)
def i9I(s:i8I):List Bs:=(s.words.map (46:: ·)++s.i8M.map (33:: ·)++s.parts.map (43:: ·))++(qs s.form).map (63:: ·)
def txE(e:Env)(k:Bs):Bs:=((assoc k e).getD default).text
def fmE(e:Env)(k:Bs):i8F:=((assoc k e).getD default).form
def caught(s:i8I)(e:Env):Prop:=∃w∈s.words,txE e (46::w)∈(qs s.form).map fun x=>txE e (63::x)
open Classical in
noncomputable def p8t(s:i8I)(g:i8F):List i8H×Bool:=match (pts s s.form [] g).bind (p4s [])with
 |none=>([],false)
 |some e=>if caught s e then([],false)else((i9I s).map fun k=>⟨k.drop 1,txE e k,fmE e k⟩,true)
theorem u4p{e:Env}(h:p9z e)(k:Bs):SmF (fmE e k):=by
 unfold fmE
 cases hk:assoc k e with
 |none=>exact u7P
 |some b=>exact(h k b hk).2.1
theorem u1M{s:i8I}(hs:p7X s){g:i8F}(hg:WfF g):Evt (fun n=>p5h n s g) (fun r=>r=p8t s g):=by
 have hvl:=p4K s
 have hl:=hs.len
 have hnd:=hs.form.2.1
 have hql:(qs s.form).length≤200:=by rw[r0d];have:=r1G s.form;omega
 unfold p5h
 refine Evt.bind (r7C hs) fun v1 hv1=>?_
 subst hv1
 refine Evt.bind (u1L _ s.form (Nat.le_refl _) hs.form.1 g hg [] [] (fun k b h=>by cases h) (fun x hx=>by cases hx)) fun v2 hv2=>?_
 unfold p8t
 cases hp:(pts s s.form [] g).bind (p4s [])with
 |none=>
  rw[hp]at hv2
  have h1:=hv2.2 rfl
  exact Evt.cond (fun _=>Evt.pure rfl) (fun e=>by rw[h1]at e;cases e)
 |some env=>
  rw[hp]at hv2
  have h1:=hv2.1 _ rfl
  subst h1
  have r9D:p9z env:=by
   cases hq:pts s s.form [] g with
   |none=>rw[hq]at hp;cases hp
   |some ps=>rw[hq]at hp;exact r7E (fun k b h=>by cases h) (r8G s _ _ _ (WfF.sm g hg) ps hq) hp
  refine Evt.cond (fun e=>by cases e) (fun _=>?_)
  have hqv:Evt (fun n=>i9a n (p8R s).form) (fun r=>r=(qs s.form).map (63:: ·)):=by
   refine(r6m _ (p8R s).form (Nat.le_refl _) ?_).mono fun r hr=>?_
   ·show ndF (p5F s s.form [])≤_
    rw[r8I];omega
   ·rw[hr];exact r8J s s.form []
  refine Evt.bind hqv fun v3 hv3=>?_
  subst hv3
  refine Evt.i8R (P:=ExP (fun t=>t=(qs s.form).map fun x=>txE env (63::x)) (fun _=>False)) ((Evt.range (fun k t=>t=((qs s.form).take k).map fun x=>txE env (63::x)) (fun _=>False) (fun _=>False) (by simp) (fun k t hk ht=>?_)).mono fun e he=>?_) (fun t ht=>?_) (fun _ h=>h.elim)
  ·rw[List.length_map]at hk
   unfold p5A
   rw[get_map _ hk]
   refine Evt.p1m (Evt.chk ?_ (Evt.pure ?_))
   ·rw[p0q,ht];simp only[List.length_append,List.length_map,List.length_take,List.length_cons,List.length_nil];omega
   ·show _=_
    rw[i9n hk,List.map_append,ht];rfl
  ·cases e with
   |ret r=>exact he
   |nxt t=>
    have:=he.elim id False.elim
    rw[List.length_map,List.take_length]at this
    exact this
  have ht:t=(qs s.form).map fun x=>txE env (63::x):=ht
  subst ht
  unfold p5B p2j
  have hfl: [(p8R s).words,(p8R s).i8M,(p8R s).parts].flatten=s.words.map (46:: ·)++s.i8M.map (33:: ·)++s.parts.map (43:: ·):=by simp[p8R]
  refine Evt.bind (P:=fun v=>v=s.words.map (46:: ·)++s.i8M.map (33:: ·)++s.parts.map (43:: ·)) ?_ fun v hv=>Evt.bind hqv fun v3 hv3=>?_
  ·unfold r1E
   simp only[Option.bind_assoc,Option.bind_some,hfl]
   exact Evt.bind (P:=fun v=>v=s.words.map (46:: ·)++s.i8M.map (33:: ·)++s.parts.map (43:: ·)) (Evt.chk ⟨by simp,by simp only[List.length_append,List.length_map];omega⟩ (Evt.pure rfl)) fun v hv=>Evt.pure hv
  subst hv hv3
  have w1Y: [s.words.map (46:: ·)++s.i8M.map (33:: ·)++s.parts.map (43:: ·),(qs s.form).map (63:: ·)].flatten=i9I s:=by simp[i9I]
  refine Evt.bind (P:=fun v=>v=i9I s) ?_ fun v hv=>?_
  ·unfold r1E
   rw[w1Y]
   refine Evt.chk ⟨by simp,?_⟩ (Evt.pure rfl)
   unfold i9I;simp only[List.length_append,List.length_map];omega
  subst hv
  have hkl:(i9I s).length≤500:=by unfold i9I;simp only[List.length_append,List.length_map];omega
  have hk1:∀k∈i9I s,1≤k.length:=fun k hk=>by
   unfold i9I at hk
   rcases List.mem_append.1 hk with hk|hk
   ·rcases List.mem_append.1 hk with hk|hk
    ·rcases List.mem_append.1 hk with hk|hk
     ·obtain⟨y,_,rfl⟩:=List.mem_map.1 hk;simp
     ·obtain⟨y,_,rfl⟩:=List.mem_map.1 hk;simp
    ·obtain⟨y,_,rfl⟩:=List.mem_map.1 hk;simp
   ·obtain⟨y,_,rfl⟩:=List.mem_map.1 hk;simp
  have hkw:∀w∈s.words,(46::w)∈i9I s:=fun w hw=>List.mem_append.2 (.inl (List.mem_append.2 (.inl (List.mem_append.2 (.inl (p9O.2 hw))))))
  refine Evt.i8R (P:=ExP (fun t=>t=((i9I s).map fun k=>(⟨k.drop 1,txE env k,fmE env k⟩:i8H))∧¬caught s env) (fun r=>r=([],false)∧caught s env)) ((Evt.range (fun k t=>t=(((i9I s).take k).map fun k=>(⟨k.drop 1,txE env k,fmE env k⟩:i8H))∧∀w∈s.words,(46::w)∈(i9I s).take k→txE env (46::w)∉ (qs s.form).map fun x=>txE env (63::x)) (fun _=>False) (fun r=>r=([],false)∧caught s env) ⟨by simp,fun w _ h=>by simp at h⟩ (fun k t hk ht=>?_)).mono fun e he=>?_) (fun t ht=>?_) (fun r hr=>?_)
  ·obtain⟨ht1,ht2⟩:=ht
   unfold p5C
   have hc2:∀x,i9j x ((qs s.form).map fun x=>txE env (63::x))=some (decide (x∈(qs s.form).map fun x=>txE env (63::x))):=fun x=>r6w x _ (by rw[List.length_map];omega)
   simp only[p2V,hc2,Option.bind_some]
   refine Evt.bind (P:=fun v=>(∃w∈s.words,Am.get (i9I s) k=46::w)→v=decide (txE env (Am.get (i9I s) k)∈(qs s.form).map fun x=>txE env (63::x))) (Evt.gd (fun _=>Evt.pure fun _=>rfl) (fun h ⟨w,hw,e⟩=>?_)) fun v hv=>Evt.cond (fun e=>Evt.pure ⟨rfl,?_⟩) (fun e=>?_)
   ·rw[e,decide_eq_true (show(46::w:Bs)∈(p8R s).words from p9O.2 hw)]at h;cases h
   ·replace e:=bx e
    obtain⟨e1,e2⟩:=e
    obtain⟨w,hw,e3⟩:=List.mem_map.1 (show _∈s.words.map (46:: ·)from e1)
    have:=hv ⟨w,hw,e3.symm⟩
    rw[e2]at this
    refine⟨w,hw,?_⟩
    rw[e3]
    exact of_decide_eq_true this.symm
   ·have hnw:∀w∈s.words,(46::w)∈(i9I s).take (k+1)→txE env (46::w)∉ (qs s.form).map fun x=>txE env (63::x):=fun w hw hm=>by
     rw[i9n hk]at hm
     rcases List.mem_append.1 hm with hm|hm
     ·exact ht2 w hw hm
     ·rw[List.mem_singleton]at hm
      intro hc
      have h1:=hv ⟨w,hw,hm.symm⟩
      rw[←hm,decide_eq_true hc]at h1
      rw[←hm,decide_eq_true (show(46::w:Bs)∈(p8R s).words from p9O.2 hw),h1]at e
      cases e
    have htl:t.length=k:=by rw[ht1,List.length_map,List.length_take];omega
    have hsn:((i9I s).take (k+1)).map (fun k=>(⟨k.drop 1,txE env k,fmE env k⟩:i8H))=t++[⟨(Am.get (i9I s) k).drop 1,txE env (Am.get (i9I s) k),fmE env (Am.get (i9I s) k)⟩]:=by rw[i9n hk,List.map_append,ht1];rfl
    refine Evt.chk ⟨by omega,hk1 _ (get_mem hk)⟩ (Evt.cond (fun e=>?_) (fun e=>Evt.p1m (Evt.chk ?_ (Evt.pure ?_))))
    ·refine Evt.bind (u3w _ _ (Nat.le_refl _) (u4p r9D (Am.get (i9I s) k))) fun v hv=>Evt.p1m (Evt.chk ?_ (Evt.pure ?_))
     ·rw[p0q];simp only[List.length_append,List.length_cons,List.length_nil];omega
     ·subst hv
      exact⟨hsn.symm,hnw⟩
    ·rw[p0q];simp only[List.length_append,List.length_cons,List.length_nil];omega
    ·exact⟨hsn.symm,hnw⟩
  ·cases e with
   |ret r=>exact he
   |nxt t=>
    obtain⟨h1,h2⟩:=he.elim id False.elim
    rw[List.take_length]at h1
    refine⟨h1,fun⟨w,hw,hc⟩=>?_⟩
    exact h2 w hw (by rw[List.take_length];exact hkw w hw) hc
  ·obtain⟨rfl,ht⟩:=ht
   unfold p5D
   refine Evt.pure ?_
   simp only[if_neg ht]
  ·obtain⟨rfl,hr⟩:=hr
   simp only[if_pos hr]
theorem u5D(u:Nat):∀c∈Lib.decDigits u,48≤c.toNat∧c.toNat≤57:=by
 induction u using Nat.strongRecOn with
 | _ u ih=>
   have one:∀v:Nat,v<10→48≤(UInt8.ofNat (48+v)).toNat∧(UInt8.ofNat (48+v)).toNat≤57:=fun v hv=>by
    simp only[UInt8.toNat_ofNat'];omega
   intro c hc
   by_cases h:u<10
   ·rw[Lib.decDigits,dif_pos h,List.mem_singleton]at hc
    subst hc;exact one u h
   ·rw[Lib.decDigits,dif_neg h]at hc
    rcases List.mem_append.1 hc with hc|hc
    ·exact ih (u / 10) (by omega) c hc
    ·rw[List.mem_singleton]at hc
     subst hc;exact one _ (Nat.mod_lt _ (by decide))
theorem u5E{m:Nat}(h:m≤1000000000):p0a (vn m):=by
 have hl:=r0r h
 refine⟨by simp[vn],by simp[vn];omega,by simp[vn,i9O],fun k hk=>?_⟩
 unfold OkC i9O
 rw[Int.toNat_natCast]
 cases k with
 |zero=>left;simp[vn]
 |succ k=>
  right;left
  have hk2:k<(Lib.decDigits m).length:=by simpa[vn]using hk
  have:(vn m).getD (k+1) 0=(Lib.decDigits m)[k]:=by simp[vn,hk2]
  rw[this]
  have:=u5D m _ (List.getElem_mem hk2)
  omega
theorem u1N{k:Int}{n n':Bs}{w w':List Bs}{l l':List i8F}(h:p4A (.mk k n w l)=0)(hn:k=2→n'=n)(hq:QK k→p0a n')(hn2:¬(k=2∨QK k)→n'=n)(hw:w'.length=w.length)(hl:l'.length=l.length)(hx:∀x∈w',p0a x):p4A (.mk k n' w' l')=0:=by
 have o:=p3F h
 refine u3n (by have:=o.1;show 0≤arF k;have h2:((l.length:Nat):Int)=arF k:=this;omega) (by show(l'.length:Int)=arF k;rw[hl];exact o.1) (by show p6Y k w'.length;rw[hw];exact o.2.1) (fun h=>?_) (fun h=>?_) hx
 ·rcases h with h|h
  ·have h:k=2:=h
   have:=o.2.2.1 (.inl h)
   show p0a n'
   rw[hn h];exact this
  ·exact hq h
 ·show n'=[]
  rw[hn2 h];exact o.2.2.2.1 h
mutual
theorem u4q(N:Nat→Bs)(q:Nat)(hN:∀i,i<q→p0a (N i)):∀(f:i8F) (env:List (Bs×Bs)) (i:Nat),WfF f→i+nq f≤q→(∀p∈env,p0a p.2)→WfF (ren N f env i)
 | .mk k n w s,env,i,h,hq,r9D=>by
   have h0:=(p4O _).1 h
   have hnn:p4A (.mk k n w s)=0:=h0.1
   have hss:r2v s:=h0.2
   rw[nq]at hq
   rw[ren,p4O]
   refine⟨u1N hnn (fun e=>if_neg (by unfold QK;omega)) (fun e=>?_) (fun e=>if_neg fun e2=>e (.inr e2)) (List.length_map _) (r0Y _ _ _ _) (fun x hx=>?_),?_⟩
   ·rw[if_pos e]
    rw[if_pos e]at hq
    exact hN i (by omega)
   ·obtain⟨y,hy,rfl⟩:=List.mem_map.1 hx
    have hyn:p0a y:=r7B h hy
    by_cases hm:y∈env.map (·.1)
    ·obtain⟨p,hp,e⟩:=List.mem_map.1 (u1c hm)
     rw[←e];exact r9D p hp
    ·rw[u1b fun p hp e=>hm (List.mem_map.2 ⟨p,hp,e⟩)];exact hyn
   ·refine u1O N q hN s _ _ hss ?_ (fun p hp=>?_)
    ·by_cases e:QK k
     ·simp only[if_pos e]at hq ⊢; omega
     ·simp only[if_neg e]at hq ⊢; omega
    ·by_cases e:QK k
     ·rw[if_pos e]at hp
      rw[if_pos e]at hq
      rcases List.mem_cons.1 hp with rfl|hp
      ·exact hN i (by omega)
      ·exact r9D p hp
     ·rw[if_neg e]at hp;exact r9D p hp
theorem u1O(N:Nat→Bs)(q:Nat)(hN:∀i,i<q→p0a (N i)):∀(l:List i8F) (env:List (Bs×Bs)) (i:Nat),r2v l→i+nqL l≤q→(∀p∈env,p0a p.2)→r2v (p6F N l env i)
 | [],env,i,_,_,_=>by rw[p6F,r2v];trivial
 |f::l,env,i,h,hq,r9D=>by
  rw[nqL]at hq
  rw[p6F,r2v]
  exact⟨u4q N q hN f env i (p2h.1 h f (List.mem_cons_self ..)) (by omega) r9D,u1O N q hN l env _ (p2h.2 fun x hx=>p2h.1 h x (List.mem_cons_of_mem _ hx)) (by omega) r9D⟩
end
theorem u3x{f:i8F}(h:OkF f):∃C:List Bs,C.length≤600∧∀x,fre f [] x↔x∈C:=by
 have:=h.2.1
 obtain⟨C,hC,_⟩:=p9x h.1 (by omega)
 exact⟨C,by omega,fun x=>(hC.1 x).symm⟩
theorem u3y{f:i8F}(h:OkF f):OkF (cf f):=by
 obtain⟨C,hCl,hC⟩:=u3x h
 have hnd:=h.2.1
 have hq:=r1G f
 have u9T:=r8x (fun x=>(hC x).1) 600 hCl
 refine⟨u4q _ 200 (fun i hi=>u5E (by have:=u9T i;omega)) f [] 0 h.1 (by omega) (fun p hp=>by cases hp),?_,?_⟩
 ·unfold cf;rw[u1e];exact h.2.1
 ·unfold cf;rw[u4h];exact h.2.2
mutual
noncomputable def p7O(s:i8I):i8F→Nat→List i8U
 | .mk k n w l,b=>(if(p8t s (.mk k n w l)).2 then [⟨(b:Int),(p8t s (.mk k n w l)).1⟩]else [])++p3L s l (b+1)
noncomputable def p3L(s:i8I):List i8F→Nat→List i8U
 | [],_=>[]
 |f::l,b=>p7O s f b++p3L s l (b+ndF f)
end
theorem u1P(s:i8I)(f:i8F)(b:Nat):p7O s f b=(if(p8t s f).2 then [⟨(b:Int),(p8t s f).1⟩]else [])++p3L s f.subs (b+1):=by cases f;rw[p7O];rfl
theorem r2b(s:i8I):∀(l:List i8F) (x:i8F) (b:Nat),p3L s (l++[x]) b=p3L s l b++p7O s x (b+p3T l)
 | [],x,b=>by simp[p3L,p3T]
 |a::l,x,b=>by rw[List.cons_append,p3L,p3L,r2b s l x,p3T,List.append_assoc,Nat.add_assoc]
mutual
theorem r9v(s:i8I):∀(f:i8F) (b:Nat),(p7O s f b).length≤ndF f
 | .mk k n w l,b=>by
   rw[p7O,ndF,List.length_append]
   have:=r0u s l (b+1)
   split
   ·simp only[List.length_cons,List.length_nil];omega
   ·simp only[List.length_nil];omega
theorem r0u(s:i8I):∀(l:List i8F) (b:Nat),(p3L s l b).length≤p3T l
 | [],b=>by rw[p3L];simp
 |f::l,b=>by
  rw[p3L,p3T,List.length_append]
  have:=r9v s f b
  have:=r0u s l (b+ndF f)
  omega
end
theorem r2z(f:i8F):i8F.mk f.kind f.name f.words f.subs=f:=by cases f;rfl
theorem u3z{s:i8I}(hs:p7X s):∀(m:Nat) (g:i8F),SizeOf.sizeOf g≤m→WfF g→∀(b:Nat) (l:List i8U),b+ndF g≤100000→l.length+ndF g≤100000→
 Evt (fun n=>p1o n g (b:Int) s.form.kind s.form.name s.form.words s.form.subs s.words s.i8M s.parts l) (fun r=>r=(((b+ndF g:Nat):Int),l++p7O s g b)):=by
 intro m
 induction m with
 |zero=>intro f h;cases f;simp only[i8F.mk.sizeOf_spec]at h;omega
 |succ m ih=>
  intro g hg hwf b l hb hl
  have hnd:=p9u g
  refine Evt.succ ?_
  simp only[p1o,r2z]
  have e0:(⟨s.form,s.words,s.i8M,s.parts⟩:i8I)=s:=rfl
  rw[e0]
  refine Evt.bind (u1M hs hwf) fun v hv=>?_
  subst hv
  have key:∀l':List i8U,l'=l++(if(p8t s g).2 then [⟨(b:Int),(p8t s g).1⟩]else [])→Evt (fun n=>p3a (p1o n) g s.form.kind s.form.name s.form.words s.form.subs s.words s.i8M s.parts (b:Int) l') (fun r=>r=(((b+ndF g:Nat):Int),l++p7O s g b)):=by
   intro l' hl'
   have hll:l'.length≤l.length+1:=by rw[hl',List.length_append];split<;>simp
   unfold p3a
   have hw:wr .i64 ((b:Int)+1)=((b+1:Nat):Int):=by rw[p0D (by omega) (by omega)];rfl
   rw[hw]
   refine Evt.i8R (P:=ExP (fun t=>t=(((b+1+p3T g.subs:Nat):Int),l'++p3L s g.subs (b+1))) (fun _=>False)) ((Evt.range (fun k t=>t=(((b+1+p3T (g.subs.take k):Nat):Int),l'++p3L s (g.subs.take k) (b+1))) (fun _=>False) (fun _=>False) (by simp[p3T,p3L]) (fun k t hk ht=>?_)).mono fun e he=>?_) (fun t ht=>?_) (fun _ h=>h.elim)
   ·subst ht
    unfold p5i
    have hsz:=p0V hk
    have htk:=p5Y hk
    have hfl:=r0u s (g.subs.take k) (b+1)
    refine Evt.bind (ih _ (by omega) (p6B hwf hk) (b+1+p3T (g.subs.take k)) _ (by omega) (by rw[List.length_append];omega)) fun v hv=>Evt.pure ?_
    subst hv
    show(_,_)=(_,_)
    rw[i9n hk,p8s,r2b,List.append_assoc,Nat.add_assoc (b+1)]
   ·cases e with
    |ret r=>exact he
    |nxt t=>
     have:=he.elim id False.elim
     rw[List.take_length]at this
     exact this
   ·unfold p5j
    have ht:t=(((b+1+p3T g.subs:Nat):Int),l'++p3L s g.subs (b+1)):=ht
    subst ht
    refine Evt.pure ?_
    show(_,_)=(_,_)
    rw[u1P,hl',List.append_assoc,hnd,Nat.add_assoc]
  refine Evt.cond (fun e=>Evt.p1m (Evt.chk ?_ (key _ (by rw[if_pos e])))) (fun e=>key _ (by rw[if_neg (by rw[e];decide),List.append_nil]))
  rw[p0q,List.length_append,List.length_singleton];omega
theorem u1Q{s:i8I}(hb:SB s)(g:i8F):Evt (fun n=>p4I n s g) (fun r=>∃v,r9C s v∧(v.code≠0→r=([],false,v))∧(v.code=0→¬OkF g→r=([],false,p8W g))∧(v.code=0→OkF g→r=((p8t s (cf g)).1,(p8t s (cf g)).2,⟨0,0⟩))):=by
 unfold p4I
 refine Evt.bind (r3v hb) fun v hv=>Evt.cond (fun e=>Evt.pure ⟨v,hv,fun _=>rfl,fun h=>?_,fun h=>?_⟩) (fun e=>?_)
 ·simp[h]at e
 ·simp[h]at e
 have hv0:v.code=0:=by simpa using e
 have hs:=((hv.code hv0).1).good
 refine Evt.bind (p5X g) fun w hw=>?_
 subst hw
 refine Evt.cond (fun e=>Evt.pure ⟨v,hv,fun h=>absurd hv0 h,fun _ _=>rfl,fun _ h=>?_⟩) (fun e=>?_)
 ·rw[p9v h]at e;simp at e
 have hok:OkF g:=(p6l g).1 (by simpa using e)
 refine Evt.bind (r8z hok) fun c hc=>?_
 subst hc
 refine Evt.bind (u1M hs (u3y hok).1) fun r hr=>?_
 subst hr
 exact Evt.pure ⟨v,hv,fun h=>absurd hv0 h,fun _ h=>absurd hok h,fun _ _=>rfl⟩
theorem u3A{s:i8I}(hb:SB s)(g:i8F):Evt (fun n=>p5k n s g) (fun r=>∃v,r9C s v∧(v.code≠0→r=([],v))∧(v.code=0→¬OkF g→r=([],p8W g))∧(v.code=0→OkF g→r=(p7O s (cf g) 0,⟨0,0⟩))):=by
 unfold p5k
 refine Evt.bind (r3v hb) fun v hv=>Evt.cond (fun e=>Evt.pure ⟨v,hv,fun _=>rfl,fun h=>?_,fun h=>?_⟩) (fun e=>?_)
 ·simp[h]at e
 ·simp[h]at e
 have hv0:v.code=0:=by simpa using e
 have hs:=((hv.code hv0).1).good
 refine Evt.bind (p5X g) fun w hw=>?_
 subst hw
 refine Evt.cond (fun e=>Evt.pure ⟨v,hv,fun h=>absurd hv0 h,fun _ _=>rfl,fun _ h=>?_⟩) (fun e=>?_)
 ·rw[p9v h]at e;simp at e
 have hok:OkF g:=(p6l g).1 (by simpa using e)
 refine Evt.bind (r8z hok) fun c hc=>?_
 subst hc
 have:=(u3y hok).2.1
 refine Evt.bind (u3z hs _ (cf g) (Nat.le_refl _) (u3y hok).1 0 [] (by omega) (by simp;omega)) fun r hr=>?_
 subst hr
 refine Evt.pure ⟨v,hv,fun h=>absurd hv0 h,fun _ h=>absurd hok h,fun _ _=>?_⟩
 show([]++p7O s (cf g) 0,_)=_
 rw[List.nil_append]
set_option maxRecDepth 1000000 in
theorem r1f(m:Nat):i9U (m+300)=some true:=by kernel_rfl
theorem r0v:Evt i9U (fun b=>b=true):=⟨true,rfl,300,fun n hn=>by
 obtain⟨m,rfl⟩:∃m,n=m+300:=⟨n-300,by omega⟩
 exact r1f m⟩
theorem u9U{s:i8I}(hw:s.words.length≤1048576∧∀x∈s.words,x.length≤1048576)(hp:s.i8M.length≤1048576∧∀x∈s.i8M,x.length≤1048576)(hq:s.parts.length≤1048576∧∀x∈s.parts,x.length≤1048576):SB s:=by
 refine⟨hw.1,hp.1,hq.1,fun x hx=>?_⟩
 rcases List.mem_append.1 hx with hx|hx
 ·rcases List.mem_append.1 hx with hx|hx
  ·have:=hw.2 x hx;omega
  ·have:=hp.2 x hx;omega
 ·have:=hq.2 x hx;omega
theorem r3R{l:List Bs}(hl:l.length≤8000000):Evt (fun n=>p0Y n l l) (fun b=>b=true):=by
 unfold p0Y
 refine Evt.cond (fun e=>by simp at e) (fun _=>?_)
 refine Evt.i8R (Evt.p6d l.length (fun k s=>s=(k:Int)) (fun _=>True) (fun _=>False) rfl (fun k s hk hs=>?_) (fun s hs=>?_)) (fun t ht=>?_) (fun r hr=>?_)
 ·subst hs
  unfold p0k
  refine Evt.cond (fun _=>Evt.chk (by omega) (Evt.chk (by omega) (Evt.cond (fun e=>by simp at e) (fun _=>Evt.pure ?_)))) (fun e=>by replace e:=bx e;omega)
  exact(p0D (by omega) (by omega)).trans rfl
 ·subst hs
  unfold p0k
  exact Evt.cond (fun e=>by replace e:=bx e;omega) (fun _=>Evt.pure trivial)
 ·exact Evt.pure rfl
 ·exact False.elim hr
theorem r5h:∀(m:Nat) (f:i8F),SizeOf.sizeOf f≤m→SmF f→Evt (fun n=>i9k n f f) (fun b=>b=true):=by
 intro m
 induction m with
 |zero=>intro f h;cases f;simp only[i8F.mk.sizeOf_spec]at h;omega
 |succ m ih=>
  intro f hf hsm
  obtain⟨hws,hsl,hsm⟩:=(r4s f).1 hsm
  refine Evt.succ ?_
  simp only[i9k]
  refine Evt.bind (P:=fun v=>v=true) (Evt.gd (fun _=>r3R (by omega)) (fun h=>by simp at h)) fun v hv=>?_
  subst hv
  refine Evt.cond (fun e=>by simp at e) (fun _=>?_)
  refine Evt.i8R (Evt.p6d f.subs.length (fun k s=>s=(k:Int)) (fun _=>True) (fun _=>False) rfl (fun k s hk hs=>?_) (fun s hs=>?_)) (fun t ht=>?_) (fun r hr=>?_)
  ·subst hs
   unfold p0z
   have hsz:=p0V hk
   refine Evt.cond (fun _=>Evt.chk (by omega) (Evt.chk (by omega) ?_)) (fun e=>by replace e:=bx e;omega)
   simp only[Int.toNat_natCast]
   refine Evt.bind (ih _ (by omega) (p9M hsm _ (get_mem hk))) fun v hv=>?_
   subst hv
   refine Evt.cond (fun e=>by cases e) (fun _=>Evt.pure ?_)
   exact(p0D (by omega) (by omega)).trans rfl
  ·subst hs
   unfold p0z
   exact Evt.cond (fun e=>by replace e:=bx e;omega) (fun _=>Evt.pure trivial)
  ·exact Evt.pure rfl
  ·exact False.elim hr
def u7R(l:List i8H):Prop:=l.length≤1000∧∀b∈l,SmF b.form
theorem p8u{l:List i8H}(h:u7R l):Evt (fun n=>i9F n l l) (fun b=>b=true):=by
 have hl:=h.1
 unfold i9F
 refine Evt.cond (fun e=>by simp at e) (fun _=>?_)
 refine Evt.i8R (Evt.p6d l.length (fun k s=>s=(k:Int)) (fun _=>True) (fun _=>False) rfl (fun k s hk hs=>?_) (fun s hs=>?_)) (fun t ht=>?_) (fun r hr=>?_)
 ·subst hs
  unfold i9L
  refine Evt.cond (fun _=>Evt.chk (by omega) (Evt.chk (by omega) ?_)) (fun e=>by replace e:=bx e;omega)
  simp only[Int.toNat_natCast]
  refine Evt.bind (P:=fun v=>v=true) (Evt.gd (fun _=>r5h _ _ (Nat.le_refl _) (h.2 _ (get_mem hk))) (fun h=>by simp at h)) fun v hv=>?_
  subst hv
  refine Evt.cond (fun e=>by simp at e) (fun _=>Evt.pure ?_)
  exact(p0D (by omega) (by omega)).trans rfl
 ·subst hs
  unfold i9L
  exact Evt.cond (fun e=>by replace e:=bx e;omega) (fun _=>Evt.pure trivial)
 ·exact Evt.pure rfl
 ·exact False.elim hr
theorem r6x{s:i8I}(hs:p7X s):(i9I s).length≤500:=by
 have hvl:=p4K s
 have hl:=hs.len
 have hnd:=hs.form.2.1
 have hql:(qs s.form).length≤200:=by rw[r0d];have:=r1G s.form;omega
 unfold i9I;simp only[List.length_append,List.length_map];omega
open Classical in
theorem r8K{s:i8I}(hs:p7X s){g:i8F}(hg:WfF g):u7R (p8t s g).1:=by
 unfold p8t
 cases hp:(pts s s.form [] g).bind (p4s [])with
 |none=>exact⟨by simp,fun b hb=>(by cases hb)⟩
 |some env=>
  have r9D:p9z env:=by
   cases hq:pts s s.form [] g with
   |none=>rw[hq]at hp;cases hp
   |some ps=>rw[hq]at hp;exact r7E (fun k b h=>by cases h) (r8G s _ _ _ (WfF.sm g hg) ps hq) hp
  show u7R (if caught s env then(([],false):List i8H×Bool)else _).1
  split
  ·exact⟨by simp,fun b hb=>(by cases hb)⟩
  ·refine⟨by rw[List.length_map];have:=r6x hs;omega,fun b hb=>?_⟩
   obtain⟨k,_,rfl⟩:=List.mem_map.1 hb
   exact u4p r9D k
mutual
theorem u1R{s:i8I}(hs:p7X s):∀(g:i8F),WfF g→∀(b:Nat),∀x∈p7O s g b,u7R x.bindings∧∃m:Nat,x.at_=(m:Int)∧b≤m∧m<b+ndF g
 | .mk k n w l,hg,b,x,hx=>by
   rw[p7O]at hx
   rw[ndF]
   rcases List.mem_append.1 hx with hx|hx
   ·split at hx
    ·rw[List.mem_singleton]at hx
     subst hx
     exact⟨r8K hs hg,b,rfl,Nat.le_refl _,by omega⟩
    ·cases hx
   ·obtain⟨h1,m,h2,h3,h4⟩:=r4t hs l ((p4O _).1 hg).2 (b+1) x hx
    exact⟨h1,m,h2,by omega,by omega⟩
theorem r4t{s:i8I}(hs:p7X s):∀(l:List i8F),r2v l→∀(b:Nat),∀x∈p3L s l b,u7R x.bindings∧∃m:Nat,x.at_=(m:Int)∧b≤m∧m<b+p3T l
 | [],_,b,x,hx=>by rw[p3L]at hx;cases hx
 |f::l,hg,b,x,hx=>by
  rw[p3L]at hx
  rw[p3T]
  rcases List.mem_append.1 hx with hx|hx
  ·obtain⟨h1,m,h2,h3,h4⟩:=u1R hs f (p2h.1 hg f (List.mem_cons_self ..)) b x hx
   exact⟨h1,m,h2,by omega,by omega⟩
  ·obtain⟨h1,m,h2,h3,h4⟩:=r4t hs l (p2h.2 fun y hy=>p2h.1 hg y (List.mem_cons_of_mem _ hy)) (b+ndF f) x hx
   exact⟨h1,m,h2,by omega,by omega⟩
end
mutual
def p5n(R:List IT):i8F→List Bs→Nat→Prop
 | .mk k n w s,bd,p=>p<R.length∧Am.get R p=⟨k,n,w,w.map (fun x=>decide (x∈bd)),((p+ndF (.mk k n w s):Nat):Int)⟩∧p4D R s (if QK k then n::bd else bd) (p+1)
def p4D(R:List IT):List i8F→List Bs→Nat→Prop
 | [],_,_=>True
 |f::l,bd,p=>p5n R f bd p∧p4D R l bd (p+ndF f)
end
theorem p5l(R:List IT)(f:i8F)(bd:List Bs)(p:Nat):p5n R f bd p↔p<R.length∧Am.get R p=⟨f.kind,f.name,f.words,f.words.map (fun x=>decide (x∈bd)),((p+ndF f:Nat):Int)⟩∧p4D R f.subs (if QK f.kind then f.name::bd else bd) (p+1):=by cases f;rw[p5n];rfl
theorem r3A{α:Type}[Inhabited α](X:List α)(y:α)(Y:List α):Am.get (X++y::Y) X.length=y:=by unfold Am.get;simp
mutual
theorem r8L:∀(f:i8F) (ar:List Bs) (X Y:List IT),p5n (X++(p4B f ar X.length++Y)) f ar X.length
 | .mk k n w s,ar,X,Y=>by
   rw[p5n]
   have e:p4B (.mk k n w s) ar X.length=⟨k,n,w,w.map (fun x=>decide (x∈ar)),((X.length+ndF (.mk k n w s):Nat):Int)⟩::p4T s (if QK k then n::ar else ar) (X.length+1):=r7v _ _ _
   refine⟨by rw[e];simp,by rw[e];exact r3A _ _ _,?_⟩
   rw[e]
   have:=r6y s (if QK k then n::ar else ar) (X++[⟨k,n,w,w.map (fun x=>decide (x∈ar)),((X.length+ndF (.mk k n w s):Nat):Int)⟩]) Y
   rw[List.length_append,List.length_singleton,List.append_assoc]at this
   exact this
theorem r6y:∀(l:List i8F) (ar:List Bs) (X Y:List IT),p4D (X++(p4T l ar X.length++Y)) l ar X.length
 | [],ar,X,Y=>by rw[p4D];trivial
 |f::l,ar,X,Y=>by
  rw[p4D,p4T,List.append_assoc]
  refine⟨r8L f ar X _,?_⟩
  have:=r6y l ar (X++p4B f ar X.length) Y
  rw[List.length_append,p4l,List.append_assoc]at this
  exact this
end
theorem r3k(f:i8F)(ar:List Bs):p5n (p4B f ar 0) f ar 0:=by
 have:=r8L f ar [] []
 rw[List.nil_append,List.append_nil]at this
 exact this
mutual
theorem p5n.le{R:List IT}:∀ {f:i8F} {bd:List Bs} {p:Nat},p5n R f bd p→p+ndF f≤R.length
 | .mk k n w s,bd,p,h=>by
   rw[p5n]at h
   rw[ndF]
   cases s with
   |nil=>rw[p3T];omega
   |cons x l=>
    have:=p4D.le h.2.2 (by simp)
    omega
theorem p4D.le{R:List IT}:∀ {l:List i8F} {bd:List Bs} {p:Nat},p4D R l bd p→l≠ []→p+p3T l≤R.length
 | [],bd,p,h,hn=>absurd rfl hn
 |f::l,bd,p,h,_=>by
  rw[p4D]at h
  rw[p3T]
  cases l with
  |nil=>rw[p3T];have:=p5n.le h.1;omega
  |cons x l=>
   have:=p4D.le h.2 (by simp)
   omega
end
theorem p4D.get{R:List IT}:∀ {l:List i8F} {bd:List Bs} {p:Nat},p4D R l bd p→∀k,k<l.length→p5n R (Am.get l k) bd (p+p3T (l.take k))
 | [],_,_,_,k,hk=>by simp at hk
 |f::l,bd,p,h,0,_=>by
  rw[p4D]at h
  simpa[p3T,Am.get]using h.1
 |f::l,bd,p,h,k+1,hk=>by
  rw[p4D]at h
  have:=p4D.get h.2 k (by simpa using hk)
  rw[List.take_succ_cons,p3T, ←Nat.add_assoc]
  exact this
mutual
theorem p5n.node{R:List IT}:∀ {f:i8F} {bd:List Bs} {p:Nat},p5n R f bd p→∀j,j<ndF f→∃ar,p5n R (Am.get (i9g f) j) ar (p+j)
 | .mk k n w s,bd,p,h,0,_=>⟨bd,by rw[i9g];exact h⟩
 | .mk k n w s,bd,p,h,j+1,hj=>by
   rw[p5n]at h
   rw[ndF]at hj
   obtain⟨ar,ha⟩:=p4D.node h.2.2 j (by omega)
   refine⟨ar,?_⟩
   rw[i9g,show p+(j+1)=p+1+j by omega]
   exact ha
theorem p4D.node{R:List IT}:∀ {l:List i8F} {bd:List Bs} {p:Nat},p4D R l bd p→∀j,j<p3T l→∃ar,p5n R (Am.get (p0r l) j) ar (p+j)
 | [],bd,p,h,j,hj=>by rw[p3T]at hj;omega
 |f::l,bd,p,h,j,hj=>by
  rw[p4D]at h
  rw[p3T]at hj
  rw[p0r]
  by_cases e:j<ndF f
  ·have e1:Am.get (i9g f++p0r l) j=Am.get (i9g f) j:=by
    unfold Am.get
    rw[List.getD_eq_getElem?_getD,List.getD_eq_getElem?_getD,List.getElem?_append_left (by rw[p3f];exact e)]
   rw[e1];exact p5n.node h.1 j e
  ·have e1:Am.get (i9g f++p0r l) j=Am.get (p0r l) (j-ndF f):=by
    unfold Am.get
    rw[List.getD_eq_getElem?_getD,List.getD_eq_getElem?_getD,List.getElem?_append_right (by rw[p3f];omega),p3f]
   obtain⟨ar,ha⟩:=p4D.node h.2 (j-ndF f) (by omega)
   refine⟨ar,?_⟩
   rw[e1,show p+j=p+ndF f+(j-ndF f)by omega]
   exact ha
end
theorem u1S{f:i8F}(h:WfF f):p3i f.kind=some (f.subs.length:Int):=by
 have o:=p3F ((p4O f).1 h).1
 have h0:0≤arF f.kind:=by have:=o.1;omega
 unfold p3i
 rw[o.1]
 unfold arF at h0⊢
 by_cases e1:f.kind=1∨f.kind=2∨f.kind=3
 ·rcases e1 with e|e|e<;>rw[e]<;>rfl
 ·by_cases e2:f.kind=4∨f.kind=8∨f.kind=9
  ·rcases e2 with e|e|e<;>rw[e]<;>rfl
  ·by_cases e3:f.kind=5∨f.kind=6∨f.kind=7
   ·rcases e3 with e|e|e<;>rw[e]<;>rfl
   ·rw[if_neg e1,if_neg e2,if_neg e3]at h0
    omega
theorem u1T{R:List IT}(hR:R.length≤100000):∀(m:Nat) (g:i8F),SizeOf.sizeOf g≤m→WfF g→∀(bd:List Bs) (p:Nat),p5n R g bd p→Evt (fun n=>i9M n R (p:Int)) (fun r=>r=g):=by
 intro m
 induction m with
 |zero=>intro f h;cases f;simp only[i8F.mk.sizeOf_spec]at h;omega
 |succ m ih=>
  intro g hg hwf bd p h
  obtain⟨hp,hit,hl⟩:=(p5l R g bd p).1 h
  have hws:=p9w hwf
  have hsl:=r0p hwf
  refine Evt.succ ?_
  simp only[i9M]
  refine Evt.chk (by omega) ?_
  refine Evt.i8R (Evt.p6d g.words.length (fun k s=>s=(g.words.take k,(k:Int))) (fun t=>t=g.words) (fun _=>False) (by simp) (fun k s hk hs=>?_) (fun s hs=>?_)) (fun t ht=>?_) (fun r hr=>?_)
  ·subst hs
   unfold p0Z
   simp only[Int.toNat_natCast,hit]
   refine Evt.cond (fun _=>Evt.chk (by omega) (Evt.p1m (Evt.chk ?_ (Evt.pure ?_)))) (fun e=>by replace e:=bx e;omega)
   ·rw[p0q];simp only[List.length_append,List.length_take,List.length_cons,List.length_nil];omega
   ·show(_,_)=(_,_)
    rw[i9n hk,p0D (by omega) (by omega)];rfl
  ·subst hs
   unfold p0Z
   simp only[Int.toNat_natCast,hit]
   refine Evt.cond (fun e=>by replace e:=bx e;omega) (fun _=>Evt.pure ?_)
   show g.words.take g.words.length=_
   rw[List.take_length]
  ·have ht:t=g.words:=ht
   subst ht
   unfold p2u
   have hw:wr .i64 ((p:Int)+1)=((p+1:Nat):Int):=by rw[p0D (by omega) (by omega)];rfl
   rw[hw]
   refine Evt.i8R (Evt.p6d g.subs.length (fun k s=>s=(g.subs.take k,((p+1+p3T (g.subs.take k):Nat):Int),(k:Int))) (fun t=>t=g.subs) (fun _=>False) (by simp[p3T]) (fun k s hk hs=>?_) (fun s hs=>?_)) (fun t ht=>?_) (fun r hr=>?_)
   ·subst hs
    have hsub:=p4D.get hl k hk
    have hsz:=p0V hk
    have hle:=hsub.le
    obtain⟨hp2,w1Z,_⟩:=(p5l R _ _ _).1 hsub
    unfold p1a
    have e0:(Am.get R p).kind=g.kind:=by rw[hit]
    simp only[Int.toNat_natCast,e0,u1S hwf,Option.bind_some]
    refine Evt.cond (fun _=>?_) (fun e=>by replace e:=bx e;omega)
    refine Evt.bind (ih _ (by omega) (p6B hwf hk) _ _ hsub) fun v hv=>Evt.p1m (Evt.chk ?_ (Evt.chk (by omega) (Evt.pure ?_)))
    ·rw[p0q];simp only[List.length_append,List.length_take,List.length_cons,List.length_nil];omega
    ·subst hv
     show(_,_,_)=(_,_,_)
     rw[w1Z,i9n hk,p8s,p0D (by omega) (by omega),Nat.add_assoc (p+1)];rfl
   ·subst hs
    unfold p1a
    have e0:(Am.get R p).kind=g.kind:=by rw[hit]
    simp only[Int.toNat_natCast,e0,u1S hwf,Option.bind_some]
    refine Evt.cond (fun e=>by replace e:=bx e;omega) (fun _=>Evt.pure ?_)
    show g.subs.take g.subs.length=_
    rw[List.take_length]
   ·have ht:t=g.subs:=ht
    subst ht
    unfold p2v
    refine Evt.pure ?_
    rw[Int.toNat_natCast,hit]
    exact r2z g
   ·exact False.elim hr
  ·exact False.elim hr
def sgI(it:IT):Int×Bs×List Bs:=(it.kind,it.name,it.words)
def sgF(f:i8F):Int×Bs×List Bs:=(f.kind,f.name,f.words)
theorem r0h{α:Type}[Inhabited α]{l m:List α}(hl:l.length=m.length)(h:∀j,j<l.length→Am.get l j=Am.get m j):l=m:=by
 refine List.ext_getElem hl fun j h1 h2=>?_
 have:=h j h1
 unfold Am.get at this
 simpa[h1,h2]using this
theorem u4r{R:List IT}{g:i8F}{bd:List Bs}{p:Nat}(h:p5n R g bd p):((R.drop p).take (ndF g)).map sgI=(i9g g).map sgF:=by
 have hle:=h.le
 have hl:((R.drop p).take (ndF g)).length=ndF g:=by rw[List.length_take,List.length_drop];omega
 refine r0h (by rw[List.length_map,List.length_map,hl,p3f]) fun j hj=>?_
 rw[List.length_map,hl]at hj
 rw[get_map sgI (by rw[hl];exact hj),get_map sgF (by rw[p3f];exact hj)]
 have e:Am.get ((R.drop p).take (ndF g)) j=Am.get R (p+j):=by
  unfold Am.get
  rw[List.getD_eq_getElem?_getD,List.getD_eq_getElem?_getD,List.getElem?_take_of_lt hj,List.getElem?_drop]
 rw[e]
 obtain⟨ar,ha⟩:=p5n.node h j hj
 obtain⟨_,hit,_⟩:=(p5l R _ ar _).1 ha
 rw[hit];rfl
theorem u3B:∀(m:Nat) (f:i8F),SizeOf.sizeOf f≤m→WfF f→∀g:i8F,WfF g→∀r1 r2,(i9g f).map sgF++r1=(i9g g).map sgF++r2→f=g∧r1=r2:=by
 intro m
 induction m with
 |zero=>intro f h;cases f;simp only[i8F.mk.sizeOf_spec]at h;omega
 |succ m ih=>
  intro f hf hwf g hwg r1 r2 h
  rw[p7N f,p7N g,List.map_cons,List.map_cons,List.cons_append,List.cons_append]at h
  obtain⟨h0,h⟩:=List.cons.inj h
  unfold sgF at h0
  simp only[Prod.mk.injEq]at h0
  obtain⟨hk,hn,hw⟩:=h0
  have hlen:f.subs.length=g.subs.length:=by
   have o1:=(p3F ((p4O f).1 hwf).1).1
   have o2:=(p3F ((p4O g).1 hwg).1).1
   rw[hk]at o1;omega
  have parts:∀(l l':List i8F),(∀x∈l,SizeOf.sizeOf x≤m∧WfF x)→(∀x∈l',WfF x)→l.length=l'.length→(p0r l).map sgF++r1=(p0r l').map sgF++r2→l=l'∧r1=r2:=by
   intro l
   induction l with
   |nil=>
    intro l' _ _ hl h
    cases l' with
    |nil=>rw[p0r]at h;exact⟨rfl,h⟩
    |cons y l'=>simp at hl
   |cons x l ihl=>
    intro l' hx hy hl h
    cases l' with
    |nil=>simp at hl
    |cons y l'=>
     rw[p0r,p0r,List.map_append,List.map_append,List.append_assoc,List.append_assoc]at h
     obtain⟨e1,h⟩:=ih x (hx x (List.mem_cons_self ..)).1 (hx x (List.mem_cons_self ..)).2 y (hy y (List.mem_cons_self ..)) _ _ h
     obtain⟨e2,h⟩:=ihl l' (fun z hz=>hx z (List.mem_cons_of_mem _ hz)) (fun z hz=>hy z (List.mem_cons_of_mem _ hz)) (by simpa using hl) h
     rw[e1,e2];exact⟨rfl,h⟩
  obtain⟨hs,hr⟩:=parts f.subs g.subs (fun x hx=>by
   obtain⟨j,hj,rfl⟩:=p1x.1 hx
   have:=p0V hj
   exact⟨by omega,p6B hwf hj⟩) (fun x hx=>by
   obtain⟨j,hj,rfl⟩:=p1x.1 hx
   exact p6B hwg hj) hlen h
  refine⟨?_,hr⟩
  rw[←r2z f, ←r2z g,hk,hn,hw,hs]
theorem r6z{l m:List IT}(hl:l.length≤100000)(hw:∀it∈l,it.words.length≤100000):Evt (fun n=>p1b n l m) (fun r=>r=decide (l.map sgI=m.map sgI)):=by
 unfold p1b
 refine Evt.cond (fun e=>Evt.pure ?_) (fun e=>?_)
 ·replace e:=bx e
  refine(decide_eq_false fun h=>e ?_).symm
  have:=congrArg List.length h
  rw[List.length_map,List.length_map]at this
  omega
 replace e:=bx e
 have hlm:l.length=m.length:=by omega
 refine Evt.i8R (Evt.p6d l.length (fun k s=>s=(k:Int)∧∀j,j<k→sgI (Am.get l j)=sgI (Am.get m j)) (fun _=>l.map sgI=m.map sgI) (fun r=>r=false∧l.map sgI≠m.map sgI) ⟨rfl,fun j hj=>absurd hj (Nat.not_lt_zero _)⟩ (fun k s hk hs=>?_) (fun s hs=>?_)) (fun t ht=>?_) (fun r hr=>?_)
 ·obtain⟨rfl,hs⟩:=hs
  have bad:sgI (Am.get l k)≠sgI (Am.get m k)→l.map sgI≠m.map sgI:=fun h e=>h (by rw[←get_map sgI hk, ←get_map sgI (by omega),e])
  unfold p0l
  simp only[Int.toNat_natCast]
  refine Evt.cond (fun _=>Evt.chk (by omega) (Evt.chk (by omega) (Evt.cond (fun e=>Evt.pure ⟨rfl,bad fun h=>?_⟩) (fun e=>?_)))) (fun e=>by replace e:=bx e;omega)
  ·unfold sgI at h
   simp only[Prod.mk.injEq]at h
   simp[h.1,h.2.1,h.2.2]at e
  have e1:(Am.get l k).kind=(Am.get m k).kind:=Classical.byContradiction fun h=>by simp[h]at e
  have e2:(Am.get l k).name=(Am.get m k).name:=Classical.byContradiction fun h=>by simp[h]at e
  have e3:(Am.get l k).words.length=(Am.get m k).words.length:=Classical.byContradiction fun h=>by
   have:¬(((Am.get l k).words.length:Int)=((Am.get m k).words.length:Int)):=by omega
   simp[this]at e
  have hwk:=hw _ (get_mem hk)
  refine Evt.i8R (Evt.p6d (Am.get l k).words.length (fun i s=>s=(i:Int)∧∀j,j<i→Am.get (Am.get l k).words j=Am.get (Am.get m k).words j) (fun _=>(Am.get l k).words=(Am.get m k).words) (fun r=>r= .ret false∧(Am.get l k).words≠(Am.get m k).words) ⟨rfl,fun j hj=>absurd hj (Nat.not_lt_zero _)⟩ (fun i s hi hs=>?_) (fun s hs=>?_)) (fun t ht=>?_) (fun r hr=>?_)
  ·obtain⟨rfl,hs2⟩:=hs
   unfold p0m
   simp only[Int.toNat_natCast]
   refine Evt.cond (fun _=>Evt.chk (by omega) (Evt.chk (by omega) (Evt.cond (fun e=>Evt.pure ⟨rfl,fun h=>?_⟩) (fun e=>Evt.pure ⟨?_,fun j hj=>?_⟩)))) (fun e=>by replace e:=bx e;omega)
   ·replace e:=bx e
    exact e (by rw[h])
   ·rw[p0D (by omega) (by omega)];rfl
   ·replace e:=bx e
    by_cases ej:j=i
    ·subst ej;exact e
    ·exact hs2 j (by omega)
  ·obtain⟨rfl,hs2⟩:=hs
   unfold p0m
   simp only[Int.toNat_natCast]
   refine Evt.cond (fun e=>by replace e:=bx e;omega) (fun _=>Evt.pure ?_)
   exact r0h e3 hs2
  ·have ht:(Am.get l k).words=(Am.get m k).words:=ht
   unfold p1r
   refine Evt.pure ⟨by rw[p0D (by omega) (by omega)];rfl,fun j hj=>?_⟩
   by_cases ej:j=k
   ·subst ej;unfold sgI;rw[e1,e2,ht]
   ·exact hs j (by omega)
  ·obtain⟨rfl,hr⟩:=hr
   refine⟨rfl,bad fun h=>hr ?_⟩
   unfold sgI at h
   simp only[Prod.mk.injEq]at h
   exact h.2.2
 ·obtain⟨rfl,hs⟩:=hs
  unfold p0l
  refine Evt.cond (fun e=>by replace e:=bx e;omega) (fun _=>Evt.pure ?_)
  refine r0h (by rw[List.length_map,List.length_map];exact hlm) fun j hj=>?_
  rw[List.length_map]at hj
  rw[get_map sgI hj,get_map sgI (by omega)]
  exact hs j hj
 ·have ht:l.map sgI=m.map sgI:=ht
  exact Evt.pure (decide_eq_true ht).symm
 ·obtain⟨rfl,h⟩:=hr
  exact(decide_eq_false h).symm
theorem r3S{s:i8I}(hs:p7X s):Evt (fun n=>p0A n s) (fun r=>r=vns s++qs s.form):=by
 have hvl:=p4K s
 have hl:=hs.len
 have hnd:=hs.form.2.1
 have hrl:(p4B s.form [] 0).length=ndF s.form:=p4l _ _ _
 have hql:(qs s.form).length≤200:=by rw[r0d];have:=r1G s.form;omega
 have hq:qs s.form=qsI (p4B s.form [] 0):=(r7x _ _ _).symm
 have hpre:∀i,qs s.form=qsI ((p4B s.form [] 0).take i)++qsI ((p4B s.form [] 0).drop i):=fun i=>by rw[←r1J,List.take_append_drop];exact hq
 unfold p0A
 refine Evt.i8R (r6i s.words _ (fun _=>rfl) [] (by simp;omega)) (fun t ht=>?_) (fun _ h=>h.elim)
 unfold p0P
 have ht:t=s.words:=ht
 subst ht
 refine Evt.i8R (r6i s.i8M _ (fun _=>rfl) s.words (by omega)) (fun t ht=>?_) (fun _ h=>h.elim)
 unfold p0Q
 have ht:t=s.words++s.i8M:=ht
 subst ht
 refine Evt.i8R (r6i s.parts _ (fun _=>rfl) (s.words++s.i8M) (by rw[List.length_append];omega)) (fun t ht=>?_) (fun _ h=>h.elim)
 unfold p0R
 have ht:t=vns s:=ht
 subst ht
 refine Evt.bind (r2w hs.form.1 [] (by omega) (by simp)) fun v hv=>?_
 subst hv
 refine Evt.i8R (Evt.p6d (ndF s.form) (fun i t=>t=(vns s++qsI ((p4B s.form [] 0).take i),(i:Int))) (fun t=>t=vns s++qs s.form) (fun _=>False) (by simp[qsI]) (fun i t hi ht=>?_) (fun t ht=>?_)) (fun t ht=>?_) (fun r hr=>?_)
 ·subst ht
  have hll:(qsI ((p4B s.form [] 0).take i)).length≤200:=by have:=congrArg List.length (hpre i);rw[List.length_append]at this;omega
  unfold i9V
  simp only[Int.toNat_natCast]
  refine Evt.cond (fun _=>Evt.chk (by omega) ?_) (fun e=>by replace e:=bx e;omega)
  refine Evt.cond (fun e=>Evt.p1m (Evt.chk ?_ (Evt.pure ?_))) (fun e=>Evt.pure ?_)
  ·rw[p0q];simp only[List.length_append,List.length_cons,List.length_nil];omega
  ·replace e:=bx e
   have hqk:QK (Am.get (p4B s.form [] 0) i).kind:=e
   show(_,_)=(_,_)
   rw[i9n (by omega),r1J,r5b,if_pos hqk,p0D (by omega) (by omega),List.append_assoc];rfl
  ·replace e:=bx e
   have hqk:¬QK (Am.get (p4B s.form [] 0) i).kind:=fun h=>by rcases h with h|h<;>simp[h]at e
   show(_,_)=(_,_)
   rw[i9n (by omega),r1J,r5b,if_neg hqk,p0D (by omega) (by omega),List.append_nil];rfl
 ·subst ht
  unfold i9V
  refine Evt.cond (fun e=>by replace e:=bx e;omega) (fun _=>Evt.pure ?_)
  have hrt:(p4B s.form [] 0).take (ndF s.form)=p4B s.form [] 0:=by rw[←hrl,List.take_length]
  show _++_=_
  rw[hrt, ←hq]
 ·exact Evt.pure ht
 ·exact False.elim hr
end Go.Proofs.YtdjnbjnlnjhllaaGreatDoor
