import Derived.Test.YtdjnbjnlnjhllaaGreatDoorFILaw3
set_option linter.unusedVariables false
set_option linter.unusedSimpArgs false
namespace Go.Proofs.YtdjnbjnlnjhllaaGreatDoor
open Go Go.Am
theorem x9K(s:w3W):(w6h s).map (·.drop 1)=vns s++qs s.form:=by
 unfold w6h vns
 simp only[List.map_append,List.map_map]
 have:∀(c:UInt8) (l:List Bs),l.map ((fun x:Bs=>x.drop 1)∘fun x=>c::x)=l:=fun c l=>by
  induction l with
  |nil=>rfl
  |cons a l ih=>rw[List.map_cons,ih];rfl
 rw[this,this,this,this]
theorem y1p{α:Type}[Inhabited α]{a b:List α}{i:Nat}(h:i<a.length):Am.get (a++b) i=Am.get a i:=by
 unfold Am.get
 rw[List.getD_eq_getElem?_getD,List.getD_eq_getElem?_getD,List.getElem?_append_left h]
theorem y1q{α:Type}[Inhabited α]{a b:List α}{i:Nat}:Am.get (a++b) (a.length+i)=Am.get b i:=by
 unfold Am.get
 rw[List.getD_eq_getElem?_getD,List.getD_eq_getElem?_getD,List.getElem?_append_right (by omega)]
 congr 2;omega
theorem y3X{s:w3W}{i:Nat}(h:i<s.words.length):Am.get (w6h s) i=46::Am.get s.words i:=by
 unfold w6h
 rw[List.append_assoc,List.append_assoc,y1p (by rw[List.length_map];exact h),get_map _ h]
theorem y5Q{s:w3W}{i:Nat}(h:i<s.w4a.length):Am.get (w6h s) (s.words.length+i)=33::Am.get s.w4a i:=by
 unfold w6h
 have e:s.words.length=(s.words.map (46:: ·)).length:=(List.length_map _).symm
 rw[List.append_assoc,List.append_assoc,e,y1q,y1p (by rw[List.length_map];exact h),get_map _ h]
theorem y8j{s:w3W}{i:Nat}(h:i<s.parts.length):Am.get (w6h s) (s.words.length+s.w4a.length+i)=43::Am.get s.parts i:=by
 unfold w6h
 have e:s.words.length+s.w4a.length=(s.words.map (46:: ·)++s.w4a.map (33:: ·)).length:=by simp
 rw[List.append_assoc,e,y1q,y1p (by rw[List.length_map];exact h),get_map _ h]
theorem y3Y{s:w3W}{i:Nat}(h:i<(qs s.form).length):Am.get (w6h s) (s.words.length+s.w4a.length+s.parts.length+i)=63::Am.get (qs s.form) i:=by
 unfold w6h
 have e:s.words.length+s.w4a.length+s.parts.length=(s.words.map (46:: ·)++s.w4a.map (33:: ·)++s.parts.map (43:: ·)).length:=by simp only[List.length_append,List.length_map]
 rw[e,y1q,get_map _ h]
theorem w4F(s:w3W):(w6h s).length=s.words.length+s.w4a.length+s.parts.length+(qs s.form).length:=by
 unfold w6h;simp only[List.length_append,List.length_map]
theorem y2K{s:w3W}{i:Nat}(h:i<(w6h s).length):
 (i<s.words.length∧Am.get (w6h s) i=46::Am.get s.words i)∨(∃j,j<s.w4a.length∧i=s.words.length+j∧Am.get (w6h s) i=33::Am.get s.w4a j)∨
 (∃j,j<s.parts.length∧i=s.words.length+s.w4a.length+j∧Am.get (w6h s) i=43::Am.get s.parts j)∨(∃j,j<(qs s.form).length∧i=s.words.length+s.w4a.length+s.parts.length+j∧Am.get (w6h s) i=63::Am.get (qs s.form) j):=by
 rw[w4F]at h
 by_cases h1:i<s.words.length
 ·exact .inl ⟨h1,y3X h1⟩
 ·by_cases h2:i<s.words.length+s.w4a.length
  ·obtain⟨j,rfl⟩:∃j,i=s.words.length+j:=⟨i-s.words.length,by omega⟩
   exact .inr (.inl ⟨j,by omega,rfl,y5Q (by omega)⟩)
  ·by_cases h3:i<s.words.length+s.w4a.length+s.parts.length
   ·obtain⟨j,rfl⟩:∃j,i=s.words.length+s.w4a.length+j:=⟨i-(s.words.length+s.w4a.length),by omega⟩
    exact .inr (.inr (.inl ⟨j,by omega,rfl,y8j (by omega)⟩))
   ·obtain⟨j,rfl⟩:∃j,i=s.words.length+s.w4a.length+s.parts.length+j:=⟨i-(s.words.length+s.w4a.length+s.parts.length),by omega⟩
    exact .inr (.inr (.inr ⟨j,by omega,rfl,y3Y (by omega)⟩))
theorem key_inj{s:w3W}(hs:x0p s){i j:Nat}(hi:i<(w6h s).length)(hj:j<(w6h s).length)(h:Am.get (w6h s) i=Am.get (w6h s) j):i=j:=by
 have hvl:=x0o s
 have hu:∀a b,a<(vns s).length→b<(vns s).length→Am.get (vns s) a=Am.get (vns s) b→a=b:=fun a b ha hb e=>by
  rcases Nat.lt_trichotomy a b with h|h|h
  ·exact absurd e (hs.uniq a b h hb)
  ·exact h
  ·exact absurd e.symm (hs.uniq b a h ha)
 have hq:∀a b,a<(qs s.form).length→b<(qs s.form).length→Am.get (qs s.form) a=Am.get (qs s.form) b→a=b:=fun a b ha hb e=>by
  rcases Nat.lt_trichotomy a b with h|h|h
  ·exact absurd ((x2H (by omega)).2 ⟨a,h,e⟩) (hs.z0A b hb).1
  ·exact h
  ·exact absurd ((x2H (by omega)).2 ⟨b,h,e.symm⟩) (hs.z0A a ha).1
 rcases y2K hi with⟨h1,e1⟩|⟨a,h1,rfl,e1⟩|⟨a,h1,rfl,e1⟩|⟨a,h1,rfl,e1⟩<;>
 rcases y2K hj with⟨h2,e2⟩|⟨b,h2,rfl,e2⟩|⟨b,h2,rfl,e2⟩|⟨b,h2,rfl,e2⟩<;>
 rw[e1,e2]at h<;>
 (first
  |exact absurd (List.cons.inj h).1 (by decide)
  |skip)
 ·have:=(List.cons.inj h).2
  exact hu _ _ (by omega) (by omega) (by rw[x9F h1,x9F h2];exact this)
 ·have:=(List.cons.inj h).2
  exact hu _ _ (by omega) (by omega) (by rw[x9G h1,x9G h2];exact this)
 ·have:=(List.cons.inj h).2
  exact hu _ _ (by omega) (by omega) (by rw[x9H h1,x9H h2];exact this)
 ·have:=(List.cons.inj h).2
  rw[hq _ _ h1 h2 this]
def z7a(s:w3W)(l:List w3T)(bd:List Bs)(ps:List w3V):Prop:=
 (∀x,x4D l bd x→x∈s.words→∃b∈ps,b.name=46::x)∧(∀x∈qsL l,∃b∈ps,b.name=63::x)∧(∀x,(x5J (w6e l) x∨x6s (w6e l) x)→x∈s.w4a→x∉s.parts→∃b∈ps,b.name=33::x)∧(∀x,x6s (w6e l) x→x∈s.parts→∃b∈ps,b.name=43::x)
theorem z7a.nil{s:w3W}{bd:List Bs}{ps:List w3V}:z7a s [] bd ps:=by
 refine⟨fun x h=>?_,fun x h=>?_,fun x h=>?_,fun x h=>?_⟩
 ·rw[x4D]at h;exact h.elim
 ·rw[qsL]at h;cases h
 ·rw[w6e]at h;rcases h with⟨g,hg,_⟩|⟨g,hg,_⟩<;>cases hg
 ·rw[w6e]at h;obtain⟨g,hg,_⟩:=h;cases hg
theorem y2L{V:Type}[Inhabited V]:∀(ks:List Bs) (vs:List V),ks.length=vs.length→(∀i j,i<ks.length→j<ks.length→Am.get ks i=Am.get ks j→i=j)→∀j,j<ks.length→assoc (Am.get ks j) (ks.zip vs)=some (Am.get vs j)
 | [],vs,_,_,j,hj=>by simp at hj
 |k::ks,[],hl,_,j,hj=>by simp at hl
 |k::ks,v::vs,hl,hu,j,hj=>by
  rw[List.zip_cons_cons]
  cases j with
  |zero=>
   show(if k=k then some v else _)=some v
   rw[if_pos rfl]
  |succ j=>
   have hne:Am.get (k::ks) (j+1)≠k:=fun e=>by
    have:=hu (j+1) 0 hj (by simp) e
    omega
   show(if Am.get (k::ks) (j+1)=k then some v else assoc (Am.get (k::ks) (j+1)) (ks.zip vs))=_
   rw[if_neg hne]
   exact y2L ks vs (by simpa using hl) (fun a b ha hb e=>by
    have:=hu (a+1) (b+1) (by simpa using ha) (by simpa using hb) e
    omega) j (by simpa using hj)
def bOf(s:w3W)(bs:List w3V)(k:Bs):w3V:=(assoc k ((w6h s).zip bs)).getD default
theorem x5k{s:w3W}(hs:x0p s){bs:List w3V}(hl:bs.length=(w6h s).length){j:Nat}(hj:j<(w6h s).length):bOf s bs (Am.get (w6h s) j)=Am.get bs j:=by
 unfold bOf
 rw[y2L _ _ hl.symm (fun a b ha hb e=>key_inj hs ha hb e) j hj];rfl
def inm(s:w3W)(bs:List w3V)(f:w3T):Bs:=if QK f.kind then(bOf s bs (63::f.name)).text else if f.kind=2∧f.name∈s.w4a then(bOf s bs (33::f.name)).text else f.name
def iwd(s:w3W)(bs:List w3V)(bd:List Bs)(x:Bs):Bs:=if x∈bd then(bOf s bs (63::x)).text else if x∈s.words then(bOf s bs (46::x)).text else x
mutual
def x0H(s:w3W)(bs:List w3V):w3T→List Bs→w3T
 | .mk k n w l,bd=>if x1c s (.mk k n w l)then(bOf s bs (43::n)).form else .mk k (inm s bs (.mk k n w l)) (w.map (iwd s bs bd)) (w6x s bs l (if QK k then n::bd else bd))
def w6x(s:w3W)(bs:List w3V):List w3T→List Bs→List w3T
 | [],_=>[]
 |f::l,bd=>x0H s bs f bd::w6x s bs l bd
end
theorem y5h(s:w3W)(bs:List w3V)(f:w3T)(bd:List Bs):x0H s bs f bd=if x1c s f then(bOf s bs (43::f.name)).form else .mk f.kind (inm s bs f) (f.words.map (iwd s bs bd)) (w6x s bs f.subs (if QK f.kind then f.name::bd else bd)):=by cases f;rw[x0H];rfl
theorem x9L(s:w3W)(bs:List w3V):∀(l:List w3T) (x:w3T) (bd:List Bs),w6x s bs (l++[x]) bd=w6x s bs l bd++[x0H s bs x bd]
 | [],x,bd=>by simp[w6x]
 |a::l,x,bd=>by rw[List.cons_append,w6x,w6x,x9L s bs l x];rfl
theorem x7W(s:w3W)(bs:List w3V):∀(l:List w3T) (bd:List Bs),(w6x s bs l bd).length=l.length
 | [],_=>by rw[w6x]
 |f::l,bd=>by rw[w6x,List.length_cons,List.length_cons,x7W s bs l]
theorem y8k{s:w3W}{bs:List w3V}{bd bd':List Bs}(h:∀y,y∈bd↔y∈bd')(w:Bs):iwd s bs bd w=iwd s bs bd' w:=by
 unfold iwd
 by_cases e:w∈bd
 ·rw[if_pos e,if_pos ((h w).1 e)]
 ·rw[if_neg e,if_neg fun e'=>e ((h w).2 e')]
mutual
theorem y3Z(s:w3W)(bs:List w3V):∀(f:w3T) (bd bd':List Bs),(∀y,y∈bd↔y∈bd')→x0H s bs f bd=x0H s bs f bd'
 | .mk k n w l,bd,bd',h=>by
   rw[x0H,x0H,x5K s bs l _ (if QK k then n::bd' else bd') (fun y=>?_),List.map_congr_left fun x _=>y8k h x]
   split
   ·simp[h y]
   ·exact h y
theorem x5K(s:w3W)(bs:List w3V):∀(l:List w3T) (bd bd':List Bs),(∀y,y∈bd↔y∈bd')→w6x s bs l bd=w6x s bs l bd'
 | [],bd,bd',h=>by rw[w6x,w6x]
 |f::l,bd,bd',h=>by rw[w6x,w6x,y3Z s bs f bd bd' h,x5K s bs l bd bd' h]
end
theorem x7r:∀(l:List w3T) (x:w3T),x4Y (l++[x])=max (x4Y l) (dpF x)
 | [],x=>by simp[x4Y]
 |a::l,x=>by
  rw[List.cons_append,x4Y,x4Y,x7r l x]
  omega
theorem z1N:∀(m:Nat) (f:w3T),SizeOf.sizeOf f≤m→dpF f≤ndF f:=by
 intro m
 induction m with
 |zero=>intro f h;cases f;simp only[w3T.mk.sizeOf_spec]at h;omega
 |succ m ih=>
  intro f hf
  rw[y4J,x3y]
  have:∀l:List w3T,(∀y∈l,SizeOf.sizeOf y≤m)→x4Y l≤w6H l:=by
   intro l
   induction l with
   |nil=>intro _;rw[x4Y];omega
   |cons a l ihl=>
    intro h
    rw[x4Y,w6H]
    have:=ih a (h a (List.mem_cons_self ..))
    have:=ihl fun y hy=>h y (List.mem_cons_of_mem _ hy)
    omega
  have:=this f.subs fun y hy=>by
   obtain⟨j,hj,rfl⟩:=w6G.1 hy
   have:=w6s hj
   omega
  omega
theorem z1O:∀(m:Nat) (f:w3T),SizeOf.sizeOf f≤m→ndF f≤100000→Evt (fun n=>x1A n f) (fun r=>r=((ndF f:Int),(dpF f:Int))):=by
 intro m
 induction m with
 |zero=>intro f h;cases f;simp only[w3T.mk.sizeOf_spec]at h;omega
 |succ m ih=>
  intro f hf hn
  have hnd:=x3y f
  have hdp:=y4J f
  have hdl:=z1N _ f (Nat.le_refl _)
  refine Evt.succ ?_
  simp only[x1A]
  refine Evt.w4h (P:=ExP (fun t=>t=(((1+w6H f.subs:Nat):Int),((x4Y f.subs:Nat):Int))) (fun _=>False)) ((Evt.range (fun k t=>t=(((1+w6H (f.subs.take k):Nat):Int),((x4Y (f.subs.take k):Nat):Int))) (fun _=>False) (fun _=>False) (by simp[w6H,x4Y]) (fun k t hk ht=>?_)).mono fun e he=>?_) (fun t ht=>?_) (fun _ h=>h.elim)
  ·subst ht
   have hsz:=w6s hk
   have htk:=x0F hk
   unfold x2w
   refine Evt.bind (ih _ (by omega) (by omega)) fun v hv=>Evt.pure ?_
   subst hv
   show(_,_)=(_,_)
   rw[w4C hk,x1X,x7r,w5h (by omega) (by omega)]
   congr 1
   ·omega
   ·omega
  ·cases e with
   |ret r=>exact he
   |nxt t=>
    have:=he.elim id False.elim
    rw[List.take_length]at this
    exact this
  ·have ht:t=(((1+w6H f.subs:Nat):Int),((x4Y f.subs:Nat):Int)):=ht
   subst ht
   unfold x2x
   refine Evt.pure ?_
   show(_,_)=(_,_)
   rw[w5h (by omega) (by omega)]
   congr 1
   ·omega
   ·omega
structure x9M(s:w3W)(bs:List w3V):Prop where
 len:bs.length=(w6h s).length
 name:∀j,j<(w6h s).length→(Am.get bs j).name=(Am.get (w6h s) j).drop 1
 part:∀j,j<s.parts.length→OkF (Am.get bs (s.words.length+s.w4a.length+j)).form
theorem y1r{bs:List w3V}(hl:bs.length≤1000)(lo hi:Nat)(hle:lo≤hi)(hh:hi≤bs.length)(nm:Bs):Evt (fun n=>w4Q n (lo:Int) (hi:Int) nm bs) (fun r=>(∃j,lo≤j∧j<hi∧(Am.get bs j).name=nm∧r=(Am.get bs j).text)∨((∀j,lo≤j→j<hi→(Am.get bs j).name≠nm)∧r=nm)):=by
 unfold w4Q
 refine Evt.w4h (Evt.x1P (hi-lo) (fun k s=>s=((lo+k:Nat):Int)∧∀j,lo≤j→j<lo+k→(Am.get bs j).name≠nm) (fun _=>∀j,lo≤j→j<hi→(Am.get bs j).name≠nm) (fun r=>∃j,lo≤j∧j<hi∧(Am.get bs j).name=nm∧r=(Am.get bs j).text) ⟨rfl,fun j h1 h2=>absurd h2 (by omega)⟩ (fun k s hk hs=>?_) (fun s hs=>?_)) (fun t ht=>?_) (fun r hr=>.inl hr)
 ·obtain⟨rfl,hs⟩:=hs
  unfold w7t
  simp only[Int.toNat_natCast]
  refine Evt.cond (fun _=>Evt.chk (by omega) (Evt.cond (fun e=>Evt.pure ?_) (fun e=>Evt.pure ⟨?_,fun j h1 h2=>?_⟩))) (fun e=>by replace e:=bx e;omega)
  ·replace e:=bx e
   exact⟨lo+k,by omega,by omega,e,rfl⟩
  ·rw[w5h (by omega) (by omega)];rfl
  ·replace e:=bx e
   by_cases ej:j=lo+k
   ·subst ej;exact e
   ·exact hs j h1 (by omega)
 ·obtain⟨rfl,hs⟩:=hs
  unfold w7t
  refine Evt.cond (fun e=>by replace e:=bx e;omega) (fun _=>Evt.pure fun j h1 h2=>hs j h1 (by omega))
 ·exact Evt.pure (.inr ⟨ht,rfl⟩)
section
variable {s:w3W} {bs:List w3V}
theorem z0D(hs:x0p s)(hb:x9M s bs){x:Bs}(hx:x∈qs s.form):Evt (fun n=>w4Q n ((s.words.length+s.w4a.length+s.parts.length:Nat):Int) (bs.length:Int) x bs) (fun r=>r=(bOf s bs (63::x)).text):=by
 have hkl:=w4F s
 have hk5:=x3B hs
 have hbl:=hb.len
 refine(y1r (by omega) _ bs.length (by omega) (Nat.le_refl _) x).mono fun r hr=>?_
 obtain⟨q,hq,rfl⟩:=w6G.1 hx
 rcases hr with⟨j,h1,h2,h3,h4⟩|⟨h1,_⟩
 ·rw[hb.name j (by omega)]at h3
  obtain⟨a,rfl⟩:∃a,j=s.words.length+s.w4a.length+s.parts.length+a:=⟨j-(s.words.length+s.w4a.length+s.parts.length),by omega⟩
  rw[y3Y (by omega)]at h3
  have h3:Am.get (qs s.form) a=Am.get (qs s.form) q:=h3
  rw[h4, ←h3, ←y3Y (by omega),x5k hs hbl (by omega)]
 ·exact absurd (by rw[hb.name _ (by omega),y3Y hq];rfl) (h1 (s.words.length+s.w4a.length+s.parts.length+q) (by omega) (by omega))
theorem z4j(hs:x0p s)(hb:x9M s bs)(x:Bs):Evt (fun n=>w4Q n 0 (s.words.length:Int) x bs) (fun r=>r=if x∈s.words then(bOf s bs (46::x)).text else x):=by
 have hkl:=w4F s
 have hk5:=x3B hs
 have hbl:=hb.len
 refine(y1r (by omega) 0 s.words.length (by omega) (by omega) x).mono fun r hr=>?_
 rcases hr with⟨j,h1,h2,h3,h4⟩|⟨h1,h2⟩
 ·rw[hb.name j (by omega),y3X h2]at h3
  have h3:Am.get s.words j=x:=h3
  rw[if_pos (h3▸get_mem h2),h4, ←h3, ←y3X h2,x5k hs hbl (by omega)]
 ·rw[if_neg fun hx=>?_,h2]
  obtain⟨q,hq,rfl⟩:=w6G.1 hx
  exact h1 q (by omega) hq (by rw[hb.name _ (by omega),y3X hq];rfl)
theorem z4k(hs:x0p s)(hb:x9M s bs)(x:Bs):Evt (fun n=>w4Q n (s.words.length:Int) ((s.words.length+s.w4a.length:Nat):Int) x bs) (fun r=>r=if x∈s.w4a then(bOf s bs (33::x)).text else x):=by
 have hkl:=w4F s
 have hk5:=x3B hs
 have hbl:=hb.len
 refine(y1r (by omega) s.words.length (s.words.length+s.w4a.length) (by omega) (by omega) x).mono fun r hr=>?_
 rcases hr with⟨j,h1,h2,h3,h4⟩|⟨h1,h2⟩
 ·obtain⟨a,rfl⟩:∃a,j=s.words.length+a:=⟨j-s.words.length,by omega⟩
  have ha:a<s.w4a.length:=by omega
  rw[hb.name _ (by omega),y5Q ha]at h3
  have h3:Am.get s.w4a a=x:=h3
  rw[if_pos (h3▸get_mem ha),h4, ←h3, ←y5Q ha,x5k hs hbl (by omega)]
 ·rw[if_neg fun hx=>?_,h2]
  obtain⟨q,hq,rfl⟩:=w6G.1 hx
  exact h1 (s.words.length+q) (by omega) (by omega) (by rw[hb.name _ (by omega),y5Q hq];rfl)
end
theorem x9N{s:w3W}{bs:List w3V}(hs:x0p s)(hb:x9M s bs){x:Bs}(hx:x∈s.parts):OkF (bOf s bs (43::x)).form:=by
 have hkl:=w4F s
 obtain⟨q,hq,rfl⟩:=w6G.1 hx
 rw[←y8j hq,x5k hs hb.len (by omega)]
 exact hb.part q hq
mutual
theorem x7s{s:w3W}{bs:List w3V}(hs:x0p s)(hb:x9M s bs):∀(f:w3T) (bd:List Bs),ndF (x0H s bs f bd)≤200*ndF f
 | .mk k n w l,bd=>by
   rw[x0H,ndF]
   split
   ·rename_i h
    have h2:ndF (bOf s bs (43::n)).form≤200:=(x9N hs hb h.2).2.1
    omega
   ·rw[ndF]
    have:=x7t hs hb l (if QK k then n::bd else bd)
    omega
theorem x7t{s:w3W}{bs:List w3V}(hs:x0p s)(hb:x9M s bs):∀(l:List w3T) (bd:List Bs),w6H (w6x s bs l bd)≤200*w6H l
 | [],bd=>by rw[w6x,w6H];omega
 |f::l,bd=>by
  rw[w6x,w6H,w6H]
  have:=x7s hs hb f bd
  have:=x7t hs hb l bd
  omega
end
def fits(c a:Nat)(r:w3T):Bool:=decide (c+ndF r≤200∧a+dpF r≤41)
def y5R(s:w3W)(bs:List w3V)(f:w3T)(bd:List Bs)(a c:Nat)(r:w3T×Bool×Int):Prop:=r=(x0H s bs f bd,fits c a (x0H s bs f bd),((c+ndF (x0H s bs f bd):Nat):Int))
theorem y9M{s:w3W}{bs:List w3V}(hs:x0p s)(hb:x9M s bs):∀(m:Nat) (f:w3T),SizeOf.sizeOf f≤m→WfF f→(∀x∈qs f,x∈qs s.form)→∀(bd:List Bs),(∀x∈bd,x∈qs s.form)→bd.length+ndF f≤1000→∀a c:Nat,a+ndF f≤10000→c+200*ndF f≤1000000→
 Evt (fun n=>w4r n f (a:Int) bd s.form.kind s.form.name s.form.words s.form.subs s.words s.w4a s.parts bs ((s.words.length+s.w4a.length:Nat):Int) (c:Int)) (y5R s bs f bd a c):=by
 have hkl:=w4F s
 have hk5:=x3B hs
 have hbl:=hb.len
 have hvl:=x0o s
 have hwM:wr .i64 (((s.words.length+s.w4a.length:Nat):Int)+(s.parts.length:Int))=((s.words.length+s.w4a.length+s.parts.length:Nat):Int):=by rw[w5h (by omega) (by omega)];omega
 intro m
 induction m with
 |zero=>intro f h;cases f;simp only[w3T.mk.sizeOf_spec]at h;omega
 |succ m ih=>
  intro f hf hwf hqf bd hbd z9j a c ha hc
  have hnd:=x3y f
  have hws:=x6r hwf
  have hsl:=x5a hwf
  have hin:=x7s hs hb f bd
  refine Evt.succ ?_
  simp only[w4r,y8a,Option.bind_some]
  have e0:(⟨⟨s.form.kind,s.form.name,s.form.words,s.form.subs⟩,s.words,s.w4a,s.parts⟩:w3W)=s:=by rw[y5f]
  rw[e0]
  have rest:¬x1c s f→Evt (fun n=>w6j (w4r n) n bd f ((s.words.length+s.w4a.length:Nat):Int) s.parts bs s.words (a:Int) s.form.kind s.form.name s.form.words s.form.subs s.w4a (c:Int) ()) (y5R s bs f bd a c):=by
   intro hpart
   unfold w6j
   refine Evt.w4h (P:=ExP (fun t=>t=f.words.map (iwd s bs bd)) (fun _=>False)) ((Evt.range (fun k t=>t=(f.words.take k).map (iwd s bs bd)) (fun _=>False) (fun _=>False) (by simp) (fun k t hk ht=>?_)).mono fun e he=>?_) (fun t ht=>?_) (fun _ h=>h.elim)
   ·unfold w9h
    simp only[w9R,Option.bind_some,hwM]
    have htl:t.length=k:=by rw[ht,List.length_map,List.length_take];omega
    have hsn:(f.words.take (k+1)).map (iwd s bs bd)=t++[iwd s bs bd (Am.get f.words k)]:=by rw[w4C hk,List.map_append,ht];rfl
    refine Evt.cond (fun e=>?_) (fun e=>?_)
    ·replace e:=bx e
     refine Evt.bind (z0D hs hb (hbd _ e)) fun v hv=>Evt.w6m (Evt.chk ?_ (Evt.pure ?_))
     ·rw[w6d];simp only[List.length_append,List.length_cons,List.length_nil];omega
     ·show _=_
      rw[hsn,hv];unfold iwd;rw[if_pos e]
    ·replace e:=bx e
     refine Evt.bind (z4j hs hb _) fun v hv=>Evt.w6m (Evt.chk ?_ (Evt.pure ?_))
     ·rw[w6d];simp only[List.length_append,List.length_cons,List.length_nil];omega
     ·show _=_
      rw[hsn,hv];unfold iwd;rw[if_neg e]
   ·cases e with
    |ret r=>exact he
    |nxt t=>
     have:=he.elim id False.elim
     rw[List.take_length]at this
     exact this
   ·have ht:t=f.words.map (iwd s bs bd):=ht
    subst ht
    have key:∀(nm:Bs) (bd':List Bs),nm=inm s bs f→(∀y,y∈bd'↔y∈(if QK f.kind then f.name::bd else bd))→bd'.length≤bd.length+1→
     Evt (fun n=>w5z (w4r n) f (a:Int) s.form.kind s.form.name s.form.words s.form.subs s.words s.w4a s.parts bs ((s.words.length+s.w4a.length:Nat):Int) (c:Int) (f.words.map (iwd s bs bd)) (nm,bd')) (y5R s bs f bd a c):=by
     intro nm bd' hnm hbq hlen
     have z6q:∀x∈bd',x∈qs s.form:=fun x hx=>by
      have hx:=(hbq x).1 hx
      by_cases hq:QK f.kind
      ·rw[if_pos hq]at hx
       rcases List.mem_cons.1 hx with rfl|hx
       ·exact hqf _ (by rw[y3G,if_pos hq];simp)
       ·exact hbd x hx
      ·rw[if_neg hq]at hx;exact hbd x hx
     have hqs:∀k,k<f.subs.length→∀x∈qs (Am.get f.subs k),x∈qs s.form:=fun k hk x hx=>hqf x (by
      rw[y3G]
      refine List.mem_append.2 (.inr ?_)
      have:∀(l:List w3T) (k:Nat),k<l.length→∀x∈qs (Am.get l k),x∈qsL l:=by
       intro l
       induction l with
       |nil=>intro k h;simp at h
       |cons b l ihl=>
        intro k h x hx
        rw[qsL]
        cases k with
        |zero=>exact List.mem_append.2 (.inl hx)
        |succ k=>exact List.mem_append.2 (.inr (ihl k (by simpa using h) x hx))
      exact this _ k hk x hx)
     have hw1:wr .i64 ((c:Int)+1)=((c+1:Nat):Int):=by rw[w5h (by omega) (by omega)];rfl
     have hw2:wr .i64 ((a:Int)+1)=((a+1:Nat):Int):=by rw[w5h (by omega) (by omega)];rfl
     have hnl:=x7t hs hb f.subs bd'
     unfold w5z
     rw[hw1]
     refine Evt.w4h (P:=ExP (fun t=>t=(((c+1+w6H (w6x s bs f.subs bd'):Nat):Int),w6x s bs f.subs bd',decide (c+1+w6H (w6x s bs f.subs bd')≤200∧a+x4Y (w6x s bs f.subs bd')≤40))) (fun _=>False)) ((Evt.range (fun k t=>t=(((c+1+w6H (w6x s bs (f.subs.take k) bd'):Nat):Int),w6x s bs (f.subs.take k) bd',decide (c+1+w6H (w6x s bs (f.subs.take k) bd')≤200∧a+x4Y (w6x s bs (f.subs.take k) bd')≤40))) (fun _=>False) (fun _=>False) ?_ (fun k t hk ht=>?_)).mono fun e he=>?_) (fun t ht=>?_) (fun _ h=>h.elim)
     ·rw[List.take_zero,w6x,w6H,x4Y]
      have hd:(bif decide (((c+1:Nat):Int)≤200)then decide ((a:Int)≤40)else false)=decide (c+1+0≤200∧a+0≤40):=by
       by_cases h1:c+1≤200
       ·rw[decide_eq_true (show((c+1:Nat):Int)≤200 by omega),cond_true]
        exact decide_eq_decide.2 (by omega)
       ·rw[decide_eq_false (show ¬((c+1:Nat):Int)≤200 by omega),cond_false]
        exact(decide_eq_false (by omega)).symm
      rw[hd]
     ·subst ht
      have hsz:=w6s hk
      have htk:=x0F hk
      have hn2:=x7t hs hb (f.subs.take k) bd'
      unfold w9i
      rw[hw2]
      refine Evt.bind (ih _ (by omega) (x5j hwf hk) (hqs k hk) bd' z6q (by omega) (a+1) (c+1+w6H (w6x s bs (f.subs.take k) bd')) (by omega) (by omega)) fun v hv=>?_
      have hv:v=_:=hv
      subst hv
      refine Evt.w6m (Evt.chk ?_ (Evt.pure ?_))
      ·rw[w6d];simp only[List.length_append,x7W,List.length_take,List.length_cons,List.length_nil];omega
      ·show(_,_,_)=(_,_,_)
       rw[w4C hk,x9L,x1X,x7r, ←Nat.add_assoc]
       congr 2
       unfold fits
       generalize w6H (w6x s bs (f.subs.take k) bd')=A
       generalize ndF (x0H s bs (Am.get f.subs k) bd')=B
       generalize x4Y (w6x s bs (f.subs.take k) bd')=C
       generalize dpF (x0H s bs (Am.get f.subs k) bd')=D
       by_cases h1:c+1+A≤200∧a+C≤40
       ·rw[decide_eq_true h1]
        show decide _=decide _
        exact decide_eq_decide.2 (by omega)
       ·rw[decide_eq_false h1]
        show false=decide _
        exact(decide_eq_false (by omega)).symm
     ·cases e with
      |ret r=>exact he
      |nxt t=>
       have:=he.elim id False.elim
       rw[List.take_length]at this
       exact this
     ·have ht:t=_:=ht
      subst ht
      unfold w9j
      refine Evt.pure ?_
      unfold y5R fits
      rw[y5h,if_neg hpart,hnm,x5K s bs f.subs _ _ hbq,x3y,y4J]
      generalize w6x s bs f.subs (if QK f.kind then f.name::bd else bd)=L
      have h1:decide (c+1+w6H L≤200∧a+x4Y L≤40)=decide (c+(1+w6H L)≤200∧a+(1+x4Y L)≤41):=decide_eq_decide.2 (by omega)
      show(w3T.mk f.kind (inm s bs f) (f.words.map (iwd s bs bd)) L,decide (c+1+w6H L≤200∧a+x4Y L≤40),((c+1+w6H L:Nat):Int))=(w3T.mk f.kind (inm s bs f) (f.words.map (iwd s bs bd)) L,decide (c+(1+w6H L)≤200∧a+(1+x4Y L)≤41),((c+(1+w6H L):Nat):Int))
      rw[h1,Nat.add_assoc c 1]
    unfold w9k
    simp only[x5U,Option.bind_some,hwM]
    refine Evt.cond (fun e=>?_) (fun e=>?_)
    ·replace e:=bx e
     refine Evt.bind (P:=fun v=>v=bd) (Evt.pure rfl) fun v hv=>?_
     subst hv
     refine Evt.w6m (Evt.chk ?_ (Evt.bind (z0D hs hb (hqf _ (by rw[y3G,if_pos e];simp))) fun w hw=>key _ _ ?_ (fun y=>?_) (by simp)))
     ·rw[w6d];simp only[List.length_append,List.length_cons,List.length_nil];omega
     ·rw[hw];unfold inm;rw[if_pos e]
     ·rw[if_pos e];simp[or_comm]
    ·replace e:=bx e
     have hbq:∀y,y∈bd↔y∈(if QK f.kind then f.name::bd else bd):=fun y=>by rw[if_neg e]
     refine Evt.cond (fun e2=>?_) (fun e2=>?_)
     ·replace e2:=bx e2
      refine Evt.bind (z4k hs hb f.name) fun w hw=>key _ _ ?_ hbq (by omega)
      rw[hw];unfold inm;rw[if_neg e]
      by_cases hp:f.name∈s.w4a
      ·rw[if_pos hp,if_pos ⟨e2,hp⟩]
      ·rw[if_neg hp,if_neg fun h=>hp h.2]
     ·replace e2:=bx e2
      exact key _ _ (by unfold inm;rw[if_neg e,if_neg fun h=>e2 h.1]) hbq (by omega)
  refine Evt.cond (fun e=>?_) (fun e=>rest (of_decide_eq_false e))
  have hpart:x1c s f:=of_decide_eq_true e
  obtain⟨q,hq,hqe⟩:=w6G.1 hpart.2
  have hdl:((bs.drop (s.words.length+s.w4a.length)).take s.parts.length).length=s.parts.length:=by rw[List.length_take,List.length_drop];omega
  have hdg:∀k,k<s.parts.length→Am.get ((bs.drop (s.words.length+s.w4a.length)).take s.parts.length) k=Am.get bs (s.words.length+s.w4a.length+k):=fun k hk=>by
   unfold Am.get
   rw[List.getD_eq_getElem?_getD,List.getD_eq_getElem?_getD,List.getElem?_take_of_lt hk,List.getElem?_drop]
  have htk:s.words.length+s.w4a.length+s.parts.length-(s.words.length+s.w4a.length)=s.parts.length:=by omega
  simp only[hwM,Int.toNat_natCast,htk]
  refine Evt.chk (by omega) ?_
  rw[hdl]
  refine Evt.w4h (Evt.scan (fun k _=>∀j,j<k→Am.get s.parts j≠f.name) (fun k r=>y5R s bs f bd a c r) (fun j hj=>absurd hj (Nat.not_lt_zero _)) (fun k u hk hi=>?_)) (fun t ht=>?_) (fun r hr=>?_)
  ·unfold w9l
   simp only[hwM,Int.toNat_natCast,htk,hdg k hk]
   have hnm:(Am.get bs (s.words.length+s.w4a.length+k)).name=Am.get s.parts k:=by
    rw[hb.name _ (by omega),y8j hk];rfl
   rw[hnm]
   refine Evt.cond (fun e=>?_) (fun e=>Evt.pure fun j hj=>?_)
   ·replace e:=bx e
    have hfm:(bOf s bs (43::f.name)).form=(Am.get bs (s.words.length+s.w4a.length+k)).form:=by
     rw[←e, ←y8j hk,x5k hs hbl (by omega)]
    have hok:=hb.part k hk
    have hdp:=z1N _ (Am.get bs (s.words.length+s.w4a.length+k)).form (Nat.le_refl _)
    have z9k:=hok.2.1
    refine Evt.bind (z1O _ _ (Nat.le_refl _) (by omega)) fun v hv=>Evt.pure ?_
    subst hv
    unfold y5R fits
    rw[y5h,if_pos hpart,hfm]
    show(_,_,_)=(_,_,_)
    rw[w5h (n:=(c:Int)+((ndF (Am.get bs (s.words.length+s.w4a.length+k)).form:Nat):Int)) (by omega) (by omega),w5h (n:=(a:Int)+((dpF (Am.get bs (s.words.length+s.w4a.length+k)).form:Nat):Int)) (by omega) (by omega),w5h (n:=(a:Int)+((dpF (Am.get bs (s.words.length+s.w4a.length+k)).form:Nat):Int)-1) (by omega) (by omega)]
    congr 2
    generalize ndF (Am.get bs (s.words.length+s.w4a.length+k)).form=A
    generalize dpF (Am.get bs (s.words.length+s.w4a.length+k)).form=B
    by_cases h1:c+A≤200
    ·rw[decide_eq_true (show(c:Int)+(A:Int)≤200 by omega)]
     show decide _=decide _
     exact decide_eq_decide.2 (by omega)
    ·rw[decide_eq_false (show ¬(c:Int)+(A:Int)≤200 by omega)]
     show false=decide _
     exact(decide_eq_false (by omega)).symm
   ·replace e:=bx e
    by_cases ej:j=k
    ·subst ej;exact e
    ·exact hi j (by omega)
  ·exact absurd hqe (ht q hq)
  ·obtain⟨_,_,_,_,hr⟩:=hr
   exact hr
theorem get_set_same{α:Type}[Inhabited α]{l:List α}{j:Nat}{v:α}(h:j<l.length):Am.get (l.set j v) j=v:=by
 unfold Am.get
 rw[List.getD_eq_getElem?_getD,List.getElem?_set_self h];rfl
theorem x3o{α:Type}[Inhabited α]{l:List α}{i j:Nat}{v:α}(h:i≠j):Am.get (l.set j v) i=Am.get l i:=by
 unfold Am.get
 rw[List.getD_eq_getElem?_getD,List.getD_eq_getElem?_getD,List.getElem?_set_ne (Ne.symm h)]
structure Rel(s:w3W)(RG:List IT)(env:Env)(out:List w3V)(st:List Bool)(frm:List Int):Prop where
 ok:x6c env
 lo:out.length=(w6h s).length
 ls:st.length=(w6h s).length
 lf:frm.length=(w6h s).length
 no:∀j,j<(w6h s).length→assoc (Am.get (w6h s) j) env=none→Am.get st j=false∧Am.get out j=default
 yes:∀j,j<(w6h s).length→∀b,assoc (Am.get (w6h s) j) env=some b→Am.get st j=true∧Am.get out j=⟨(Am.get (w6h s) j).drop 1,b.text,b.form⟩∧((∃x,Am.get (w6h s) j=43::x)→∃(p:Nat) (ar:List Bs),Am.get frm j=(p:Int)∧x1Z RG b.form ar p∧WfF b.form)
theorem Rel.put{s:w3W}(hs:x0p s){RG:List IT}{env env':Env}{out:List w3V}{st:List Bool}{frm fr':List Int}(h:Rel s RG env out st frm){b:w3V}{j:Nat}(hj:j<(w6h s).length)(hk:Am.get (w6h s) j=b.name)(hb:x7U b)(hp:y1D env b=some env'){v:w3V}(hv:v=⟨(Am.get (w6h s) j).drop 1,b.text,b.form⟩)
 (hfl:fr'.length=(w6h s).length) (hfo:∀i,i≠j→Am.get fr' i=Am.get frm i) (hfj:(∃x,Am.get (w6h s) j=43::x)→∃(p:Nat) (ar:List Bs),Am.get fr' j=(p:Int)∧x1Z RG b.form ar p∧WfF b.form):
 Rel s RG env' (out.set j v) (st.set j true) fr':=by
 obtain⟨p1,p2,p3⟩:=x5Y hp
 refine⟨y3U h.ok hb hp,by rw[List.length_set];exact h.lo,by rw[List.length_set];exact h.ls,hfl,fun i hi hn=>?_,fun i hi c hc=>?_⟩
 ·by_cases e:i=j
  ·subst e
   rw[hk,p1]at hn;cases hn
  ·rw[x3o e,x3o e]
   refine h.no i hi ?_
   cases ha:assoc (Am.get (w6h s) i) env with
   |none=>rfl
   |some c=>rw[p2 _ _ ha]at hn;cases hn
 ·by_cases e:i=j
  ·subst e
   rw[hk,p1]at hc
   cases hc
   rw[get_set_same (by rw[h.ls];exact hi),get_set_same (by rw[h.lo];exact hi)]
   exact⟨rfl,hv,hfj⟩
  ·rw[x3o e,x3o e,hfo i e]
   rcases p3 _ _ hc with h1|⟨h1,_⟩
   ·exact h.yes i hi c h1
   ·exact absurd (key_inj hs hi hj (by rw[hk,h1])) e
theorem z1P{s:w3W}{j:Nat}(hj:j<(w6h s).length):Am.get (vns s++qs s.form) j=(Am.get (w6h s) j).drop 1:=by
 rw[←x9K,get_map _ hj]
theorem x7u(s:w3W):(vns s++qs s.form).length=(w6h s).length:=by rw[←x9K,List.length_map]
theorem nwp{s:w3W}(hs:x0p s):wr .i64 ((s.words.length:Int)+(s.w4a.length:Int))=((s.words.length+s.w4a.length:Nat):Int):=by
 have:=x0o s
 have:=hs.len
 rw[w5h (by omega) (by omega)];omega
theorem z4l{s:w3W}(hs:x0p s):wr .i64 (wr .i64 ((s.words.length:Int)+(s.w4a.length:Int))+(s.parts.length:Int))=((s.words.length+s.w4a.length+s.parts.length:Nat):Int):=by
 have:=x0o s
 have:=hs.len
 rw[nwp hs,w5h (by omega) (by omega)];omega
theorem y5i(s:w3W):(vns s++qs s.form).drop (s.words.length+s.w4a.length+s.parts.length)=qs s.form:=by
 rw[←x0o,List.drop_left]
theorem y5S{k:Int}{n n':Bs}{w w':List Bs}{l l':List w3T}(h:w9L (.mk k n w l)=0)(hq:k=2∨QK k→w4J n')(hn:¬(k=2∨QK k)→n'=n)(hw:w'.length=w.length)(hl:l'.length=l.length)(hx:∀x∈w',w4J x):w9L (.mk k n' w' l')=0:=by
 have o:=x1r h
 refine y4N (by have:=o.1;show 0≤arF k;have h2:((l.length:Nat):Int)=arF k:=this;omega) (by show(l'.length:Int)=arF k;rw[hl];exact o.1) (by show x2P k w'.length;rw[hw];exact o.2.1) hq (fun h=>?_) hx
 show n'=[]
 rw[hn h];exact o.2.2.2.1 h
def z1Q(s:w3W)(bs:List w3V):Prop:=∀j,j<(w6h s).length→¬(s.words.length+s.w4a.length≤j∧j<s.words.length+s.w4a.length+s.parts.length)→w4J (Am.get bs j).text
theorem z7b{s:w3W}{bs:List w3V}(hs:x0p s)(hb:x9M s bs)(ht:z1Q s bs){x:Bs}(hx:x∈qs s.form):w4J (bOf s bs (63::x)).text:=by
 have hkl:=w4F s
 obtain⟨q,hq,rfl⟩:=w6G.1 hx
 rw[←y3Y hq,x5k hs hb.len (by omega)]
 exact ht _ (by omega) (by omega)
theorem z8l{s:w3W}{bs:List w3V}(hs:x0p s)(hb:x9M s bs)(ht:z1Q s bs){x:Bs}(hx:x∈s.words):w4J (bOf s bs (46::x)).text:=by
 have hkl:=w4F s
 obtain⟨q,hq,rfl⟩:=w6G.1 hx
 rw[←y3X hq,x5k hs hb.len (by omega)]
 exact ht _ (by omega) (by omega)
theorem z8m{s:w3W}{bs:List w3V}(hs:x0p s)(hb:x9M s bs)(ht:z1Q s bs){x:Bs}(hx:x∈s.w4a):w4J (bOf s bs (33::x)).text:=by
 have hkl:=w4F s
 obtain⟨q,hq,rfl⟩:=w6G.1 hx
 rw[←y5Q hq,x5k hs hb.len (by omega)]
 exact ht _ (by omega) (by omega)
mutual
theorem x8J{s:w3W}{bs:List w3V}(hs:x0p s)(hb:x9M s bs)(ht:z1Q s bs):∀(f:w3T) (bd:List Bs),WfF f→(∀x∈qs f,x∈qs s.form)→(∀x∈bd,x∈qs s.form)→WfF (x0H s bs f bd)
 | .mk k n w l,bd,h,hqf,hbd=>by
   have h0:=(x1W _).1 h
   have hnn:w9L (.mk k n w l)=0:=h0.1
   have hss:x7k l:=h0.2
   have o:=x1r hnn
   rw[x0H]
   split
   ·rename_i hp
    exact(x9N hs hb hp.2).1
   ·rename_i hp
    rw[x1W]
    refine⟨y5S hnn (fun hk=>?_) (fun hk=>?_) (List.length_map _) (x7W _ _ _ _) (fun x hx=>?_),?_⟩
    ·unfold inm
     by_cases hq:QK k
     ·have e:QK (w3T.mk k n w l).kind:=hq
      rw[if_pos e]
      exact z7b hs hb ht (hqf n (by rw[qs,if_pos hq];simp))
     ·have e:¬QK (w3T.mk k n w l).kind:=hq
      rw[if_neg e]
      split
      ·rename_i hpr
       exact z8m hs hb ht hpr.2
      ·exact o.2.2.1 hk
    ·unfold inm
     have e:¬QK (w3T.mk k n w l).kind:=fun hq=>hk (.inr hq)
     rw[if_neg e,if_neg fun hpr=>hk (.inl hpr.1)];rfl
    ·obtain⟨y,hy,rfl⟩:=List.mem_map.1 hx
     unfold iwd
     split
     ·rename_i hyb
      exact z7b hs hb ht (hbd y hyb)
     ·split
      ·rename_i hyw
       exact z8l hs hb ht hyw
      ·exact y3T h hy
    ·refine y2M hs hb ht l _ hss (fun x hx=>hqf x (by rw[qs];exact List.mem_append.2 (.inr hx))) (fun x hx=>?_)
     by_cases hq:QK k
     ·rw[if_pos hq]at hx
      rcases List.mem_cons.1 hx with rfl|hx
      ·exact hqf _ (by rw[qs,if_pos hq];simp)
      ·exact hbd x hx
     ·rw[if_neg hq]at hx;exact hbd x hx
theorem y2M{s:w3W}{bs:List w3V}(hs:x0p s)(hb:x9M s bs)(ht:z1Q s bs):∀(l:List w3T) (bd:List Bs),x7k l→(∀x∈qsL l,x∈qs s.form)→(∀x∈bd,x∈qs s.form)→x7k (w6x s bs l bd)
 | [],bd,_,_,_=>by rw[w6x,x7k];trivial
 |f::l,bd,h,hqf,hbd=>by
  rw[w6x,x7k]
  rw[qsL]at hqf
  exact⟨x8J hs hb ht f bd (w6t.1 h f (List.mem_cons_self ..)) (fun x hx=>hqf x (List.mem_append.2 (.inl hx))) hbd,y2M hs hb ht l bd (w6t.2 fun x hx=>w6t.1 h x (List.mem_cons_of_mem _ hx)) (fun x hx=>hqf x (List.mem_append.2 (.inr hx))) hbd⟩
end
def y2N(f:w3T):Prop:=((f.kind=0∧f.name=[])∧f.words.length=0)∧f.subs.length=0
def x9O(s:w3W)(j:Nat):Prop:=s.words.length+s.w4a.length≤j∧j<s.words.length+s.w4a.length+s.parts.length
open Classical in
noncomputable def w7X(s:w3W)(bs:List w3V)(j:Nat):Int:=
 if(Am.get bs j).name≠Am.get (vns s++qs s.form) j then 10
 else if x9O s j then(if(Am.get bs j).text≠ []then 5 else(x4E (Am.get bs j).form).code)
 else if y2N (Am.get bs j).form∧w4J (Am.get bs j).text then 0 else 5
theorem y8l{s:w3W}{bs:List w3V}(hl:bs.length=(w6h s).length)(h:∀j,j<bs.length→w7X s bs j=0):x9M s bs∧z1Q s bs:=by
 have hkl:=w4F s
 refine⟨⟨hl,fun j hj=>?_,fun j hj=>?_⟩,fun j hj hp=>?_⟩
 ·have:=h j (by omega)
  unfold w7X at this
  by_cases e:(Am.get bs j).name≠Am.get (vns s++qs s.form) j
  ·rw[if_pos e]at this;exact absurd this (by decide)
  ·rw[Classical.not_not.1 e,z1P hj]
 ·have:=h (s.words.length+s.w4a.length+j) (by omega)
  unfold w7X at this
  by_cases e:(Am.get bs (s.words.length+s.w4a.length+j)).name≠Am.get (vns s++qs s.form) (s.words.length+s.w4a.length+j)
  ·rw[if_pos e]at this;exact absurd this (by decide)
  ·rw[if_neg e,if_pos (show x9O s _ from⟨by omega,by omega⟩)]at this
   by_cases e2:(Am.get bs (s.words.length+s.w4a.length+j)).text≠ []
   ·rw[if_pos e2]at this;exact absurd this (by decide)
   ·rw[if_neg e2]at this
    exact(x4Z _).1 this
 ·have:=h j (by omega)
  unfold w7X at this
  by_cases e:(Am.get bs j).name≠Am.get (vns s++qs s.form) j
  ·rw[if_pos e]at this;exact absurd this (by decide)
  ·rw[if_neg e,if_neg (show ¬x9O s j from hp)]at this
   by_cases e2:y2N (Am.get bs j).form∧w4J (Am.get bs j).text
   ·exact e2.2
   ·rw[if_neg e2]at this;exact absurd this (by decide)
theorem y4a{s:w3W}(hb:SB s)(bs:List w3V):Evt (fun n=>w9N n s bs) (fun r=>∃v,y7N s v∧(v.code≠0→r=(zf,v))∧(v.code=0→bs.length≠(w6h s).length→r=(zf,⟨9, -2⟩))∧
 (v.code=0→bs.length=(w6h s).length→∀r0,FB (w7X s bs) bs.length r0→r=(zf,r0))∧
 (v.code=0→bs.length=(w6h s).length→(∀j,j<bs.length→w7X s bs j=0)→(fits 0 1 (x0H s bs s.form [])=false→r=(zf,⟨1,0⟩))∧(fits 0 1 (x0H s bs s.form [])=true→r=(cf (x0H s bs s.form []),⟨0,0⟩)))):=by
 unfold w9N
 refine Evt.bind (y3O hb) fun v hv=>Evt.cond (fun e=>?_) (fun e=>?_)
 ·have h0:v.code≠0:=by simpa using e
  exact Evt.pure ⟨v,hv,fun _=>rfl,fun h=>absurd h h0,fun h=>absurd h h0,fun h=>absurd h h0⟩
 have h0:v.code=0:=by simpa using e
 have hs:=((hv.code h0).1).good
 have hvl:=x0o s
 have hl:=hs.len
 have hnd:=hs.form.2.1
 have hkl:=w4F s
 have hk5:=x3B hs
 have hnl:=x7u s
 have hql:(qs s.form).length≤200:=by rw[x6q];have:=x7P s.form;omega
 have hfl: [s.words,s.w4a,s.parts].flatten=vns s:=by simp[vns]
 unfold w6v
 refine Evt.bind (P:=fun v=>v=vns s) ?_ fun v2 hv2=>Evt.bind (y2y _ s.form (Nat.le_refl _) (by omega)) fun v3 hv3=>?_
 ·unfold x6B
  rw[hfl]
  exact Evt.bind (P:=fun v=>v=vns s) (Evt.chk ⟨by simp,by omega⟩ (Evt.pure rfl)) fun v hv=>Evt.pure hv
 subst hv2 hv3
 have z8n: [vns s,qs s.form].flatten=vns s++qs s.form:=by simp
 refine Evt.bind (P:=fun v=>v=vns s++qs s.form) ?_ fun v5 hv5=>?_
 ·unfold x6B
  rw[z8n]
  exact Evt.chk ⟨by simp,by omega⟩ (Evt.pure rfl)
 subst hv5
 refine Evt.cond (fun e=>?_) (fun e=>?_)
 ·replace e:=bx e
  unfold w4n
  exact Evt.pure ⟨v,hv,fun h=>absurd h0 h,fun _ _=>rfl,fun _ h=>absurd h (by omega),fun _ h=>absurd h (by omega)⟩
 replace e:=bx e
 have hlen:bs.length=(w6h s).length:=by omega
 refine Evt.w4h (P:=ExP (fun _=>∀j,j<bs.length→w7X s bs j=0) (fun r=>∃r0,FB (w7X s bs) bs.length r0∧r=(zf,r0))) ((Evt.scan (fun k _=>∀j,j<k→w7X s bs j=0) (fun k r=>w7X s bs k≠0∧r=(zf,⟨w7X s bs k,(k:Int)⟩)) (fun j hj=>absurd hj (Nat.not_lt_zero _)) (fun k u hk hi=>?_)).mono fun e he=>?_) (fun t ht=>?_) (fun r hr=>?_)
 ·have bad:∀c:Int,c≠0→w7X s bs k=c→y3C (fun _:Unit=>∀j,j<k+1→w7X s bs j=0) (fun _:Unit=>False) (fun r=>w7X s bs k≠0∧r=(zf,(⟨w7X s bs k,(k:Int)⟩:w4b))) (Ctl.ret (zf,⟨c,(k:Int)⟩)):=fun c hc h=>⟨by rw[h];exact hc,by rw[h]⟩
  have good:w7X s bs k=0→y3C (fun _:Unit=>∀j,j<k+1→w7X s bs j=0) (fun _:Unit=>False) (fun r:w3T×w4b=>w7X s bs k≠0∧r=(zf,⟨w7X s bs k,(k:Int)⟩)) (Ctl.nxt ()):=fun h j hj=>by
   by_cases ej:j=k
   ·subst ej;exact h
   ·exact hi j (by omega)
  unfold w9G w4n
  simp only[z4l hs,nwp hs,Option.bind_some]
  have hnq:wr .i64 (((s.words.length+s.w4a.length:Nat):Int)+(s.parts.length:Int))=((s.words.length+s.w4a.length+s.parts.length:Nat):Int):=by rw[w5h (by omega) (by omega)];omega
  simp only[hnq]
  refine Evt.chk (by omega) (Evt.cond (fun e=>Evt.pure (bad 10 (by decide) ?_)) (fun e=>?_))
  ·replace e:=bx e
   unfold w7X;rw[if_pos e]
  replace e:=bx e
  have n1:¬(Am.get bs k).name≠Am.get (vns s++qs s.form) k:=fun h=>h e
  have hpart:(bif decide (((s.words.length+s.w4a.length:Nat):Int)≤(k:Int))then decide ((k:Int)<((s.words.length+s.w4a.length+s.parts.length:Nat):Int))else false)=true↔x9O s k:=by
   unfold x9O
   by_cases a:s.words.length+s.w4a.length≤k
   ·rw[decide_eq_true (show((s.words.length+s.w4a.length:Nat):Int)≤(k:Int)by omega),cond_true,decide_eq_true_iff];omega
   ·rw[decide_eq_false (show ¬((s.words.length+s.w4a.length:Nat):Int)≤(k:Int)by omega),cond_false]
    exact⟨fun h=>(by cases h),fun h=>absurd h.1 a⟩
  generalize hP:(bif decide (((s.words.length+s.w4a.length:Nat):Int)≤(k:Int))then decide ((k:Int)<((s.words.length+s.w4a.length+s.parts.length:Nat):Int))else false)=P at hpart
  have j2t:∀b:Bool,b=true→w7X s bs k=5→Evt (fun n=>w5s n k s bs b) (y3C (fun _:Unit=>∀j,j<k+1→w7X s bs j=0) (fun _:Unit=>False) (fun r:w3T×w4b=>w7X s bs k≠0∧r=(zf,⟨w7X s bs k,(k:Int)⟩))):=fun b hb1 h5=>by
   subst hb1
   unfold w5s w4n
   exact Evt.cond (fun _=>Evt.pure (bad 5 (by decide) h5)) (fun e=>by cases e)
  by_cases hpt:x9O s k
  ·have hP1:P=true:=hpart.2 hpt
   subst hP1
   refine Evt.cond (fun e2=>?_) (fun e2=>?_)
   ·have htx:(Am.get bs k).text≠ []:=by simpa using e2
    refine j2t _ e2 ?_
    unfold w7X;rw[if_neg n1,if_pos hpt,if_pos htx]
   ·have htx:¬(Am.get bs k).text≠ []:=by simpa using e2
    refine Evt.bind (P:=fun _=>True) (Evt.gd (fun g=>by cases g) (fun _=>trivial)) fun v15 _=>?_
    unfold w5s w4n
    simp only[z4l hs,nwp hs,hnq,hP,Option.bind_some]
    refine Evt.cond (fun e3=>by cases e3) (fun _=>Evt.cond (fun _=>?_) (fun e3=>by cases e3))
    refine Evt.bind (x4d (Am.get bs k).form) fun w hw=>?_
    subst hw
    have hst:w7X s bs k=(x4E (Am.get bs k).form).code:=by unfold w7X;rw[if_neg n1,if_pos hpt,if_neg htx]
    refine Evt.cond (fun e3=>Evt.pure (bad _ (by simpa using e3) hst)) (fun e3=>Evt.pure (good (hst.trans (by simpa using e3))))
  ·have hP1:P=false:=by
    cases P
    ·rfl
    ·exact absurd (hpart.1 rfl) hpt
   subst hP1
   refine Evt.cond (fun e2=>by simp at e2) (fun _=>?_)
   have hz:(bif (bif (bif decide ((Am.get bs k).form.kind=0)then decide ((Am.get bs k).form.name=[])else false)then decide (((Am.get bs k).form.words.length:Int)=0)else false)then decide (((Am.get bs k).form.subs.length:Int)=0)else false)=true↔y2N (Am.get bs k).form:=by
    unfold y2N
    by_cases a:(Am.get bs k).form.kind=0<;>by_cases b:(Am.get bs k).form.name=[]<;>simp[a,b]
   generalize hZ:(bif (bif (bif decide ((Am.get bs k).form.kind=0)then decide ((Am.get bs k).form.name=[])else false)then decide (((Am.get bs k).form.words.length:Int)=0)else false)then decide (((Am.get bs k).form.subs.length:Int)=0)else false)=Z at hz
   refine Evt.bind (P:=fun v=>Z=true→v=x7j (Am.get bs k).text) (Evt.gd (fun _=>(x4V _).mono fun b hb _=>hb) (fun g h=>by rw[h]at g;simp at g)) fun v15 hv15=>?_
   by_cases hok:y2N (Am.get bs k).form∧w4J (Am.get bs k).text
   ·have hZ1:Z=true:=hz.2 hok.1
    subst hZ1
    have hv1:v15=true:=(hv15 rfl).trans (x4C hok.2)
    subst hv1
    unfold w5s w4n
    simp only[z4l hs,nwp hs,hnq,hP,Option.bind_some]
    refine Evt.cond (fun e3=>by cases e3) (fun _=>Evt.cond (fun e3=>by cases e3) (fun _=>Evt.pure (good ?_)))
    unfold w7X;rw[if_neg n1,if_neg hpt,if_pos hok]
   ·refine j2t _ ?_ (by unfold w7X;rw[if_neg n1,if_neg hpt,if_neg hok])
    cases hZ2:Z
    ·rfl
    ·have h1:=hv15 hZ2
     have h2:v15=false:=h1.trans (w9U fun hn=>hok ⟨hz.1 hZ2,hn⟩)
     rw[h2];rfl
 ·cases e with
  |ret r=>
   obtain⟨k,_,hk,hi,h1,h2⟩:=he
   exact⟨_,⟨k,hk,hi,h1,rfl⟩,h2⟩
  |nxt t=>exact he
 ·obtain⟨hbn,hbt⟩:=y8l hlen ht
  unfold w9H
  rw[nwp hs]
  have hwf:=x8J hs hbn hbt s.form [] hs.form.1 (fun x hx=>hx) (fun x hx=>by cases hx)
  refine Evt.bind (y9M hs hbn _ s.form (Nat.le_refl _) hs.form.1 (fun x hx=>hx) [] (fun x hx=>by cases hx) (by simp;omega) 1 0 (by omega) (by omega)) fun w hw=>?_
  have hw:w=_:=hw
  subst hw
  refine Evt.cond (fun e2=>?_) (fun e2=>?_)
  ·have hf:fits 0 1 (x0H s bs s.form [])=false:=by simpa using e2
   unfold w4n
   refine Evt.pure ⟨v,hv,fun h=>absurd h0 h,fun _ h=>absurd hlen h,fun _ _ r0 ⟨k,hk,hi,h1,_⟩=>absurd (ht k hk) h1,fun _ _ _=>⟨fun _=>rfl,fun h=>?_⟩⟩
   rw[hf]at h;cases h
  ·have hf:fits 0 1 (x0H s bs s.form [])=true:=by simpa using e2
   have hf2:=of_decide_eq_true hf
   have hok:OkF (x0H s bs s.form []):=⟨hwf,by omega,by omega⟩
   refine Evt.bind (y9C hok) fun c hc=>?_
   subst hc
   refine Evt.pure ⟨v,hv,fun h=>absurd h0 h,fun _ h=>absurd hlen h,fun _ _ r0 ⟨k,hk,hi,h1,_⟩=>absurd (ht k hk) h1,fun _ _ _=>⟨fun h=>?_,fun _=>rfl⟩⟩
   rw[hf]at h;cases h
 ·obtain⟨r0,h1,h2⟩:=hr
  refine⟨v,hv,fun h=>absurd h0 h,fun _ h=>absurd hlen h,fun _ _ r1 hr1=>?_,fun _ _ hall=>?_⟩
  ·rw[h2,h1.uniq hr1]
  ·obtain⟨k,hk,_,h3,_⟩:=h1
   exact absurd (hall k hk) h3
structure z9l(s:w3W)(RS RG:List IT):Prop where
 hs:x0p s
 lS:RS.length≤1000
 lG:RG.length≤1000
 wG:∀it∈RG,it.words.length≤3
abbrev MSt:=List w3V×List Bool×List Int×Int×Int
abbrev z8o:=Ctl (List w3V×List Int×Bool) MSt (List w3V×List Int)
section
variable {s:w3W} {RS RG:List IT}
end
theorem z4m{s:w3W}(hs:x0p s):wr .i64 (((s.words.length+s.w4a.length:Nat):Int)+(s.parts.length:Int))=((s.words.length+s.w4a.length+s.parts.length:Nat):Int):=by
 have:=x0o s
 have:=hs.len
 rw[w5h (by omega) (by omega)];omega
section
variable {s:w3W} {RS RG:List IT}
abbrev z8p(s:w3W)(RS RG:List IT):Nat→MSt→Option z8o:=fun n=>x3C n RS s RG (vns s++qs s.form)
end
end Go.Proofs.YtdjnbjnlnjhllaaGreatDoor
