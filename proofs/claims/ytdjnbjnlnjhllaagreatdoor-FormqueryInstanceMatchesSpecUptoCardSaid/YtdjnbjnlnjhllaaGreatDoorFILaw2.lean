import Derived.Lib.ItoaMem
import Derived.Lib.ItoaLen
import Derived.Test.YtdjnbjnlnjhllaaGreatDoorFILaw1
set_option linter.unusedVariables false
set_option linter.unusedSimpArgs false
namespace Go.Proofs.YtdjnbjnlnjhllaaGreatDoor
open Go Go.Am
theorem y2w(l:List Bs)(x:Bs):Evt (fun _=>w4c l x) (fun r=>r=decide (x∈l)):=by
 unfold w4c w8g
 refine Evt.bind (P:=fun r=>0≤r↔x∈l) (Evt.w4h (Evt.scan (fun k _=>∀j,j<k→Am.get l j≠x) (fun k r=>r=(k:Int)∧Am.get l k=x) (fun j hj=>absurd hj (Nat.not_lt_zero _)) (fun k u hk hi=>?_)) (fun t ht=>?_) (fun r hr=>?_)) fun v hv=>Evt.pure ?_
 ·unfold w6I
  refine Evt.cond (fun e=>Evt.pure ?_) (fun e=>Evt.pure ?_)
  ·replace e:=bx e
   exact⟨rfl,e.symm⟩
  ·replace e:=bx e
   intro j hj
   by_cases ej:j=k
   ·subst ej;exact fun h=>e h.symm
   ·exact hi j (by omega)
 ·unfold w6J
  refine Evt.pure ⟨fun h=>absurd h (by decide),fun h=>?_⟩
  obtain⟨j,hj,e⟩:=w6G.1 h
  exact absurd e (ht j hj)
 ·obtain⟨k,_,hk,_,rfl,e⟩:=hr
  exact⟨fun _=>w6G.2 ⟨k,hk,e⟩,fun _=>by omega⟩
 ·by_cases h:x∈l
  ·simp[h,hv.2 h]
  ·have h3:¬0≤v:=fun h2=>h (hv.1 h2)
   simp only[h,h3,decide_false]
theorem w9R(l:List Bs)(x:Bs):w4c l x=some (decide (x∈l)):=by
 obtain⟨r,rfl,N,hN⟩:=y2w l x
 exact hN N (Nat.le_refl _)
theorem y3M{zs:List Bs}{x:Bs}:x∈Lib.compact zs↔x∈zs:=by
 unfold Lib.compact Lib.compactUpTo
 rw[List.mem_map]
 have hg:∀j,j<zs.length→zs.toArray[j]! =Am.get zs j:=fun j hj=>by simp[Am.get,hj]
 constructor
 ·rintro⟨j,hj,rfl⟩
  have hj:=List.mem_range.1 (List.mem_filter.1 hj).1
  rw[hg j hj]
  exact get_mem hj
 ·intro h
  obtain⟨j,hj,rfl⟩:=w6G.1 h
  have key:∀j,j<zs.length→∃a,a∈(List.range zs.length).filter (Lib.keeps zs.toArray)∧zs.toArray[a]! =Am.get zs j:=by
   intro j
   induction j with
   |zero=>intro hj;exact⟨0,List.mem_filter.2 ⟨List.mem_range.2 hj,Lib.keeps_lt_one _ 0 (by omega)⟩,hg 0 hj⟩
   |succ j ih=>
    intro hj
    by_cases hk:Lib.keeps zs.toArray (j+1)=true
    ·exact⟨j+1,List.mem_filter.2 ⟨List.mem_range.2 hj,hk⟩,hg _ hj⟩
    ·obtain⟨a,h1,h2⟩:=ih (by omega)
     refine⟨a,h1,h2.trans ?_⟩
     unfold Lib.keeps at hk
     simp only[decide_eq_true_eq,not_or,Decidable.not_not,ne_eq]at hk
     have:=hk.2
     rw[hg _ hj,Nat.add_sub_cancel,hg j (by omega)]at this
     exact this.symm
  exact key j hj
mutual
theorem y7L:∀(f:w3T) (bd bd':List Bs),(∀y,y∈bd↔y∈bd')→∀x,fre f bd x↔fre f bd' x
 | .mk k n w s,bd,bd',h,x=>by
   rw[fre,fre,h x,x5V s _ _ (fun y=>?_) x]
   split
   ·simp[h y]
   ·exact h y
theorem x5V:∀(l:List w3T) (bd bd':List Bs),(∀y,y∈bd↔y∈bd')→∀x,x4D l bd x↔x4D l bd' x
 | [],bd,bd',h,x=>by rw[x4D,x4D]
 |f::l,bd,bd',h,x=>by rw[x4D,x4D,y7L f bd bd' h x,x5V l bd bd' h x]
end
theorem y2x(l:List w3T)(f:w3T)(bd:List Bs)(x:Bs):x4D (l++[f]) bd x↔x4D l bd x∨fre f bd x:=by
 rw[y1h,y1h]
 constructor
 ·rintro⟨g,hg,h⟩
  rcases List.mem_append.1 hg with hg|hg
  ·exact .inl ⟨g,hg,h⟩
  ·rw[List.mem_singleton]at hg;subst hg;exact .inr h
 ·rintro(⟨g,hg,h⟩|h)
  ·exact⟨g,List.mem_append.2 (.inl hg),h⟩
  ·exact⟨f,List.mem_append.2 (.inr (List.mem_singleton.2 rfl)),h⟩
theorem y5K:∀(m:Nat) (f:w3T),SizeOf.sizeOf f≤m→WfF f→∀(bd l:List Bs),bd.length+ndF f≤100000→l.length+3*ndF f≤300000→
 Evt (fun n=>w5p n f bd l) (fun r=>(∀x,x∈r↔x∈l∨fre f bd x)∧r.length≤l.length+3*ndF f):=by
 intro m
 induction m with
 |zero=>intro f h;cases f;simp only[w3T.mk.sizeOf_spec]at h;omega
 |succ m ih=>
  intro f hf hwf bd l hbd hl
  have hnd:=x3y f
  have hws:=x6r hwf
  refine Evt.succ ?_
  simp only[w5p]
  refine Evt.w4h (P:=ExP (fun t=>(∀x,x∈t↔x∈l∨(x∈f.words∧x∉bd))∧t.length≤l.length+3) (fun _=>False)) ((Evt.range (fun k s=>(∀x,x∈s↔x∈l∨(x∈f.words.take k∧x∉bd))∧s.length≤l.length+k) (fun _=>False) (fun _=>False) ⟨fun x=>by simp,by omega⟩ (fun k s hk hi=>?_)).mono fun e he=>?_) (fun t ht=>?_) (fun _ h=>h.elim)
  ·unfold w9y
   simp only[w9R,Option.bind_some]
   refine Evt.cond (fun e=>Evt.w6m (Evt.chk ?_ (Evt.pure ⟨fun x=>?_,?_⟩))) (fun e=>Evt.pure ⟨fun x=>?_,by omega⟩)
   ·rw[w6d];simp only[List.length_append,List.length_cons,List.length_nil];omega
   ·replace e:=bx e
    rw[List.mem_append,hi.1 x,w4C hk,List.mem_append,List.mem_singleton]
    by_cases hx:x=Am.get f.words k
    ·subst hx;simp[e]
    ·simp[hx]
   ·simp only[List.length_append,List.length_cons,List.length_nil];omega
   ·replace e:=bx e
    rw[hi.1 x,w4C hk,List.mem_append,List.mem_singleton]
    by_cases hx:x=Am.get f.words k
    ·subst hx;simp[e]
    ·simp[hx]
  ·cases e with
   |ret r=>exact he
   |nxt t=>
    obtain⟨h1,h2⟩:=he.elim id False.elim
    rw[List.take_length]at h1
    exact⟨h1,by omega⟩
  ·obtain⟨h1,h2⟩:=ht
   have key:∀bd':List Bs,(∀y,y∈bd'↔y∈(if QK f.kind then f.name::bd else bd))→bd'.length≤bd.length+1→Evt (fun n=>w6D (w5p n) f t bd') (fun r=>(∀x,x∈r↔x∈l∨fre f bd x)∧r.length≤l.length+3*ndF f):=by
    intro bd' hb hbl
    unfold w6D
    refine Evt.w4h (P:=ExP (fun r=>(∀x,x∈r↔x∈t∨x4D f.subs bd' x)∧r.length≤t.length+3*w6H f.subs) (fun _=>False)) ((Evt.range (fun k s=>(∀x,x∈s↔x∈t∨x4D (f.subs.take k) bd' x)∧s.length≤t.length+3*w6H (f.subs.take k)) (fun _=>False) (fun _=>False) ⟨fun x=>by simp[x4D],by omega⟩ (fun k s hk hi=>?_)).mono fun e he=>?_) (fun r hr=>?_) (fun _ h=>h.elim)
    ·unfold w9z
     have hsz:=w6s hk
     have htk:=x0F hk
     refine Evt.bind (ih _ (by omega) (x5j hwf hk) bd' s (by omega) (by omega)) fun v hv=>Evt.pure ⟨fun x=>?_,?_⟩
     ·rw[hv.1 x,hi.1 x,w4C hk,y2x,or_assoc]
     ·rw[w4C hk,x1X]
      have:=hv.2
      have:=hi.2
      omega
    ·cases e with
     |ret r=>exact he
     |nxt r=>
      have:=he.elim id False.elim
      rw[List.take_length]at this
      exact this
    ·obtain⟨h3,h4⟩:=hr
     unfold w9A
     refine Evt.pure ⟨fun x=>?_,by omega⟩
     rw[h3 x,h1 x,z0u,x5V f.subs _ _ hb x,or_assoc]
   unfold w9B
   simp only[x5U,Option.bind_some]
   refine Evt.cond (fun e=>Evt.chk (by omega) (Evt.w6m (Evt.chk ?_ (key _ (fun y=>?_) ?_)))) (fun e=>key _ (fun y=>?_) (by omega))
   ·rw[w6d];simp only[List.length_append,List.length_cons,List.length_nil];omega
   ·replace e:=bx e
    rw[if_pos e];simp[or_comm]
   ·simp
   ·replace e:=bx e
    rw[if_neg e]
theorem x5I{f:w3T}(hwf:WfF f)(hn:ndF f≤50000):Evt (fun n=>w8X n f) (fun r=>(∀x,x∈r↔fre f [] x)∧r.length≤3*ndF f):=by
 unfold w8X
 refine Evt.bind (y5K _ f (Nat.le_refl _) hwf [] [] (by simp;omega) (by simp;omega)) fun v hv=>?_
 obtain⟨h1,h2⟩:=hv
 simp only[List.length_nil,Nat.zero_add]at h2
 unfold w5P w7d
 have hlen:(y2i cfB v).length=v.length:=(x4B cfB v).length_eq
 refine Evt.bind (Evt.chk (by omega) (Evt.pure (P:=fun r=>r=y2i cfB v) rfl)) fun r hr=>?_
 subst hr
 refine Evt.bind (Evt.chk (by omega) (Evt.pure (P:=fun r=>True) trivial)) fun _ _=>Evt.pure ⟨fun x=>?_,?_⟩
 ·rw[y3M,(x4B cfB v).mem_iff,h1 x]
  simp
 ·have:=Lib.compact_length_le (y2i cfB v)
  omega
theorem y2y:∀(m:Nat) (f:w3T),SizeOf.sizeOf f≤m→ndF f≤100000→Evt (fun n=>w4o n f) (fun r=>r=qs f):=by
 intro m
 induction m with
 |zero=>intro f h;cases f;simp only[w3T.mk.sizeOf_spec]at h;omega
 |succ m ih=>
  intro f hf hn
  have hnd:=x3y f
  refine Evt.succ ?_
  simp only[w4o,x5U,Option.bind_some]
  have y9y:∀(l:List w3T) (x:w3T),qsL (l++[x])=qsL l++qs x:=fun l x=>by
   induction l with
   |nil=>simp[qsL]
   |cons a l ih=>rw[List.cons_append,qsL,qsL,ih,List.append_assoc]
  have key:∀l0:List Bs,l0=(if QK f.kind then [f.name]else [])→Evt (fun n=>w5D (w4o n) f l0) (fun r=>r=qs f):=by
   intro l0 h0
   have hl0:l0.length≤1:=by rw[h0];split<;>simp
   unfold w5D
   refine Evt.w4h (P:=ExP (fun t=>t=l0++qsL f.subs) (fun _=>False)) ((Evt.range (fun k s=>s=l0++qsL (f.subs.take k)) (fun _=>False) (fun _=>False) (by simp[qsL]) (fun k s hk hi=>?_)).mono fun e he=>?_) (fun t ht=>?_) (fun _ h=>h.elim)
   ·subst hi
    unfold w8h
    have hsz:=w6s hk
    have htk:=x0F hk
    refine Evt.bind (ih _ (by omega) (by omega)) fun v hv=>Evt.w6m (Evt.chk ?_ (Evt.pure ?_))
    ·subst hv
     have h1:=y3H (f.subs.take k)
     have h2:=x6q (Am.get f.subs k)
     have h3:=y7s (f.subs.take k)
     have h4:=x7P (Am.get f.subs k)
     rw[w6d]
     simp only[List.length_append]
     omega
    ·subst hv
     show _=_
     rw[w4C hk,y9y,List.append_assoc]
   ·cases e with
    |ret r=>exact he
    |nxt t=>
     have:=he.elim id False.elim
     rw[List.take_length]at this
     exact this
   ·have ht:t=_:=ht
    subst ht
    unfold w8i
    refine Evt.pure ?_
    rw[y3G, ←h0]
  refine Evt.cond (fun e=>Evt.w6m (Evt.chk (by simp[w6d]) (key _ ?_))) (fun e=>key _ ?_)
  ·replace e:=bx e
   rw[if_pos e];rfl
  ·replace e:=bx e
   rw[if_neg e]
mutual
def w4z:w3T→List w3T
 | .mk k n w s=>.mk k n w s::w6e s
def w6e:List w3T→List w3T
 | []=>[]
 |x::l=>w4z x++w6e l
end
theorem y4T(f:w3T):w4z f=f::w6e f.subs:=by cases f;rw[w4z];rfl
mutual
theorem w7W:∀f:w3T,(w4z f).length=ndF f
 | .mk k n w s=>by rw[w4z,ndF,List.length_cons,y0x s];omega
theorem y0x:∀l:List w3T,(w6e l).length=w6H l
 | []=>by rw[w6e,w6H];rfl
 |x::l=>by rw[w6e,w6H,List.length_append,w7W x,y0x l]
end
def z3X(b:Nat)(g:w3T)(it:IT):Prop:=it.kind=g.kind∧it.name=g.name∧it.words=g.words∧it.end_=((b+ndF g:Nat):Int)∧it.bound.length=g.words.length
mutual
theorem x5W:∀(f:w3T) (ar:List Bs) (b j:Nat),j<ndF f→z3X (b+j) (Am.get (w4z f) j) (Am.get (w9x f ar b) j)
 | .mk k n w s,ar,b,0,_=>by
   rw[w9x,w4z]
   refine⟨rfl,rfl,rfl,?_,?_⟩
   ·show((b+(1+w6H s):Nat):Int)=_
    show _=((b+0+ndF (.mk k n w s):Nat):Int)
    rw[ndF];rfl
   ·show(w.map _).length=w.length
    simp
 | .mk k n w s,ar,b,j+1,h=>by
   rw[w9x,w4z]
   rw[ndF]at h
   have:=x9D s (if QK k then n::ar else ar) (b+1) j (by omega)
   rw[show b+(j+1)=b+1+j by omega]
   exact this
theorem x9D:∀(l:List w3T) (ar:List Bs) (b j:Nat),j<w6H l→z3X (b+j) (Am.get (w6e l) j) (Am.get (x0E l ar b) j)
 | [],ar,b,j,h=>by rw[w6H]at h;omega
 |x::l,ar,b,j,h=>by
  rw[w6H]at h
  rw[x0E,w6e]
  by_cases hj:j<ndF x
  ·have:=x5W x ar b j hj
   have e1:Am.get (w4z x++w6e l) j=Am.get (w4z x) j:=by
    unfold Am.get
    rw[List.getD_eq_getElem?_getD,List.getD_eq_getElem?_getD,List.getElem?_append_left (by rw[w7W];exact hj)]
   have e2:Am.get (w9x x ar b++x0E l ar (b+ndF x)) j=Am.get (w9x x ar b) j:=by
    unfold Am.get
    rw[List.getD_eq_getElem?_getD,List.getD_eq_getElem?_getD,List.getElem?_append_left (by rw[w9V];exact hj)]
   rw[e1,e2];exact this
  ·have:=x9D l ar (b+ndF x) (j-ndF x) (by omega)
   have e1:Am.get (w4z x++w6e l) j=Am.get (w6e l) (j-ndF x):=by
    unfold Am.get
    rw[List.getD_eq_getElem?_getD,List.getD_eq_getElem?_getD,List.getElem?_append_right (by rw[w7W];omega),w7W]
   have e2:Am.get (w9x x ar b++x0E l ar (b+ndF x)) j=Am.get (x0E l ar (b+ndF x)) (j-ndF x):=by
    unfold Am.get
    rw[List.getD_eq_getElem?_getD,List.getD_eq_getElem?_getD,List.getElem?_append_right (by rw[w9V];omega),w9V]
   rw[e1,e2,show b+j=b+ndF x+(j-ndF x)by omega]
   exact this
end
theorem x6C:∀(l:List w3T) (x:w3T),w6e (l++[x])=w6e l++w4z x
 | [],x=>by simp[w6e]
 |a::l,x=>by rw[List.cons_append,w6e,w6e,x6C l x,List.append_assoc]
def x5J(l:List w3T)(x:Bs):Prop:=∃g∈l,g.kind=2∧g.name=x∧0<g.words.length
def x6s(l:List w3T)(x:Bs):Prop:=∃g∈l,g.kind=2∧g.name=x∧g.words.length=0
theorem x5J.app{l m:List w3T}{x:Bs}:x5J (l++m) x↔x5J l x∨x5J m x:=by
 unfold x5J
 constructor
 ·rintro⟨g,hg,h⟩
  rcases List.mem_append.1 hg with hg|hg
  ·exact .inl ⟨g,hg,h⟩
  ·exact .inr ⟨g,hg,h⟩
 ·rintro(⟨g,hg,h⟩|⟨g,hg,h⟩)
  ·exact⟨g,List.mem_append.2 (.inl hg),h⟩
  ·exact⟨g,List.mem_append.2 (.inr hg),h⟩
theorem x6s.app{l m:List w3T}{x:Bs}:x6s (l++m) x↔x6s l x∨x6s m x:=by
 unfold x6s
 constructor
 ·rintro⟨g,hg,h⟩
  rcases List.mem_append.1 hg with hg|hg
  ·exact .inl ⟨g,hg,h⟩
  ·exact .inr ⟨g,hg,h⟩
 ·rintro(⟨g,hg,h⟩|⟨g,hg,h⟩)
  ·exact⟨g,List.mem_append.2 (.inl hg),h⟩
  ·exact⟨g,List.mem_append.2 (.inr hg),h⟩
theorem x5J.one{g:w3T}{x:Bs}:x5J [g] x↔g.kind=2∧g.name=x∧0<g.words.length:=by
 unfold x5J;simp
theorem x6s.one{g:w3T}{x:Bs}:x6s [g] x↔g.kind=2∧g.name=x∧g.words.length=0:=by
 unfold x6s;simp
theorem z1D:∀(m:Nat) (f:w3T),SizeOf.sizeOf f≤m→∀x,Evt (fun n=>w7e n f x) (fun r=>(r.1=true↔x5J (w4z f) x)∧(r.2=true↔x6s (w4z f) x)):=by
 intro m
 induction m with
 |zero=>intro f h;cases f;simp only[w3T.mk.sizeOf_spec]at h;omega
 |succ m ih=>
  intro f hf x
  refine Evt.succ ?_
  simp only[w7e]
  have key:∀j:Bool×Bool,(j.1=true↔x5J [f] x)→(j.2=true↔x6s [f] x)→Evt (fun n=>w8Y (w7e n) f x j) (fun r=>(r.1=true↔x5J (w4z f) x)∧(r.2=true↔x6s (w4z f) x)):=by
   intro j h1 h2
   unfold w8Y
   refine Evt.w4h (P:=ExP (fun s:Bool×Bool=>(s.1=true↔x5J (f::w6e f.subs) x)∧(s.2=true↔x6s (f::w6e f.subs) x)) (fun _=>False)) ((Evt.range (fun k s=>(s.1=true↔x5J ([f]++w6e (f.subs.take k)) x)∧(s.2=true↔x6s ([f]++w6e (f.subs.take k)) x)) (fun _=>False) (fun _=>False) ⟨by simpa[w6e]using h1,by simpa[w6e]using h2⟩ (fun k s hk hi=>?_)).mono fun e he=>?_) (fun t ht=>?_) (fun _ h=>h.elim)
   ·unfold x1w
    have hsz:=w6s hk
    refine Evt.bind (ih _ (by omega) x) fun v hv=>Evt.pure ⟨?_,?_⟩
    ·rw[w4C hk,x6C, ←List.append_assoc,x5J.app, ←hv.1, ←hi.1]
     cases s.1<;>simp
    ·rw[w4C hk,x6C, ←List.append_assoc,x6s.app, ←hv.2, ←hi.2]
     cases s.2<;>simp
   ·cases e with
    |ret r=>exact he
    |nxt t=>
     have:=he.elim id False.elim
     rw[List.take_length]at this
     exact this
   ·unfold x1x
    refine Evt.pure ?_
    rw[y4T]
    exact ht
  refine Evt.cond (fun e=>key _ ?_ ?_) (fun e=>key _ ?_ ?_)
  ·replace e:=bx e
   rw[x5J.one];simp[e.1,e.2]
  ·replace e:=bx e
   rw[x6s.one];simp[e.1,e.2]
  ·rw[x5J.one]
   refine⟨fun h=>(by cases h),fun h=>?_⟩
   simp[h.1,h.2.1]at e
  ·rw[x6s.one]
   refine⟨fun h=>(by cases h),fun h=>?_⟩
   simp[h.1,h.2.1]at e
def x2Q(l:List IT)(x:Bs):Prop:=∃it∈l,∃m,m<it.words.length∧Am.get it.words m=x∧Am.get it.bound m=false
theorem x2Q.app{l m:List IT}{x:Bs}:x2Q (l++m) x↔x2Q l x∨x2Q m x:=by
 unfold x2Q
 constructor
 ·rintro⟨g,hg,h⟩
  rcases List.mem_append.1 hg with hg|hg
  ·exact .inl ⟨g,hg,h⟩
  ·exact .inr ⟨g,hg,h⟩
 ·rintro(⟨g,hg,h⟩|⟨g,hg,h⟩)
  ·exact⟨g,List.mem_append.2 (.inl hg),h⟩
  ·exact⟨g,List.mem_append.2 (.inr hg),h⟩
theorem x2Q.cons{a:IT}{l:List IT}{x:Bs}:x2Q (a::l) x↔x2Q [a] x∨x2Q l x:=by
 rw[←x2Q.app];rfl
theorem x2Q.nil{x:Bs}:¬x2Q [] x:=fun⟨_,h,_⟩=>by cases h
theorem get_map{α β:Type}[Inhabited α][Inhabited β](g:α→β){l:List α}{k:Nat}(h:k<l.length):Am.get (l.map g) k=g (Am.get l k):=by
 unfold Am.get
 rw[List.getD_eq_getElem?_getD,List.getD_eq_getElem?_getD,List.getElem?_map,List.getElem?_eq_getElem h]
 rfl
mutual
theorem y2z:∀(f:w3T) (ar:List Bs) (b:Nat) (x:Bs),x2Q (w9x f ar b) x↔fre f ar x
 | .mk k n w s,ar,b,x=>by
   rw[w9x,x2Q.cons,fre,y0y s]
   refine or_congr_left ?_
   constructor
   ·rintro⟨it,hit,m,h1,h2,h3⟩
    rw[List.mem_singleton]at hit
    subst hit
    have h1:m<w.length:=h1
    have h2:Am.get w m=x:=h2
    have h3:Am.get (w.map fun x=>decide (x∈ar)) m=false:=h3
    rw[get_map _ h1,h2]at h3
    exact⟨w6G.2 ⟨m,h1,h2⟩,of_decide_eq_false h3⟩
   ·rintro⟨h1,h2⟩
    obtain⟨m,h3,h4⟩:=w6G.1 h1
    refine⟨_,List.mem_singleton.2 rfl,m,h3,h4,?_⟩
    show Am.get (w.map fun x=>decide (x∈ar)) m=false
    rw[get_map _ h3,h4]
    exact decide_eq_false h2
theorem y0y:∀(l:List w3T) (ar:List Bs) (b:Nat) (x:Bs),x2Q (x0E l ar b) x↔x4D l ar x
 | [],ar,b,x=>by rw[x0E,x4D];exact⟨fun h=>x2Q.nil h,False.elim⟩
 |f::l,ar,b,x=>by rw[x0E,x4D,x2Q.app,y2z f,y0y l]
end
def qsI(l:List IT):List Bs:=l.flatMap fun it=>if QK it.kind then [it.name]else []
mutual
theorem y3N:∀(f:w3T) (ar:List Bs) (b:Nat),qsI (w9x f ar b)=qs f
 | .mk k n w s,ar,b=>by
   rw[w9x,qs]
   show(if QK k then [n]else [])++qsI _=_
   rw[y4U s]
theorem y4U:∀(l:List w3T) (ar:List Bs) (b:Nat),qsI (x0E l ar b)=qsL l
 | [],ar,b=>by rw[x0E,qsL];rfl
 |f::l,ar,b=>by
  rw[x0E,qsL, ←y3N f ar b, ←y4U l ar (b+ndF f)]
  exact List.flatMap_append
end
theorem z0w{ρ:Type}(l:List Bs)(x:Bs)(body:Int→Option (Ctl Int Int Unit))(hb:∀s,body s=bif decide (s<(l.length:Int))then chk (0≤s∧s<(l.length:Int)) <| bif decide (Am.get l s.toNat=x)then some (.ret s)else some (.nxt (wr .i64 (s+1)))else some (.brk ()))
 (hl:l.length≤8000000) (k:Unit→Option Int) (hk:k ()=some (-1)):Evt (fun n=>w4h (w4K body n 0) k) (fun r=>(x∉l∧r= -1)∨∃j,j<l.length∧Am.get l j=x∧(∀i,i<j→Am.get l i≠x)∧r=(j:Int)):=by
 refine Evt.w4h (Evt.x1P l.length (fun k s=>s=(k:Int)∧∀i,i<k→Am.get l i≠x) (fun _=>x∉l) (fun r=>∃j,j<l.length∧Am.get l j=x∧(∀i,i<j→Am.get l i≠x)∧r=(j:Int)) ⟨rfl,fun i hi=>absurd hi (Nat.not_lt_zero _)⟩ (fun k s hk hs=>?_) (fun s hs=>?_)) (fun t ht=>?_) (fun r hr=>.inr hr)
 ·obtain⟨rfl,hs⟩:=hs
  rw[hb]
  refine Evt.cond (fun _=>Evt.chk (by omega) (Evt.cond (fun e=>Evt.pure ?_) (fun e=>Evt.pure ?_))) (fun e=>by replace e:=bx e;omega)
  ·replace e:=bx e
   exact⟨k,hk,by simpa using e,hs,rfl⟩
  ·replace e:=bx e
   rw[w5h (by omega) (by omega)]
   refine⟨rfl,fun i hi=>?_⟩
   by_cases ei:i=k
   ·subst ei;simpa using e
   ·exact hs i (by omega)
 ·obtain⟨rfl,hs⟩:=hs
  rw[hb]
  refine Evt.cond (fun e=>by replace e:=bx e;omega) (fun _=>Evt.pure fun h=>?_)
  obtain⟨j,hj,e⟩:=w6G.1 h
  exact hs j hj e
 ·rw[hk]
  exact Evt.pure (.inl ⟨ht,rfl⟩)
def y0z(l:List Bs)(x:Bs)(r:Int):Prop:=(x∉l∧r= -1)∨∃j,j<l.length∧Am.get l j=x∧(∀i,i<j→Am.get l i≠x)∧r=(j:Int)
theorem y0z.mem{l:List Bs}{x:Bs}{r:Int}(h:y0z l x r):0≤r↔x∈l:=by
 rcases h with⟨h1,rfl⟩|⟨j,hj,e,_,rfl⟩
 ·exact⟨fun h=>absurd h (by decide),fun h=>absurd h h1⟩
 ·exact⟨fun _=>w6G.2 ⟨j,hj,e⟩,fun _=>by omega⟩
theorem x1m(l:List Bs)(x:Bs)(hl:l.length≤8000000):Evt (fun n=>w4f n l x) (y0z l x):=z0w (ρ:=Unit) l x (w7f l x) (fun _=>rfl) hl _ rfl
theorem y7M(l:List Bs)(x:Bs)(hl:l.length≤8000000):Evt (fun n=>w8M n x l) (y0z l x):=z0w (ρ:=Unit) l x (w7g l x) (fun _=>rfl) hl _ rfl
def vns(s:w3W):List Bs:=s.words++s.w4a++s.parts
open Classical in
noncomputable def w7L(s:w3W)(i:Nat):Int:=
 if ¬w4J (Am.get (vns s) i)then 10
 else if Am.get (vns s) i∈(vns s).take i then 7
 else if i<s.words.length then(if fre s.form [] (Am.get (vns s) i)then 0 else 15)
 else if i<s.words.length+s.w4a.length then(if x5J (w4z s.form) (Am.get (vns s) i)∨x6s (w4z s.form) (Am.get (vns s) i)then 0 else 15)
 else if x5J (w4z s.form) (Am.get (vns s) i)then 5 else if x6s (w4z s.form) (Am.get (vns s) i)then 0 else 15
def QOk(s:w3W):Prop:=∀k,k<(qs s.form).length→Am.get (qs s.form) k∉ (qs s.form).take k∧Am.get (qs s.form) k∉s.words
def OkS(s:w3W):Prop:=OkF s.form∧(vns s).length≤300∧(∀j,j<(vns s).length→w7L s j=0)∧QOk s
def FB(step:Nat→Int)(N:Nat)(r:w4b):Prop:=∃k,k<N∧(∀j,j<k→step j=0)∧step k≠0∧r=⟨step k,k⟩
theorem FB.uniq{step:Nat→Int}{N:Nat}{r r':w4b}(h:FB step N r)(h':FB step N r'):r=r':=by
 obtain⟨k,_,h2,h3,rfl⟩:=h
 obtain⟨k',_,h2',h3',rfl⟩:=h'
 have:k=k':=by
  rcases Nat.lt_trichotomy k k' with h|h|h
  ·exact absurd (h2' k h) h3
  ·exact h
  ·exact absurd (h2 k' h) h3'
 rw[this]
def y7N(s:w3W)(r:w4b):Prop:=
 (¬OkF s.form∧r=x4E s.form)∨(OkF s.form∧300<(vns s).length∧r=⟨2, -1⟩)∨(OkF s.form∧(vns s).length≤300∧FB (w7L s) (vns s).length r)∨
 (OkF s.form∧(vns s).length≤300∧(∀j,j<(vns s).length→w7L s j=0)∧¬QOk s∧r=⟨7, -1⟩)∨(OkS s∧r=⟨0,0⟩)
theorem y7N.code{s:w3W}{r:w4b}(h:y7N s r)(h0:r.code=0):OkS s∧r=⟨0,0⟩:=by
 rcases h with⟨h1,rfl⟩|⟨_,_,rfl⟩|⟨_,_,k,_,_,h3,rfl⟩|⟨_,_,_,_,rfl⟩|h
 ·exact absurd ((x4Z _).1 h0) h1
 ·cases h0
 ·exact absurd h0 h3
 ·cases h0
 ·exact h
theorem y7N.ok{s:w3W}{r:w4b}(h:y7N s r)(h0:OkS s):r=⟨0,0⟩:=by
 obtain⟨k1,k2,k3,k4⟩:=h0
 rcases h with⟨h1,_⟩|⟨_,h1,_⟩|⟨_,_,k,h2,_,h3,_⟩|⟨_,_,_,h1,_⟩|⟨_,h⟩
 ·exact absurd k1 h1
 ·omega
 ·exact absurd (k3 k h2) h3
 ·exact absurd k4 h1
 ·exact h
theorem y7N.uniq{s:w3W}{r r':w4b}(h:y7N s r)(h':y7N s r'):r=r':=by
 rcases h with⟨h1,rfl⟩|⟨h1,h2,rfl⟩|⟨h1,h2,h3⟩|⟨h1,h2,h3,h4,rfl⟩|⟨h1,rfl⟩
 ·rcases h' with⟨k1,rfl⟩|⟨k1,_⟩|⟨k1,_⟩|⟨k1,_⟩|⟨k1,_⟩
  ·rfl
  ·exact absurd k1 h1
  ·exact absurd k1 h1
  ·exact absurd k1 h1
  ·exact absurd k1.1 h1
 ·rcases h' with⟨k1,_⟩|⟨_,_,rfl⟩|⟨_,k2,_⟩|⟨_,k2,_⟩|⟨k1,_⟩
  ·exact absurd h1 k1
  ·rfl
  ·omega
  ·omega
  ·exact absurd k1.2.1 (by omega)
 ·rcases h' with⟨k1,_⟩|⟨_,k2,_⟩|⟨_,_,k3⟩|⟨_,_,k3,_⟩|⟨k1,_⟩
  ·exact absurd h1 k1
  ·omega
  ·exact h3.uniq k3
  ·obtain⟨k,a,_,b,_⟩:=h3;exact absurd (k3 k a) b
  ·obtain⟨k,a,_,b,_⟩:=h3;exact absurd (k1.2.2.1 k a) b
 ·rcases h' with⟨k1,_⟩|⟨_,k2,_⟩|⟨_,_,k3⟩|⟨_,_,_,_,rfl⟩|⟨k1,_⟩
  ·exact absurd h1 k1
  ·omega
  ·obtain⟨k,a,_,b,_⟩:=k3;exact absurd (h3 k a) b
  ·rfl
  ·exact absurd k1.2.2.2 h4
 ·exact(y7N.ok h' h1).symm
def SB(s:w3W):Prop:=s.words.length≤1048576∧s.w4a.length≤1048576∧s.parts.length≤1048576∧∀x∈vns s,x.length≤8000000
theorem x0o(s:w3W):(vns s).length=s.words.length+s.w4a.length+s.parts.length:=by unfold vns;simp only[List.length_append]
theorem y3O{s:w3W}(hb:SB s):Evt (fun n=>w6V n s) (y7N s):=by
 obtain⟨b1,b2,b3,_⟩:=hb
 have hvl:=x0o s
 unfold w6V
 refine Evt.bind (x4d s.form) fun v hv=>?_
 subst hv
 refine Evt.cond (fun e=>Evt.pure (.inl ⟨fun h=>?_,rfl⟩)) (fun e=>?_)
 ·rw[y2t h]at e;simp at e
 replace e:=bx e
 have hok:OkF s.form:=(x4Z _).1 e
 unfold w6v x6B
 have hfl: [s.words,s.w4a,s.parts].flatten=vns s:=by unfold vns;simp
 simp only[Option.bind_assoc,Option.bind_some,hfl]
 refine Evt.bind (P:=fun v=>v=vns s) (Evt.chk (by rw[hvl];simp;omega) (Evt.pure rfl)) fun v hv=>?_
 subst hv
 refine Evt.cond (fun e=>?_) (fun e=>?_)
 ·replace e:=bx e
  exact Evt.pure (.inr (.inl ⟨hok,by omega,rfl⟩))
 replace e:=bx e
 have h300:(vns s).length≤300:=by omega
 refine Evt.bind (x5I hok.1 (by have:=hok.2.1;omega)) fun v4 hv4=>?_
 replace hv4:=hv4.1
 have hwl:wr .i64 ((s.words.length:Int)+(s.w4a.length:Int))=((s.words.length+s.w4a.length:Nat):Int):=by rw[w5h (by omega) (by omega)];omega
 refine Evt.w4h (Evt.scan (fun k _=>∀j,j<k→w7L s j=0) (fun k r=>w7L s k≠0∧r=⟨w7L s k,(k:Int)⟩) (fun j hj=>absurd hj (Nat.not_lt_zero _)) (fun k u hk hi=>?_)) (fun t ht=>?_) (fun r hr=>?_)
 ·have bad:∀c:Int,c≠0→w7L s k=c→Evt (fun _:Nat=>(w4n c (k:Int)).bind fun v=>some (Ctl.ret (σ:=Unit) (τ:=Unit) v)) (y3C (fun _:Unit=>∀j,j<k+1→w7L s j=0) (fun _=>False) (fun r=>w7L s k≠0∧r=⟨w7L s k,(k:Int)⟩)):=fun c hc h=>by
   unfold w4n
   exact Evt.pure ⟨by rw[h];exact hc,by rw[h]⟩
  have good:w7L s k=0→Evt (fun _:Nat=>some (Ctl.nxt (ρ:=w4b) (τ:=Unit) ())) (y3C (fun _:Unit=>∀j,j<k+1→w7L s j=0) (fun _=>False) (fun r=>w7L s k≠0∧r=⟨w7L s k,(k:Int)⟩)):=fun h=>Evt.pure fun j hj=>by
   by_cases ej:j=k
   ·subst ej;exact h
   ·exact hi j (by omega)
  unfold w9C
  refine Evt.bind (x4V _) fun v17 hv17=>Evt.cond (fun e=>bad 10 (by decide) ?_) (fun e=>?_)
  ·replace e:=bx e
   have:¬w4J (Am.get (vns s) k):=fun h=>by rw[(x1l hv17).2 h]at e;cases e
   unfold w7L;rw[if_pos this]
  replace e:=bx e
  have s1:¬ ¬w4J (Am.get (vns s) k):=fun h=>h ((x1l hv17).1 e)
  refine Evt.chk (by omega) ?_
  simp only[w9R,Option.bind_some]
  refine Evt.cond (fun e=>bad 7 (by decide) ?_) (fun e=>?_)
  ·replace e:=bx e
   unfold w7L;rw[if_neg s1,if_pos e]
  replace e:=bx e
  have s2:=e
  refine Evt.bind (z1D _ s.form (Nat.le_refl _) _) fun v23 hv23=>Evt.cond (fun e=>?_) (fun e=>?_)
  ·replace e:=bx e
   have s3:k<s.words.length:=by omega
   refine Evt.cond (fun e=>bad 15 (by decide) ?_) (fun e=>good ?_)
   ·replace e:=bx e
    rw[hv4]at e
    unfold w7L;rw[if_neg s1,if_neg s2,if_pos s3,if_neg e]
   ·replace e:=bx e
    rw[hv4]at e
    unfold w7L;rw[if_neg s1,if_neg s2,if_pos s3,if_pos e]
  ·replace e:=bx e
   have s3:¬k<s.words.length:=by omega
   rw[hwl]
   refine Evt.cond (fun e=>?_) (fun e=>?_)
   ·replace e:=bx e
    have s4:k<s.words.length+s.w4a.length:=by omega
    refine Evt.cond (fun e=>bad 15 (by decide) ?_) (fun e=>good ?_)
    ·replace e:=bx e
     have:¬(x5J (w4z s.form) (Am.get (vns s) k)∨x6s (w4z s.form) (Am.get (vns s) k)):=by
      rw[←hv23.1, ←hv23.2]
      simp[e.1,e.2]
     unfold w7L;rw[if_neg s1,if_neg s2,if_neg s3,if_pos s4,if_neg this]
    ·have:x5J (w4z s.form) (Am.get (vns s) k)∨x6s (w4z s.form) (Am.get (vns s) k):=by
      rw[←hv23.1, ←hv23.2]
      cases h1:v23.1
      ·cases h2:v23.2
       ·simp[h1,h2]at e
       ·exact .inr rfl
      ·exact .inl rfl
     unfold w7L;rw[if_neg s1,if_neg s2,if_neg s3,if_pos s4,if_pos this]
   ·replace e:=bx e
    have s4:¬k<s.words.length+s.w4a.length:=by omega
    refine Evt.cond (fun e=>bad 5 (by decide) ?_) (fun e=>?_)
    ·have:=hv23.1.1 e
     unfold w7L;rw[if_neg s1,if_neg s2,if_neg s3,if_neg s4,if_pos this]
    ·have s5:¬x5J (w4z s.form) (Am.get (vns s) k):=by rw[←hv23.1];simp[e]
     refine Evt.cond (fun e=>bad 15 (by decide) ?_) (fun e=>good ?_)
     ·replace e:=bx e
      have:¬x6s (w4z s.form) (Am.get (vns s) k):=by rw[←hv23.2];simp[e]
      unfold w7L;rw[if_neg s1,if_neg s2,if_neg s3,if_neg s4,if_neg s5,if_neg this]
     ·replace e:=bx e
      have:=hv23.2.1 e
      unfold w7L;rw[if_neg s1,if_neg s2,if_neg s3,if_neg s4,if_neg s5,if_pos this]
 ·unfold w9D
  refine Evt.bind (y2y _ s.form (Nat.le_refl _) (by have:=hok.2.1;omega)) fun v29 hv29=>?_
  subst hv29
  have hql:(qs s.form).length≤200:=by rw[x6q];have:=x7P s.form;have:=hok.2.1;omega
  refine Evt.w4h (Evt.scan (fun k _=>∀j,j<k→Am.get (qs s.form) j∉ (qs s.form).take j∧Am.get (qs s.form) j∉s.words) (fun k r=>r=⟨7, -1⟩∧¬QOk s) (fun j hj=>absurd hj (Nat.not_lt_zero _)) (fun k u hk hi=>?_)) (fun u hu=>?_) (fun r hr=>?_)
  ·unfold w9E
   refine Evt.chk (by omega) ?_
   simp only[w9R,Option.bind_some]
   refine Evt.bind (P:=fun v=>Am.get (qs s.form) k∉ (qs s.form).take k→(v=true↔Am.get (qs s.form) k∈s.words)) (Evt.gd (fun g=>Evt.pure fun _=>by simp) (fun g h=>by simp[h]at g)) fun v38 hv38=>Evt.cond (fun e=>?_) (fun e=>Evt.pure fun j hj=>?_)
   ·replace e:=bx e
    refine Evt.pure ⟨rfl,fun h=>?_⟩
    obtain⟨h1,h2⟩:=h k hk
    rcases e with e|e
    ·exact h1 e
    ·exact h2 ((hv38 h1).1 e)
   ·by_cases ej:j=k
    ·subst ej
     by_cases h1:Am.get (qs s.form) j∈(qs s.form).take j
     ·simp[h1]at e
     ·refine⟨h1,fun h2=>?_⟩
      have:=(hv38 h1).2 h2
      simp[this]at e
    ·exact hi j (by omega)
  ·unfold w9F
   exact Evt.pure (.inr (.inr (.inr (.inr ⟨⟨hok,h300,ht,hu⟩,rfl⟩))))
  ·obtain⟨k,_,_,_,rfl,h⟩:=hr
   exact .inr (.inr (.inr (.inl ⟨hok,h300,ht,h,rfl⟩)))
 ·obtain⟨k,_,hk,hi,h1,h2⟩:=hr
  exact .inr (.inr (.inl ⟨hok,h300,k,hk,hi,h1,h2⟩))
theorem x8m{s:Bs}(hl:s.length≤8000000):Evt (fun n=>w6E n s) (fun b=>b=x7j s):=by
 unfold w6E
 refine Evt.w4h (Evt.x1P s.length (fun k i=>i=(k:Int)∧∀j,j<k→OkC (w5e s (j:Int))∧(j=0→97≤w5e s 0∧w5e s 0≤122)) (fun _=>∀j,j<s.length→OkC (w5e s (j:Int))∧(j=0→97≤w5e s 0∧w5e s 0≤122)) (fun b=>b=false∧¬w4J s) ⟨rfl,fun j hj=>absurd hj (Nat.not_lt_zero _)⟩ (fun k i hk hi=>?_) (fun i hi=>?_)) (fun t ht=>?_) (fun r hr=>?_)
 ·obtain⟨rfl,hi⟩:=hi
  unfold w6w
  refine Evt.cond (fun _=>Evt.chk (by omega) ?_) (fun e=>by replace e:=bx e;omega)
  have key:OkC (w5e s (k:Int))∧(k=0→97≤w5e s 0∧w5e s 0≤122)↔((97≤w5e s (k:Int)∧w5e s (k:Int)≤122)∨(0<(k:Int)∧(((48≤w5e s (k:Int)∧w5e s (k:Int)≤57)∨w5e s (k:Int)=95)∨w5e s (k:Int)=45))):=by
   unfold OkC
   by_cases hk0:k=0
   ·subst hk0
    simp only[Int.ofNat_zero,forall_const,Int.lt_irrefl,false_and,or_false]
    exact⟨fun h=>h.2,fun h=>⟨.inl h,h⟩⟩
   ·have:0<(k:Int):=by omega
    simp only[this,hk0,false_implies,and_true,true_and,or_assoc]
  refine Evt.cond (fun e=>Evt.pure ⟨rfl,fun hn=>?_⟩) (fun e=>Evt.pure ?_)
  ·have h2:=key.1 ⟨hn.2.2.2 k hk,fun h0=>hn.2.2.1⟩
   replace e:=bx e
   omega
  ·rw[w5h (by omega) (by omega)]
   refine⟨rfl,fun j hj=>?_⟩
   by_cases ej:j=k
   ·subst ej
    refine key.2 ?_
    replace e:=bx e
    omega
   ·exact hi j (by omega)
 ·obtain⟨rfl,hi⟩:=hi
  unfold w6w
  exact Evt.cond (fun e=>by replace e:=bx e;omega) (fun _=>Evt.pure hi)
 ·unfold w8j
  refine Evt.pure ?_
  by_cases h1:0<s.length
  ·by_cases h2:s.length≤30
   ·have:decide (0<(s.length:Int))=true:=decide_eq_true (by omega)
    have h3:decide ((s.length:Int)≤30)=true:=decide_eq_true (by omega)
    rw[this,h3]
    exact(x4C ⟨h1,h2,(ht 0 h1).2 rfl,fun k hk=>(ht k hk).1⟩).symm
   ·have h3:decide ((s.length:Int)≤30)=false:=decide_eq_false (by omega)
    rw[h3,w9U fun h=>h2 h.2.1]
    cases decide (0<(s.length:Int))<;>rfl
  ·have:decide (0<(s.length:Int))=false:=decide_eq_false (by omega)
   rw[this,w9U fun h=>h1 h.1]
   rfl
 ·rw[hr.1,w9U hr.2]
theorem x2H{l:List Bs}{k:Nat}(hk:k≤l.length){x:Bs}:x∈l.take k↔ ∃j,j<k∧Am.get l j=x:=by
 rw[w6G,List.length_take,Nat.min_eq_left hk]
 have hg:∀j,j<k→Am.get (l.take k) j=Am.get l j:=fun j hj=>by
  unfold Am.get
  rw[List.getD_eq_getElem?_getD,List.getD_eq_getElem?_getD,List.getElem?_take_of_lt hj]
 exact⟨fun⟨j,hj,e⟩=>⟨j,hj,by rw[←hg j hj];exact e⟩,fun⟨j,hj,e⟩=>⟨j,hj,by rw[hg j hj];exact e⟩⟩
mutual
theorem y1k:∀(f:w3T),WfF f→∀g∈w4z f,WfF g
 | .mk k n w s,h,g,hg=>by
   rw[y4T]at hg
   rcases List.mem_cons.1 hg with rfl|hg
   ·exact h
   ·exact y2A s ((x1W _).1 h).2 g hg
theorem y2A:∀(l:List w3T),x7k l→∀g∈w6e l,WfF g
 | [],_,g,hg=>by rw[w6e]at hg;cases hg
 |f::l,h,g,hg=>by
  rw[w6e]at hg
  rcases List.mem_append.1 hg with hg|hg
  ·exact y1k f (w6t.1 h f (List.mem_cons_self ..)) g hg
  ·exact y2A l (w6t.2 fun x hx=>w6t.1 h x (List.mem_cons_of_mem _ hx)) g hg
end
theorem x2Q.one{it:IT}{x:Bs}:x2Q [it] x↔ ∃m,m<it.words.length∧Am.get it.words m=x∧Am.get it.bound m=false:=by
 unfold x2Q;simp
theorem x7R(l m:List IT):qsI (l++m)=qsI l++qsI m:=List.flatMap_append
theorem y1l(it:IT):qsI [it]=if QK it.kind then [it.name]else []:=by unfold qsI;simp
theorem y9z(s9:Bool×Bool×Int)(R:List IT)(k:Nat)(names:List Bs)(i:Nat)(h9:s9.2.2=(i:Int))(hi:i<R.length)(hk:k<names.length)(hw:(Am.get R i).words.length≤3)(hbd:(Am.get R i).bound.length=(Am.get R i).words.length):
 Evt (fun n=>w4K (w4D s9 R (k:Int) names) n (s9.1,0)) (ExP (fun t=>t=true↔s9.1=true∨x2Q [Am.get R i] (Am.get names k)) (fun _=>False)):=by
 refine(Evt.x1P (Am.get R i).words.length (fun j s=>s.2=(j:Int)∧(s.1=true↔s9.1=true∨∃m,m<j∧Am.get (Am.get R i).words m=Am.get names k∧Am.get (Am.get R i).bound m=false)) _ _ ⟨rfl,by simp⟩ (fun j s hj hs=>?_) (fun s hs=>?_))
 ·obtain⟨hs1,hs2⟩:=hs
  unfold w4D
  rw[h9,hs1]
  simp only[Int.toNat_natCast]
  refine Evt.chk (by omega) (Evt.cond (fun _=>Evt.chk ⟨x5H fun _=>by omega,x5H fun _=>by omega⟩ (Evt.chk hk (Evt.chk ⟨x5H fun _=>by omega,x5H fun _=>by omega⟩ (Evt.pure ?_)))) (fun e=>by replace e:=bx e;omega))
  refine⟨by rw[w5h (by omega) (by omega)];omega,?_⟩
  have hx:(∃m,m<j+1∧Am.get (Am.get R i).words m=Am.get names k∧Am.get (Am.get R i).bound m=false)↔(∃m,m<j∧Am.get (Am.get R i).words m=Am.get names k∧Am.get (Am.get R i).bound m=false)∨(Am.get (Am.get R i).words j=Am.get names k∧Am.get (Am.get R i).bound j=false):=by
   constructor
   ·rintro⟨m,h1,h2⟩
    by_cases e:m=j
    ·subst e;exact .inr h2
    ·exact .inl ⟨m,by omega,h2⟩
   ·rintro(⟨m,h1,h2⟩|h2)
    ·exact⟨m,by omega,h2⟩
    ·exact⟨j,by omega,h2⟩
  rw[hx, ←or_assoc, ←hs2]
  cases s.1
  ·by_cases e:Am.get (Am.get R i).words j=Am.get names k
   ·cases Am.get (Am.get R i).bound j<;>simp[e]
   ·simp[e]
  ·simp
 ·obtain⟨hs1,hs2⟩:=hs
  unfold w4D
  rw[h9,hs1]
  simp only[Int.toNat_natCast]
  refine Evt.chk (by omega) (Evt.cond (fun e=>by replace e:=bx e;omega) (fun _=>Evt.pure ?_))
  rw[x2Q.one]
  exact hs2
def Seen(s:w3W)(R:List IT)(k i:Nat)(b1 b2:Bool):Prop:=
 (k<s.words.length→(b1=true↔x2Q (R.take i) (Am.get (vns s) k))∧b2=false)∧
 (¬k<s.words.length→(b1=true↔x5J ((w4z s.form).take i) (Am.get (vns s) k)∨x6s ((w4z s.form).take i) (Am.get (vns s) k))∧(b2=true↔x5J ((w4z s.form).take i) (Am.get (vns s) k)))
theorem z1E{s:w3W}(hok:OkF s.form)(k:Nat)(hk:k<(vns s).length):
 Evt (fun n=>w4K (w4L n (w9x s.form [] 0) (k:Int) s (vns s)) n (false,false,0)) (ExP (fun t=>Seen s (w9x s.form [] 0) k (ndF s.form) t.1 t.2) (fun _=>False)):=by
 have hrl:(w9x s.form [] 0).length=ndF s.form:=w9V _ _ _
 have h2:=hok.2.1
 refine Evt.x1P (ndF s.form) (fun i t=>t.2.2=(i:Int)∧Seen s (w9x s.form [] 0) k i t.1 t.2.1) _ _ ⟨rfl,?_⟩ (fun i t hi ht=>?_) (fun t ht=>?_)
 ·refine⟨fun _=>⟨?_,rfl⟩,fun _=>⟨?_,?_⟩⟩
  ·simp[x2Q.nil]
  ·simp[x5J,x6s]
  ·simp[x5J]
 ·obtain⟨ht1,ht2,ht3⟩:=ht
  have htl:=x5W s.form [] 0 i hi
  have hfl:i<(w4z s.form).length:=by rw[w7W];exact hi
  have hwf:=y1k _ hok.1 _ (get_mem hfl)
  have hwd:(Am.get (w9x s.form [] 0) i).words.length≤3:=by rw[htl.2.2.1];exact x6r hwf
  unfold w4L
  refine Evt.cond (fun _=>Evt.cond (fun e=>?_) (fun e=>?_)) (fun e=>by replace e:=bx e;omega)
  ·replace e:=bx e
   have hkw:k<s.words.length:=by omega
   refine Evt.w4h (y9z t _ k _ i ht1 (by omega) hk hwd (by rw[htl.2.2.1];exact htl.2.2.2.2)) (fun u hu=>?_) (fun _ h=>h.elim)
   unfold w5M
   refine Evt.pure ⟨by show wr .i64 (t.2.2+1)=_;rw[ht1,w5h (by omega) (by omega)];omega,fun _=>⟨?_,(ht2 hkw).2⟩,fun h=>absurd hkw h⟩
   rw[w4C (by omega),x2Q.app, ←(ht2 hkw).1]
   exact hu
  ·replace e:=bx e
   have hkw:¬k<s.words.length:=by omega
   have h9:t.2.2=(i:Int):=ht1
   simp only[h9,Int.toNat_natCast]
   refine Evt.chk (by omega) (Evt.chk hk (Evt.cond (fun e=>Evt.pure ?_) (fun e=>Evt.pure ?_)))
   ·replace e:=bx e
    refine⟨by show wr .i64 ((i:Int)+1)=_;rw[w5h (by omega) (by omega)];omega,fun h=>absurd h hkw,fun _=>?_⟩
    rw[htl.1,htl.2.1]at e
    simp only[w4C hfl,x5J.app,x6s.app,x5J.one,x6s.one]
    refine⟨iff_of_true trivial ?_,?_⟩
    ·rcases Nat.eq_zero_or_pos (Am.get (w4z s.form) i).words.length with h|h
     ·exact .inr (.inr ⟨e.1,e.2,h⟩)
     ·exact .inl (.inr ⟨e.1,e.2,h⟩)
    ·rw[←(ht3 hkw).2,htl.2.2.1]
     cases t.2.1<;>simp[e.1,e.2]
   ·refine⟨by show wr .i64 ((i:Int)+1)=_;rw[w5h (by omega) (by omega)];omega,fun h=>absurd h hkw,fun _=>?_⟩
    rw[htl.1,htl.2.1]at e
    have hn:¬((Am.get (w4z s.form) i).kind=2∧(Am.get (w4z s.form) i).name=Am.get (vns s) k):=fun h=>by simp[h.1,h.2]at e
    simp only[w4C hfl,x5J.app,x6s.app,x5J.one,x6s.one]
    have n1:¬((Am.get (w4z s.form) i).kind=2∧(Am.get (w4z s.form) i).name=Am.get (vns s) k∧0<(Am.get (w4z s.form) i).words.length):=fun h=>hn ⟨h.1,h.2.1⟩
    have n2:¬((Am.get (w4z s.form) i).kind=2∧(Am.get (w4z s.form) i).name=Am.get (vns s) k∧(Am.get (w4z s.form) i).words.length=0):=fun h=>hn ⟨h.1,h.2.1⟩
    simp only[n1,n2,or_false]
    exact ht3 hkw
 ·obtain⟨ht1,ht2⟩:=ht
  unfold w4L
  refine Evt.cond (fun e=>by replace e:=bx e;omega) (fun _=>Evt.pure ht2)
theorem z1F{s:w3W}(hb:SB s)(hok:OkF s.form)(h300:(vns s).length≤300):
 Evt (fun n=>w4K (w4M n (vns s) (w9x s.form [] 0) s) n 0) (ExP (fun _=>∀j,j<(vns s).length→w7L s j=0) (fun r=>FB (w7L s) (vns s).length r)):=by
 have hvl:=x0o s
 have hwl:wr .i64 ((s.words.length:Int)+(s.w4a.length:Int))=((s.words.length+s.w4a.length:Nat):Int):=by rw[w5h (by omega) (by omega)];omega
 refine Evt.x1P (vns s).length (fun k i=>i=(k:Int)∧∀j,j<k→w7L s j=0) _ _ ⟨rfl,fun j hj=>absurd hj (Nat.not_lt_zero _)⟩ (fun k i hk hi=>?_) (fun i hi=>?_)
 ·obtain⟨rfl,hi⟩:=hi
  have bad:∀c:Int,c≠0→w7L s k=c→y3C (fun i=>i=((k+1:Nat):Int)∧∀j,j<k+1→w7L s j=0) (fun _:Unit=>∀j,j<(vns s).length→w7L s j=0) (fun r=>FB (w7L s) (vns s).length r) (Ctl.ret ⟨c,(k:Int)⟩):=fun c hc h=>⟨k,hk,hi,by rw[h];exact hc,by rw[h]⟩
  have good:w7L s k=0→y3C (fun i=>i=((k+1:Nat):Int)∧∀j,j<k+1→w7L s j=0) (fun _:Unit=>∀j,j<(vns s).length→w7L s j=0) (fun r=>FB (w7L s) (vns s).length r) (Ctl.nxt (wr .i64 ((k:Int)+1))):=fun h=>⟨by rw[w5h (by omega) (by omega)];omega,fun j hj=>by
   by_cases ej:j=k
   ·subst ej;exact h
   ·exact hi j (by omega)⟩
  unfold w4M
  refine Evt.cond (fun _=>Evt.chk (by omega) ?_) (fun e=>by replace e:=bx e;omega)
  simp only[Int.toNat_natCast]
  refine Evt.bind (x8m (hb.2.2.2 _ (get_mem hk))) fun v hv=>Evt.cond (fun e=>Evt.pure (bad 10 (by decide) ?_)) (fun e=>?_)
  ·replace e:=bx e
   have:¬w4J (Am.get (vns s) k):=fun h=>by rw[(x1l hv).2 h]at e;cases e
   unfold w7L;rw[if_pos this]
  replace e:=bx e
  have s1:¬ ¬w4J (Am.get (vns s) k):=fun h=>h ((x1l hv).1 e)
  refine Evt.w4h (Evt.x1P k (fun j i=>i=(j:Int)∧∀m,m<j→Am.get (vns s) m≠Am.get (vns s) k) (fun _=>Am.get (vns s) k∉ (vns s).take k) (fun r=>Am.get (vns s) k∈(vns s).take k∧r=Ctl.ret ⟨7,(k:Int)⟩) ⟨rfl,fun j hj=>absurd hj (Nat.not_lt_zero _)⟩ (fun j i hj hs=>?_) (fun i hs=>?_)) (fun t ht=>?_) (fun r hr=>?_)
  ·obtain⟨rfl,hs⟩:=hs
   unfold w5i
   simp only[Int.toNat_natCast]
   refine Evt.cond (fun _=>Evt.chk (by omega) (Evt.cond (fun e=>Evt.pure ?_) (fun e=>Evt.pure ?_))) (fun e=>by replace e:=bx e;omega)
   ·replace e:=bx e
    exact⟨(x2H (by omega)).2 ⟨j,hj,e⟩,rfl⟩
   ·replace e:=bx e
    rw[w5h (by omega) (by omega)]
    refine⟨by omega,fun m hm=>?_⟩
    by_cases em:m=j
    ·subst em;exact e
    ·exact hs m (by omega)
  ·obtain⟨rfl,hs⟩:=hs
   unfold w5i
   refine Evt.cond (fun e=>by replace e:=bx e;omega) (fun _=>Evt.pure fun h=>?_)
   obtain⟨j,hj,e⟩:=(x2H (by omega)).1 h
   exact hs j hj e
  ·have s2:Am.get (vns s) k∉ (vns s).take k:=ht
   unfold w5R
   refine Evt.w4h (z1E hok k hk) (fun u hu=>?_) (fun _ h=>h.elim)
   obtain⟨hu1,hu2⟩:=hu
   have hrt:(w9x s.form [] 0).take (ndF s.form)=w9x s.form [] 0:=by rw[←w9V s.form [] 0,List.take_length]
   have hft:(w4z s.form).take (ndF s.form)=w4z s.form:=by rw[←w7W,List.take_length]
   rw[hrt,y2z]at hu1
   rw[hft]at hu2
   unfold w5S
   rw[hwl]
   refine Evt.cond (fun e=>Evt.pure (bad 5 (by decide) ?_)) (fun e=>Evt.cond (fun e2=>Evt.pure (bad 15 (by decide) ?_)) (fun e2=>Evt.pure (good ?_)))
   ·replace e:=bx e
    have s3:¬k<s.words.length:=by omega
    have s4:¬k<s.words.length+s.w4a.length:=by omega
    unfold w7L;rw[if_neg s1,if_neg s2,if_neg s3,if_neg s4,if_pos ((hu2 s3).2.1 e.2)]
   ·have e2:u.1=false:=by simpa using e2
    unfold w7L;rw[if_neg s1,if_neg s2]
    by_cases s3:k<s.words.length
    ·have:=(hu1 s3).1
     rw[if_pos s3,if_neg fun h=>by rw[this.2 h]at e2;cases e2]
    ·have:=(hu2 s3).1
     have hn:¬(x5J (w4z s.form) (Am.get (vns s) k)∨x6s (w4z s.form) (Am.get (vns s) k)):=fun h=>by rw[this.2 h]at e2;cases e2
     rw[if_neg s3]
     by_cases s4:k<s.words.length+s.w4a.length
     ·rw[if_pos s4,if_neg hn]
     ·rw[if_neg s4,if_neg fun h=>hn (.inl h),if_neg fun h=>hn (.inr h)]
   ·have e2:u.1=true:=by simpa using e2
    unfold w7L;rw[if_neg s1,if_neg s2]
    by_cases s3:k<s.words.length
    ·rw[if_pos s3,if_pos ((hu1 s3).1.1 e2)]
    ·have h:=(hu2 s3).1.1 e2
     rw[if_neg s3]
     by_cases s4:k<s.words.length+s.w4a.length
     ·rw[if_pos s4,if_pos h]
     ·have h5:¬x5J (w4z s.form) (Am.get (vns s) k):=fun h5=>by
       have h6:=(hu2 s3).2.2 h5
       rw[h6]at e
       have:decide (((s.words.length+s.w4a.length:Nat):Int)≤(k:Int))=true:=by simp;omega
       rw[this]at e;cases e
      rw[if_neg s4,if_neg h5,if_pos (h.resolve_left h5)]
  ·obtain⟨hm,rfl⟩:=hr
   refine bad 7 (by decide) ?_
   unfold w7L;rw[if_neg s1,if_pos hm]
 ·obtain⟨rfl,hi⟩:=hi
  unfold w4M
  exact Evt.cond (fun e=>by replace e:=bx e;omega) (fun _=>Evt.pure hi)
theorem y7O{l:List Bs}{x:Bs}{m:List Bs}:Am.get (l++x::m) l.length=x∧(l++x::m).take l.length=l:=by
 refine⟨?_,by simp⟩
 unfold Am.get;simp
theorem y9A{s:w3W}(hb:SB s)(hok:OkF s.form):
 Evt (fun n=>w4K (w4E n (w9x s.form [] 0) s) n ([],0)) (ExP (fun _=>QOk s) (fun r=>r=⟨7, -1⟩∧¬QOk s)):=by
 have hrl:(w9x s.form [] 0).length=ndF s.form:=w9V _ _ _
 have h2:=hok.2.1
 have hq:qs s.form=qsI (w9x s.form [] 0):=(y3N _ _ _).symm
 have hql:(qs s.form).length≤200:=by rw[x6q];have:=x7P s.form;omega
 have hpre:∀i,qs s.form=qsI ((w9x s.form [] 0).take i)++qsI ((w9x s.form [] 0).drop i):=fun i=>by rw[←x7R,List.take_append_drop];exact hq
 refine Evt.x1P (ndF s.form) (fun i t=>t=(qsI ((w9x s.form [] 0).take i),(i:Int))∧∀k,k<(qsI ((w9x s.form [] 0).take i)).length→Am.get (qs s.form) k∉ (qs s.form).take k∧Am.get (qs s.form) k∉s.words) _ _ ⟨by simp[qsI],fun k hk=>by simp[qsI]at hk⟩ (fun i t hi ht=>?_) (fun t ht=>?_)
 ·obtain⟨rfl,ht⟩:=ht
  have hll:(qsI ((w9x s.form [] 0).take i)).length≤200:=by have:=congrArg List.length (hpre i);rw[List.length_append]at this;omega
  unfold w4E
  simp only[Int.toNat_natCast]
  refine Evt.cond (fun _=>Evt.chk (by omega) ?_) (fun e=>by replace e:=bx e;omega)
  refine Evt.cond (fun e=>?_) (fun e=>Evt.pure ?_)
  ·replace e:=bx e
   have hqk:QK (Am.get (w9x s.form [] 0) i).kind:=e
   have hsn:qsI ((w9x s.form [] 0).take (i+1))=qsI ((w9x s.form [] 0).take i)++[(Am.get (w9x s.form [] 0) i).name]:=by rw[w4C (by omega),x7R,y1l,if_pos hqk]
   have hx:=hpre (i+1)
   rw[hsn,List.append_assoc,List.singleton_append]at hx
   have hg:Am.get (qs s.form) (qsI ((w9x s.form [] 0).take i)).length=(Am.get (w9x s.form [] 0) i).name:=by rw[hx];exact y7O.1
   have ht2:(qs s.form).take (qsI ((w9x s.form [] 0).take i)).length=qsI ((w9x s.form [] 0).take i):=by rw[hx];exact y7O.2
   have hlt:(qsI ((w9x s.form [] 0).take i)).length<(qs s.form).length:=by rw[hx];simp
   refine Evt.bind (y7M _ _ (by omega)) fun v hv=>Evt.bind (P:=fun w=>¬0≤v→y0z s.words (Am.get (w9x s.form [] 0) i).name w) (Evt.gd (fun _=>(x1m _ _ (by have:=hb.1;omega)).mono fun w hw _=>hw) (fun g h=>by simp at g;omega)) fun w hw=>?_
   refine Evt.cond (fun e=>Evt.pure ⟨rfl,fun h=>?_⟩) (fun e=>Evt.w6m (Evt.chk ?_ (Evt.pure ?_)))
   ·obtain⟨k1,k2⟩:=h _ hlt
    rw[hg,ht2]at k1
    rw[hg]at k2
    have n1:¬0≤v:=fun h=>k1 (hv.mem.1 h)
    have n2:¬0≤w:=fun h=>k2 ((hw n1).mem.1 h)
    simp[n1,n2]at e
   ·rw[w6d,List.length_append,List.length_singleton];omega
   ·have n1:¬0≤v:=fun h=>by simp[h]at e
    have n2:¬0≤w:=fun h=>by simp[h]at e
    refine⟨by rw[hsn,w5h (by omega) (by omega)];rfl,fun k hk=>?_⟩
    rw[hsn,List.length_append,List.length_singleton]at hk
    by_cases ek:k=(qsI ((w9x s.form [] 0).take i)).length
    ·subst ek
     rw[hg,ht2]
     exact⟨fun h=>n1 (hv.mem.2 h),fun h=>n2 ((hw n1).mem.2 h)⟩
    ·exact ht k (by omega)
  ·replace e:=bx e
   have hqk:¬QK (Am.get (w9x s.form [] 0) i).kind:=fun h=>by rcases h with h|h<;>simp[h]at e
   have hsn:qsI ((w9x s.form [] 0).take (i+1))=qsI ((w9x s.form [] 0).take i):=by rw[w4C (by omega),x7R,y1l,if_neg hqk,List.append_nil]
   refine⟨by rw[hsn,w5h (by omega) (by omega)];rfl,?_⟩
   rw[hsn];exact ht
 ·obtain⟨rfl,ht⟩:=ht
  unfold w4E
  refine Evt.cond (fun e=>by replace e:=bx e;omega) (fun _=>Evt.pure ?_)
  have hrt:(w9x s.form [] 0).take (ndF s.form)=w9x s.form [] 0:=by rw[←hrl,List.take_length]
  rw[hrt, ←hq]at ht
  exact ht
theorem x9Z{s:w3W}(hb:SB s):Evt (fun n=>w5G n s) (y7N s):=by
 have hvl:=x0o s
 obtain⟨b1,b2,b3,_⟩:=id hb
 unfold w5G
 refine Evt.bind (x8l s.form) fun v hv=>?_
 subst hv
 refine Evt.cond (fun e=>Evt.pure (.inl ⟨fun h=>?_,rfl⟩)) (fun e=>?_)
 ·rw[y2t h]at e;simp at e
 replace e:=bx e
 have hok:OkF s.form:=(x4Z _).1 e
 have hw:wr .i64 (wr .i64 ((s.words.length:Int)+(s.w4a.length:Int))+(s.parts.length:Int))=((vns s).length:Int):=by
  rw[w5h (n:=(s.words.length:Int)+(s.w4a.length:Int)) (by omega) (by omega),w5h (by omega) (by omega)];omega
 rw[hw]
 refine Evt.cond (fun e=>?_) (fun e=>?_)
 ·replace e:=bx e
  exact Evt.pure (.inr (.inl ⟨hok,by omega,rfl⟩))
 replace e:=bx e
 have h300:(vns s).length≤300:=by omega
 refine Evt.w4h (y2u s.words _ (fun _=>rfl) [] (by simp;omega)) (fun t ht=>?_) (fun _ h=>h.elim)
 unfold w5T
 have ht:t=s.words:=ht
 subst ht
 refine Evt.w4h (y2u s.w4a _ (fun _=>rfl) s.words (by omega)) (fun t ht=>?_) (fun _ h=>h.elim)
 unfold w5U
 have ht:t=s.words++s.w4a:=ht
 subst ht
 refine Evt.w4h (y2u s.parts _ (fun _=>rfl) (s.words++s.w4a) (by rw[List.length_append];omega)) (fun t ht=>?_) (fun _ h=>h.elim)
 unfold w5V
 have ht:t=vns s:=ht
 subst ht
 refine Evt.bind (x8F hok.1 [] (by have:=hok.2.1;omega) (by simp)) fun v hv=>?_
 subst hv
 refine Evt.w4h (z1F hb hok h300) (fun t ht=>?_) (fun r hr=>.inr (.inr (.inl ⟨hok,h300,hr⟩)))
 unfold w5W
 refine Evt.w4h (y9A hb hok) (fun u hu=>?_) (fun r hr=>.inr (.inr (.inr (.inl ⟨hok,h300,ht,hr.2,hr.1⟩))))
 exact Evt.pure (.inr (.inr (.inr (.inr ⟨⟨hok,h300,ht,hu⟩,rfl⟩))))
def dval(l:Bs):Nat:=l.foldl (fun a c=>10*a+(c.toNat-48)) 0
theorem y4V(u:Nat):dval (Lib.decDigits u)=u:=by
 induction u using Nat.strongRecOn with
 | _ u ih=>
   by_cases h:u<10
   ·rw[Lib.decDigits,dif_pos h]
    unfold dval
    simp only[List.foldl_cons,List.foldl_nil,UInt8.toNat_ofNat']
    omega
   ·rw[Lib.decDigits,dif_neg h]
    unfold dval
    rw[List.foldl_append]
    have:=ih (u / 10) (by omega)
    unfold dval at this
    rw[this]
    simp only[List.foldl_cons,List.foldl_nil,UInt8.toNat_ofNat']
    omega
theorem y7P{u v:Nat}(h:Lib.decDigits u=Lib.decDigits v):u=v:=by rw[←y4V u,h,y4V]
def vn(m:Nat):Bs:=118::Lib.decDigits m
theorem z3Y{u v:Nat}(h:vn u=vn v):u=v:=y7P (List.cons.inj h).2
def mk(m:Nat):Bs:=33::Lib.decDigits m
theorem mk_inj{u v:Nat}(h:mk u=mk v):u=v:=y7P (List.cons.inj h).2
theorem y7Q{m:Nat}:¬w4J (mk m):=fun h=>by
 have:=h.2.2.1.1
 simp[w5e,mk]at this
theorem x6D{m:Nat}(h:m≤1000000000):(Lib.decDigits m).length≤21:=by
 have:=Lib.itoa_length_le (m:Int) (by omega) (by omega)
 rwa[Lib.itoa_nonneg]at this
theorem x7m{m:Nat}(hm:m≤1000000000):Evt (fun n=>w5b n (m:Int)) (fun r=>r=Lib.decDigits m):=by
 unfold w5b
 have hl:=x6D hm
 refine Evt.w4h (Evt.loop (fun s:Int×Bs=>s.1.toNat) (fun s=>∃q:Nat,s.1=(q:Int)∧q≤m∧Lib.decDigits m=Lib.decDigits q++s.2) (fun _=>False) (fun r=>r=Lib.decDigits m) ⟨m,rfl,Nat.le_refl _,by simp⟩ (fun s hs=>?_)) (fun t ht=>ht.elim) (fun r hr=>hr)
 obtain⟨q,hq,hqm,hd⟩:=hs
 unfold w7y
 have h1:Int.tmod s.1 10=((q%10:Nat):Int):=by rw[hq];rfl
 have h2:Int.tdiv s.1 10=((q / 10:Nat):Int):=by rw[hq];rfl
 have h3:wr .u8 (wr .i64 (48+((q%10:Nat):Int)))=((48+q%10:Nat):Int):=by
  have e64:wr .i64 (48+((q%10:Nat):Int))=48+((q%10:Nat):Int):=w5h (by omega) (by omega)
  rw[e64]
  have:wr .u8 ((48+q%10:Nat):Int)=((48+q%10:Nat):Int):=by
   have:q%10<10:=Nat.mod_lt _ (by decide)
   show((48+q%10:Nat):Int)%256=_
   omega
  rw[←this];rfl
 rw[h1,h2,h3]
 simp only[Int.toNat_natCast]
 have hl2:(Lib.decDigits q).length+s.2.length≤21:=by rw[←List.length_append, ←hd];exact hl
 refine Evt.chk (by unfold w8R;simp;omega) (Evt.chk ⟨by show -9223372036854775808≤_;omega,by show _≤(9223372036854775807:Int);omega⟩ (Evt.cond (fun e=>Evt.pure ?_) (fun e=>Evt.pure ?_)))
 ·replace e:=bx e
  have hlt:q<10:=by omega
  show x5Z [UInt8.ofNat (48+q%10)] s.2=_
  rw[hd,Lib.decDigits,dif_pos hlt,Nat.mod_eq_of_lt hlt];rfl
 ·replace e:=bx e
  have hge:¬q<10:=fun h=>e (by omega)
  refine⟨⟨q / 10,rfl,by omega,?_⟩,?_⟩
  ·rw[hd,Lib.decDigits,dif_neg hge,List.append_assoc];rfl
  ·show(((q / 10:Nat):Int)).toNat<s.1.toNat
   rw[hq,Int.toNat_natCast,Int.toNat_natCast];omega
def y8v(p:Bs→Prop)(j m:Nat):Prop:=j≤m∧¬p (vn m)∧∀k,j≤k→k<m→p (vn k)
theorem y8v.uniq{p:Bs→Prop}{j m m':Nat}(h:y8v p j m)(h':y8v p j m'):m=m':=by
 rcases Nat.lt_trichotomy m m' with e|e|e
 ·exact absurd (h'.2.2 m h.1 e) h.2.1
 ·exact e
 ·exact absurd (h.2.2 m' h'.1 e) h'.2.1
theorem y8v.congr{p q:Bs→Prop}(hpq:∀x,p x↔q x){j m:Nat}(h:y8v p j m):y8v q j m:=⟨h.1,fun e=>h.2.1 ((hpq _).2 e),fun k a b=>(hpq _).1 (h.2.2 k a b)⟩
theorem y4W:∀(n:Nat) (C:List Bs) (g:Nat→Bs),C.length=n→(∀i j,g i=g j→i=j)→∃m,m≤n∧g m∉C
 |0,C,g,h,_=>⟨0,Nat.le_refl _,by rw[List.length_eq_zero_iff.1 h];exact List.not_mem_nil⟩
 |n+1,C,g,h,hg=>by
  by_cases hm:g (n+1)∈C
  ·obtain⟨m,h1,h2⟩:=y4W n (C.erase (g (n+1))) g (by rw[List.length_erase_of_mem hm,h];rfl) hg
   refine⟨m,by omega,fun h3=>h2 ((List.mem_erase_of_ne fun e=>?_).2 h3)⟩
   have:=hg _ _ e
   omega
  ·exact⟨n+1,Nat.le_refl _,hm⟩
theorem z3Z{p:Bs→Prop}{C:List Bs}(hC:∀x,p x→x∈C)(j:Nat):∃m,y8v p j m∧m≤j+C.length:=by
 obtain⟨m,h1,h2⟩:=y4W _ C (fun i=>vn (j+i)) rfl (fun a b e=>by have:=z3Y e;omega)
 have key:∀d j,(∃m,j≤m∧m≤j+d∧¬p (vn m))→∃m,y8v p j m∧m≤j+d:=by
  intro d
  induction d with
  |zero=>
   rintro j ⟨m,a,b,c⟩
   obtain rfl:m=j:=by omega
   exact⟨m,⟨Nat.le_refl _,c,fun k a b=>absurd a (by omega)⟩,by omega⟩
  |succ d ih=>
   rintro j ⟨m,a,b,c⟩
   by_cases hp:p (vn j)
   ·have hne:j≠m:=fun e=>c (e▸hp)
    obtain⟨m',e1,e2⟩:=ih (j+1) ⟨m,by omega,by omega,c⟩
    refine⟨m',⟨by have:=e1.1;omega,e1.2.1,fun k a b=>?_⟩,by omega⟩
    by_cases ek:k=j
    ·rw[ek];exact hp
    ·exact e1.2.2 k (by omega) b
   ·exact⟨j,⟨Nat.le_refl _,hp,fun k a b=>absurd a (by omega)⟩,by omega⟩
 exact key _ j ⟨j+m,by omega,by omega,fun hp=>h2 (hC _ hp)⟩
open Classical in
noncomputable def nx(p:Bs→Prop)(j:Nat):Nat:=Classical.epsilon fun m=>y8v p j m
theorem y9B{p:Bs→Prop}{C:List Bs}(hC:∀x,p x→x∈C)(j:Nat):y8v p j (nx p j):=Classical.epsilon_spec ((z3Z hC j).imp fun _ h=>h.1)
theorem z1G{p:Bs→Prop}{C:List Bs}(hC:∀x,p x→x∈C)(j:Nat):nx p j≤j+C.length:=by
 obtain⟨m,h1,h2⟩:=z3Z hC j
 rw[(y9B hC j).uniq h1];exact h2
noncomputable def num(p:Bs→Prop):Nat→Nat
 |0=>nx p 0
 |i+1=>nx p (num p i+1)
noncomputable def NN(p:Bs→Prop)(i:Nat):Bs:=vn (num p i)
theorem y4X{p:Bs→Prop}{C:List Bs}(hC:∀x,p x→x∈C)(L:Nat)(hL:C.length≤L):∀i,num p i≤(i+1)*(L+1)
 |0=>by have:=z1G hC 0;show nx p 0≤_;omega
 |i+1=>by
  have:=z1G hC (num p i+1)
  have:=y4X hC L hL i
  show nx p (num p i+1)≤_
  rw[Nat.succ_mul (i+1)]
  omega
def x6E(K V:Nat→Bs):Nat→List (Bs×Bs)
 |0=>[]
 |k+1=>(K k,V k)::x6E K V k
theorem x6F{K K' V V':Nat→Bs}:∀ {n:Nat},(∀k,k<n→K k=K' k∧V k=V' k)→x6E K V n=x6E K' V' n
 |0,_=>rfl
 |n+1,h=>by rw[x6E,x6E,(h n (by omega)).1,(h n (by omega)).2,x6F fun k hk=>h k (by omega)]
theorem z4a{ρ:Type}(K V:Nat→Bs)(L:Nat)(hL:L≤8000000)(w:Bs)(body:Int→Option (Ctl ρ Int Bs))(hb:∀k,k<L→body (k:Int)=bif decide (K k=w)then some (.brk (V k))else some (.nxt (wr .i64 ((k:Int)-1))))(h0:body (-1)=some (.brk w)):
 Evt (fun n=>w4K body n (wr .i64 ((L:Int)-1))) (ExP (fun t=>t=sub (x6E K V L) w) (fun _=>False)):=by
 have hw:wr .i64 ((L:Int)-1)=(L:Int)-1:=w5h (by omega) (by omega)
 rw[hw]
 refine Evt.x1P L (fun k s=>∃m:Nat,s=(m:Int)-1∧m+k=L∧sub (x6E K V L) w=sub (x6E K V m) w) _ _ ⟨L,rfl,rfl,rfl⟩ (fun k s hk hs=>?_) (fun s hs=>?_)
 ·obtain⟨m,rfl,hm,he⟩:=hs
  obtain⟨m,rfl⟩:∃j,m=j+1:=⟨m-1,by omega⟩
  have e1:((m+1:Nat):Int)-1=(m:Int):=by omega
  rw[e1,hb m (by omega)]
  refine Evt.cond (fun e=>Evt.pure ?_) (fun e=>Evt.pure ?_)
  ·replace e:=bx e
   show V m=_
   rw[he,x6E,x2s,if_pos e]
  ·replace e:=bx e
   refine⟨m,w5h (by omega) (by omega),by omega,?_⟩
   rw[he,x6E,x2s,if_neg e]
 ·obtain⟨m,rfl,hm,he⟩:=hs
  obtain rfl:m=0:=by omega
  show Evt (fun _=>body (-1)) _
  rw[h0]
  refine Evt.pure ?_
  rw[he,x6E,y3J]
  exact rfl
theorem x8G:∀(l:List w3T) (x:w3T),nqL (l++[x])=nqL l+nq x
 | [],x=>by simp[nqL]
 |a::l,x=>by rw[List.cons_append,nqL,nqL,x8G l x,Nat.add_assoc]
theorem y4Y{l:List w3T}{k:Nat}(h:k<l.length):nqL (l.take k)+nq (Am.get l k)≤nqL l:=by
 have e:l=l.take (k+1)++l.drop (k+1):=(List.take_append_drop _ _).symm
 have:∀(l m:List w3T),nqL (l++m)=nqL l+nqL m:=fun l m=>by
  induction l with
  |nil=>simp[nqL]
  |cons a l ih=>rw[List.cons_append,nqL,nqL,ih,Nat.add_assoc]
 rw[←x8G, ←w4C h]
 have:=this (l.take (k+1)) (l.drop (k+1))
 rw[←e]at this
 omega
theorem x9E(N:Nat→Bs):∀(l:List w3T) (x:w3T) (env:List (Bs×Bs)) (i:Nat),x2K N (l++[x]) env i=x2K N l env i++[ren N x env (i+nqL l)]
 | [],x,env,i=>by simp[x2K,nqL]
 |a::l,x,env,i=>by rw[List.cons_append,x2K,x2K,x9E N l x,nqL,Nat.add_assoc];rfl
theorem z1H{m:Nat}(hm:m≤1000000000):itoa (m:Int)=some (Lib.decDigits m):=by
 unfold itoa
 rw[x9t (by omega),Lib.itoa_nonneg]
theorem y7R{C:List Bs}{p:Bs→Prop}(hC:∀x,x∈C↔p x){b:Nat}(hb:b+C.length≤100000000):Evt (fun n=>x1Y n (b:Int) C) (fun r=>r=(vn (nx p b),((nx p b+1:Nat):Int))):=by
 unfold x1Y
 have h:=y9B (fun x=>(hC x).2) b
 have hle:=z1G (fun x=>(hC x).2) b
 have step:∀m:Nat,m≤100000000→x0h C (m:Int)=bif (!decide (vn m∈C))then some (.ret (vn m,((m+1:Nat):Int)))else some (.nxt ((m+1:Nat):Int)):=fun m hm=>by
  unfold x0h
  have hl:=x6D (m:=m) (by omega)
  have hw:wr .i64 ((m:Int)+1)=((m+1:Nat):Int):=by rw[w5h (by omega) (by omega)];rfl
  have e:x5Z [118] (Lib.decDigits m)=vn m:=rfl
  rw[z1H (by omega),Option.bind_some,x9t (show w8R _ _ by unfold w8R;simp;omega),e,w9R,Option.bind_some,hw]
 refine Evt.w4h (Evt.x1P (nx p b-b) (fun k s=>s=((b+k:Nat):Int)) (fun _=>False) (fun r=>r=(vn (nx p b),((nx p b+1:Nat):Int))) rfl (fun k s hk hs=>?_) (fun s hs=>?_)) (fun _ ht=>ht.elim) (fun r hr=>hr)
 ·subst hs
  rw[step _ (by omega)]
  have hm:vn (b+k)∈C:=(hC _).2 (h.2.2 _ (by omega) (by omega))
  simp only[hm,decide_true,Bool.not_true,cond_false]
  exact Evt.pure rfl
 ·subst hs
  have e:b+(nx p b-b)=nx p b:=by have:=h.1;omega
  rw[e,step _ (by omega)]
  have hm:vn (nx p b)∉C:=fun hm=>h.2.1 ((hC _).1 hm)
  simp only[hm,decide_false,Bool.not_false,cond_true]
  exact Evt.pure rfl
def y3P(env:List w4d):List (Bs×Bs):=x6E (fun k=>(Am.get env k).from_) (fun k=>(Am.get env k).to_) env.length
theorem x8H{α:Type}[Inhabited α](l:List α)(x:α):Am.get (l++[x]) l.length=x∧∀k,k<l.length→Am.get (l++[x]) k=Am.get l k:=by
 unfold Am.get
 refine⟨by simp,fun k hk=>?_⟩
 rw[List.getD_eq_getElem?_getD,List.getD_eq_getElem?_getD,List.getElem?_append_left hk]
theorem y7S(env:List w4d)(a b:Bs):y3P (env++[⟨a,b⟩])=(a,b)::y3P env:=by
 unfold y3P
 rw[List.length_append,List.length_singleton,x6E,(x8H env _).1]
 congr 1
 exact x6F fun k hk=>by rw[(x8H env _).2 k hk];exact⟨rfl,rfl⟩
theorem y5L{p:Bs→Prop}{C:List Bs}(hC:∀x,x∈C↔p x)(hCl:C.length≤10000):∀(m:Nat) (f:w3T),SizeOf.sizeOf f≤m→WfF f→∀(env:List w4d) (i b:Nat),env.length+ndF f≤100000→i+nq f≤1000→nx p b=num p i→
 Evt (fun n=>w6r n f env (b:Int) C) (fun r=>r.1=ren (NN p) f (y3P env) i∧∃b':Nat,r.2=(b':Int)∧nx p b'=num p (i+nq f)):=by
 intro m
 have hC2:∀x,p x→x∈C:=fun x=>(hC x).2
 induction m with
 |zero=>intro f h;cases f;simp only[w3T.mk.sizeOf_spec]at h;omega
 |succ m ih=>
  intro f hf hwf env i b y8w hi hb
  have hnd:=x3y f
  have hws:=x6r hwf
  have hsl:=x5a hwf
  have hnq:=z3U f
  refine Evt.succ ?_
  simp only[w6r]
  refine Evt.w4h (P:=ExP (fun t=>t=f.words.map (sub (y3P env))) (fun _=>False)) ((Evt.range (fun k s=>s=(f.words.take k).map (sub (y3P env))) (fun _=>False) (fun _=>False) (by simp) (fun k s hk hs=>?_)).mono fun e he=>?_) (fun t ht=>?_) (fun _ h=>h.elim)
  ·unfold x0R
   refine Evt.w4h (z4a (fun k=>(Am.get env k).from_) (fun k=>(Am.get env k).to_) env.length (by omega) (Am.get f.words k) (w9M env f k) (fun j hj=>?_) rfl) (fun t ht=>?_) (fun _ h=>h.elim)
   ·unfold w9M
    have e1:decide (0≤(j:Int))=true:=decide_eq_true (by omega)
    rw[e1,cond_true,x9t (by omega)]
    rfl
   ·unfold x0S
    refine Evt.w6m (Evt.chk ?_ (Evt.pure ?_))
    ·subst hs
     rw[w6d];simp only[List.length_append,List.length_map,List.length_take,List.length_cons,List.length_nil];omega
    ·show _=_
     have ht:t=sub (y3P env) (Am.get f.words k):=ht
     rw[hs,ht,w4C hk,List.map_append];rfl
  ·cases e with
   |ret r=>exact he
   |nxt t=>
    have:=he.elim id False.elim
    rw[List.take_length]at this
    exact this
  ·subst ht
   have key:∀(env':List w4d) (nm:Bs) (j c:Nat),nm=(if QK f.kind then NN p i else f.name)→y3P env'=(if QK f.kind then(f.name,NN p i)::y3P env else y3P env)→j=i+(if QK f.kind then 1 else 0)→nx p c=num p j→env'.length≤env.length+1→
    Evt (fun n=>w8y (w6r n) f C (f.words.map (sub (y3P env))) ((c:Int),nm,env')) (fun r=>r.1=ren (NN p) f (y3P env) i∧∃b':Nat,r.2=(b':Int)∧nx p b'=num p (i+nq f)):=by
    intro env' nm j c hnm z1I hj hc hlen
    have hjn:j+nqL f.subs=i+nq f:=by omega
    unfold w8y
    refine Evt.w4h (P:=ExP (fun t=>t.2=x2K (NN p) f.subs (y3P env') j∧∃b':Nat,t.1=(b':Int)∧nx p b'=num p (j+nqL f.subs)) (fun _=>False)) ((Evt.range (fun k s=>s.2=x2K (NN p) (f.subs.take k) (y3P env') j∧∃b':Nat,s.1=(b':Int)∧nx p b'=num p (j+nqL (f.subs.take k))) (fun _=>False) (fun _=>False) ⟨by simp[x2K],c,rfl,by simpa[nqL]using hc⟩ (fun k s hk hs=>?_)).mono fun e he=>?_) (fun t ht=>?_) (fun _ h=>h.elim)
    ·obtain⟨hs1,b',hs2,hs3⟩:=hs
     unfold x0T
     have hsz:=w6s hk
     have htk:=x0F hk
     have hqk:=y4Y hk
     refine Evt.bind (P:=fun r=>r.1=ren (NN p) (Am.get f.subs k) (y3P env') (j+nqL (f.subs.take k))∧∃b'':Nat,r.2=(b'':Int)∧nx p b''=num p (j+nqL (f.subs.take k)+nq (Am.get f.subs k))) ?_ fun v hv=>Evt.w6m (Evt.chk ?_ (Evt.pure ?_))
     ·rw[hs2]
      exact ih _ (by omega) (x5j hwf hk) env' _ b' (by omega) (by omega) hs3
     ·rw[w6d,hs1];simp only[List.length_append,x7l,List.length_take,List.length_cons,List.length_nil];omega
     ·obtain⟨hv1,b'',hv2,hv3⟩:=hv
      refine⟨?_,b'',hv2,?_⟩
      ·show s.2++[v.1]=_
       rw[hs1,hv1,w4C hk,x9E]
      ·rw[hv3,w4C hk,x8G,Nat.add_assoc]
    ·cases e with
     |ret r=>exact he
     |nxt t=>
      have:=he.elim id False.elim
      rw[List.take_length]at this
      exact this
    ·obtain⟨ht1,b',ht2,ht3⟩:=ht
     unfold x0U
     refine Evt.pure ⟨?_,b',ht2,by rw[ht3,hjn]⟩
     show w3T.mk _ _ _ _=_
     rw[z0r,ht1,hnm,z1I,hj]
   unfold x0V
   simp only[x5U,Option.bind_some]
   have hbl:=(y9B hC2 b).1
   have hnl:=y4X hC2 10000 hCl i
   refine Evt.cond (fun e=>?_) (fun e=>?_)
   ·replace e:=bx e
    rw[if_pos e]at hnq
    refine Evt.bind (y7R hC (b:=b) (by omega)) fun v hv=>Evt.chk (by omega) (Evt.w6m (Evt.chk ?_ ?_))
    ·rw[w6d];simp only[List.length_append,List.length_cons,List.length_nil];omega
    ·subst hv
     exact key _ _ (i+1) (nx p b+1) (by rw[if_pos e,hb];rfl) (by rw[if_pos e,y7S,hb];rfl) (by rw[if_pos e]) (by rw[hb];rfl) (by simp)
   ·replace e:=bx e
    rw[if_neg e]at hnq
    exact key _ _ i b (by rw[if_neg e]) (by rw[if_neg e]) (by rw[if_neg e];rfl) hb (by omega)
noncomputable def cf(f:w3T):w3T:=ren (NN (fre f [])) f [] 0
theorem y9C{f:w3T}(h:OkF f):Evt (fun n=>x0G n f) (fun r=>r=cf f):=by
 have h2:=h.2.1
 unfold x0G x2t
 have hq:=x7P f
 refine Evt.bind (P:=fun r=>r=cf f) (Evt.bind (x5I h.1 (by omega)) fun v hv=>?_) fun v hv=>Evt.pure hv
 refine Evt.w4h (P:=ExP (fun _=>True) (fun _=>False)) ⟨.nxt (),trivial,0,fun n _=>rfl⟩ (fun _ _=>?_) (fun _ h=>h.elim)
 unfold x0W
 exact Evt.bind (y5L hv.1 (by omega) _ f (Nat.le_refl _) h.1 [] 0 0 (by simp;omega) (by omega) rfl) fun r hr=>Evt.pure hr.1
mutual
def SmF:w3T→Prop
 | .mk _ _ w s=>w.length≤3∧s.length≤2∧y0A s
def y0A:List w3T→Prop
 | []=>True
 |f::l=>SmF f∧y0A l
end
theorem y2B(f:w3T):SmF f↔f.words.length≤3∧f.subs.length≤2∧y0A f.subs:=by cases f;rw[SmF];rfl
theorem x7n:∀ {l:List w3T},y0A l→∀x∈l,SmF x
 | [],_,x,h=>by cases h
 |f::l,h,x,hx=>by
  rw[y0A]at h
  rcases List.mem_cons.1 hx with rfl|hx
  ·exact h.1
  ·exact x7n h.2 x hx
mutual
theorem WfF.sm:∀(f:w3T),WfF f→SmF f
 | .mk k n w s,h=>by
   rw[SmF]
   exact⟨x6r h,x5a h,x7k.sm s ((x1W _).1 h).2⟩
theorem x7k.sm:∀(l:List w3T),x7k l→y0A l
 | [],_=>by rw[y0A];trivial
 |f::l,h=>by
  rw[y0A]
  exact⟨WfF.sm f (w6t.1 h f (List.mem_cons_self ..)),x7k.sm l (w6t.2 fun x hx=>w6t.1 h x (List.mem_cons_of_mem _ hx))⟩
end
mutual
theorem SmF.ren(N:Nat→Bs):∀(f:w3T) (env:List (Bs×Bs)) (i:Nat),SmF f→SmF (ren N f env i)
 | .mk k n w s,env,i,h=>by
   rw[SmF]at h
   rw[Go.Proofs.YtdjnbjnlnjhllaaGreatDoor.ren,SmF]
   exact⟨by rw[List.length_map];exact h.1,by rw[x7l];exact h.2.1,y0A.ren N s _ _ h.2.2⟩
theorem y0A.ren(N:Nat→Bs):∀(l:List w3T) (env:List (Bs×Bs)) (i:Nat),y0A l→y0A (x2K N l env i)
 | [],env,i,_=>by rw[x2K,y0A];trivial
 |f::l,env,i,h=>by
  rw[y0A]at h
  rw[x2K,y0A]
  exact⟨SmF.ren N f env i h.1,y0A.ren N l env _ h.2⟩
end
mutual
theorem y4Z:∀(f:w3T),WfF f→∀(bd:List Bs) (x:Bs),fre f bd x→w4J x
 | .mk k n w s,h,bd,x,hx=>by
   rw[fre]at hx
   rcases hx with hx|hx
   ·exact(x1r ((x1W _).1 h).1).2.2.2.2 x hx.1
   ·exact y2C s ((x1W _).1 h).2 _ x hx
theorem y2C:∀(l:List w3T),x7k l→∀(bd:List Bs) (x:Bs),x4D l bd x→w4J x
 | [],_,bd,x,hx=>by rw[x4D]at hx;exact hx.elim
 |f::l,h,bd,x,hx=>by
  rw[x4D]at hx
  rcases hx with hx|hx
  ·exact y4Z f (w6t.1 h f (List.mem_cons_self ..)) bd x hx
  ·exact y2C l (w6t.2 fun y hy=>w6t.1 h y (List.mem_cons_of_mem _ hy)) bd x hx
end
def y3Q(a b:List Bs):List (Bs×Bs):=x6E (Am.get a) (Am.get b) a.length
theorem y7T{a b:List Bs}(h:a.length=b.length)(x y:Bs):y3Q (a++[x]) (b++[y])=(x,y)::y3Q a b:=by
 unfold y3Q
 have e1:=x8H a x
 have e2:=x8H b y
 rw[List.length_append,List.length_singleton,x6E,e1.1,h,e2.1]
 congr 1
 rw[←h]
 exact x6F fun k hk=>⟨e1.2 k hk,e2.2 k (by omega)⟩
theorem y7U:∀(m:Nat) (f:w3T),SizeOf.sizeOf f≤m→WfF f→∀(a1 a2:List Bs) (i:Nat),a1.length=a2.length→a1.length+ndF f≤100000→i+nq f≤1000→
 Evt (fun n=>w4x n f a1 a2 (i:Int)) (fun r=>r.1=ren mk f (y3Q a1 a2) i∧r.2=((i+nq f:Nat):Int)):=by
 intro m
 induction m with
 |zero=>intro f h;cases f;simp only[w3T.mk.sizeOf_spec]at h;omega
 |succ m ih=>
  intro f hf hwf a1 a2 i haa y8w hi
  have hnd:=x3y f
  have hws:=x6r hwf
  have hsl:=x5a hwf
  have hnq:=z3U f
  refine Evt.succ ?_
  simp only[w4x]
  refine Evt.w4h (P:=ExP (fun t=>t=f.words.map (sub (y3Q a1 a2))) (fun _=>False)) ((Evt.range (fun k s=>s=(f.words.take k).map (sub (y3Q a1 a2))) (fun _=>False) (fun _=>False) (by simp) (fun k s hk hs=>?_)).mono fun e he=>?_) (fun t ht=>?_) (fun _ h=>h.elim)
  ·unfold w7z
   refine Evt.w4h (z4a (Am.get a1) (Am.get a2) a1.length (by omega) (Am.get f.words k) (w6f a1 f k a2) (fun j hj=>?_) rfl) (fun t ht=>?_) (fun _ h=>h.elim)
   ·unfold w6f
    have e1:decide (0≤(j:Int))=true:=decide_eq_true (by omega)
    have e2:(j:Int)<(a2.length:Int):=by omega
    rw[e1,cond_true,x9t (by omega),x9t e2]
    rfl
   ·unfold w7A
    refine Evt.w6m (Evt.chk ?_ (Evt.pure ?_))
    ·subst hs
     rw[w6d];simp only[List.length_append,List.length_map,List.length_take,List.length_cons,List.length_nil];omega
    ·show _=_
     have ht:t=sub (y3Q a1 a2) (Am.get f.words k):=ht
     rw[hs,ht,w4C hk,List.map_append];rfl
  ·cases e with
   |ret r=>exact he
   |nxt t=>
    have:=he.elim id False.elim
    rw[List.take_length]at this
    exact this
  ·subst ht
   have key:∀(c1 c2:List Bs) (nm:Bs) (j:Nat),nm=(if QK f.kind then mk i else f.name)→c1.length=c2.length→y3Q c1 c2=(if QK f.kind then(f.name,mk i)::y3Q a1 a2 else y3Q a1 a2)→j=i+(if QK f.kind then 1 else 0)→c1.length≤a1.length+1→
    Evt (fun n=>w5v (w4x n) f (f.words.map (sub (y3Q a1 a2))) ((j:Int),nm,c1,c2)) (fun r=>r.1=ren mk f (y3Q a1 a2) i∧r.2=((i+nq f:Nat):Int)):=by
    intro c1 c2 nm j hnm hcc z1I hj hlen
    have hjn:j+nqL f.subs=i+nq f:=by omega
    unfold w5v
    refine Evt.chk (by omega) (Evt.w4h (P:=ExP (fun t=>t.2=x2K mk f.subs (y3Q c1 c2) j∧t.1=((j+nqL f.subs:Nat):Int)) (fun _=>False)) ((Evt.range (fun k s=>s.2=x2K mk (f.subs.take k) (y3Q c1 c2) j∧s.1=((j+nqL (f.subs.take k):Nat):Int)) (fun _=>False) (fun _=>False) ⟨by simp[x2K],by simp[nqL]⟩ (fun k s hk hs=>?_)).mono fun e he=>?_) (fun t ht=>?_) (fun _ h=>h.elim))
    ·obtain⟨hs1,hs2⟩:=hs
     unfold w7B
     have hsz:=w6s hk
     have htk:=x0F hk
     have hqk:=y4Y hk
     refine Evt.bind (P:=fun r=>r.1=ren mk (Am.get f.subs k) (y3Q c1 c2) (j+nqL (f.subs.take k))∧r.2=((j+nqL (f.subs.take k)+nq (Am.get f.subs k):Nat):Int)) ?_ fun v hv=>Evt.w6m (Evt.chk ?_ (Evt.pure ?_))
     ·rw[hs2]
      exact ih _ (by omega) (x5j hwf hk) c1 c2 _ hcc (by omega) (by omega)
     ·rw[w6d,hs1];simp only[List.length_append,x7l,List.length_take,List.length_cons,List.length_nil];omega
     ·obtain⟨hv1,hv2⟩:=hv
      refine⟨?_,?_⟩
      ·show s.2++[v.1]=_
       rw[hs1,hv1,w4C hk,x9E]
      ·show v.2=_
       rw[hv2,w4C hk,x8G,Nat.add_assoc]
    ·cases e with
     |ret r=>exact he
     |nxt t=>
      have:=he.elim id False.elim
      rw[List.take_length]at this
      exact this
    ·obtain⟨ht1,ht2⟩:=ht
     unfold w7C
     refine Evt.pure ⟨?_,by show t.1=_;rw[ht2,hjn]⟩
     show w3T.mk _ _ _ _=_
     rw[z0r,ht1,hnm,z1I,hj]
   unfold w7D
   refine Evt.cond (fun e=>?_) (fun e=>?_)
   ·replace e:=bx e
    have e:QK f.kind:=e
    rw[if_pos e]at hnq
    have hw:wr .i64 ((i:Int)+1)=((i+1:Nat):Int):=by rw[w5h (by omega) (by omega)];rfl
    rw[hw]
    refine Evt.bind (x7m (by omega)) fun v hv=>?_
    subst hv
    have hl:=x6D (m:=i) (by omega)
    refine Evt.chk (by unfold w8R;simp;omega) (Evt.w6m (Evt.chk ?_ (Evt.w6m (Evt.chk ?_ (Evt.w6m (Evt.chk ?_ (Evt.w6m (Evt.chk ?_ ?_))))))))
    ·rw[w6d];simp only[List.nil_append];omega
    ·rw[w6d];simp only[List.nil_append,List.length_append,List.length_cons,List.length_nil];omega
    ·rw[w6d];simp only[List.nil_append];omega
    ·rw[w6d];simp only[List.nil_append,List.length_append,List.length_cons,List.length_nil];omega
    ·exact key _ _ _ _ (by rw[if_pos e];rfl) (by simp[haa]) (by rw[if_pos e];exact y7T haa _ _) (by rw[if_pos e]) (by simp)
   ·replace e:=bx e
    have e:¬QK f.kind:=fun h=>by unfold QK at h;omega
    rw[if_neg e]at hnq
    exact key _ _ _ _ (by rw[if_neg e]) haa (by rw[if_neg e]) (by rw[if_neg e];rfl) (by omega)
theorem z4b(l:List Bs)(x:Bs):Evt (fun _=>w5N l x) (fun r=>r=decide (x∈l)):=by
 unfold w5N
 refine Evt.w4h (Evt.scan (fun k _=>∀j,j<k→Am.get l j≠x) (fun k r=>r=true∧Am.get l k=x) (fun j hj=>absurd hj (Nat.not_lt_zero _)) (fun k u hk hi=>?_)) (fun t ht=>?_) (fun r hr=>?_)
 ·unfold w9b
  refine Evt.cond (fun e=>Evt.pure ?_) (fun e=>Evt.pure ?_)
  ·replace e:=bx e
   exact⟨rfl,e⟩
  ·replace e:=bx e
   intro j hj
   by_cases ej:j=k
   ·subst ej;exact e
   ·exact hi j (by omega)
 ·unfold w9c
  refine Evt.pure (decide_eq_false fun h=>?_).symm
  obtain⟨j,hj,e⟩:=w6G.1 h
  exact ht j hj e
 ·obtain⟨k,_,hk,_,rfl,e⟩:=hr
  exact(decide_eq_true (w6G.2 ⟨k,hk,e⟩)).symm
theorem y7V(l:List Bs)(x:Bs):w5N l x=some (decide (x∈l)):=by
 obtain⟨r,rfl,N,hN⟩:=z4b l x
 exact hN N (Nat.le_refl _)
theorem z4c{l:List Bs}(a:Bs)(hl:l.length≤1000000):Evt (fun n=>w9d n l a) (fun r=>(∀x,x∈r↔x∈l∨x=a)∧r.length≤l.length+1):=by
 unfold w9d
 simp only[y7V,Option.bind_some]
 refine Evt.cond (fun e=>Evt.pure ⟨fun x=>?_,by omega⟩) (fun e=>?_)
 ·replace e:=bx e
  exact⟨.inl,fun h=>h.elim id fun h=>h▸e⟩
 ·refine Evt.w4h (Evt.loop (fun s:Int=>((l.length:Int)-s).toNat) (fun s=>0≤s∧s≤l.length) (fun t:Int=>0≤t∧t≤(l.length:Int)) (fun _=>False) ⟨Int.le_refl _,by omega⟩ (fun s hs=>?_)) (fun t ht=>?_) (fun _ h=>?_)
  ·obtain⟨h1,h2⟩:=hs
   unfold w9e
   refine Evt.chk ⟨x5H fun _=>h1,x5H fun h=>by simpa using h⟩ (Evt.cond (fun e=>Evt.pure ?_) (fun e=>Evt.pure ⟨h1,h2⟩))
   have h3:s<(l.length:Int):=Classical.byContradiction fun h=>by
    rw[decide_eq_false h]at e;cases e
   have hw:wr .i64 (s+1)=s+1:=w5h (by omega) (by omega)
   refine⟨⟨by rw[hw];omega,by rw[hw];omega⟩,?_⟩
   rw[hw];omega
  ·obtain⟨h1,h2⟩:=ht
   unfold w9f
   have hl2:(l.take t.toNat).length=t.toNat:=by rw[List.length_take];omega
   have hl3:(l.drop t.toNat).length=l.length-t.toNat:=List.length_drop
   refine Evt.chk ⟨h1,by omega⟩ (Evt.w6m (Evt.chk ?_ (Evt.w6m (Evt.chk ?_ (Evt.w6m (Evt.chk ?_ (Evt.pure ⟨fun x=>?_,?_⟩)))))))
   ·rw[w6d,hl2];omega
   ·rw[w6d];simp only[List.length_append,List.length_cons,List.length_nil,hl2];omega
   ·rw[w6d];simp only[List.length_append,List.length_cons,List.length_nil,hl2,hl3];omega
   ·have e2:x∈l↔x∈l.take t.toNat∨x∈l.drop t.toNat:=by rw[←List.mem_append,List.take_append_drop]
    rw[List.mem_append,List.mem_append,List.mem_singleton,e2,or_right_comm]
   ·simp only[List.length_append,List.length_cons,List.length_nil,hl2,hl3];omega
  ·exact False.elim h
theorem y7W:∀(m:Nat) (f:w3T),SizeOf.sizeOf f≤m→SmF f→∀(bd l:List Bs),bd.length+ndF f≤100000→l.length+3*ndF f≤300000→
 Evt (fun n=>w4y n f bd l) (fun r=>(∀x,x∈r↔x∈l∨fre f bd x)∧r.length≤l.length+3*ndF f):=by
 intro m
 induction m with
 |zero=>intro f h;cases f;simp only[w3T.mk.sizeOf_spec]at h;omega
 |succ m ih=>
  intro f hf hwf bd l hbd hl
  have hnd:=x3y f
  obtain⟨hws,hsl,hsm⟩:=(y2B f).1 hwf
  refine Evt.succ ?_
  simp only[w4y]
  refine Evt.w4h (P:=ExP (fun t=>(∀x,x∈t↔x∈l∨(x∈f.words∧x∉bd))∧t.length≤l.length+3) (fun _=>False)) ((Evt.range (fun k s=>(∀x,x∈s↔x∈l∨(x∈f.words.take k∧x∉bd))∧s.length≤l.length+k) (fun _=>False) (fun _=>False) ⟨fun x=>by simp,by omega⟩ (fun k s hk hi=>?_)).mono fun e he=>?_) (fun t ht=>?_) (fun _ h=>h.elim)
  ·unfold w7E
   simp only[y7V,Option.bind_some]
   refine Evt.cond (fun e=>Evt.bind (z4c (Am.get f.words k) (by omega)) fun v hv=>Evt.pure ⟨fun x=>?_,?_⟩) (fun e=>Evt.pure ⟨fun x=>?_,by omega⟩)
   ·replace e:=bx e
    rw[hv.1 x,hi.1 x,w4C hk,List.mem_append,List.mem_singleton]
    by_cases hx:x=Am.get f.words k
    ·subst hx;simp[e]
    ·simp[hx]
   ·have:=hv.2;omega
   ·replace e:=bx e
    rw[hi.1 x,w4C hk,List.mem_append,List.mem_singleton]
    by_cases hx:x=Am.get f.words k
    ·subst hx;simp[e]
    ·simp[hx]
  ·cases e with
   |ret r=>exact he
   |nxt t=>
    obtain⟨h1,h2⟩:=he.elim id False.elim
    rw[List.take_length]at h1
    exact⟨h1,by omega⟩
  ·obtain⟨h1,h2⟩:=ht
   have key:∀bd':List Bs,(∀y,y∈bd'↔y∈(if QK f.kind then f.name::bd else bd))→bd'.length≤bd.length+1→Evt (fun n=>w5w (w4y n) f t bd') (fun r=>(∀x,x∈r↔x∈l∨fre f bd x)∧r.length≤l.length+3*ndF f):=by
    intro bd' hb hbl
    unfold w5w
    refine Evt.chk (by omega) (Evt.w4h (P:=ExP (fun r=>(∀x,x∈r↔x∈t∨x4D f.subs bd' x)∧r.length≤t.length+3*w6H f.subs) (fun _=>False)) ((Evt.range (fun k s=>(∀x,x∈s↔x∈t∨x4D (f.subs.take k) bd' x)∧s.length≤t.length+3*w6H (f.subs.take k)) (fun _=>False) (fun _=>False) ⟨fun x=>by simp[x4D],by omega⟩ (fun k s hk hi=>?_)).mono fun e he=>?_) (fun r hr=>?_) (fun _ h=>h.elim))
    ·unfold w7F
     have hsz:=w6s hk
     have htk:=x0F hk
     refine Evt.bind (ih _ (by omega) (x7n hsm _ (get_mem hk)) bd' s (by omega) (by omega)) fun v hv=>Evt.pure ⟨fun x=>?_,?_⟩
     ·rw[hv.1 x,hi.1 x,w4C hk,y2x,or_assoc]
     ·rw[w4C hk,x1X]
      have:=hv.2
      have:=hi.2
      omega
    ·cases e with
     |ret r=>exact he
     |nxt r=>
      have:=he.elim id False.elim
      rw[List.take_length]at this
      exact this
    ·obtain⟨h3,h4⟩:=hr
     unfold w7G
     refine Evt.pure ⟨fun x=>?_,by omega⟩
     rw[h3 x,h1 x,z0u,x5V f.subs _ _ hb x,or_assoc]
   unfold w7H
   refine Evt.cond (fun e=>Evt.w6m (Evt.chk ?_ (Evt.w6m (Evt.chk ?_ (key _ (fun y=>?_) ?_))))) (fun e=>key _ (fun y=>?_) (by omega))
   ·rw[w6d];simp only[List.nil_append];omega
   ·rw[w6d];simp only[List.nil_append,List.length_append,List.length_cons,List.length_nil];omega
   ·replace e:=bx e
    have e:QK f.kind:=e
    rw[if_pos e];simp[or_comm]
   ·simp
   ·replace e:=bx e
    have e:¬QK f.kind:=fun h=>by unfold QK at h;omega
    rw[if_neg e]
mutual
def swp(σ:Bs→Bs):w3T→w3T
 | .mk k n w s=>.mk k (if QK k then σ n else n) (w.map σ) (y1C σ s)
def y1C(σ:Bs→Bs):List w3T→List w3T
 | []=>[]
 |f::l=>swp σ f::y1C σ l
end
theorem z4d(σ:Bs→Bs)(f:w3T):swp σ f= .mk f.kind (if QK f.kind then σ f.name else f.name) (f.words.map σ) (y1C σ f.subs):=by cases f;rw[swp];rfl
theorem y5a(σ:Bs→Bs):∀l:List w3T,(y1C σ l).length=l.length
 | []=>by rw[y1C]
 |f::l=>by rw[y1C,List.length_cons,List.length_cons,y5a σ l]
theorem y2D(σ:Bs→Bs):∀(l:List w3T) (x:w3T),y1C σ (l++[x])=y1C σ l++[swp σ x]
 | [],x=>by simp[y1C]
 |a::l,x=>by rw[List.cons_append,y1C,y1C,y2D σ l x];rfl
theorem y3R{l:List Bs}{k:Nat}(h:k<l.length):l.drop k=Am.get l k::l.drop (k+1):=by
 rw[List.drop_eq_getElem_cons h]
 simp[Am.get,h]
theorem z0x{ρ:Type}{l0 l1:List Bs}(hll:l0.length=l1.length)(w:Bs)(body:Nat→Bs→Option (Ctl ρ Bs Bs))(hb:∀k,body k w=bif decide (Am.get l0 k=w)then chk ((k:Int)<(l1.length:Int)) (some (.brk (Am.get l1 k)))else some (.nxt w)):
 Evt (fun _=>w4T body l0.length w) (ExP (fun t=>t=sub (l0.zip l1) w) (fun _=>False)):=by
 refine(Evt.range (fun k s=>s=w∧sub (l0.zip l1) w=sub ((l0.drop k).zip (l1.drop k)) w) (fun t=>t=sub (l0.zip l1) w) (fun _=>False) ⟨rfl,rfl⟩ (fun k s hk hs=>?_)).mono fun e he=>?_
 ·obtain⟨rfl,hs⟩:=hs
  rw[hb]
  rw[y3R hk,y3R (l:=l1) (by omega),List.zip_cons_cons,x2s]at hs
  refine Evt.cond (fun e=>Evt.chk (by omega) (Evt.pure ?_)) (fun e=>Evt.pure ?_)
  ·replace e:=bx e
   rw[if_pos e]at hs
   exact hs.symm
  ·replace e:=bx e
   rw[if_neg e]at hs
   exact⟨rfl,hs⟩
 ·cases e with
  |ret r=>exact he
  |nxt t=>
   rcases he with⟨rfl,he⟩|he
   ·rw[List.drop_length,List.zip_nil_left,y3J]at he
    exact he.symm
   ·exact he
theorem y5M{l0 l1:List Bs}(hll:l0.length=l1.length)(hl:l0.length≤100000):∀(m:Nat) (g:w3T),SizeOf.sizeOf g≤m→SmF g→Evt (fun n=>w4q n g l0 l1) (fun r=>r=swp (sub (l0.zip l1)) g):=by
 intro m
 induction m with
 |zero=>intro f h;cases f;simp only[w3T.mk.sizeOf_spec]at h;omega
 |succ m ih=>
  intro f hf hsm
  obtain⟨hws,hsl,hsm⟩:=(y2B f).1 hsm
  refine Evt.succ ?_
  simp only[w4q]
  refine Evt.w4h (P:=ExP (fun t=>t=f.words.map (sub (l0.zip l1))) (fun _=>False)) ((Evt.range (fun k s=>s=(f.words.take k).map (sub (l0.zip l1))) (fun _=>False) (fun _=>False) (by simp) (fun k s hk hs=>?_)).mono fun e he=>?_) (fun t ht=>?_) (fun _ h=>h.elim)
  ·unfold w7h
   refine Evt.chk (by omega) (Evt.w4h (z0x hll (Am.get f.words k) _ (fun j=>rfl)) (fun t ht=>?_) (fun _ h=>h.elim))
   unfold w7i
   have ht:t=sub (l0.zip l1) (Am.get f.words k):=ht
   refine Evt.w6m (Evt.chk ?_ (Evt.pure ?_))
   ·subst hs
    rw[w6d];simp only[List.length_append,List.length_map,List.length_take,List.length_cons,List.length_nil];omega
   ·show _=_
    rw[hs,ht,w4C hk,List.map_append];rfl
  ·cases e with
   |ret r=>exact he
   |nxt t=>
    have:=he.elim id False.elim
    rw[List.take_length]at this
    exact this
  ·subst ht
   have key:∀nm:Bs,nm=(if QK f.kind then sub (l0.zip l1) f.name else f.name)→Evt (fun n=>w5q (w4q n) f l0 l1 (f.words.map (sub (l0.zip l1))) nm) (fun r=>r=swp (sub (l0.zip l1)) f):=by
    intro nm hnm
    unfold w5q
    refine Evt.chk (by omega) (Evt.w4h (P:=ExP (fun t=>t=y1C (sub (l0.zip l1)) f.subs) (fun _=>False)) ((Evt.range (fun k s=>s=y1C (sub (l0.zip l1)) (f.subs.take k)) (fun _=>False) (fun _=>False) (by simp[y1C]) (fun k s hk hs=>?_)).mono fun e he=>?_) (fun t ht=>?_) (fun _ h=>h.elim))
    ·unfold w7j
     have hsz:=w6s hk
     refine Evt.bind (ih _ (by omega) (x7n hsm _ (get_mem hk))) fun v hv=>Evt.w6m (Evt.chk ?_ (Evt.pure ?_))
     ·rw[w6d,hs];simp only[List.length_append,y5a,List.length_take,List.length_cons,List.length_nil];omega
     ·show s++[v]=_
      rw[hs,hv,w4C hk,y2D]
    ·cases e with
     |ret r=>exact he
     |nxt t=>
      have:=he.elim id False.elim
      rw[List.take_length]at this
      exact this
    ·unfold w7k
     refine Evt.pure ?_
     rw[z4d,hnm]
     have ht:t=y1C (sub (l0.zip l1)) f.subs:=ht
     rw[ht]
   unfold w7l
   refine Evt.cond (fun e=>?_) (fun e=>?_)
   ·replace e:=bx e
    have e:QK f.kind:=e
    refine Evt.chk (by omega) (Evt.w4h (z0x hll f.name (w7m l0 f l1) (fun j=>rfl)) (fun t ht=>?_) (fun _ h=>h.elim))
    unfold w7n
    exact key t (by rw[if_pos e];exact ht)
   ·replace e:=bx e
    have e:¬QK f.kind:=fun h=>by unfold QK at h;omega
    exact key _ (by rw[if_neg e])
theorem y7X(σ:Bs→Bs){w:Bs}(h:σ w=w):∀env:List (Bs×Bs),σ (sub env w)=sub (env.map fun e=>(e.1,σ e.2)) w
 | []=>by rw[List.map_nil,y3J,h]
 |(a,b)::env=>by
  rw[List.map_cons,x2s,x2s]
  split
  ·rfl
  ·exact y7X σ h env
mutual
theorem y7Y(σ:Bs→Bs)(N:Nat→Bs)(q:Nat)(h1:∀j,j<q→σ (mk j)=N j)(h2:∀w,w4J w→σ w=w):∀(f:w3T) (env:List (Bs×Bs)) (i:Nat),WfF f→i+nq f≤q→swp σ (ren mk f env i)=ren N f (env.map fun e=>(e.1,σ e.2)) i
 | .mk k n w s,env,i,hwf,hq=>by
   have hn:=((x1W _).1 hwf).1
   have hs:=((x1W _).1 hwf).2
   have hw:=(x1r hn).2.2.2.2
   rw[nq]at hq
   rw[ren,ren,swp]
   have e1:(w.map (sub env)).map σ=w.map (sub (env.map fun e=>(e.1,σ e.2))):=by
    rw[List.map_map]
    exact List.map_congr_left fun x hx=>y7X σ (h2 x (hw x hx)) env
   rw[e1]
   by_cases hk:QK k
   ·rw[if_pos hk]at hq
    simp only[if_pos hk]
    rw[h1 i (by omega),y1m σ N q h1 h2 s _ _ hs (by omega),List.map_cons,h1 i (by omega)]
   ·rw[if_neg hk]at hq
    simp only[if_neg hk]
    rw[y1m σ N q h1 h2 s _ _ hs (by omega)]
theorem y1m(σ:Bs→Bs)(N:Nat→Bs)(q:Nat)(h1:∀j,j<q→σ (mk j)=N j)(h2:∀w,w4J w→σ w=w):∀(l:List w3T) (env:List (Bs×Bs)) (i:Nat),x7k l→i+nqL l≤q→y1C σ (x2K mk l env i)=x2K N l (env.map fun e=>(e.1,σ e.2)) i
 | [],env,i,_,_=>by rw[x2K,x2K,y1C]
 |f::l,env,i,h,hq=>by
  rw[nqL]at hq
  rw[x2K,x2K,y1C,y7Y σ N q h1 h2 f env i (w6t.1 h f (List.mem_cons_self ..)) (by omega),y1m σ N q h1 h2 l env _ (w6t.2 fun x hx=>w6t.1 h x (List.mem_cons_of_mem _ hx)) (by omega)]
end
theorem x7S(N:Nat→Bs):∀n i,(nms N i n).length=n
 |0,i=>rfl
 |n+1,i=>by rw[nms,List.length_cons,x7S N n]
theorem y5b(N:Nat→Bs)(k:Nat):nms N 0 (k+1)=nms N 0 k++[N k]:=by
 rw[y1f,Nat.zero_add];rfl
theorem z0y(N:Nat→Bs):∀n i d,d<n→sub ((nms mk i n).zip (nms N i n)) (mk (i+d))=N (i+d)
 |0,i,d,h=>absurd h (Nat.not_lt_zero _)
 |n+1,i,d,h=>by
  rw[nms,nms,List.zip_cons_cons,x2s]
  cases d with
  |zero=>exact if_pos rfl
  |succ d=>
   rw[if_neg fun e=>by have:=mk_inj e;omega]
   have:=z0y N n (i+1) d (by omega)
   rw[Nat.add_right_comm,Nat.add_assoc]at this
   exact this
theorem z0z(N:Nat→Bs){w:Bs}(hw:w4J w):∀n i,sub ((nms mk i n).zip (nms N i n)) w=w
 |0,i=>rfl
 |n+1,i=>by
  rw[nms,nms,List.zip_cons_cons,x2s,if_neg fun e=>y7Q (e▸hw),z0z N hw n]
theorem y2E{f:w3T}(h:OkF f):Evt (fun n=>w6g n f) (fun r=>r=cf f):=by
 have hnd:=h.2.1
 have hq:=x7P f
 unfold w6g w9W
 refine Evt.bind (P:=fun r=>r=cf f) (Evt.bind (y7U _ f (Nat.le_refl _) h.1 [] [] 0 rfl (by simp;omega) (by omega)) fun v1 hv1=>?_) fun v hv=>Evt.pure hv
 obtain⟨g,c⟩:=v1
 obtain⟨hg0,hc0⟩:=hv1
 have hg:g=ren mk f [] 0:=hg0
 have hc:c=((0+nq f:Nat):Int):=hc0
 clear hg0 hc0
 rw[Nat.zero_add]at hc
 subst hc
 have hsm:SmF g:=by rw[hg];exact SmF.ren mk f [] 0 (WfF.sm f h.1)
 have hgn:ndF g=ndF f:=by rw[hg,y7y]
 refine Evt.bind (P:=fun C=>(∀x,x∈C↔fre f [] x)∧C.length≤3*ndF f) ?_ fun C hC=>?_
 ·unfold w8k
  refine Evt.bind (y7W _ g (Nat.le_refl _) hsm [] [] (by simp;omega) (by simp;omega)) fun v hv=>Evt.pure ⟨fun x=>?_,?_⟩
  ·rw[hv.1 x,hg]
   have:=y7C mk w4J (fun i=>y7Q) f [] 0 (fun x hx=>y4Z f h.1 _ x hx) (fun p hp=>by cases hp) x
   simp only[List.not_mem_nil,false_or]
   exact this
  ·have:=hv.2
   rw[hgn]at this
   simpa using this
 obtain⟨hC,hCl⟩:=hC
 have hC2:∀x,fre f [] x→x∈C:=fun x=>(hC x).2
 refine Evt.w4h (P:=ExP (fun t=>t=C) (fun _=>False)) ((Evt.range (fun k s=>s=C.take k) (fun _=>False) (fun _=>False) (by simp) (fun k s hk hs=>?_)).mono fun e he=>?_) (fun t ht=>?_) (fun _ h=>h.elim)
 ·unfold w8N
  refine Evt.w6m (Evt.chk ?_ (Evt.pure ?_))
  ·subst hs
   rw[w6d];simp only[List.length_append,List.length_take,List.length_cons,List.length_nil];omega
  ·show _=_
   rw[hs,w4C hk]
 ·cases e with
  |ret r=>exact he
  |nxt t=>
   have:=he.elim id False.elim
   rw[List.take_length]at this
   exact this
 have ht:t=C:=ht
 subst ht
 unfold w8O
 have z6n:=y4X hC2 600 (by omega)
 refine Evt.w4h (Evt.x1P (nq f) (fun k s=>s.1=nms mk 0 k∧s.2.1=nms (NN (fre f [])) 0 k∧(∃b:Nat,s.2.2.1=(b:Int)∧nx (fre f []) b=num (fre f []) k)∧s.2.2.2=(k:Int)) (fun t=>t=(nms mk 0 (nq f),nms (NN (fre f [])) 0 (nq f))) (fun _=>False) ⟨rfl,rfl,⟨0,rfl,rfl⟩,rfl⟩ (fun k s hk hs=>?_) (fun s hs=>?_)) (fun t ht=>?_) (fun _ h=>?_)
 ·obtain⟨hs1,hs2,⟨b,hs3,hb⟩,hs4⟩:=hs
  unfold w6R
  refine Evt.cond (fun _=>?_) (fun e=>by replace e:=bx e;omega)
  have hx:=y9B hC2 b
  have hnk:=z6n k
  have step:∀m:Nat,m≤1000000→Evt (fun n=>w6S n t (m:Int)) (fun c=>c=if vn m∈t then .nxt ((m+1:Nat):Int)else .brk (m:Int)):=fun m hm=>by
   unfold w6S
   have hl:=x6D (m:=m) (by omega)
   refine Evt.bind (x7m (by omega)) fun v hv=>?_
   subst hv
   have hw:wr .i64 ((m:Int)+1)=((m+1:Nat):Int):=by rw[w5h (by omega) (by omega)];rfl
   have e:x5Z [118] (Lib.decDigits m)=vn m:=rfl
   refine Evt.chk (by unfold w8R;simp;omega) ?_
   simp only[e,y7V,Option.bind_some,hw]
   refine Evt.cond (fun e=>Evt.pure ?_) (fun e=>Evt.pure ?_)
   ·replace e:=bx e
    rw[if_pos e]
   ·replace e:=bx e
    rw[if_neg e]
  rw[hs3]
  refine Evt.w4h (Evt.x1P (nx (fre f []) b-b) (fun j i=>i=((b+j:Nat):Int)) (fun i=>i=((num (fre f []) k:Nat):Int)) (fun _=>False) rfl (fun j i hj hi=>?_) (fun i hi=>?_)) (fun i hi=>?_) (fun _ h=>?_)
  ·subst hi
   refine(step _ (by omega)).mono fun c hc=>?_
   rw[if_pos ((hC _).2 (hx.2.2 _ (by omega) (by omega)))]at hc
   subst hc
   rfl
  ·subst hi
   have e:b+(nx (fre f []) b-b)=nx (fre f []) b:=by have:=hx.1;omega
   rw[e]
   refine(step _ (by omega)).mono fun c hc=>?_
   rw[if_neg fun hm=>hx.2.1 ((hC _).1 hm)]at hc
   subst hc
   show((nx (fre f []) b:Nat):Int)=_
   rw[hb]
  ·have hi:i=((num (fre f []) k:Nat):Int):=hi
   subst hi
   unfold w8P
   rw[hs4]
   have l1:=x6D (m:=k) (by omega)
   have l2:=x6D (m:=num (fre f []) k) (by omega)
   refine Evt.bind (x7m (by omega)) fun v hv=>?_
   subst hv
   refine Evt.chk (by unfold w8R;simp;omega) (Evt.w6m (Evt.chk ?_ (Evt.bind (x7m (by omega)) fun v hv=>?_)))
   ·rw[w6d,hs1];simp only[List.length_append,x7S,List.length_cons,List.length_nil];omega
   subst hv
   refine Evt.chk (by unfold w8R;simp;omega) (Evt.w6m (Evt.chk ?_ (Evt.pure ?_)))
   ·rw[w6d,hs2];simp only[List.length_append,x7S,List.length_cons,List.length_nil];omega
   ·refine⟨?_,?_,⟨num (fre f []) k+1,?_,rfl⟩,?_⟩
    ·rw[y5b, ←hs1];rfl
    ·rw[y5b, ←hs2];rfl
    ·show wr .i64 (((num (fre f []) k:Nat):Int)+1)=_
     rw[w5h (by omega) (by omega)];rfl
    ·show wr .i64 ((k:Int)+1)=_
     rw[w5h (by omega) (by omega)];rfl
  ·exact False.elim h
 ·obtain⟨hs1,hs2,_,hs4⟩:=hs
  unfold w6R
  refine Evt.cond (fun e=>by replace e:=bx e;omega) (fun _=>Evt.pure ?_)
  show(_,_)=(_,_)
  rw[hs1,hs2]
 ·have ht:t=(nms mk 0 (nq f),nms (NN (fre f [])) 0 (nq f)):=ht
  subst ht
  unfold w8Q
  refine Evt.bind (y5M (by rw[x7S,x7S]) (by rw[x7S];omega) _ g (Nat.le_refl _) hsm) fun v hv=>Evt.pure ?_
  rw[hv,hg]
  exact y7Y _ _ (nq f) (fun j hj=>by have:=z0y (NN (fre f [])) (nq f) 0 j hj;rw[Nat.zero_add]at this;exact this) (fun w hw=>z0z _ hw _ _) f [] 0 h.1 (by omega)
 ·exact False.elim h
end Go.Proofs.YtdjnbjnlnjhllaaGreatDoor
