import Derived.Lib.ItoaMem
import Derived.Lib.ItoaLen
import Derived.Test.YtdjnbjnlnjhllaaGreatDoorFMLaw1
set_option linter.unusedVariables false
set_option linter.unusedSimpArgs false
namespace Go.Proofs.YtdjnbjnlnjhllaaGreatDoor
open Go Go.Am
theorem r6k(l:List Bs)(x:Bs):Evt (fun _=>i8O l x) (fun r=>r=decide (x∈l)):=by
 unfold i8O p2P
 refine Evt.bind (P:=fun r=>0≤r↔x∈l) (Evt.i8R (Evt.scan (fun k _=>∀j,j<k→Am.get l j≠x) (fun k r=>r=(k:Int)∧Am.get l k=x) (fun j hj=>absurd hj (Nat.not_lt_zero _)) (fun k u hk hi=>?_)) (fun t ht=>?_) (fun r hr=>?_)) fun v hv=>Evt.pure ?_
 ·unfold p1z
  refine Evt.cond (fun e=>Evt.pure ?_) (fun e=>Evt.pure ?_)
  ·replace e:=bx e
   exact⟨rfl,e.symm⟩
  ·replace e:=bx e
   intro j hj
   by_cases ej:j=k
   ·subst ej;exact fun h=>e h.symm
   ·exact hi j (by omega)
 ·unfold p1A
  refine Evt.pure ⟨fun h=>absurd h (by decide),fun h=>?_⟩
  obtain⟨j,hj,e⟩:=p1x.1 h
  exact absurd e (ht j hj)
 ·obtain⟨k,_,hk,_,rfl,e⟩:=hr
  exact⟨fun _=>p1x.2 ⟨k,hk,e⟩,fun _=>by omega⟩
 ·by_cases h:x∈l
  ·simp[h,hv.2 h]
  ·have h3:¬0≤v:=fun h2=>h (hv.1 h2)
   simp only[h,h3,decide_false]
theorem p2V(l:List Bs)(x:Bs):i8O l x=some (decide (x∈l)):=by
 obtain⟨r,rfl,N,hN⟩:=r6k l x
 exact hN N (Nat.le_refl _)
theorem r7w{zs:List Bs}{x:Bs}:x∈Lib.compact zs↔x∈zs:=by
 unfold Lib.compact Lib.compactUpTo
 rw[List.mem_map]
 have hg:∀j,j<zs.length→zs.toArray[j]! =Am.get zs j:=fun j hj=>by simp[Am.get,hj]
 constructor
 ·rintro⟨j,hj,rfl⟩
  have hj:=List.mem_range.1 (List.mem_filter.1 hj).1
  rw[hg j hj]
  exact get_mem hj
 ·intro h
  obtain⟨j,hj,rfl⟩:=p1x.1 h
  have key:∀j,j<zs.length→∃a,a∈(List.range zs.length).filter (Lib.keeps zs.toArray)∧zs.toArray[a]! =Am.get zs j:=by
   intro j
   induction j with
   |zero=>intro hj;exact⟨0,List.mem_filter.2 ⟨List.mem_range.2 hj,Lib.keeps_lt_one _ 0 (by omega)⟩,hg 0 hj⟩
   |succ j ih=>
    intro hj
    by_cases hk:Lib.keeps zs.toArray (j+1)=true
    ·exact⟨j+1,List.mem_filter.2 ⟨List.mem_range.2 hj,hk⟩,hg _ hj⟩
    ·obtain⟨a,h1,h2⟩:=ih (by omega)
     refine⟨a,h1,h2.trans ?_⟩
     unfold Lib.keeps at hk
     simp only[decide_eq_true_eq,not_or,Decidable.not_not,ne_eq]at hk
     have:=hk.2
     rw[hg _ hj,Nat.add_sub_cancel,hg j (by omega)]at this
     exact this.symm
  exact key j hj
mutual
theorem u1r:∀(f:i8F) (bd bd':List Bs),(∀y,y∈bd↔y∈bd')→∀x,fre f bd x↔fre f bd' x
 | .mk k n w s,bd,bd',h,x=>by
   rw[fre,fre,h x,p9L s _ _ (fun y=>?_) x]
   split
   ·simp[h y]
   ·exact h y
theorem p9L:∀(l:List i8F) (bd bd':List Bs),(∀y,y∈bd↔y∈bd')→∀x,p7W l bd x↔p7W l bd' x
 | [],bd,bd',h,x=>by rw[p7W,p7W]
 |f::l,bd,bd',h,x=>by rw[p7W,p7W,u1r f bd bd' h x,p9L l bd bd' h x]
end
theorem r6l(l:List i8F)(f:i8F)(bd:List Bs)(x:Bs):p7W (l++[f]) bd x↔p7W l bd x∨fre f bd x:=by
 rw[r4Y,r4Y]
 constructor
 ·rintro⟨g,hg,h⟩
  rcases List.mem_append.1 hg with hg|hg
  ·exact .inl ⟨g,hg,h⟩
  ·rw[List.mem_singleton]at hg;subst hg;exact .inr h
 ·rintro(⟨g,hg,h⟩|h)
  ·exact⟨g,List.mem_append.2 (.inl hg),h⟩
  ·exact⟨f,List.mem_append.2 (.inr (List.mem_singleton.2 rfl)),h⟩
theorem r9r:∀(m:Nat) (f:i8F),SizeOf.sizeOf f≤m→WfF f→∀(bd l:List Bs),bd.length+ndF f≤100000→l.length+3*ndF f≤300000→
 Evt (fun n=>i9Y n f bd l) (fun r=>(∀x,x∈r↔x∈l∨fre f bd x)∧r.length≤l.length+3*ndF f):=by
 intro m
 induction m with
 |zero=>intro f h;cases f;simp only[i8F.mk.sizeOf_spec]at h;omega
 |succ m ih=>
  intro f hf hwf bd l hbd hl
  have hnd:=p9u f
  have hws:=p9w hwf
  refine Evt.succ ?_
  simp only[i9Y]
  refine Evt.i8R (P:=ExP (fun t=>(∀x,x∈t↔x∈l∨(x∈f.words∧x∉bd))∧t.length≤l.length+3) (fun _=>False)) ((Evt.range (fun k s=>(∀x,x∈s↔x∈l∨(x∈f.words.take k∧x∉bd))∧s.length≤l.length+k) (fun _=>False) (fun _=>False) ⟨fun x=>by simp,by omega⟩ (fun k s hk hi=>?_)).mono fun e he=>?_) (fun t ht=>?_) (fun _ h=>h.elim)
  ·unfold p3U
   simp only[p2V,Option.bind_some]
   refine Evt.cond (fun e=>Evt.p1m (Evt.chk ?_ (Evt.pure ⟨fun x=>?_,?_⟩))) (fun e=>Evt.pure ⟨fun x=>?_,by omega⟩)
   ·rw[p0q];simp only[List.length_append,List.length_cons,List.length_nil];omega
   ·replace e:=bx e
    rw[List.mem_append,hi.1 x,i9n hk,List.mem_append,List.mem_singleton]
    by_cases hx:x=Am.get f.words k
    ·subst hx;simp[e]
    ·simp[hx]
   ·simp only[List.length_append,List.length_cons,List.length_nil];omega
   ·replace e:=bx e
    rw[hi.1 x,i9n hk,List.mem_append,List.mem_singleton]
    by_cases hx:x=Am.get f.words k
    ·subst hx;simp[e]
    ·simp[hx]
  ·cases e with
   |ret r=>exact he
   |nxt t=>
    obtain⟨h1,h2⟩:=he.elim id False.elim
    rw[List.take_length]at h1
    exact⟨h1,by omega⟩
  ·obtain⟨h1,h2⟩:=ht
   have key:∀bd':List Bs,(∀y,y∈bd'↔y∈(if QK f.kind then f.name::bd else bd))→bd'.length≤bd.length+1→Evt (fun n=>p1t (i9Y n) f t bd') (fun r=>(∀x,x∈r↔x∈l∨fre f bd x)∧r.length≤l.length+3*ndF f):=by
    intro bd' hb hbl
    unfold p1t
    refine Evt.i8R (P:=ExP (fun r=>(∀x,x∈r↔x∈t∨p7W f.subs bd' x)∧r.length≤t.length+3*p3T f.subs) (fun _=>False)) ((Evt.range (fun k s=>(∀x,x∈s↔x∈t∨p7W (f.subs.take k) bd' x)∧s.length≤t.length+3*p3T (f.subs.take k)) (fun _=>False) (fun _=>False) ⟨fun x=>by simp[p7W],by omega⟩ (fun k s hk hi=>?_)).mono fun e he=>?_) (fun r hr=>?_) (fun _ h=>h.elim)
    ·unfold p3V
     have hsz:=p0V hk
     have htk:=p5Y hk
     refine Evt.bind (ih _ (by omega) (p6B hwf hk) bd' s (by omega) (by omega)) fun v hv=>Evt.pure ⟨fun x=>?_,?_⟩
     ·rw[hv.1 x,hi.1 x,i9n hk,r6l,or_assoc]
     ·rw[i9n hk,p8s]
      have:=hv.2
      have:=hi.2
      omega
    ·cases e with
     |ret r=>exact he
     |nxt r=>
      have:=he.elim id False.elim
      rw[List.take_length]at this
      exact this
    ·obtain⟨h3,h4⟩:=hr
     unfold p3W
     refine Evt.pure ⟨fun x=>?_,by omega⟩
     rw[h3 x,h1 x,r8o,p9L f.subs _ _ hb x,or_assoc]
   unfold p3X
   simp only[p9K,Option.bind_some]
   refine Evt.cond (fun e=>Evt.chk (by omega) (Evt.p1m (Evt.chk ?_ (key _ (fun y=>?_) ?_)))) (fun e=>key _ (fun y=>?_) (by omega))
   ·rw[p0q];simp only[List.length_append,List.length_cons,List.length_nil];omega
   ·replace e:=bx e
    rw[if_pos e];simp[or_comm]
   ·simp
   ·replace e:=bx e
    rw[if_neg e]
theorem p9x{f:i8F}(hwf:WfF f)(hn:ndF f≤50000):Evt (fun n=>p3C n f) (fun r=>(∀x,x∈r↔fre f [] x)∧r.length≤3*ndF f):=by
 unfold p3C
 refine Evt.bind (r9r _ f (Nat.le_refl _) hwf [] [] (by simp;omega) (by simp;omega)) fun v hv=>?_
 obtain⟨h1,h2⟩:=hv
 simp only[List.length_nil,Nat.zero_add]at h2
 unfold p0G p1P
 have hlen:(r5Y cfB v).length=v.length:=(p8q cfB v).length_eq
 refine Evt.bind (Evt.chk (by omega) (Evt.pure (P:=fun r=>r=r5Y cfB v) rfl)) fun r hr=>?_
 subst hr
 refine Evt.bind (Evt.chk (by omega) (Evt.pure (P:=fun r=>True) trivial)) fun _ _=>Evt.pure ⟨fun x=>?_,?_⟩
 ·rw[r7w,(p8q cfB v).mem_iff,h1 x]
  simp
 ·have:=Lib.compact_length_le (r5Y cfB v)
  omega
theorem r6m:∀(m:Nat) (f:i8F),SizeOf.sizeOf f≤m→ndF f≤100000→Evt (fun n=>i9a n f) (fun r=>r=qs f):=by
 intro m
 induction m with
 |zero=>intro f h;cases f;simp only[i8F.mk.sizeOf_spec]at h;omega
 |succ m ih=>
  intro f hf hn
  have hnd:=p9u f
  refine Evt.succ ?_
  simp only[i9a,p9K,Option.bind_some]
  have u3p:∀(l:List i8F) (x:i8F),qsL (l++[x])=qsL l++qs x:=fun l x=>by
   induction l with
   |nil=>simp[qsL]
   |cons a l ih=>rw[List.cons_append,qsL,qsL,ih,List.append_assoc]
  have key:∀l0:List Bs,l0=(if QK f.kind then [f.name]else [])→Evt (fun n=>p0v (i9a n) f l0) (fun r=>r=qs f):=by
   intro l0 h0
   have hl0:l0.length≤1:=by rw[h0];split<;>simp
   unfold p0v
   refine Evt.i8R (P:=ExP (fun t=>t=l0++qsL f.subs) (fun _=>False)) ((Evt.range (fun k s=>s=l0++qsL (f.subs.take k)) (fun _=>False) (fun _=>False) (by simp[qsL]) (fun k s hk hi=>?_)).mono fun e he=>?_) (fun t ht=>?_) (fun _ h=>h.elim)
   ·subst hi
    unfold p2Q
    have hsz:=p0V hk
    have htk:=p5Y hk
    refine Evt.bind (ih _ (by omega) (by omega)) fun v hv=>Evt.p1m (Evt.chk ?_ (Evt.pure ?_))
    ·subst hv
     have h1:=r7r (f.subs.take k)
     have h2:=r0d (Am.get f.subs k)
     have h3:=u0Y (f.subs.take k)
     have h4:=r1G (Am.get f.subs k)
     rw[p0q]
     simp only[List.length_append]
     omega
    ·subst hv
     show _=_
     rw[i9n hk,u3p,List.append_assoc]
   ·cases e with
    |ret r=>exact he
    |nxt t=>
     have:=he.elim id False.elim
     rw[List.take_length]at this
     exact this
   ·have ht:t=_:=ht
    subst ht
    unfold p2R
    refine Evt.pure ?_
    rw[r9p, ←h0]
  refine Evt.cond (fun e=>Evt.p1m (Evt.chk (by simp[p0q]) (key _ ?_))) (fun e=>key _ ?_)
  ·replace e:=bx e
   rw[if_pos e];rfl
  ·replace e:=bx e
   rw[if_neg e]
mutual
def i9g:i8F→List i8F
 | .mk k n w s=>.mk k n w s::p0r s
def p0r:List i8F→List i8F
 | []=>[]
 |x::l=>i9g x++p0r l
end
theorem p7N(f:i8F):i9g f=f::p0r f.subs:=by cases f;rw[i9g];rfl
mutual
theorem p3f:∀f:i8F,(i9g f).length=ndF f
 | .mk k n w s=>by rw[i9g,ndF,List.length_cons,r4p s];omega
theorem r4p:∀l:List i8F,(p0r l).length=p3T l
 | []=>by rw[p0r,p3T];rfl
 |x::l=>by rw[p0r,p3T,List.length_append,p3f x,r4p l]
end
def u7I(b:Nat)(g:i8F)(it:IT):Prop:=it.kind=g.kind∧it.name=g.name∧it.words=g.words∧it.end_=((b+ndF g:Nat):Int)∧it.bound.length=g.words.length
mutual
theorem r1I:∀(f:i8F) (ar:List Bs) (b j:Nat),j<ndF f→u7I (b+j) (Am.get (i9g f) j) (Am.get (p4B f ar b) j)
 | .mk k n w s,ar,b,0,_=>by
   rw[p4B,i9g]
   refine⟨rfl,rfl,rfl,?_,?_⟩
   ·show((b+(1+p3T s):Nat):Int)=_
    show _=((b+0+ndF (.mk k n w s):Nat):Int)
    rw[ndF];rfl
   ·show(w.map _).length=w.length
    simp
 | .mk k n w s,ar,b,j+1,h=>by
   rw[p4B,i9g]
   rw[ndF]at h
   have:=r3u s (if QK k then n::ar else ar) (b+1) j (by omega)
   rw[show b+(j+1)=b+1+j by omega]
   exact this
theorem r3u:∀(l:List i8F) (ar:List Bs) (b j:Nat),j<p3T l→u7I (b+j) (Am.get (p0r l) j) (Am.get (p4T l ar b) j)
 | [],ar,b,j,h=>by rw[p3T]at h;omega
 |x::l,ar,b,j,h=>by
  rw[p3T]at h
  rw[p4T,p0r]
  by_cases hj:j<ndF x
  ·have:=r1I x ar b j hj
   have e1:Am.get (i9g x++p0r l) j=Am.get (i9g x) j:=by
    unfold Am.get
    rw[List.getD_eq_getElem?_getD,List.getD_eq_getElem?_getD,List.getElem?_append_left (by rw[p3f];exact hj)]
   have e2:Am.get (p4B x ar b++p4T l ar (b+ndF x)) j=Am.get (p4B x ar b) j:=by
    unfold Am.get
    rw[List.getD_eq_getElem?_getD,List.getD_eq_getElem?_getD,List.getElem?_append_left (by rw[p4l];exact hj)]
   rw[e1,e2];exact this
  ·have:=r3u l ar (b+ndF x) (j-ndF x) (by omega)
   have e1:Am.get (i9g x++p0r l) j=Am.get (p0r l) (j-ndF x):=by
    unfold Am.get
    rw[List.getD_eq_getElem?_getD,List.getD_eq_getElem?_getD,List.getElem?_append_right (by rw[p3f];omega),p3f]
   have e2:Am.get (p4B x ar b++p4T l ar (b+ndF x)) j=Am.get (p4T l ar (b+ndF x)) (j-ndF x):=by
    unfold Am.get
    rw[List.getD_eq_getElem?_getD,List.getD_eq_getElem?_getD,List.getElem?_append_right (by rw[p4l];omega),p4l]
   rw[e1,e2,show b+j=b+ndF x+(j-ndF x)by omega]
   exact this
end
theorem r0q:∀(l:List i8F) (x:i8F),p0r (l++[x])=p0r l++i9g x
 | [],x=>by simp[p0r]
 |a::l,x=>by rw[List.cons_append,p0r,p0r,r0q l x,List.append_assoc]
def p8D(l:List i8F)(x:Bs):Prop:=∃g∈l,g.kind=2∧g.name=x∧0<g.words.length
def p8e(l:List i8F)(x:Bs):Prop:=∃g∈l,g.kind=2∧g.name=x∧g.words.length=0
theorem p8D.app{l m:List i8F}{x:Bs}:p8D (l++m) x↔p8D l x∨p8D m x:=by
 unfold p8D
 constructor
 ·rintro⟨g,hg,h⟩
  rcases List.mem_append.1 hg with hg|hg
  ·exact .inl ⟨g,hg,h⟩
  ·exact .inr ⟨g,hg,h⟩
 ·rintro(⟨g,hg,h⟩|⟨g,hg,h⟩)
  ·exact⟨g,List.mem_append.2 (.inl hg),h⟩
  ·exact⟨g,List.mem_append.2 (.inr hg),h⟩
theorem p8e.app{l m:List i8F}{x:Bs}:p8e (l++m) x↔p8e l x∨p8e m x:=by
 unfold p8e
 constructor
 ·rintro⟨g,hg,h⟩
  rcases List.mem_append.1 hg with hg|hg
  ·exact .inl ⟨g,hg,h⟩
  ·exact .inr ⟨g,hg,h⟩
 ·rintro(⟨g,hg,h⟩|⟨g,hg,h⟩)
  ·exact⟨g,List.mem_append.2 (.inl hg),h⟩
  ·exact⟨g,List.mem_append.2 (.inr hg),h⟩
theorem p8D.one{g:i8F}{x:Bs}:p8D [g] x↔g.kind=2∧g.name=x∧0<g.words.length:=by
 unfold p8D;simp
theorem p8e.one{g:i8F}{x:Bs}:p8e [g] x↔g.kind=2∧g.name=x∧g.words.length=0:=by
 unfold p8e;simp
theorem u5v:∀(m:Nat) (f:i8F),SizeOf.sizeOf f≤m→∀x,Evt (fun n=>p1Q n f x) (fun r=>(r.1=true↔p8D (i9g f) x)∧(r.2=true↔p8e (i9g f) x)):=by
 intro m
 induction m with
 |zero=>intro f h;cases f;simp only[i8F.mk.sizeOf_spec]at h;omega
 |succ m ih=>
  intro f hf x
  refine Evt.succ ?_
  simp only[p1Q]
  have key:∀j:Bool×Bool,(j.1=true↔p8D [f] x)→(j.2=true↔p8e [f] x)→Evt (fun n=>p3D (p1Q n) f x j) (fun r=>(r.1=true↔p8D (i9g f) x)∧(r.2=true↔p8e (i9g f) x)):=by
   intro j h1 h2
   unfold p3D
   refine Evt.i8R (P:=ExP (fun s:Bool×Bool=>(s.1=true↔p8D (f::p0r f.subs) x)∧(s.2=true↔p8e (f::p0r f.subs) x)) (fun _=>False)) ((Evt.range (fun k s=>(s.1=true↔p8D ([f]++p0r (f.subs.take k)) x)∧(s.2=true↔p8e ([f]++p0r (f.subs.take k)) x)) (fun _=>False) (fun _=>False) ⟨by simpa[p0r]using h1,by simpa[p0r]using h2⟩ (fun k s hk hi=>?_)).mono fun e he=>?_) (fun t ht=>?_) (fun _ h=>h.elim)
   ·unfold p5y
    have hsz:=p0V hk
    refine Evt.bind (ih _ (by omega) x) fun v hv=>Evt.pure ⟨?_,?_⟩
    ·rw[i9n hk,r0q, ←List.append_assoc,p8D.app, ←hv.1, ←hi.1]
     cases s.1<;>simp
    ·rw[i9n hk,r0q, ←List.append_assoc,p8e.app, ←hv.2, ←hi.2]
     cases s.2<;>simp
   ·cases e with
    |ret r=>exact he
    |nxt t=>
     have:=he.elim id False.elim
     rw[List.take_length]at this
     exact this
   ·unfold p5z
    refine Evt.pure ?_
    rw[p7N]
    exact ht
  refine Evt.cond (fun e=>key _ ?_ ?_) (fun e=>key _ ?_ ?_)
  ·replace e:=bx e
   rw[p8D.one];simp[e.1,e.2]
  ·replace e:=bx e
   rw[p8e.one];simp[e.1,e.2]
  ·rw[p8D.one]
   refine⟨fun h=>(by cases h),fun h=>?_⟩
   simp[h.1,h.2.1]at e
  ·rw[p8e.one]
   refine⟨fun h=>(by cases h),fun h=>?_⟩
   simp[h.1,h.2.1]at e
def p6O(l:List IT)(x:Bs):Prop:=∃it∈l,∃m,m<it.words.length∧Am.get it.words m=x∧Am.get it.bound m=false
theorem p6O.app{l m:List IT}{x:Bs}:p6O (l++m) x↔p6O l x∨p6O m x:=by
 unfold p6O
 constructor
 ·rintro⟨g,hg,h⟩
  rcases List.mem_append.1 hg with hg|hg
  ·exact .inl ⟨g,hg,h⟩
  ·exact .inr ⟨g,hg,h⟩
 ·rintro(⟨g,hg,h⟩|⟨g,hg,h⟩)
  ·exact⟨g,List.mem_append.2 (.inl hg),h⟩
  ·exact⟨g,List.mem_append.2 (.inr hg),h⟩
theorem p6O.cons{a:IT}{l:List IT}{x:Bs}:p6O (a::l) x↔p6O [a] x∨p6O l x:=by
 rw[←p6O.app];rfl
theorem p6O.nil{x:Bs}:¬p6O [] x:=fun⟨_,h,_⟩=>by cases h
theorem get_map{α β:Type}[Inhabited α][Inhabited β](g:α→β){l:List α}{k:Nat}(h:k<l.length):Am.get (l.map g) k=g (Am.get l k):=by
 unfold Am.get
 rw[List.getD_eq_getElem?_getD,List.getD_eq_getElem?_getD,List.getElem?_map,List.getElem?_eq_getElem h]
 rfl
mutual
theorem r6n:∀(f:i8F) (ar:List Bs) (b:Nat) (x:Bs),p6O (p4B f ar b) x↔fre f ar x
 | .mk k n w s,ar,b,x=>by
   rw[p4B,p6O.cons,fre,r4q s]
   refine or_congr_left ?_
   constructor
   ·rintro⟨it,hit,m,h1,h2,h3⟩
    rw[List.mem_singleton]at hit
    subst hit
    have h1:m<w.length:=h1
    have h2:Am.get w m=x:=h2
    have h3:Am.get (w.map fun x=>decide (x∈ar)) m=false:=h3
    rw[get_map _ h1,h2]at h3
    exact⟨p1x.2 ⟨m,h1,h2⟩,of_decide_eq_false h3⟩
   ·rintro⟨h1,h2⟩
    obtain⟨m,h3,h4⟩:=p1x.1 h1
    refine⟨_,List.mem_singleton.2 rfl,m,h3,h4,?_⟩
    show Am.get (w.map fun x=>decide (x∈ar)) m=false
    rw[get_map _ h3,h4]
    exact decide_eq_false h2
theorem r4q:∀(l:List i8F) (ar:List Bs) (b:Nat) (x:Bs),p6O (p4T l ar b) x↔p7W l ar x
 | [],ar,b,x=>by rw[p4T,p7W];exact⟨fun h=>p6O.nil h,False.elim⟩
 |f::l,ar,b,x=>by rw[p4T,p7W,p6O.app,r6n f,r4q l]
end
def qsI(l:List IT):List Bs:=l.flatMap fun it=>if QK it.kind then [it.name]else []
mutual
theorem r7x:∀(f:i8F) (ar:List Bs) (b:Nat),qsI (p4B f ar b)=qs f
 | .mk k n w s,ar,b=>by
   rw[p4B,qs]
   show(if QK k then [n]else [])++qsI _=_
   rw[r8u s]
theorem r8u:∀(l:List i8F) (ar:List Bs) (b:Nat),qsI (p4T l ar b)=qsL l
 | [],ar,b=>by rw[p4T,qsL];rfl
 |f::l,ar,b=>by
  rw[p4T,qsL, ←r7x f ar b, ←r8u l ar (b+ndF f)]
  exact List.flatMap_append
end
theorem u4j{ρ:Type}(l:List Bs)(x:Bs)(body:Int→Option (Ctl Int Int Unit))(hb:∀s,body s=bif decide (s<(l.length:Int))then chk (0≤s∧s<(l.length:Int)) <| bif decide (Am.get l s.toNat=x)then some (.ret s)else some (.nxt (wr .i64 (s+1)))else some (.brk ()))
 (hl:l.length≤8000000) (k:Unit→Option Int) (hk:k ()=some (-1)):Evt (fun n=>i8R (i9z body n 0) k) (fun r=>(x∉l∧r= -1)∨∃j,j<l.length∧Am.get l j=x∧(∀i,i<j→Am.get l i≠x)∧r=(j:Int)):=by
 refine Evt.i8R (Evt.p6d l.length (fun k s=>s=(k:Int)∧∀i,i<k→Am.get l i≠x) (fun _=>x∉l) (fun r=>∃j,j<l.length∧Am.get l j=x∧(∀i,i<j→Am.get l i≠x)∧r=(j:Int)) ⟨rfl,fun i hi=>absurd hi (Nat.not_lt_zero _)⟩ (fun k s hk hs=>?_) (fun s hs=>?_)) (fun t ht=>?_) (fun r hr=>.inr hr)
 ·obtain⟨rfl,hs⟩:=hs
  rw[hb]
  refine Evt.cond (fun _=>Evt.chk (by omega) (Evt.cond (fun e=>Evt.pure ?_) (fun e=>Evt.pure ?_))) (fun e=>by replace e:=bx e;omega)
  ·replace e:=bx e
   exact⟨k,hk,by simpa using e,hs,rfl⟩
  ·replace e:=bx e
   rw[p0D (by omega) (by omega)]
   refine⟨rfl,fun i hi=>?_⟩
   by_cases ei:i=k
   ·subst ei;simpa using e
   ·exact hs i (by omega)
 ·obtain⟨rfl,hs⟩:=hs
  rw[hb]
  refine Evt.cond (fun e=>by replace e:=bx e;omega) (fun _=>Evt.pure fun h=>?_)
  obtain⟨j,hj,e⟩:=p1x.1 h
  exact hs j hj e
 ·rw[hk]
  exact Evt.pure (.inl ⟨ht,rfl⟩)
def r4r(l:List Bs)(x:Bs)(r:Int):Prop:=(x∉l∧r= -1)∨∃j,j<l.length∧Am.get l j=x∧(∀i,i<j→Am.get l i≠x)∧r=(j:Int)
theorem r4r.mem{l:List Bs}{x:Bs}{r:Int}(h:r4r l x r):0≤r↔x∈l:=by
 rcases h with⟨h1,rfl⟩|⟨j,hj,e,_,rfl⟩
 ·exact⟨fun h=>absurd h (by decide),fun h=>absurd h h1⟩
 ·exact⟨fun _=>p1x.2 ⟨j,hj,e⟩,fun _=>by omega⟩
theorem p5q(l:List Bs)(x:Bs)(hl:l.length≤8000000):Evt (fun n=>i8X n l x) (r4r l x):=u4j (ρ:=Unit) l x (p1R l x) (fun _=>rfl) hl _ rfl
theorem u1s(l:List Bs)(x:Bs)(hl:l.length≤8000000):Evt (fun n=>p3p n x l) (r4r l x):=u4j (ρ:=Unit) l x (p1S l x) (fun _=>rfl) hl _ rfl
def vns(s:i8I):List Bs:=s.words++s.i8M++s.parts
open Classical in
noncomputable def p2y(s:i8I)(i:Nat):Int:=
 if ¬p0a (Am.get (vns s) i)then 10
 else if Am.get (vns s) i∈(vns s).take i then 7
 else if i<s.words.length then(if fre s.form [] (Am.get (vns s) i)then 0 else 15)
 else if i<s.words.length+s.i8M.length then(if p8D (i9g s.form) (Am.get (vns s) i)∨p8e (i9g s.form) (Am.get (vns s) i)then 0 else 15)
 else if p8D (i9g s.form) (Am.get (vns s) i)then 5 else if p8e (i9g s.form) (Am.get (vns s) i)then 0 else 15
def QOk(s:i8I):Prop:=∀k,k<(qs s.form).length→Am.get (qs s.form) k∉ (qs s.form).take k∧Am.get (qs s.form) k∉s.words
def OkS(s:i8I):Prop:=OkF s.form∧(vns s).length≤300∧(∀j,j<(vns s).length→p2y s j=0)∧QOk s
def FB(step:Nat→Int)(N:Nat)(r:i8N):Prop:=∃k,k<N∧(∀j,j<k→step j=0)∧step k≠0∧r=⟨step k,k⟩
theorem FB.uniq{step:Nat→Int}{N:Nat}{r r':i8N}(h:FB step N r)(h':FB step N r'):r=r':=by
 obtain⟨k,_,h2,h3,rfl⟩:=h
 obtain⟨k',_,h2',h3',rfl⟩:=h'
 have:k=k':=by
  rcases Nat.lt_trichotomy k k' with h|h|h
  ·exact absurd (h2' k h) h3
  ·exact h
  ·exact absurd (h2 k' h) h3'
 rw[this]
def r9C(s:i8I)(r:i8N):Prop:=
 (¬OkF s.form∧r=p8W s.form)∨(OkF s.form∧300<(vns s).length∧r=⟨2, -1⟩)∨(OkF s.form∧(vns s).length≤300∧FB (p2y s) (vns s).length r)∨
 (OkF s.form∧(vns s).length≤300∧(∀j,j<(vns s).length→p2y s j=0)∧¬QOk s∧r=⟨7, -1⟩)∨(OkS s∧r=⟨0,0⟩)
theorem r9C.code{s:i8I}{r:i8N}(h:r9C s r)(h0:r.code=0):OkS s∧r=⟨0,0⟩:=by
 rcases h with⟨h1,rfl⟩|⟨_,_,rfl⟩|⟨_,_,k,_,_,h3,rfl⟩|⟨_,_,_,_,rfl⟩|h
 ·exact absurd ((p6l _).1 h0) h1
 ·cases h0
 ·exact absurd h0 h3
 ·cases h0
 ·exact h
theorem r9C.ok{s:i8I}{r:i8N}(h:r9C s r)(h0:OkS s):r=⟨0,0⟩:=by
 obtain⟨k1,k2,k3,k4⟩:=h0
 rcases h with⟨h1,_⟩|⟨_,h1,_⟩|⟨_,_,k,h2,_,h3,_⟩|⟨_,_,_,h1,_⟩|⟨_,h⟩
 ·exact absurd k1 h1
 ·omega
 ·exact absurd (k3 k h2) h3
 ·exact absurd k4 h1
 ·exact h
theorem r9C.uniq{s:i8I}{r r':i8N}(h:r9C s r)(h':r9C s r'):r=r':=by
 rcases h with⟨h1,rfl⟩|⟨h1,h2,rfl⟩|⟨h1,h2,h3⟩|⟨h1,h2,h3,h4,rfl⟩|⟨h1,rfl⟩
 ·rcases h' with⟨k1,rfl⟩|⟨k1,_⟩|⟨k1,_⟩|⟨k1,_⟩|⟨k1,_⟩
  ·rfl
  ·exact absurd k1 h1
  ·exact absurd k1 h1
  ·exact absurd k1 h1
  ·exact absurd k1.1 h1
 ·rcases h' with⟨k1,_⟩|⟨_,_,rfl⟩|⟨_,k2,_⟩|⟨_,k2,_⟩|⟨k1,_⟩
  ·exact absurd h1 k1
  ·rfl
  ·omega
  ·omega
  ·exact absurd k1.2.1 (by omega)
 ·rcases h' with⟨k1,_⟩|⟨_,k2,_⟩|⟨_,_,k3⟩|⟨_,_,k3,_⟩|⟨k1,_⟩
  ·exact absurd h1 k1
  ·omega
  ·exact h3.uniq k3
  ·obtain⟨k,a,_,b,_⟩:=h3;exact absurd (k3 k a) b
  ·obtain⟨k,a,_,b,_⟩:=h3;exact absurd (k1.2.2.1 k a) b
 ·rcases h' with⟨k1,_⟩|⟨_,k2,_⟩|⟨_,_,k3⟩|⟨_,_,_,_,rfl⟩|⟨k1,_⟩
  ·exact absurd h1 k1
  ·omega
  ·obtain⟨k,a,_,b,_⟩:=k3;exact absurd (h3 k a) b
  ·rfl
  ·exact absurd k1.2.2.2 h4
 ·exact(r9C.ok h' h1).symm
def SB(s:i8I):Prop:=s.words.length≤1048576∧s.i8M.length≤1048576∧s.parts.length≤1048576∧∀x∈vns s,x.length≤8000000
theorem p4K(s:i8I):(vns s).length=s.words.length+s.i8M.length+s.parts.length:=by unfold vns;simp only[List.length_append]
theorem r3v{s:i8I}(hb:SB s):Evt (fun n=>p2Y n s) (r9C s):=by
 obtain⟨b1,b2,b3,_⟩:=hb
 have hvl:=p4K s
 unfold p2Y
 refine Evt.bind (p5X s.form) fun v hv=>?_
 subst hv
 refine Evt.cond (fun e=>Evt.pure (.inl ⟨fun h=>?_,rfl⟩)) (fun e=>?_)
 ·rw[p9v h]at e;simp at e
 replace e:=bx e
 have hok:OkF s.form:=(p6l _).1 e
 unfold p2j r1E
 have hfl: [s.words,s.i8M,s.parts].flatten=vns s:=by unfold vns;simp
 simp only[Option.bind_assoc,Option.bind_some,hfl]
 refine Evt.bind (P:=fun v=>v=vns s) (Evt.chk (by rw[hvl];simp;omega) (Evt.pure rfl)) fun v hv=>?_
 subst hv
 refine Evt.cond (fun e=>?_) (fun e=>?_)
 ·replace e:=bx e
  exact Evt.pure (.inr (.inl ⟨hok,by omega,rfl⟩))
 replace e:=bx e
 have h300:(vns s).length≤300:=by omega
 refine Evt.bind (p9x hok.1 (by have:=hok.2.1;omega)) fun v4 hv4=>?_
 replace hv4:=hv4.1
 have hwl:wr .i64 ((s.words.length:Int)+(s.i8M.length:Int))=((s.words.length+s.i8M.length:Nat):Int):=by rw[p0D (by omega) (by omega)];omega
 refine Evt.i8R (Evt.scan (fun k _=>∀j,j<k→p2y s j=0) (fun k r=>p2y s k≠0∧r=⟨p2y s k,(k:Int)⟩) (fun j hj=>absurd hj (Nat.not_lt_zero _)) (fun k u hk hi=>?_)) (fun t ht=>?_) (fun r hr=>?_)
 ·have bad:∀c:Int,c≠0→p2y s k=c→Evt (fun _:Nat=>(p0o c (k:Int)).bind fun v=>some (Ctl.ret (σ:=Unit) (τ:=Unit) v)) (u0P (fun _:Unit=>∀j,j<k+1→p2y s j=0) (fun _=>False) (fun r=>p2y s k≠0∧r=⟨p2y s k,(k:Int)⟩)):=fun c hc h=>by
   unfold p0o
   exact Evt.pure ⟨by rw[h];exact hc,by rw[h]⟩
  have good:p2y s k=0→Evt (fun _:Nat=>some (Ctl.nxt (ρ:=i8N) (τ:=Unit) ())) (u0P (fun _:Unit=>∀j,j<k+1→p2y s j=0) (fun _=>False) (fun r=>p2y s k≠0∧r=⟨p2y s k,(k:Int)⟩)):=fun h=>Evt.pure fun j hj=>by
   by_cases ej:j=k
   ·subst ej;exact h
   ·exact hi j (by omega)
  unfold p3Y
  refine Evt.bind (r0o _) fun v17 hv17=>Evt.cond (fun e=>bad 10 (by decide) ?_) (fun e=>?_)
  ·replace e:=bx e
   have:¬p0a (Am.get (vns s) k):=fun h=>by rw[(p5p hv17).2 h]at e;cases e
   unfold p2y;rw[if_pos this]
  replace e:=bx e
  have s1:¬ ¬p0a (Am.get (vns s) k):=fun h=>h ((p5p hv17).1 e)
  refine Evt.chk (by omega) ?_
  simp only[p2V,Option.bind_some]
  refine Evt.cond (fun e=>bad 7 (by decide) ?_) (fun e=>?_)
  ·replace e:=bx e
   unfold p2y;rw[if_neg s1,if_pos e]
  replace e:=bx e
  have s2:=e
  refine Evt.bind (u5v _ s.form (Nat.le_refl _) _) fun v23 hv23=>Evt.cond (fun e=>?_) (fun e=>?_)
  ·replace e:=bx e
   have s3:k<s.words.length:=by omega
   refine Evt.cond (fun e=>bad 15 (by decide) ?_) (fun e=>good ?_)
   ·replace e:=bx e
    rw[hv4]at e
    unfold p2y;rw[if_neg s1,if_neg s2,if_pos s3,if_neg e]
   ·replace e:=bx e
    rw[hv4]at e
    unfold p2y;rw[if_neg s1,if_neg s2,if_pos s3,if_pos e]
  ·replace e:=bx e
   have s3:¬k<s.words.length:=by omega
   rw[hwl]
   refine Evt.cond (fun e=>?_) (fun e=>?_)
   ·replace e:=bx e
    have s4:k<s.words.length+s.i8M.length:=by omega
    refine Evt.cond (fun e=>bad 15 (by decide) ?_) (fun e=>good ?_)
    ·replace e:=bx e
     have:¬(p8D (i9g s.form) (Am.get (vns s) k)∨p8e (i9g s.form) (Am.get (vns s) k)):=by
      rw[←hv23.1, ←hv23.2]
      simp[e.1,e.2]
     unfold p2y;rw[if_neg s1,if_neg s2,if_neg s3,if_pos s4,if_neg this]
    ·have:p8D (i9g s.form) (Am.get (vns s) k)∨p8e (i9g s.form) (Am.get (vns s) k):=by
      rw[←hv23.1, ←hv23.2]
      cases h1:v23.1
      ·cases h2:v23.2
       ·simp[h1,h2]at e
       ·exact .inr rfl
      ·exact .inl rfl
     unfold p2y;rw[if_neg s1,if_neg s2,if_neg s3,if_pos s4,if_pos this]
   ·replace e:=bx e
    have s4:¬k<s.words.length+s.i8M.length:=by omega
    refine Evt.cond (fun e=>bad 5 (by decide) ?_) (fun e=>?_)
    ·have:=hv23.1.1 e
     unfold p2y;rw[if_neg s1,if_neg s2,if_neg s3,if_neg s4,if_pos this]
    ·have s5:¬p8D (i9g s.form) (Am.get (vns s) k):=by rw[←hv23.1];simp[e]
     refine Evt.cond (fun e=>bad 15 (by decide) ?_) (fun e=>good ?_)
     ·replace e:=bx e
      have:¬p8e (i9g s.form) (Am.get (vns s) k):=by rw[←hv23.2];simp[e]
      unfold p2y;rw[if_neg s1,if_neg s2,if_neg s3,if_neg s4,if_neg s5,if_neg this]
     ·replace e:=bx e
      have:=hv23.2.1 e
      unfold p2y;rw[if_neg s1,if_neg s2,if_neg s3,if_neg s4,if_neg s5,if_pos this]
 ·unfold p3Z
  refine Evt.bind (r6m _ s.form (Nat.le_refl _) (by have:=hok.2.1;omega)) fun v29 hv29=>?_
  subst hv29
  have hql:(qs s.form).length≤200:=by rw[r0d];have:=r1G s.form;have:=hok.2.1;omega
  refine Evt.i8R (Evt.scan (fun k _=>∀j,j<k→Am.get (qs s.form) j∉ (qs s.form).take j∧Am.get (qs s.form) j∉s.words) (fun k r=>r=⟨7, -1⟩∧¬QOk s) (fun j hj=>absurd hj (Nat.not_lt_zero _)) (fun k u hk hi=>?_)) (fun u hu=>?_) (fun r hr=>?_)
  ·unfold p4a
   refine Evt.chk (by omega) ?_
   simp only[p2V,Option.bind_some]
   refine Evt.bind (P:=fun v=>Am.get (qs s.form) k∉ (qs s.form).take k→(v=true↔Am.get (qs s.form) k∈s.words)) (Evt.gd (fun g=>Evt.pure fun _=>by simp) (fun g h=>by simp[h]at g)) fun v38 hv38=>Evt.cond (fun e=>?_) (fun e=>Evt.pure fun j hj=>?_)
   ·replace e:=bx e
    refine Evt.pure ⟨rfl,fun h=>?_⟩
    obtain⟨h1,h2⟩:=h k hk
    rcases e with e|e
    ·exact h1 e
    ·exact h2 ((hv38 h1).1 e)
   ·by_cases ej:j=k
    ·subst ej
     by_cases h1:Am.get (qs s.form) j∈(qs s.form).take j
     ·simp[h1]at e
     ·refine⟨h1,fun h2=>?_⟩
      have:=(hv38 h1).2 h2
      simp[this]at e
    ·exact hi j (by omega)
  ·unfold p4b
   exact Evt.pure (.inr (.inr (.inr (.inr ⟨⟨hok,h300,ht,hu⟩,rfl⟩))))
  ·obtain⟨k,_,_,_,rfl,h⟩:=hr
   exact .inr (.inr (.inr (.inl ⟨hok,h300,ht,h,rfl⟩)))
 ·obtain⟨k,_,hk,hi,h1,h2⟩:=hr
  exact .inr (.inr (.inl ⟨hok,h300,k,hk,hi,h1,h2⟩))
theorem r6o{s:Bs}(hl:s.length≤8000000):Evt (fun n=>p2J n s) (fun b=>b=r2h s):=by
 unfold p2J
 refine Evt.i8R (Evt.p6d s.length (fun k i=>i=(k:Int)∧∀j,j<k→OkC (i9O s (j:Int))∧(j=0→97≤i9O s 0∧i9O s 0≤122)) (fun _=>∀j,j<s.length→OkC (i9O s (j:Int))∧(j=0→97≤i9O s 0∧i9O s 0≤122)) (fun b=>b=false∧¬p0a s) ⟨rfl,fun j hj=>absurd hj (Nat.not_lt_zero _)⟩ (fun k i hk hi=>?_) (fun i hi=>?_)) (fun t ht=>?_) (fun r hr=>?_)
 ·obtain⟨rfl,hi⟩:=hi
  unfold p1q
  refine Evt.cond (fun _=>Evt.chk (by omega) ?_) (fun e=>by replace e:=bx e;omega)
  have key:OkC (i9O s (k:Int))∧(k=0→97≤i9O s 0∧i9O s 0≤122)↔((97≤i9O s (k:Int)∧i9O s (k:Int)≤122)∨(0<(k:Int)∧(((48≤i9O s (k:Int)∧i9O s (k:Int)≤57)∨i9O s (k:Int)=95)∨i9O s (k:Int)=45))):=by
   unfold OkC
   by_cases hk0:k=0
   ·subst hk0
    simp only[Int.ofNat_zero,forall_const,Int.lt_irrefl,false_and,or_false]
    exact⟨fun h=>h.2,fun h=>⟨.inl h,h⟩⟩
   ·have:0<(k:Int):=by omega
    simp only[this,hk0,false_implies,and_true,true_and,or_assoc]
  refine Evt.cond (fun e=>Evt.pure ⟨rfl,fun hn=>?_⟩) (fun e=>Evt.pure ?_)
  ·have h2:=key.1 ⟨hn.2.2.2 k hk,fun h0=>hn.2.2.1⟩
   replace e:=bx e
   omega
  ·rw[p0D (by omega) (by omega)]
   refine⟨rfl,fun j hj=>?_⟩
   by_cases ej:j=k
   ·subst ej
    refine key.2 ?_
    replace e:=bx e
    omega
   ·exact hi j (by omega)
 ·obtain⟨rfl,hi⟩:=hi
  unfold p1q
  exact Evt.cond (fun e=>by replace e:=bx e;omega) (fun _=>Evt.pure hi)
 ·unfold p2S
  refine Evt.pure ?_
  by_cases h1:0<s.length
  ·by_cases h2:s.length≤30
   ·have:decide (0<(s.length:Int))=true:=decide_eq_true (by omega)
    have h3:decide ((s.length:Int)≤30)=true:=decide_eq_true (by omega)
    rw[this,h3]
    exact(r1F ⟨h1,h2,(ht 0 h1).2 rfl,fun k hk=>(ht k hk).1⟩).symm
   ·have h3:decide ((s.length:Int)≤30)=false:=decide_eq_false (by omega)
    rw[h3,p5E fun h=>h2 h.2.1]
    cases decide (0<(s.length:Int))<;>rfl
  ·have:decide (0<(s.length:Int))=false:=decide_eq_false (by omega)
   rw[this,p5E fun h=>h1 h.1]
   rfl
 ·rw[hr.1,p5E hr.2]
theorem p6C{l:List Bs}{k:Nat}(hk:k≤l.length){x:Bs}:x∈l.take k↔ ∃j,j<k∧Am.get l j=x:=by
 rw[p1x,List.length_take,Nat.min_eq_left hk]
 have hg:∀j,j<k→Am.get (l.take k) j=Am.get l j:=fun j hj=>by
  unfold Am.get
  rw[List.getD_eq_getElem?_getD,List.getD_eq_getElem?_getD,List.getElem?_take_of_lt hj]
 exact⟨fun⟨j,hj,e⟩=>⟨j,hj,by rw[←hg j hj];exact e⟩,fun⟨j,hj,e⟩=>⟨j,hj,by rw[hg j hj];exact e⟩⟩
mutual
theorem r0Z:∀(f:i8F),WfF f→∀g∈i9g f,WfF g
 | .mk k n w s,h,g,hg=>by
   rw[p7N]at hg
   rcases List.mem_cons.1 hg with rfl|hg
   ·exact h
   ·exact r6p s ((p4O _).1 h).2 g hg
theorem r6p:∀(l:List i8F),r2v l→∀g∈p0r l,WfF g
 | [],_,g,hg=>by rw[p0r]at hg;cases hg
 |f::l,h,g,hg=>by
  rw[p0r]at hg
  rcases List.mem_append.1 hg with hg|hg
  ·exact r0Z f (p2h.1 h f (List.mem_cons_self ..)) g hg
  ·exact r6p l (p2h.2 fun x hx=>p2h.1 h x (List.mem_cons_of_mem _ hx)) g hg
end
theorem p6O.one{it:IT}{x:Bs}:p6O [it] x↔ ∃m,m<it.words.length∧Am.get it.words m=x∧Am.get it.bound m=false:=by
 unfold p6O;simp
theorem r1J(l m:List IT):qsI (l++m)=qsI l++qsI m:=List.flatMap_append
theorem r5b(it:IT):qsI [it]=if QK it.kind then [it.name]else []:=by unfold qsI;simp
theorem u3q(s9:Bool×Bool×Int)(R:List IT)(k:Nat)(names:List Bs)(i:Nat)(h9:s9.2.2=(i:Int))(hi:i<R.length)(hk:k<names.length)(hw:(Am.get R i).words.length≤3)(hbd:(Am.get R i).bound.length=(Am.get R i).words.length):
 Evt (fun n=>i9z (i9o s9 R (k:Int) names) n (s9.1,0)) (ExP (fun t=>t=true↔s9.1=true∨p6O [Am.get R i] (Am.get names k)) (fun _=>False)):=by
 refine(Evt.p6d (Am.get R i).words.length (fun j s=>s.2=(j:Int)∧(s.1=true↔s9.1=true∨∃m,m<j∧Am.get (Am.get R i).words m=Am.get names k∧Am.get (Am.get R i).bound m=false)) _ _ ⟨rfl,by simp⟩ (fun j s hj hs=>?_) (fun s hs=>?_))
 ·obtain⟨hs1,hs2⟩:=hs
  unfold i9o
  rw[h9,hs1]
  simp only[Int.toNat_natCast]
  refine Evt.chk (by omega) (Evt.cond (fun _=>Evt.chk ⟨i9v fun _=>by omega,i9v fun _=>by omega⟩ (Evt.chk hk (Evt.chk ⟨i9v fun _=>by omega,i9v fun _=>by omega⟩ (Evt.pure ?_)))) (fun e=>by replace e:=bx e;omega))
  refine⟨by rw[p0D (by omega) (by omega)];omega,?_⟩
  have hx:(∃m,m<j+1∧Am.get (Am.get R i).words m=Am.get names k∧Am.get (Am.get R i).bound m=false)↔(∃m,m<j∧Am.get (Am.get R i).words m=Am.get names k∧Am.get (Am.get R i).bound m=false)∨(Am.get (Am.get R i).words j=Am.get names k∧Am.get (Am.get R i).bound j=false):=by
   constructor
   ·rintro⟨m,h1,h2⟩
    by_cases e:m=j
    ·subst e;exact .inr h2
    ·exact .inl ⟨m,by omega,h2⟩
   ·rintro(⟨m,h1,h2⟩|h2)
    ·exact⟨m,by omega,h2⟩
    ·exact⟨j,by omega,h2⟩
  rw[hx, ←or_assoc, ←hs2]
  cases s.1
  ·by_cases e:Am.get (Am.get R i).words j=Am.get names k
   ·cases Am.get (Am.get R i).bound j<;>simp[e]
   ·simp[e]
  ·simp
 ·obtain⟨hs1,hs2⟩:=hs
  unfold i9o
  rw[h9,hs1]
  simp only[Int.toNat_natCast]
  refine Evt.chk (by omega) (Evt.cond (fun e=>by replace e:=bx e;omega) (fun _=>Evt.pure ?_))
  rw[p6O.one]
  exact hs2
def Seen(s:i8I)(R:List IT)(k i:Nat)(b1 b2:Bool):Prop:=
 (k<s.words.length→(b1=true↔p6O (R.take i) (Am.get (vns s) k))∧b2=false)∧
 (¬k<s.words.length→(b1=true↔p8D ((i9g s.form).take i) (Am.get (vns s) k)∨p8e ((i9g s.form).take i) (Am.get (vns s) k))∧(b2=true↔p8D ((i9g s.form).take i) (Am.get (vns s) k)))
theorem u5w{s:i8I}(hok:OkF s.form)(k:Nat)(hk:k<(vns s).length):
 Evt (fun n=>i9z (i9s n (p4B s.form [] 0) (k:Int) s (vns s)) n (false,false,0)) (ExP (fun t=>Seen s (p4B s.form [] 0) k (ndF s.form) t.1 t.2) (fun _=>False)):=by
 have hrl:(p4B s.form [] 0).length=ndF s.form:=p4l _ _ _
 have h2:=hok.2.1
 refine Evt.p6d (ndF s.form) (fun i t=>t.2.2=(i:Int)∧Seen s (p4B s.form [] 0) k i t.1 t.2.1) _ _ ⟨rfl,?_⟩ (fun i t hi ht=>?_) (fun t ht=>?_)
 ·refine⟨fun _=>⟨?_,rfl⟩,fun _=>⟨?_,?_⟩⟩
  ·simp[p6O.nil]
  ·simp[p8D,p8e]
  ·simp[p8D]
 ·obtain⟨ht1,ht2,ht3⟩:=ht
  have htl:=r1I s.form [] 0 i hi
  have hfl:i<(i9g s.form).length:=by rw[p3f];exact hi
  have hwf:=r0Z _ hok.1 _ (get_mem hfl)
  have hwd:(Am.get (p4B s.form [] 0) i).words.length≤3:=by rw[htl.2.2.1];exact p9w hwf
  unfold i9s
  refine Evt.cond (fun _=>Evt.cond (fun e=>?_) (fun e=>?_)) (fun e=>by replace e:=bx e;omega)
  ·replace e:=bx e
   have hkw:k<s.words.length:=by omega
   refine Evt.i8R (u3q t _ k _ i ht1 (by omega) hk hwd (by rw[htl.2.2.1];exact htl.2.2.2.2)) (fun u hu=>?_) (fun _ h=>h.elim)
   unfold p0B
   refine Evt.pure ⟨by show wr .i64 (t.2.2+1)=_;rw[ht1,p0D (by omega) (by omega)];omega,fun _=>⟨?_,(ht2 hkw).2⟩,fun h=>absurd hkw h⟩
   rw[i9n (by omega),p6O.app, ←(ht2 hkw).1]
   exact hu
  ·replace e:=bx e
   have hkw:¬k<s.words.length:=by omega
   have h9:t.2.2=(i:Int):=ht1
   simp only[h9,Int.toNat_natCast]
   refine Evt.chk (by omega) (Evt.chk hk (Evt.cond (fun e=>Evt.pure ?_) (fun e=>Evt.pure ?_)))
   ·replace e:=bx e
    refine⟨by show wr .i64 ((i:Int)+1)=_;rw[p0D (by omega) (by omega)];omega,fun h=>absurd h hkw,fun _=>?_⟩
    rw[htl.1,htl.2.1]at e
    simp only[i9n hfl,p8D.app,p8e.app,p8D.one,p8e.one]
    refine⟨iff_of_true trivial ?_,?_⟩
    ·rcases Nat.eq_zero_or_pos (Am.get (i9g s.form) i).words.length with h|h
     ·exact .inr (.inr ⟨e.1,e.2,h⟩)
     ·exact .inl (.inr ⟨e.1,e.2,h⟩)
    ·rw[←(ht3 hkw).2,htl.2.2.1]
     cases t.2.1<;>simp[e.1,e.2]
   ·refine⟨by show wr .i64 ((i:Int)+1)=_;rw[p0D (by omega) (by omega)];omega,fun h=>absurd h hkw,fun _=>?_⟩
    rw[htl.1,htl.2.1]at e
    have hn:¬((Am.get (i9g s.form) i).kind=2∧(Am.get (i9g s.form) i).name=Am.get (vns s) k):=fun h=>by simp[h.1,h.2]at e
    simp only[i9n hfl,p8D.app,p8e.app,p8D.one,p8e.one]
    have n1:¬((Am.get (i9g s.form) i).kind=2∧(Am.get (i9g s.form) i).name=Am.get (vns s) k∧0<(Am.get (i9g s.form) i).words.length):=fun h=>hn ⟨h.1,h.2.1⟩
    have n2:¬((Am.get (i9g s.form) i).kind=2∧(Am.get (i9g s.form) i).name=Am.get (vns s) k∧(Am.get (i9g s.form) i).words.length=0):=fun h=>hn ⟨h.1,h.2.1⟩
    simp only[n1,n2,or_false]
    exact ht3 hkw
 ·obtain⟨ht1,ht2⟩:=ht
  unfold i9s
  refine Evt.cond (fun e=>by replace e:=bx e;omega) (fun _=>Evt.pure ht2)
theorem u5x{s:i8I}(hb:SB s)(hok:OkF s.form)(h300:(vns s).length≤300):
 Evt (fun n=>i9z (i9t n (vns s) (p4B s.form [] 0) s) n 0) (ExP (fun _=>∀j,j<(vns s).length→p2y s j=0) (fun r=>FB (p2y s) (vns s).length r)):=by
 have hvl:=p4K s
 have hwl:wr .i64 ((s.words.length:Int)+(s.i8M.length:Int))=((s.words.length+s.i8M.length:Nat):Int):=by rw[p0D (by omega) (by omega)];omega
 refine Evt.p6d (vns s).length (fun k i=>i=(k:Int)∧∀j,j<k→p2y s j=0) _ _ ⟨rfl,fun j hj=>absurd hj (Nat.not_lt_zero _)⟩ (fun k i hk hi=>?_) (fun i hi=>?_)
 ·obtain⟨rfl,hi⟩:=hi
  have bad:∀c:Int,c≠0→p2y s k=c→u0P (fun i=>i=((k+1:Nat):Int)∧∀j,j<k+1→p2y s j=0) (fun _:Unit=>∀j,j<(vns s).length→p2y s j=0) (fun r=>FB (p2y s) (vns s).length r) (Ctl.ret ⟨c,(k:Int)⟩):=fun c hc h=>⟨k,hk,hi,by rw[h];exact hc,by rw[h]⟩
  have good:p2y s k=0→u0P (fun i=>i=((k+1:Nat):Int)∧∀j,j<k+1→p2y s j=0) (fun _:Unit=>∀j,j<(vns s).length→p2y s j=0) (fun r=>FB (p2y s) (vns s).length r) (Ctl.nxt (wr .i64 ((k:Int)+1))):=fun h=>⟨by rw[p0D (by omega) (by omega)];omega,fun j hj=>by
   by_cases ej:j=k
   ·subst ej;exact h
   ·exact hi j (by omega)⟩
  unfold i9t
  refine Evt.cond (fun _=>Evt.chk (by omega) ?_) (fun e=>by replace e:=bx e;omega)
  simp only[Int.toNat_natCast]
  refine Evt.bind (r6o (hb.2.2.2 _ (get_mem hk))) fun v hv=>Evt.cond (fun e=>Evt.pure (bad 10 (by decide) ?_)) (fun e=>?_)
  ·replace e:=bx e
   have:¬p0a (Am.get (vns s) k):=fun h=>by rw[(p5p hv).2 h]at e;cases e
   unfold p2y;rw[if_pos this]
  replace e:=bx e
  have s1:¬ ¬p0a (Am.get (vns s) k):=fun h=>h ((p5p hv).1 e)
  refine Evt.i8R (Evt.p6d k (fun j i=>i=(j:Int)∧∀m,m<j→Am.get (vns s) m≠Am.get (vns s) k) (fun _=>Am.get (vns s) k∉ (vns s).take k) (fun r=>Am.get (vns s) k∈(vns s).take k∧r=Ctl.ret ⟨7,(k:Int)⟩) ⟨rfl,fun j hj=>absurd hj (Nat.not_lt_zero _)⟩ (fun j i hj hs=>?_) (fun i hs=>?_)) (fun t ht=>?_) (fun r hr=>?_)
  ·obtain⟨rfl,hs⟩:=hs
   unfold i9T
   simp only[Int.toNat_natCast]
   refine Evt.cond (fun _=>Evt.chk (by omega) (Evt.cond (fun e=>Evt.pure ?_) (fun e=>Evt.pure ?_))) (fun e=>by replace e:=bx e;omega)
   ·replace e:=bx e
    exact⟨(p6C (by omega)).2 ⟨j,hj,e⟩,rfl⟩
   ·replace e:=bx e
    rw[p0D (by omega) (by omega)]
    refine⟨by omega,fun m hm=>?_⟩
    by_cases em:m=j
    ·subst em;exact e
    ·exact hs m (by omega)
  ·obtain⟨rfl,hs⟩:=hs
   unfold i9T
   refine Evt.cond (fun e=>by replace e:=bx e;omega) (fun _=>Evt.pure fun h=>?_)
   obtain⟨j,hj,e⟩:=(p6C (by omega)).1 h
   exact hs j hj e
  ·have s2:Am.get (vns s) k∉ (vns s).take k:=ht
   unfold p0J
   refine Evt.i8R (u5w hok k hk) (fun u hu=>?_) (fun _ h=>h.elim)
   obtain⟨hu1,hu2⟩:=hu
   have hrt:(p4B s.form [] 0).take (ndF s.form)=p4B s.form [] 0:=by rw[←p4l s.form [] 0,List.take_length]
   have hft:(i9g s.form).take (ndF s.form)=i9g s.form:=by rw[←p3f,List.take_length]
   rw[hrt,r6n]at hu1
   rw[hft]at hu2
   unfold p0K
   rw[hwl]
   refine Evt.cond (fun e=>Evt.pure (bad 5 (by decide) ?_)) (fun e=>Evt.cond (fun e2=>Evt.pure (bad 15 (by decide) ?_)) (fun e2=>Evt.pure (good ?_)))
   ·replace e:=bx e
    have s3:¬k<s.words.length:=by omega
    have s4:¬k<s.words.length+s.i8M.length:=by omega
    unfold p2y;rw[if_neg s1,if_neg s2,if_neg s3,if_neg s4,if_pos ((hu2 s3).2.1 e.2)]
   ·have e2:u.1=false:=by simpa using e2
    unfold p2y;rw[if_neg s1,if_neg s2]
    by_cases s3:k<s.words.length
    ·have:=(hu1 s3).1
     rw[if_pos s3,if_neg fun h=>by rw[this.2 h]at e2;cases e2]
    ·have:=(hu2 s3).1
     have hn:¬(p8D (i9g s.form) (Am.get (vns s) k)∨p8e (i9g s.form) (Am.get (vns s) k)):=fun h=>by rw[this.2 h]at e2;cases e2
     rw[if_neg s3]
     by_cases s4:k<s.words.length+s.i8M.length
     ·rw[if_pos s4,if_neg hn]
     ·rw[if_neg s4,if_neg fun h=>hn (.inl h),if_neg fun h=>hn (.inr h)]
   ·have e2:u.1=true:=by simpa using e2
    unfold p2y;rw[if_neg s1,if_neg s2]
    by_cases s3:k<s.words.length
    ·rw[if_pos s3,if_pos ((hu1 s3).1.1 e2)]
    ·have h:=(hu2 s3).1.1 e2
     rw[if_neg s3]
     by_cases s4:k<s.words.length+s.i8M.length
     ·rw[if_pos s4,if_pos h]
     ·have h5:¬p8D (i9g s.form) (Am.get (vns s) k):=fun h5=>by
       have h6:=(hu2 s3).2.2 h5
       rw[h6]at e
       have:decide (((s.words.length+s.i8M.length:Nat):Int)≤(k:Int))=true:=by simp;omega
       rw[this]at e;cases e
      rw[if_neg s4,if_neg h5,if_pos (h.resolve_left h5)]
  ·obtain⟨hm,rfl⟩:=hr
   refine bad 7 (by decide) ?_
   unfold p2y;rw[if_neg s1,if_pos hm]
 ·obtain⟨rfl,hi⟩:=hi
  unfold i9t
  exact Evt.cond (fun e=>by replace e:=bx e;omega) (fun _=>Evt.pure hi)
theorem u1t{l:List Bs}{x:Bs}{m:List Bs}:Am.get (l++x::m) l.length=x∧(l++x::m).take l.length=l:=by
 refine⟨?_,by simp⟩
 unfold Am.get;simp
theorem u3r{s:i8I}(hb:SB s)(hok:OkF s.form):
 Evt (fun n=>i9z (i9p n (p4B s.form [] 0) s) n ([],0)) (ExP (fun _=>QOk s) (fun r=>r=⟨7, -1⟩∧¬QOk s)):=by
 have hrl:(p4B s.form [] 0).length=ndF s.form:=p4l _ _ _
 have h2:=hok.2.1
 have hq:qs s.form=qsI (p4B s.form [] 0):=(r7x _ _ _).symm
 have hql:(qs s.form).length≤200:=by rw[r0d];have:=r1G s.form;omega
 have hpre:∀i,qs s.form=qsI ((p4B s.form [] 0).take i)++qsI ((p4B s.form [] 0).drop i):=fun i=>by rw[←r1J,List.take_append_drop];exact hq
 refine Evt.p6d (ndF s.form) (fun i t=>t=(qsI ((p4B s.form [] 0).take i),(i:Int))∧∀k,k<(qsI ((p4B s.form [] 0).take i)).length→Am.get (qs s.form) k∉ (qs s.form).take k∧Am.get (qs s.form) k∉s.words) _ _ ⟨by simp[qsI],fun k hk=>by simp[qsI]at hk⟩ (fun i t hi ht=>?_) (fun t ht=>?_)
 ·obtain⟨rfl,ht⟩:=ht
  have hll:(qsI ((p4B s.form [] 0).take i)).length≤200:=by have:=congrArg List.length (hpre i);rw[List.length_append]at this;omega
  unfold i9p
  simp only[Int.toNat_natCast]
  refine Evt.cond (fun _=>Evt.chk (by omega) ?_) (fun e=>by replace e:=bx e;omega)
  refine Evt.cond (fun e=>?_) (fun e=>Evt.pure ?_)
  ·replace e:=bx e
   have hqk:QK (Am.get (p4B s.form [] 0) i).kind:=e
   have hsn:qsI ((p4B s.form [] 0).take (i+1))=qsI ((p4B s.form [] 0).take i)++[(Am.get (p4B s.form [] 0) i).name]:=by rw[i9n (by omega),r1J,r5b,if_pos hqk]
   have hx:=hpre (i+1)
   rw[hsn,List.append_assoc,List.singleton_append]at hx
   have hg:Am.get (qs s.form) (qsI ((p4B s.form [] 0).take i)).length=(Am.get (p4B s.form [] 0) i).name:=by rw[hx];exact u1t.1
   have ht2:(qs s.form).take (qsI ((p4B s.form [] 0).take i)).length=qsI ((p4B s.form [] 0).take i):=by rw[hx];exact u1t.2
   have hlt:(qsI ((p4B s.form [] 0).take i)).length<(qs s.form).length:=by rw[hx];simp
   refine Evt.bind (u1s _ _ (by omega)) fun v hv=>Evt.bind (P:=fun w=>¬0≤v→r4r s.words (Am.get (p4B s.form [] 0) i).name w) (Evt.gd (fun _=>(p5q _ _ (by have:=hb.1;omega)).mono fun w hw _=>hw) (fun g h=>by simp at g;omega)) fun w hw=>?_
   refine Evt.cond (fun e=>Evt.pure ⟨rfl,fun h=>?_⟩) (fun e=>Evt.p1m (Evt.chk ?_ (Evt.pure ?_)))
   ·obtain⟨k1,k2⟩:=h _ hlt
    rw[hg,ht2]at k1
    rw[hg]at k2
    have n1:¬0≤v:=fun h=>k1 (hv.mem.1 h)
    have n2:¬0≤w:=fun h=>k2 ((hw n1).mem.1 h)
    simp[n1,n2]at e
   ·rw[p0q,List.length_append,List.length_singleton];omega
   ·have n1:¬0≤v:=fun h=>by simp[h]at e
    have n2:¬0≤w:=fun h=>by simp[h]at e
    refine⟨by rw[hsn,p0D (by omega) (by omega)];rfl,fun k hk=>?_⟩
    rw[hsn,List.length_append,List.length_singleton]at hk
    by_cases ek:k=(qsI ((p4B s.form [] 0).take i)).length
    ·subst ek
     rw[hg,ht2]
     exact⟨fun h=>n1 (hv.mem.2 h),fun h=>n2 ((hw n1).mem.2 h)⟩
    ·exact ht k (by omega)
  ·replace e:=bx e
   have hqk:¬QK (Am.get (p4B s.form [] 0) i).kind:=fun h=>by rcases h with h|h<;>simp[h]at e
   have hsn:qsI ((p4B s.form [] 0).take (i+1))=qsI ((p4B s.form [] 0).take i):=by rw[i9n (by omega),r1J,r5b,if_neg hqk,List.append_nil]
   refine⟨by rw[hsn,p0D (by omega) (by omega)];rfl,?_⟩
   rw[hsn];exact ht
 ·obtain⟨rfl,ht⟩:=ht
  unfold i9p
  refine Evt.cond (fun e=>by replace e:=bx e;omega) (fun _=>Evt.pure ?_)
  have hrt:(p4B s.form [] 0).take (ndF s.form)=p4B s.form [] 0:=by rw[←hrl,List.take_length]
  rw[hrt, ←hq]at ht
  exact ht
theorem r3Q{s:i8I}(hb:SB s):Evt (fun n=>p0y n s) (r9C s):=by
 have hvl:=p4K s
 obtain⟨b1,b2,b3,_⟩:=id hb
 unfold p0y
 refine Evt.bind (r2a s.form) fun v hv=>?_
 subst hv
 refine Evt.cond (fun e=>Evt.pure (.inl ⟨fun h=>?_,rfl⟩)) (fun e=>?_)
 ·rw[p9v h]at e;simp at e
 replace e:=bx e
 have hok:OkF s.form:=(p6l _).1 e
 have hw:wr .i64 (wr .i64 ((s.words.length:Int)+(s.i8M.length:Int))+(s.parts.length:Int))=((vns s).length:Int):=by
  rw[p0D (n:=(s.words.length:Int)+(s.i8M.length:Int)) (by omega) (by omega),p0D (by omega) (by omega)];omega
 rw[hw]
 refine Evt.cond (fun e=>?_) (fun e=>?_)
 ·replace e:=bx e
  exact Evt.pure (.inr (.inl ⟨hok,by omega,rfl⟩))
 replace e:=bx e
 have h300:(vns s).length≤300:=by omega
 refine Evt.i8R (r6i s.words _ (fun _=>rfl) [] (by simp;omega)) (fun t ht=>?_) (fun _ h=>h.elim)
 unfold p0L
 have ht:t=s.words:=ht
 subst ht
 refine Evt.i8R (r6i s.i8M _ (fun _=>rfl) s.words (by omega)) (fun t ht=>?_) (fun _ h=>h.elim)
 unfold p0M
 have ht:t=s.words++s.i8M:=ht
 subst ht
 refine Evt.i8R (r6i s.parts _ (fun _=>rfl) (s.words++s.i8M) (by rw[List.length_append];omega)) (fun t ht=>?_) (fun _ h=>h.elim)
 unfold p0N
 have ht:t=vns s:=ht
 subst ht
 refine Evt.bind (r2w hok.1 [] (by have:=hok.2.1;omega) (by simp)) fun v hv=>?_
 subst hv
 refine Evt.i8R (u5x hb hok h300) (fun t ht=>?_) (fun r hr=>.inr (.inr (.inl ⟨hok,h300,hr⟩)))
 unfold p0O
 refine Evt.i8R (u3r hb hok) (fun u hu=>?_) (fun r hr=>.inr (.inr (.inr (.inl ⟨hok,h300,ht,hr.2,hr.1⟩))))
 exact Evt.pure (.inr (.inr (.inr (.inr ⟨⟨hok,h300,ht,hu⟩,rfl⟩))))
def dval(l:Bs):Nat:=l.foldl (fun a c=>10*a+(c.toNat-48)) 0
theorem r8v(u:Nat):dval (Lib.decDigits u)=u:=by
 induction u using Nat.strongRecOn with
 | _ u ih=>
   by_cases h:u<10
   ·rw[Lib.decDigits,dif_pos h]
    unfold dval
    simp only[List.foldl_cons,List.foldl_nil,UInt8.toNat_ofNat']
    omega
   ·rw[Lib.decDigits,dif_neg h]
    unfold dval
    rw[List.foldl_append]
    have:=ih (u / 10) (by omega)
    unfold dval at this
    rw[this]
    simp only[List.foldl_cons,List.foldl_nil,UInt8.toNat_ofNat']
    omega
theorem u1u{u v:Nat}(h:Lib.decDigits u=Lib.decDigits v):u=v:=by rw[←r8v u,h,r8v]
def vn(m:Nat):Bs:=118::Lib.decDigits m
theorem u7J{u v:Nat}(h:vn u=vn v):u=v:=u1u (List.cons.inj h).2
def mk(m:Nat):Bs:=33::Lib.decDigits m
theorem mk_inj{u v:Nat}(h:mk u=mk v):u=v:=u1u (List.cons.inj h).2
theorem u1v{m:Nat}:¬p0a (mk m):=fun h=>by
 have:=h.2.2.1.1
 simp[i9O,mk]at this
theorem r0r{m:Nat}(h:m≤1000000000):(Lib.decDigits m).length≤21:=by
 have:=Lib.itoa_length_le (m:Int) (by omega) (by omega)
 rwa[Lib.itoa_nonneg]at this
theorem r1a{m:Nat}(hm:m≤1000000000):Evt (fun n=>i9K n (m:Int)) (fun r=>r=Lib.decDigits m):=by
 unfold i9K
 have hl:=r0r hm
 refine Evt.i8R (Evt.loop (fun s:Int×Bs=>s.1.toNat) (fun s=>∃q:Nat,s.1=(q:Int)∧q≤m∧Lib.decDigits m=Lib.decDigits q++s.2) (fun _=>False) (fun r=>r=Lib.decDigits m) ⟨m,rfl,Nat.le_refl _,by simp⟩ (fun s hs=>?_)) (fun t ht=>ht.elim) (fun r hr=>hr)
 obtain⟨q,hq,hqm,hd⟩:=hs
 unfold p2k
 have h1:Int.tmod s.1 10=((q%10:Nat):Int):=by rw[hq];rfl
 have h2:Int.tdiv s.1 10=((q / 10:Nat):Int):=by rw[hq];rfl
 have h3:wr .u8 (wr .i64 (48+((q%10:Nat):Int)))=((48+q%10:Nat):Int):=by
  have e64:wr .i64 (48+((q%10:Nat):Int))=48+((q%10:Nat):Int):=p0D (by omega) (by omega)
  rw[e64]
  have:wr .u8 ((48+q%10:Nat):Int)=((48+q%10:Nat):Int):=by
   have:q%10<10:=Nat.mod_lt _ (by decide)
   show((48+q%10:Nat):Int)%256=_
   omega
  rw[←this];rfl
 rw[h1,h2,h3]
 simp only[Int.toNat_natCast]
 have hl2:(Lib.decDigits q).length+s.2.length≤21:=by rw[←List.length_append, ←hd];exact hl
 refine Evt.chk (by unfold p1w;simp;omega) (Evt.chk ⟨by show -9223372036854775808≤_;omega,by show _≤(9223372036854775807:Int);omega⟩ (Evt.cond (fun e=>Evt.pure ?_) (fun e=>Evt.pure ?_)))
 ·replace e:=bx e
  have hlt:q<10:=by omega
  show p9P [UInt8.ofNat (48+q%10)] s.2=_
  rw[hd,Lib.decDigits,dif_pos hlt,Nat.mod_eq_of_lt hlt];rfl
 ·replace e:=bx e
  have hge:¬q<10:=fun h=>e (by omega)
  refine⟨⟨q / 10,rfl,by omega,?_⟩,?_⟩
  ·rw[hd,Lib.decDigits,dif_neg hge,List.append_assoc];rfl
  ·show(((q / 10:Nat):Int)).toNat<s.1.toNat
   rw[hq,Int.toNat_natCast,Int.toNat_natCast];omega
def u2l(p:Bs→Prop)(j m:Nat):Prop:=j≤m∧¬p (vn m)∧∀k,j≤k→k<m→p (vn k)
theorem u2l.uniq{p:Bs→Prop}{j m m':Nat}(h:u2l p j m)(h':u2l p j m'):m=m':=by
 rcases Nat.lt_trichotomy m m' with e|e|e
 ·exact absurd (h'.2.2 m h.1 e) h.2.1
 ·exact e
 ·exact absurd (h.2.2 m' h'.1 e) h'.2.1
theorem u2l.congr{p q:Bs→Prop}(hpq:∀x,p x↔q x){j m:Nat}(h:u2l p j m):u2l q j m:=⟨h.1,fun e=>h.2.1 ((hpq _).2 e),fun k a b=>(hpq _).1 (h.2.2 k a b)⟩
theorem r8w:∀(n:Nat) (C:List Bs) (g:Nat→Bs),C.length=n→(∀i j,g i=g j→i=j)→∃m,m≤n∧g m∉C
 |0,C,g,h,_=>⟨0,Nat.le_refl _,by rw[List.length_eq_zero_iff.1 h];exact List.not_mem_nil⟩
 |n+1,C,g,h,hg=>by
  by_cases hm:g (n+1)∈C
  ·obtain⟨m,h1,h2⟩:=r8w n (C.erase (g (n+1))) g (by rw[List.length_erase_of_mem hm,h];rfl) hg
   refine⟨m,by omega,fun h3=>h2 ((List.mem_erase_of_ne fun e=>?_).2 h3)⟩
   have:=hg _ _ e
   omega
  ·exact⟨n+1,Nat.le_refl _,hm⟩
theorem u7K{p:Bs→Prop}{C:List Bs}(hC:∀x,p x→x∈C)(j:Nat):∃m,u2l p j m∧m≤j+C.length:=by
 obtain⟨m,h1,h2⟩:=r8w _ C (fun i=>vn (j+i)) rfl (fun a b e=>by have:=u7J e;omega)
 have key:∀d j,(∃m,j≤m∧m≤j+d∧¬p (vn m))→∃m,u2l p j m∧m≤j+d:=by
  intro d
  induction d with
  |zero=>
   rintro j ⟨m,a,b,c⟩
   obtain rfl:m=j:=by omega
   exact⟨m,⟨Nat.le_refl _,c,fun k a b=>absurd a (by omega)⟩,by omega⟩
  |succ d ih=>
   rintro j ⟨m,a,b,c⟩
   by_cases hp:p (vn j)
   ·have hne:j≠m:=fun e=>c (e▸hp)
    obtain⟨m',e1,e2⟩:=ih (j+1) ⟨m,by omega,by omega,c⟩
    refine⟨m',⟨by have:=e1.1;omega,e1.2.1,fun k a b=>?_⟩,by omega⟩
    by_cases ek:k=j
    ·rw[ek];exact hp
    ·exact e1.2.2 k (by omega) b
   ·exact⟨j,⟨Nat.le_refl _,hp,fun k a b=>absurd a (by omega)⟩,by omega⟩
 exact key _ j ⟨j+m,by omega,by omega,fun hp=>h2 (hC _ hp)⟩
open Classical in
noncomputable def nx(p:Bs→Prop)(j:Nat):Nat:=Classical.epsilon fun m=>u2l p j m
theorem u3s{p:Bs→Prop}{C:List Bs}(hC:∀x,p x→x∈C)(j:Nat):u2l p j (nx p j):=Classical.epsilon_spec ((u7K hC j).imp fun _ h=>h.1)
theorem u5y{p:Bs→Prop}{C:List Bs}(hC:∀x,p x→x∈C)(j:Nat):nx p j≤j+C.length:=by
 obtain⟨m,h1,h2⟩:=u7K hC j
 rw[(u3s hC j).uniq h1];exact h2
noncomputable def num(p:Bs→Prop):Nat→Nat
 |0=>nx p 0
 |i+1=>nx p (num p i+1)
noncomputable def NN(p:Bs→Prop)(i:Nat):Bs:=vn (num p i)
theorem r8x{p:Bs→Prop}{C:List Bs}(hC:∀x,p x→x∈C)(L:Nat)(hL:C.length≤L):∀i,num p i≤(i+1)*(L+1)
 |0=>by have:=u5y hC 0;show nx p 0≤_;omega
 |i+1=>by
  have:=u5y hC (num p i+1)
  have:=r8x hC L hL i
  show nx p (num p i+1)≤_
  rw[Nat.succ_mul (i+1)]
  omega
def r0s(K V:Nat→Bs):Nat→List (Bs×Bs)
 |0=>[]
 |k+1=>(K k,V k)::r0s K V k
theorem r0t{K K' V V':Nat→Bs}:∀ {n:Nat},(∀k,k<n→K k=K' k∧V k=V' k)→r0s K V n=r0s K' V' n
 |0,_=>rfl
 |n+1,h=>by rw[r0s,r0s,(h n (by omega)).1,(h n (by omega)).2,r0t fun k hk=>h k (by omega)]
theorem u7L{ρ:Type}(K V:Nat→Bs)(L:Nat)(hL:L≤8000000)(w:Bs)(body:Int→Option (Ctl ρ Int Bs))(hb:∀k,k<L→body (k:Int)=bif decide (K k=w)then some (.brk (V k))else some (.nxt (wr .i64 ((k:Int)-1))))(h0:body (-1)=some (.brk w)):
 Evt (fun n=>i9z body n (wr .i64 ((L:Int)-1))) (ExP (fun t=>t=sub (r0s K V L) w) (fun _=>False)):=by
 have hw:wr .i64 ((L:Int)-1)=(L:Int)-1:=p0D (by omega) (by omega)
 rw[hw]
 refine Evt.p6d L (fun k s=>∃m:Nat,s=(m:Int)-1∧m+k=L∧sub (r0s K V L) w=sub (r0s K V m) w) _ _ ⟨L,rfl,rfl,rfl⟩ (fun k s hk hs=>?_) (fun s hs=>?_)
 ·obtain⟨m,rfl,hm,he⟩:=hs
  obtain⟨m,rfl⟩:∃j,m=j+1:=⟨m-1,by omega⟩
  have e1:((m+1:Nat):Int)-1=(m:Int):=by omega
  rw[e1,hb m (by omega)]
  refine Evt.cond (fun e=>Evt.pure ?_) (fun e=>Evt.pure ?_)
  ·replace e:=bx e
   show V m=_
   rw[he,r0s,p6r,if_pos e]
  ·replace e:=bx e
   refine⟨m,p0D (by omega) (by omega),by omega,?_⟩
   rw[he,r0s,p6r,if_neg e]
 ·obtain⟨m,rfl,hm,he⟩:=hs
  obtain rfl:m=0:=by omega
  show Evt (fun _=>body (-1)) _
  rw[h0]
  refine Evt.pure ?_
  rw[he,r0s,r7t]
  exact rfl
theorem r2x:∀(l:List i8F) (x:i8F),nqL (l++[x])=nqL l+nq x
 | [],x=>by simp[nqL]
 |a::l,x=>by rw[List.cons_append,nqL,nqL,r2x l x,Nat.add_assoc]
theorem r8y{l:List i8F}{k:Nat}(h:k<l.length):nqL (l.take k)+nq (Am.get l k)≤nqL l:=by
 have e:l=l.take (k+1)++l.drop (k+1):=(List.take_append_drop _ _).symm
 have:∀(l m:List i8F),nqL (l++m)=nqL l+nqL m:=fun l m=>by
  induction l with
  |nil=>simp[nqL]
  |cons a l ih=>rw[List.cons_append,nqL,nqL,ih,Nat.add_assoc]
 rw[←r2x, ←i9n h]
 have:=this (l.take (k+1)) (l.drop (k+1))
 rw[←e]at this
 omega
theorem r3w(N:Nat→Bs):∀(l:List i8F) (x:i8F) (env:List (Bs×Bs)) (i:Nat),p6F N (l++[x]) env i=p6F N l env i++[ren N x env (i+nqL l)]
 | [],x,env,i=>by simp[p6F,nqL]
 |a::l,x,env,i=>by rw[List.cons_append,p6F,p6F,r3w N l x,nqL,Nat.add_assoc];rfl
theorem u5z{m:Nat}(hm:m≤1000000000):itoa (m:Int)=some (Lib.decDigits m):=by
 unfold itoa
 rw[r3j (by omega),Lib.itoa_nonneg]
theorem u1w{C:List Bs}{p:Bs→Prop}(hC:∀x,x∈C↔p x){b:Nat}(hb:b+C.length≤100000000):Evt (fun n=>p5Z n (b:Int) C) (fun r=>r=(vn (nx p b),((nx p b+1:Nat):Int))):=by
 unfold p5Z
 have h:=u3s (fun x=>(hC x).2) b
 have hle:=u5y (fun x=>(hC x).2) b
 have step:∀m:Nat,m≤100000000→p4C C (m:Int)=bif (!decide (vn m∈C))then some (.ret (vn m,((m+1:Nat):Int)))else some (.nxt ((m+1:Nat):Int)):=fun m hm=>by
  unfold p4C
  have hl:=r0r (m:=m) (by omega)
  have hw:wr .i64 ((m:Int)+1)=((m+1:Nat):Int):=by rw[p0D (by omega) (by omega)];rfl
  have e:p9P [118] (Lib.decDigits m)=vn m:=rfl
  rw[u5z (by omega),Option.bind_some,r3j (show p1w _ _ by unfold p1w;simp;omega),e,p2V,Option.bind_some,hw]
 refine Evt.i8R (Evt.p6d (nx p b-b) (fun k s=>s=((b+k:Nat):Int)) (fun _=>False) (fun r=>r=(vn (nx p b),((nx p b+1:Nat):Int))) rfl (fun k s hk hs=>?_) (fun s hs=>?_)) (fun _ ht=>ht.elim) (fun r hr=>hr)
 ·subst hs
  rw[step _ (by omega)]
  have hm:vn (b+k)∈C:=(hC _).2 (h.2.2 _ (by omega) (by omega))
  simp only[hm,decide_true,Bool.not_true,cond_false]
  exact Evt.pure rfl
 ·subst hs
  have e:b+(nx p b-b)=nx p b:=by have:=h.1;omega
  rw[e,step _ (by omega)]
  have hm:vn (nx p b)∉C:=fun hm=>h.2.1 ((hC _).1 hm)
  simp only[hm,decide_false,Bool.not_false,cond_true]
  exact Evt.pure rfl
def r7y(env:List i8P):List (Bs×Bs):=r0s (fun k=>(Am.get env k).from_) (fun k=>(Am.get env k).to_) env.length
theorem r2y{α:Type}[Inhabited α](l:List α)(x:α):Am.get (l++[x]) l.length=x∧∀k,k<l.length→Am.get (l++[x]) k=Am.get l k:=by
 unfold Am.get
 refine⟨by simp,fun k hk=>?_⟩
 rw[List.getD_eq_getElem?_getD,List.getD_eq_getElem?_getD,List.getElem?_append_left hk]
theorem u1x(env:List i8P)(a b:Bs):r7y (env++[⟨a,b⟩])=(a,b)::r7y env:=by
 unfold r7y
 rw[List.length_append,List.length_singleton,r0s,(r2y env _).1]
 congr 1
 exact r0t fun k hk=>by rw[(r2y env _).2 k hk];exact⟨rfl,rfl⟩
theorem r9s{p:Bs→Prop}{C:List Bs}(hC:∀x,x∈C↔p x)(hCl:C.length≤10000):∀(m:Nat) (f:i8F),SizeOf.sizeOf f≤m→WfF f→∀(env:List i8P) (i b:Nat),env.length+ndF f≤100000→i+nq f≤1000→nx p b=num p i→
 Evt (fun n=>p1n n f env (b:Int) C) (fun r=>r.1=ren (NN p) f (r7y env) i∧∃b':Nat,r.2=(b':Int)∧nx p b'=num p (i+nq f)):=by
 intro m
 have hC2:∀x,p x→x∈C:=fun x=>(hC x).2
 induction m with
 |zero=>intro f h;cases f;simp only[i8F.mk.sizeOf_spec]at h;omega
 |succ m ih=>
  intro f hf hwf env i b r9D hi hb
  have hnd:=p9u f
  have hws:=p9w hwf
  have hsl:=r0p hwf
  have hnq:=u7F f
  refine Evt.succ ?_
  simp only[p1n]
  refine Evt.i8R (P:=ExP (fun t=>t=f.words.map (sub (r7y env))) (fun _=>False)) ((Evt.range (fun k s=>s=(f.words.take k).map (sub (r7y env))) (fun _=>False) (fun _=>False) (by simp) (fun k s hk hs=>?_)).mono fun e he=>?_) (fun t ht=>?_) (fun _ h=>h.elim)
  ·unfold p5a
   refine Evt.i8R (u7L (fun k=>(Am.get env k).from_) (fun k=>(Am.get env k).to_) env.length (by omega) (Am.get f.words k) (p4d env f k) (fun j hj=>?_) rfl) (fun t ht=>?_) (fun _ h=>h.elim)
   ·unfold p4d
    have e1:decide (0≤(j:Int))=true:=decide_eq_true (by omega)
    rw[e1,cond_true,r3j (by omega)]
    rfl
   ·unfold p5b
    refine Evt.p1m (Evt.chk ?_ (Evt.pure ?_))
    ·subst hs
     rw[p0q];simp only[List.length_append,List.length_map,List.length_take,List.length_cons,List.length_nil];omega
    ·show _=_
     have ht:t=sub (r7y env) (Am.get f.words k):=ht
     rw[hs,ht,i9n hk,List.map_append];rfl
  ·cases e with
   |ret r=>exact he
   |nxt t=>
    have:=he.elim id False.elim
    rw[List.take_length]at this
    exact this
  ·subst ht
   have key:∀(env':List i8P) (nm:Bs) (j c:Nat),nm=(if QK f.kind then NN p i else f.name)→r7y env'=(if QK f.kind then(f.name,NN p i)::r7y env else r7y env)→j=i+(if QK f.kind then 1 else 0)→nx p c=num p j→env'.length≤env.length+1→
    Evt (fun n=>p2Z (p1n n) f C (f.words.map (sub (r7y env))) ((c:Int),nm,env')) (fun r=>r.1=ren (NN p) f (r7y env) i∧∃b':Nat,r.2=(b':Int)∧nx p b'=num p (i+nq f)):=by
    intro env' nm j c hnm u5A hj hc hlen
    have hjn:j+nqL f.subs=i+nq f:=by omega
    unfold p2Z
    refine Evt.i8R (P:=ExP (fun t=>t.2=p6F (NN p) f.subs (r7y env') j∧∃b':Nat,t.1=(b':Int)∧nx p b'=num p (j+nqL f.subs)) (fun _=>False)) ((Evt.range (fun k s=>s.2=p6F (NN p) (f.subs.take k) (r7y env') j∧∃b':Nat,s.1=(b':Int)∧nx p b'=num p (j+nqL (f.subs.take k))) (fun _=>False) (fun _=>False) ⟨by simp[p6F],c,rfl,by simpa[nqL]using hc⟩ (fun k s hk hs=>?_)).mono fun e he=>?_) (fun t ht=>?_) (fun _ h=>h.elim)
    ·obtain⟨hs1,b',hs2,hs3⟩:=hs
     unfold p5c
     have hsz:=p0V hk
     have htk:=p5Y hk
     have hqk:=r8y hk
     refine Evt.bind (P:=fun r=>r.1=ren (NN p) (Am.get f.subs k) (r7y env') (j+nqL (f.subs.take k))∧∃b'':Nat,r.2=(b'':Int)∧nx p b''=num p (j+nqL (f.subs.take k)+nq (Am.get f.subs k))) ?_ fun v hv=>Evt.p1m (Evt.chk ?_ (Evt.pure ?_))
     ·rw[hs2]
      exact ih _ (by omega) (p6B hwf hk) env' _ b' (by omega) (by omega) hs3
     ·rw[p0q,hs1];simp only[List.length_append,r0Y,List.length_take,List.length_cons,List.length_nil];omega
     ·obtain⟨hv1,b'',hv2,hv3⟩:=hv
      refine⟨?_,b'',hv2,?_⟩
      ·show s.2++[v.1]=_
       rw[hs1,hv1,i9n hk,r3w]
      ·rw[hv3,i9n hk,r2x,Nat.add_assoc]
    ·cases e with
     |ret r=>exact he
     |nxt t=>
      have:=he.elim id False.elim
      rw[List.take_length]at this
      exact this
    ·obtain⟨ht1,b',ht2,ht3⟩:=ht
     unfold p5d
     refine Evt.pure ⟨?_,b',ht2,by rw[ht3,hjn]⟩
     show i8F.mk _ _ _ _=_
     rw[u4f,ht1,hnm,u5A,hj]
   unfold p5e
   simp only[p9K,Option.bind_some]
   have hbl:=(u3s hC2 b).1
   have hnl:=r8x hC2 10000 hCl i
   refine Evt.cond (fun e=>?_) (fun e=>?_)
   ·replace e:=bx e
    rw[if_pos e]at hnq
    refine Evt.bind (u1w hC (b:=b) (by omega)) fun v hv=>Evt.chk (by omega) (Evt.p1m (Evt.chk ?_ ?_))
    ·rw[p0q];simp only[List.length_append,List.length_cons,List.length_nil];omega
    ·subst hv
     exact key _ _ (i+1) (nx p b+1) (by rw[if_pos e,hb];rfl) (by rw[if_pos e,u1x,hb];rfl) (by rw[if_pos e]) (by rw[hb];rfl) (by simp)
   ·replace e:=bx e
    rw[if_neg e]at hnq
    exact key _ _ i b (by rw[if_neg e]) (by rw[if_neg e]) (by rw[if_neg e];rfl) hb (by omega)
noncomputable def cf(f:i8F):i8F:=ren (NN (fre f [])) f [] 0
theorem r8z{f:i8F}(h:OkF f):Evt (fun n=>p5P n f) (fun r=>r=cf f):=by
 have h2:=h.2.1
 unfold p5P p6s
 have hq:=r1G f
 refine Evt.bind (P:=fun r=>r=cf f) (Evt.bind (p9x h.1 (by omega)) fun v hv=>?_) fun v hv=>Evt.pure hv
 refine Evt.i8R (P:=ExP (fun _=>True) (fun _=>False)) ⟨.nxt (),trivial,0,fun n _=>rfl⟩ (fun _ _=>?_) (fun _ h=>h.elim)
 unfold p5f
 exact Evt.bind (r9s hv.1 (by omega) _ f (Nat.le_refl _) h.1 [] 0 0 (by simp;omega) (by omega) rfl) fun r hr=>Evt.pure hr.1
mutual
def SmF:i8F→Prop
 | .mk _ _ w s=>w.length≤3∧s.length≤2∧r5c s
def r5c:List i8F→Prop
 | []=>True
 |f::l=>SmF f∧r5c l
end
theorem r4s(f:i8F):SmF f↔f.words.length≤3∧f.subs.length≤2∧r5c f.subs:=by cases f;rw[SmF];rfl
theorem p9M:∀ {l:List i8F},r5c l→∀x∈l,SmF x
 | [],_,x,h=>by cases h
 |f::l,h,x,hx=>by
  rw[r5c]at h
  rcases List.mem_cons.1 hx with rfl|hx
  ·exact h.1
  ·exact p9M h.2 x hx
mutual
theorem WfF.sm:∀(f:i8F),WfF f→SmF f
 | .mk k n w s,h=>by
   rw[SmF]
   exact⟨p9w h,r0p h,r2v.sm s ((p4O _).1 h).2⟩
theorem r2v.sm:∀(l:List i8F),r2v l→r5c l
 | [],_=>by rw[r5c];trivial
 |f::l,h=>by
  rw[r5c]
  exact⟨WfF.sm f (p2h.1 h f (List.mem_cons_self ..)),r2v.sm l (p2h.2 fun x hx=>p2h.1 h x (List.mem_cons_of_mem _ hx))⟩
end
mutual
theorem SmF.ren(N:Nat→Bs):∀(f:i8F) (env:List (Bs×Bs)) (i:Nat),SmF f→SmF (ren N f env i)
 | .mk k n w s,env,i,h=>by
   rw[SmF]at h
   rw[Go.Proofs.YtdjnbjnlnjhllaaGreatDoor.ren,SmF]
   exact⟨by rw[List.length_map];exact h.1,by rw[r0Y];exact h.2.1,r5c.ren N s _ _ h.2.2⟩
theorem r5c.ren(N:Nat→Bs):∀(l:List i8F) (env:List (Bs×Bs)) (i:Nat),r5c l→r5c (p6F N l env i)
 | [],env,i,_=>by rw[p6F,r5c];trivial
 |f::l,env,i,h=>by
  rw[r5c]at h
  rw[p6F,r5c]
  exact⟨SmF.ren N f env i h.1,r5c.ren N l env _ h.2⟩
end
mutual
theorem r8A:∀(f:i8F),WfF f→∀(bd:List Bs) (x:Bs),fre f bd x→p0a x
 | .mk k n w s,h,bd,x,hx=>by
   rw[fre]at hx
   rcases hx with hx|hx
   ·exact(p3F ((p4O _).1 h).1).2.2.2.2 x hx.1
   ·exact r6q s ((p4O _).1 h).2 _ x hx
theorem r6q:∀(l:List i8F),r2v l→∀(bd:List Bs) (x:Bs),p7W l bd x→p0a x
 | [],_,bd,x,hx=>by rw[p7W]at hx;exact hx.elim
 |f::l,h,bd,x,hx=>by
  rw[p7W]at hx
  rcases hx with hx|hx
  ·exact r8A f (p2h.1 h f (List.mem_cons_self ..)) bd x hx
  ·exact r6q l (p2h.2 fun y hy=>p2h.1 h y (List.mem_cons_of_mem _ hy)) bd x hx
end
def r7z(a b:List Bs):List (Bs×Bs):=r0s (Am.get a) (Am.get b) a.length
theorem u1y{a b:List Bs}(h:a.length=b.length)(x y:Bs):r7z (a++[x]) (b++[y])=(x,y)::r7z a b:=by
 unfold r7z
 have e1:=r2y a x
 have e2:=r2y b y
 rw[List.length_append,List.length_singleton,r0s,e1.1,h,e2.1]
 congr 1
 rw[←h]
 exact r0t fun k hk=>⟨e1.2 k hk,e2.2 k (by omega)⟩
theorem u1z:∀(m:Nat) (f:i8F),SizeOf.sizeOf f≤m→WfF f→∀(a1 a2:List Bs) (i:Nat),a1.length=a2.length→a1.length+ndF f≤100000→i+nq f≤1000→
 Evt (fun n=>i9l n f a1 a2 (i:Int)) (fun r=>r.1=ren mk f (r7z a1 a2) i∧r.2=((i+nq f:Nat):Int)):=by
 intro m
 induction m with
 |zero=>intro f h;cases f;simp only[i8F.mk.sizeOf_spec]at h;omega
 |succ m ih=>
  intro f hf hwf a1 a2 i haa r9D hi
  have hnd:=p9u f
  have hws:=p9w hwf
  have hsl:=r0p hwf
  have hnq:=u7F f
  refine Evt.succ ?_
  simp only[i9l]
  refine Evt.i8R (P:=ExP (fun t=>t=f.words.map (sub (r7z a1 a2))) (fun _=>False)) ((Evt.range (fun k s=>s=(f.words.take k).map (sub (r7z a1 a2))) (fun _=>False) (fun _=>False) (by simp) (fun k s hk hs=>?_)).mono fun e he=>?_) (fun t ht=>?_) (fun _ h=>h.elim)
  ·unfold p2l
   refine Evt.i8R (u7L (Am.get a1) (Am.get a2) a1.length (by omega) (Am.get f.words k) (p0W a1 f k a2) (fun j hj=>?_) rfl) (fun t ht=>?_) (fun _ h=>h.elim)
   ·unfold p0W
    have e1:decide (0≤(j:Int))=true:=decide_eq_true (by omega)
    have e2:(j:Int)<(a2.length:Int):=by omega
    rw[e1,cond_true,r3j (by omega),r3j e2]
    rfl
   ·unfold p2m
    refine Evt.p1m (Evt.chk ?_ (Evt.pure ?_))
    ·subst hs
     rw[p0q];simp only[List.length_append,List.length_map,List.length_take,List.length_cons,List.length_nil];omega
    ·show _=_
     have ht:t=sub (r7z a1 a2) (Am.get f.words k):=ht
     rw[hs,ht,i9n hk,List.map_append];rfl
  ·cases e with
   |ret r=>exact he
   |nxt t=>
    have:=he.elim id False.elim
    rw[List.take_length]at this
    exact this
  ·subst ht
   have key:∀(c1 c2:List Bs) (nm:Bs) (j:Nat),nm=(if QK f.kind then mk i else f.name)→c1.length=c2.length→r7z c1 c2=(if QK f.kind then(f.name,mk i)::r7z a1 a2 else r7z a1 a2)→j=i+(if QK f.kind then 1 else 0)→c1.length≤a1.length+1→
    Evt (fun n=>p0g (i9l n) f (f.words.map (sub (r7z a1 a2))) ((j:Int),nm,c1,c2)) (fun r=>r.1=ren mk f (r7z a1 a2) i∧r.2=((i+nq f:Nat):Int)):=by
    intro c1 c2 nm j hnm hcc u5A hj hlen
    have hjn:j+nqL f.subs=i+nq f:=by omega
    unfold p0g
    refine Evt.chk (by omega) (Evt.i8R (P:=ExP (fun t=>t.2=p6F mk f.subs (r7z c1 c2) j∧t.1=((j+nqL f.subs:Nat):Int)) (fun _=>False)) ((Evt.range (fun k s=>s.2=p6F mk (f.subs.take k) (r7z c1 c2) j∧s.1=((j+nqL (f.subs.take k):Nat):Int)) (fun _=>False) (fun _=>False) ⟨by simp[p6F],by simp[nqL]⟩ (fun k s hk hs=>?_)).mono fun e he=>?_) (fun t ht=>?_) (fun _ h=>h.elim))
    ·obtain⟨hs1,hs2⟩:=hs
     unfold p2n
     have hsz:=p0V hk
     have htk:=p5Y hk
     have hqk:=r8y hk
     refine Evt.bind (P:=fun r=>r.1=ren mk (Am.get f.subs k) (r7z c1 c2) (j+nqL (f.subs.take k))∧r.2=((j+nqL (f.subs.take k)+nq (Am.get f.subs k):Nat):Int)) ?_ fun v hv=>Evt.p1m (Evt.chk ?_ (Evt.pure ?_))
     ·rw[hs2]
      exact ih _ (by omega) (p6B hwf hk) c1 c2 _ hcc (by omega) (by omega)
     ·rw[p0q,hs1];simp only[List.length_append,r0Y,List.length_take,List.length_cons,List.length_nil];omega
     ·obtain⟨hv1,hv2⟩:=hv
      refine⟨?_,?_⟩
      ·show s.2++[v.1]=_
       rw[hs1,hv1,i9n hk,r3w]
      ·show v.2=_
       rw[hv2,i9n hk,r2x,Nat.add_assoc]
    ·cases e with
     |ret r=>exact he
     |nxt t=>
      have:=he.elim id False.elim
      rw[List.take_length]at this
      exact this
    ·obtain⟨ht1,ht2⟩:=ht
     unfold p2o
     refine Evt.pure ⟨?_,by show t.1=_;rw[ht2,hjn]⟩
     show i8F.mk _ _ _ _=_
     rw[u4f,ht1,hnm,u5A,hj]
   unfold p2p
   refine Evt.cond (fun e=>?_) (fun e=>?_)
   ·replace e:=bx e
    have e:QK f.kind:=e
    rw[if_pos e]at hnq
    have hw:wr .i64 ((i:Int)+1)=((i+1:Nat):Int):=by rw[p0D (by omega) (by omega)];rfl
    rw[hw]
    refine Evt.bind (r1a (by omega)) fun v hv=>?_
    subst hv
    have hl:=r0r (m:=i) (by omega)
    refine Evt.chk (by unfold p1w;simp;omega) (Evt.p1m (Evt.chk ?_ (Evt.p1m (Evt.chk ?_ (Evt.p1m (Evt.chk ?_ (Evt.p1m (Evt.chk ?_ ?_))))))))
    ·rw[p0q];simp only[List.nil_append];omega
    ·rw[p0q];simp only[List.nil_append,List.length_append,List.length_cons,List.length_nil];omega
    ·rw[p0q];simp only[List.nil_append];omega
    ·rw[p0q];simp only[List.nil_append,List.length_append,List.length_cons,List.length_nil];omega
    ·exact key _ _ _ _ (by rw[if_pos e];rfl) (by simp[haa]) (by rw[if_pos e];exact u1y haa _ _) (by rw[if_pos e]) (by simp)
   ·replace e:=bx e
    have e:¬QK f.kind:=fun h=>by unfold QK at h;omega
    rw[if_neg e]at hnq
    exact key _ _ _ _ (by rw[if_neg e]) haa (by rw[if_neg e]) (by rw[if_neg e];rfl) (by omega)
theorem u7M(l:List Bs)(x:Bs):Evt (fun _=>p0C l x) (fun r=>r=decide (x∈l)):=by
 unfold p0C
 refine Evt.i8R (Evt.scan (fun k _=>∀j,j<k→Am.get l j≠x) (fun k r=>r=true∧Am.get l k=x) (fun j hj=>absurd hj (Nat.not_lt_zero _)) (fun k u hk hi=>?_)) (fun t ht=>?_) (fun r hr=>?_)
 ·unfold p3G
  refine Evt.cond (fun e=>Evt.pure ?_) (fun e=>Evt.pure ?_)
  ·replace e:=bx e
   exact⟨rfl,e⟩
  ·replace e:=bx e
   intro j hj
   by_cases ej:j=k
   ·subst ej;exact e
   ·exact hi j (by omega)
 ·unfold p3H
  refine Evt.pure (decide_eq_false fun h=>?_).symm
  obtain⟨j,hj,e⟩:=p1x.1 h
  exact ht j hj e
 ·obtain⟨k,_,hk,_,rfl,e⟩:=hr
  exact(decide_eq_true (p1x.2 ⟨k,hk,e⟩)).symm
theorem u1A(l:List Bs)(x:Bs):p0C l x=some (decide (x∈l)):=by
 obtain⟨r,rfl,N,hN⟩:=u7M l x
 exact hN N (Nat.le_refl _)
theorem u7N{l:List Bs}(a:Bs)(hl:l.length≤1000000):Evt (fun n=>p3I n l a) (fun r=>(∀x,x∈r↔x∈l∨x=a)∧r.length≤l.length+1):=by
 unfold p3I
 simp only[u1A,Option.bind_some]
 refine Evt.cond (fun e=>Evt.pure ⟨fun x=>?_,by omega⟩) (fun e=>?_)
 ·replace e:=bx e
  exact⟨.inl,fun h=>h.elim id fun h=>h▸e⟩
 ·refine Evt.i8R (Evt.loop (fun s:Int=>((l.length:Int)-s).toNat) (fun s=>0≤s∧s≤l.length) (fun t:Int=>0≤t∧t≤(l.length:Int)) (fun _=>False) ⟨Int.le_refl _,by omega⟩ (fun s hs=>?_)) (fun t ht=>?_) (fun _ h=>?_)
  ·obtain⟨h1,h2⟩:=hs
   unfold p3J
   refine Evt.chk ⟨i9v fun _=>h1,i9v fun h=>by simpa using h⟩ (Evt.cond (fun e=>Evt.pure ?_) (fun e=>Evt.pure ⟨h1,h2⟩))
   have h3:s<(l.length:Int):=Classical.byContradiction fun h=>by
    rw[decide_eq_false h]at e;cases e
   have hw:wr .i64 (s+1)=s+1:=p0D (by omega) (by omega)
   refine⟨⟨by rw[hw];omega,by rw[hw];omega⟩,?_⟩
   rw[hw];omega
  ·obtain⟨h1,h2⟩:=ht
   unfold p3K
   have hl2:(l.take t.toNat).length=t.toNat:=by rw[List.length_take];omega
   have hl3:(l.drop t.toNat).length=l.length-t.toNat:=List.length_drop
   refine Evt.chk ⟨h1,by omega⟩ (Evt.p1m (Evt.chk ?_ (Evt.p1m (Evt.chk ?_ (Evt.p1m (Evt.chk ?_ (Evt.pure ⟨fun x=>?_,?_⟩)))))))
   ·rw[p0q,hl2];omega
   ·rw[p0q];simp only[List.length_append,List.length_cons,List.length_nil,hl2];omega
   ·rw[p0q];simp only[List.length_append,List.length_cons,List.length_nil,hl2,hl3];omega
   ·have e2:x∈l↔x∈l.take t.toNat∨x∈l.drop t.toNat:=by rw[←List.mem_append,List.take_append_drop]
    rw[List.mem_append,List.mem_append,List.mem_singleton,e2,or_right_comm]
   ·simp only[List.length_append,List.length_cons,List.length_nil,hl2,hl3];omega
  ·exact False.elim h
theorem u1B:∀(m:Nat) (f:i8F),SizeOf.sizeOf f≤m→SmF f→∀(bd l:List Bs),bd.length+ndF f≤100000→l.length+3*ndF f≤300000→
 Evt (fun n=>i9m n f bd l) (fun r=>(∀x,x∈r↔x∈l∨fre f bd x)∧r.length≤l.length+3*ndF f):=by
 intro m
 induction m with
 |zero=>intro f h;cases f;simp only[i8F.mk.sizeOf_spec]at h;omega
 |succ m ih=>
  intro f hf hwf bd l hbd hl
  have hnd:=p9u f
  obtain⟨hws,hsl,hsm⟩:=(r4s f).1 hwf
  refine Evt.succ ?_
  simp only[i9m]
  refine Evt.i8R (P:=ExP (fun t=>(∀x,x∈t↔x∈l∨(x∈f.words∧x∉bd))∧t.length≤l.length+3) (fun _=>False)) ((Evt.range (fun k s=>(∀x,x∈s↔x∈l∨(x∈f.words.take k∧x∉bd))∧s.length≤l.length+k) (fun _=>False) (fun _=>False) ⟨fun x=>by simp,by omega⟩ (fun k s hk hi=>?_)).mono fun e he=>?_) (fun t ht=>?_) (fun _ h=>h.elim)
  ·unfold p2q
   simp only[u1A,Option.bind_some]
   refine Evt.cond (fun e=>Evt.bind (u7N (Am.get f.words k) (by omega)) fun v hv=>Evt.pure ⟨fun x=>?_,?_⟩) (fun e=>Evt.pure ⟨fun x=>?_,by omega⟩)
   ·replace e:=bx e
    rw[hv.1 x,hi.1 x,i9n hk,List.mem_append,List.mem_singleton]
    by_cases hx:x=Am.get f.words k
    ·subst hx;simp[e]
    ·simp[hx]
   ·have:=hv.2;omega
   ·replace e:=bx e
    rw[hi.1 x,i9n hk,List.mem_append,List.mem_singleton]
    by_cases hx:x=Am.get f.words k
    ·subst hx;simp[e]
    ·simp[hx]
  ·cases e with
   |ret r=>exact he
   |nxt t=>
    obtain⟨h1,h2⟩:=he.elim id False.elim
    rw[List.take_length]at h1
    exact⟨h1,by omega⟩
  ·obtain⟨h1,h2⟩:=ht
   have key:∀bd':List Bs,(∀y,y∈bd'↔y∈(if QK f.kind then f.name::bd else bd))→bd'.length≤bd.length+1→Evt (fun n=>p0h (i9m n) f t bd') (fun r=>(∀x,x∈r↔x∈l∨fre f bd x)∧r.length≤l.length+3*ndF f):=by
    intro bd' hb hbl
    unfold p0h
    refine Evt.chk (by omega) (Evt.i8R (P:=ExP (fun r=>(∀x,x∈r↔x∈t∨p7W f.subs bd' x)∧r.length≤t.length+3*p3T f.subs) (fun _=>False)) ((Evt.range (fun k s=>(∀x,x∈s↔x∈t∨p7W (f.subs.take k) bd' x)∧s.length≤t.length+3*p3T (f.subs.take k)) (fun _=>False) (fun _=>False) ⟨fun x=>by simp[p7W],by omega⟩ (fun k s hk hi=>?_)).mono fun e he=>?_) (fun r hr=>?_) (fun _ h=>h.elim))
    ·unfold p2r
     have hsz:=p0V hk
     have htk:=p5Y hk
     refine Evt.bind (ih _ (by omega) (p9M hsm _ (get_mem hk)) bd' s (by omega) (by omega)) fun v hv=>Evt.pure ⟨fun x=>?_,?_⟩
     ·rw[hv.1 x,hi.1 x,i9n hk,r6l,or_assoc]
     ·rw[i9n hk,p8s]
      have:=hv.2
      have:=hi.2
      omega
    ·cases e with
     |ret r=>exact he
     |nxt r=>
      have:=he.elim id False.elim
      rw[List.take_length]at this
      exact this
    ·obtain⟨h3,h4⟩:=hr
     unfold p2s
     refine Evt.pure ⟨fun x=>?_,by omega⟩
     rw[h3 x,h1 x,r8o,p9L f.subs _ _ hb x,or_assoc]
   unfold p2t
   refine Evt.cond (fun e=>Evt.p1m (Evt.chk ?_ (Evt.p1m (Evt.chk ?_ (key _ (fun y=>?_) ?_))))) (fun e=>key _ (fun y=>?_) (by omega))
   ·rw[p0q];simp only[List.nil_append];omega
   ·rw[p0q];simp only[List.nil_append,List.length_append,List.length_cons,List.length_nil];omega
   ·replace e:=bx e
    have e:QK f.kind:=e
    rw[if_pos e];simp[or_comm]
   ·simp
   ·replace e:=bx e
    have e:¬QK f.kind:=fun h=>by unfold QK at h;omega
    rw[if_neg e]
mutual
def swp(σ:Bs→Bs):i8F→i8F
 | .mk k n w s=>.mk k (if QK k then σ n else n) (w.map σ) (r5s σ s)
def r5s(σ:Bs→Bs):List i8F→List i8F
 | []=>[]
 |f::l=>swp σ f::r5s σ l
end
theorem u7O(σ:Bs→Bs)(f:i8F):swp σ f= .mk f.kind (if QK f.kind then σ f.name else f.name) (f.words.map σ) (r5s σ f.subs):=by cases f;rw[swp];rfl
theorem r8B(σ:Bs→Bs):∀l:List i8F,(r5s σ l).length=l.length
 | []=>by rw[r5s]
 |f::l=>by rw[r5s,List.length_cons,List.length_cons,r8B σ l]
theorem r6r(σ:Bs→Bs):∀(l:List i8F) (x:i8F),r5s σ (l++[x])=r5s σ l++[swp σ x]
 | [],x=>by simp[r5s]
 |a::l,x=>by rw[List.cons_append,r5s,r5s,r6r σ l x];rfl
theorem r3x{l:List Bs}{k:Nat}(h:k<l.length):l.drop k=Am.get l k::l.drop (k+1):=by
 rw[List.drop_eq_getElem_cons h]
 simp[Am.get,h]
theorem u4k{ρ:Type}{l0 l1:List Bs}(hll:l0.length=l1.length)(w:Bs)(body:Nat→Bs→Option (Ctl ρ Bs Bs))(hb:∀k,body k w=bif decide (Am.get l0 k=w)then chk ((k:Int)<(l1.length:Int)) (some (.brk (Am.get l1 k)))else some (.nxt w)):
 Evt (fun _=>i9P body l0.length w) (ExP (fun t=>t=sub (l0.zip l1) w) (fun _=>False)):=by
 refine(Evt.range (fun k s=>s=w∧sub (l0.zip l1) w=sub ((l0.drop k).zip (l1.drop k)) w) (fun t=>t=sub (l0.zip l1) w) (fun _=>False) ⟨rfl,rfl⟩ (fun k s hk hs=>?_)).mono fun e he=>?_
 ·obtain⟨rfl,hs⟩:=hs
  rw[hb]
  rw[r3x hk,r3x (l:=l1) (by omega),List.zip_cons_cons,p6r]at hs
  refine Evt.cond (fun e=>Evt.chk (by omega) (Evt.pure ?_)) (fun e=>Evt.pure ?_)
  ·replace e:=bx e
   rw[if_pos e]at hs
   exact hs.symm
  ·replace e:=bx e
   rw[if_neg e]at hs
   exact⟨rfl,hs⟩
 ·cases e with
  |ret r=>exact he
  |nxt t=>
   rcases he with⟨rfl,he⟩|he
   ·rw[List.drop_length,List.zip_nil_left,r7t]at he
    exact he.symm
   ·exact he
theorem r9t{l0 l1:List Bs}(hll:l0.length=l1.length)(hl:l0.length≤100000):∀(m:Nat) (g:i8F),SizeOf.sizeOf g≤m→SmF g→Evt (fun n=>i9d n g l0 l1) (fun r=>r=swp (sub (l0.zip l1)) g):=by
 intro m
 induction m with
 |zero=>intro f h;cases f;simp only[i8F.mk.sizeOf_spec]at h;omega
 |succ m ih=>
  intro f hf hsm
  obtain⟨hws,hsl,hsm⟩:=(r4s f).1 hsm
  refine Evt.succ ?_
  simp only[i9d]
  refine Evt.i8R (P:=ExP (fun t=>t=f.words.map (sub (l0.zip l1))) (fun _=>False)) ((Evt.range (fun k s=>s=(f.words.take k).map (sub (l0.zip l1))) (fun _=>False) (fun _=>False) (by simp) (fun k s hk hs=>?_)).mono fun e he=>?_) (fun t ht=>?_) (fun _ h=>h.elim)
  ·unfold p1T
   refine Evt.chk (by omega) (Evt.i8R (u4k hll (Am.get f.words k) _ (fun j=>rfl)) (fun t ht=>?_) (fun _ h=>h.elim))
   unfold p1U
   have ht:t=sub (l0.zip l1) (Am.get f.words k):=ht
   refine Evt.p1m (Evt.chk ?_ (Evt.pure ?_))
   ·subst hs
    rw[p0q];simp only[List.length_append,List.length_map,List.length_take,List.length_cons,List.length_nil];omega
   ·show _=_
    rw[hs,ht,i9n hk,List.map_append];rfl
  ·cases e with
   |ret r=>exact he
   |nxt t=>
    have:=he.elim id False.elim
    rw[List.take_length]at this
    exact this
  ·subst ht
   have key:∀nm:Bs,nm=(if QK f.kind then sub (l0.zip l1) f.name else f.name)→Evt (fun n=>i9Z (i9d n) f l0 l1 (f.words.map (sub (l0.zip l1))) nm) (fun r=>r=swp (sub (l0.zip l1)) f):=by
    intro nm hnm
    unfold i9Z
    refine Evt.chk (by omega) (Evt.i8R (P:=ExP (fun t=>t=r5s (sub (l0.zip l1)) f.subs) (fun _=>False)) ((Evt.range (fun k s=>s=r5s (sub (l0.zip l1)) (f.subs.take k)) (fun _=>False) (fun _=>False) (by simp[r5s]) (fun k s hk hs=>?_)).mono fun e he=>?_) (fun t ht=>?_) (fun _ h=>h.elim))
    ·unfold p1V
     have hsz:=p0V hk
     refine Evt.bind (ih _ (by omega) (p9M hsm _ (get_mem hk))) fun v hv=>Evt.p1m (Evt.chk ?_ (Evt.pure ?_))
     ·rw[p0q,hs];simp only[List.length_append,r8B,List.length_take,List.length_cons,List.length_nil];omega
     ·show s++[v]=_
      rw[hs,hv,i9n hk,r6r]
    ·cases e with
     |ret r=>exact he
     |nxt t=>
      have:=he.elim id False.elim
      rw[List.take_length]at this
      exact this
    ·unfold p1W
     refine Evt.pure ?_
     rw[u7O,hnm]
     have ht:t=r5s (sub (l0.zip l1)) f.subs:=ht
     rw[ht]
   unfold p1X
   refine Evt.cond (fun e=>?_) (fun e=>?_)
   ·replace e:=bx e
    have e:QK f.kind:=e
    refine Evt.chk (by omega) (Evt.i8R (u4k hll f.name (p1Y l0 f l1) (fun j=>rfl)) (fun t ht=>?_) (fun _ h=>h.elim))
    unfold p1Z
    exact key t (by rw[if_pos e];exact ht)
   ·replace e:=bx e
    have e:¬QK f.kind:=fun h=>by unfold QK at h;omega
    exact key _ (by rw[if_neg e])
theorem u1C(σ:Bs→Bs){w:Bs}(h:σ w=w):∀env:List (Bs×Bs),σ (sub env w)=sub (env.map fun e=>(e.1,σ e.2)) w
 | []=>by rw[List.map_nil,r7t,h]
 |(a,b)::env=>by
  rw[List.map_cons,p6r,p6r]
  split
  ·rfl
  ·exact u1C σ h env
mutual
theorem u1D(σ:Bs→Bs)(N:Nat→Bs)(q:Nat)(h1:∀j,j<q→σ (mk j)=N j)(h2:∀w,p0a w→σ w=w):∀(f:i8F) (env:List (Bs×Bs)) (i:Nat),WfF f→i+nq f≤q→swp σ (ren mk f env i)=ren N f (env.map fun e=>(e.1,σ e.2)) i
 | .mk k n w s,env,i,hwf,hq=>by
   have hn:=((p4O _).1 hwf).1
   have hs:=((p4O _).1 hwf).2
   have hw:=(p3F hn).2.2.2.2
   rw[nq]at hq
   rw[ren,ren,swp]
   have e1:(w.map (sub env)).map σ=w.map (sub (env.map fun e=>(e.1,σ e.2))):=by
    rw[List.map_map]
    exact List.map_congr_left fun x hx=>u1C σ (h2 x (hw x hx)) env
   rw[e1]
   by_cases hk:QK k
   ·rw[if_pos hk]at hq
    simp only[if_pos hk]
    rw[h1 i (by omega),r5d σ N q h1 h2 s _ _ hs (by omega),List.map_cons,h1 i (by omega)]
   ·rw[if_neg hk]at hq
    simp only[if_neg hk]
    rw[r5d σ N q h1 h2 s _ _ hs (by omega)]
theorem r5d(σ:Bs→Bs)(N:Nat→Bs)(q:Nat)(h1:∀j,j<q→σ (mk j)=N j)(h2:∀w,p0a w→σ w=w):∀(l:List i8F) (env:List (Bs×Bs)) (i:Nat),r2v l→i+nqL l≤q→r5s σ (p6F mk l env i)=p6F N l (env.map fun e=>(e.1,σ e.2)) i
 | [],env,i,_,_=>by rw[p6F,p6F,r5s]
 |f::l,env,i,h,hq=>by
  rw[nqL]at hq
  rw[p6F,p6F,r5s,u1D σ N q h1 h2 f env i (p2h.1 h f (List.mem_cons_self ..)) (by omega),r5d σ N q h1 h2 l env _ (p2h.2 fun x hx=>p2h.1 h x (List.mem_cons_of_mem _ hx)) (by omega)]
end
theorem r1K(N:Nat→Bs):∀n i,(nms N i n).length=n
 |0,i=>rfl
 |n+1,i=>by rw[nms,List.length_cons,r1K N n]
theorem r8C(N:Nat→Bs)(k:Nat):nms N 0 (k+1)=nms N 0 k++[N k]:=by
 rw[r4W,Nat.zero_add];rfl
theorem u4l(N:Nat→Bs):∀n i d,d<n→sub ((nms mk i n).zip (nms N i n)) (mk (i+d))=N (i+d)
 |0,i,d,h=>absurd h (Nat.not_lt_zero _)
 |n+1,i,d,h=>by
  rw[nms,nms,List.zip_cons_cons,p6r]
  cases d with
  |zero=>exact if_pos rfl
  |succ d=>
   rw[if_neg fun e=>by have:=mk_inj e;omega]
   have:=u4l N n (i+1) d (by omega)
   rw[Nat.add_right_comm,Nat.add_assoc]at this
   exact this
theorem u4m(N:Nat→Bs){w:Bs}(hw:p0a w):∀n i,sub ((nms mk i n).zip (nms N i n)) w=w
 |0,i=>rfl
 |n+1,i=>by
  rw[nms,nms,List.zip_cons_cons,p6r,if_neg fun e=>u1v (e▸hw),u4m N hw n]
theorem r6s{f:i8F}(h:OkF f):Evt (fun n=>p0X n f) (fun r=>r=cf f):=by
 have hnd:=h.2.1
 have hq:=r1G f
 unfold p0X p4m
 refine Evt.bind (P:=fun r=>r=cf f) (Evt.bind (u1z _ f (Nat.le_refl _) h.1 [] [] 0 rfl (by simp;omega) (by omega)) fun v1 hv1=>?_) fun v hv=>Evt.pure hv
 obtain⟨g,c⟩:=v1
 obtain⟨hg0,hc0⟩:=hv1
 have hg:g=ren mk f [] 0:=hg0
 have hc:c=((0+nq f:Nat):Int):=hc0
 clear hg0 hc0
 rw[Nat.zero_add]at hc
 subst hc
 have hsm:SmF g:=by rw[hg];exact SmF.ren mk f [] 0 (WfF.sm f h.1)
 have hgn:ndF g=ndF f:=by rw[hg,u1e]
 refine Evt.bind (P:=fun C=>(∀x,x∈C↔fre f [] x)∧C.length≤3*ndF f) ?_ fun C hC=>?_
 ·unfold p2T
  refine Evt.bind (u1B _ g (Nat.le_refl _) hsm [] [] (by simp;omega) (by simp;omega)) fun v hv=>Evt.pure ⟨fun x=>?_,?_⟩
  ·rw[hv.1 x,hg]
   have:=u1i mk p0a (fun i=>u1v) f [] 0 (fun x hx=>r8A f h.1 _ x hx) (fun p hp=>by cases hp) x
   simp only[List.not_mem_nil,false_or]
   exact this
  ·have:=hv.2
   rw[hgn]at this
   simpa using this
 obtain⟨hC,hCl⟩:=hC
 have hC2:∀x,fre f [] x→x∈C:=fun x=>(hC x).2
 refine Evt.i8R (P:=ExP (fun t=>t=C) (fun _=>False)) ((Evt.range (fun k s=>s=C.take k) (fun _=>False) (fun _=>False) (by simp) (fun k s hk hs=>?_)).mono fun e he=>?_) (fun t ht=>?_) (fun _ h=>h.elim)
 ·unfold p3q
  refine Evt.p1m (Evt.chk ?_ (Evt.pure ?_))
  ·subst hs
   rw[p0q];simp only[List.length_append,List.length_take,List.length_cons,List.length_nil];omega
  ·show _=_
   rw[hs,i9n hk]
 ·cases e with
  |ret r=>exact he
  |nxt t=>
   have:=he.elim id False.elim
   rw[List.take_length]at this
   exact this
 have ht:t=C:=ht
 subst ht
 unfold p3r
 have u9T:=r8x hC2 600 (by omega)
 refine Evt.i8R (Evt.p6d (nq f) (fun k s=>s.1=nms mk 0 k∧s.2.1=nms (NN (fre f [])) 0 k∧(∃b:Nat,s.2.2.1=(b:Int)∧nx (fre f []) b=num (fre f []) k)∧s.2.2.2=(k:Int)) (fun t=>t=(nms mk 0 (nq f),nms (NN (fre f [])) 0 (nq f))) (fun _=>False) ⟨rfl,rfl,⟨0,rfl,rfl⟩,rfl⟩ (fun k s hk hs=>?_) (fun s hs=>?_)) (fun t ht=>?_) (fun _ h=>?_)
 ·obtain⟨hs1,hs2,⟨b,hs3,hb⟩,hs4⟩:=hs
  unfold p1E
  refine Evt.cond (fun _=>?_) (fun e=>by replace e:=bx e;omega)
  have hx:=u3s hC2 b
  have hnk:=u9T k
  have step:∀m:Nat,m≤1000000→Evt (fun n=>p1F n t (m:Int)) (fun c=>c=if vn m∈t then .nxt ((m+1:Nat):Int)else .brk (m:Int)):=fun m hm=>by
   unfold p1F
   have hl:=r0r (m:=m) (by omega)
   refine Evt.bind (r1a (by omega)) fun v hv=>?_
   subst hv
   have hw:wr .i64 ((m:Int)+1)=((m+1:Nat):Int):=by rw[p0D (by omega) (by omega)];rfl
   have e:p9P [118] (Lib.decDigits m)=vn m:=rfl
   refine Evt.chk (by unfold p1w;simp;omega) ?_
   simp only[e,u1A,Option.bind_some,hw]
   refine Evt.cond (fun e=>Evt.pure ?_) (fun e=>Evt.pure ?_)
   ·replace e:=bx e
    rw[if_pos e]
   ·replace e:=bx e
    rw[if_neg e]
  rw[hs3]
  refine Evt.i8R (Evt.p6d (nx (fre f []) b-b) (fun j i=>i=((b+j:Nat):Int)) (fun i=>i=((num (fre f []) k:Nat):Int)) (fun _=>False) rfl (fun j i hj hi=>?_) (fun i hi=>?_)) (fun i hi=>?_) (fun _ h=>?_)
  ·subst hi
   refine(step _ (by omega)).mono fun c hc=>?_
   rw[if_pos ((hC _).2 (hx.2.2 _ (by omega) (by omega)))]at hc
   subst hc
   rfl
  ·subst hi
   have e:b+(nx (fre f []) b-b)=nx (fre f []) b:=by have:=hx.1;omega
   rw[e]
   refine(step _ (by omega)).mono fun c hc=>?_
   rw[if_neg fun hm=>hx.2.1 ((hC _).1 hm)]at hc
   subst hc
   show((nx (fre f []) b:Nat):Int)=_
   rw[hb]
  ·have hi:i=((num (fre f []) k:Nat):Int):=hi
   subst hi
   unfold p3s
   rw[hs4]
   have l1:=r0r (m:=k) (by omega)
   have l2:=r0r (m:=num (fre f []) k) (by omega)
   refine Evt.bind (r1a (by omega)) fun v hv=>?_
   subst hv
   refine Evt.chk (by unfold p1w;simp;omega) (Evt.p1m (Evt.chk ?_ (Evt.bind (r1a (by omega)) fun v hv=>?_)))
   ·rw[p0q,hs1];simp only[List.length_append,r1K,List.length_cons,List.length_nil];omega
   subst hv
   refine Evt.chk (by unfold p1w;simp;omega) (Evt.p1m (Evt.chk ?_ (Evt.pure ?_)))
   ·rw[p0q,hs2];simp only[List.length_append,r1K,List.length_cons,List.length_nil];omega
   ·refine⟨?_,?_,⟨num (fre f []) k+1,?_,rfl⟩,?_⟩
    ·rw[r8C, ←hs1];rfl
    ·rw[r8C, ←hs2];rfl
    ·show wr .i64 (((num (fre f []) k:Nat):Int)+1)=_
     rw[p0D (by omega) (by omega)];rfl
    ·show wr .i64 ((k:Int)+1)=_
     rw[p0D (by omega) (by omega)];rfl
  ·exact False.elim h
 ·obtain⟨hs1,hs2,_,hs4⟩:=hs
  unfold p1E
  refine Evt.cond (fun e=>by replace e:=bx e;omega) (fun _=>Evt.pure ?_)
  show(_,_)=(_,_)
  rw[hs1,hs2]
 ·have ht:t=(nms mk 0 (nq f),nms (NN (fre f [])) 0 (nq f)):=ht
  subst ht
  unfold p3t
  refine Evt.bind (r9t (by rw[r1K,r1K]) (by rw[r1K];omega) _ g (Nat.le_refl _) hsm) fun v hv=>Evt.pure ?_
  rw[hv,hg]
  exact u1D _ _ (nq f) (fun j hj=>by have:=u4l (NN (fre f [])) (nq f) 0 j hj;rw[Nat.zero_add]at this;exact this) (fun w hw=>u4m _ hw _ _) f [] 0 h.1 (by omega)
 ·exact False.elim h
end Go.Proofs.YtdjnbjnlnjhllaaGreatDoor
