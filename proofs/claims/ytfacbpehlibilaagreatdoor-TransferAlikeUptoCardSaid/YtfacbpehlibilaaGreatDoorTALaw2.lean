import Derived.Lib.ItoaMem
import Derived.Lib.ItoaLen
import Derived.Test.YtfacbpehlibilaaGreatDoorTALaw1
set_option linter.unusedVariables false
set_option linter.unusedSimpArgs false
namespace Go.Proofs.YtfacbpehlibilaaGreatDoor
open Go Go.Am
theorem i4g(l:List Bs)(x:Bs):Evt (fun _=>Ww l x) (fun r=>r=decide (x∈l)):=by
 unfold Ww Zc
 refine Evt.bind (P:=fun r=>0≤r↔x∈l) (Evt.WL (Evt.scan (fun k _=>∀j,j<k→Am.get l j≠x) (fun k r=>r=(k:Int)∧Am.get l k=x) (fun j hj=>absurd hj (Nat.not_lt_zero _)) (fun k u hk hi=>?_)) (fun t ht=>?_) (fun r hr=>?_)) fun v hv=>Evt.pure ?_
 ·unfold Yx
  refine Evt.cond (fun e=>Evt.pure ?_) (fun e=>Evt.pure ?_)
  ·replace e:=bx e
   exact⟨rfl,e.symm⟩
  ·replace e:=bx e
   intro j hj
   by_cases ej:j=k
   ·subst ej;exact fun h=>e h.symm
   ·exact hi j (by omega)
 ·unfold Yy
  refine Evt.pure ⟨fun h=>absurd h (by decide),fun h=>?_⟩
  obtain⟨j,hj,e⟩:=d1g.1 h
  exact absurd e (ht j hj)
 ·obtain⟨k,_,hk,_,rfl,e⟩:=hr
  exact⟨fun _=>d1g.2 ⟨k,hk,e⟩,fun _=>by omega⟩
 ·by_cases h:x∈l
  ·simp[h,hv.2 h]
  ·have h3:¬0≤v:=fun h2=>h (hv.1 h2)
   simp only[h,h3,decide_false]
theorem Xl(l:List Bs)(x:Bs):Ww l x=some (decide (x∈l)):=by
 obtain⟨r,rfl,N,hN⟩:=i4g l x
 exact hN N (Nat.le_refl _)
theorem i0u{zs:List Bs}{x:Bs}:x∈Lib.compact zs↔x∈zs:=by
 unfold Lib.compact Lib.compactUpTo
 rw[List.mem_map]
 have hg:∀j,j<zs.length→zs.toArray[j]! =Am.get zs j:=fun j hj=>by simp[Am.get,hj]
 constructor
 ·rintro⟨j,hj,rfl⟩
  have hj:=List.mem_range.1 (List.mem_filter.1 hj).1
  rw[hg j hj]
  exact get_mem hj
 ·intro h
  obtain⟨j,hj,rfl⟩:=d1g.1 h
  have key:∀j,j<zs.length→∃a,a∈(List.range zs.length).filter (Lib.keeps zs.toArray)∧zs.toArray[a]! =Am.get zs j:=by
   intro j
   induction j with
   |zero=>intro hj;exact⟨0,List.mem_filter.2 ⟨List.mem_range.2 hj,Lib.keeps_lt_one _ 0 (by omega)⟩,hg 0 hj⟩
   |succ j ih=>
    intro hj
    by_cases hk:Lib.keeps zs.toArray (j+1)=true
    ·exact⟨j+1,List.mem_filter.2 ⟨List.mem_range.2 hj,hk⟩,hg _ hj⟩
    ·obtain⟨a,h1,h2⟩:=ih (by omega)
     refine⟨a,h1,h2.trans ?_⟩
     unfold Lib.keeps at hk
     simp only[decide_eq_true_eq,not_or,Decidable.not_not,ne_eq]at hk
     have:=hk.2
     rw[hg _ hj,Nat.add_sub_cancel,hg j (by omega)]at this
     exact this.symm
  exact key j hj
mutual
theorem p0A:∀(f:Lr) (bd bd':List Bs),(∀y,y∈bd↔y∈bd')→∀x,fre f bd x↔fre f bd' x
 | .mk k n w s,bd,bd',h,x=>by
   rw[fre,fre,h x,d6j s _ _ (fun y=>?_) x]
   split
   ·simp[h y]
   ·exact h y
theorem d6j:∀(l:List Lr) (bd bd':List Bs),(∀y,y∈bd↔y∈bd')→∀x,d0x l bd x↔d0x l bd' x
 | [],bd,bd',h,x=>by rw[d0x,d0x]
 |f::l,bd,bd',h,x=>by rw[d0x,d0x,p0A f bd bd' h x,d6j l bd bd' h x]
end
theorem i4h(l:List Lr)(f:Lr)(bd:List Bs)(x:Bs):d0x (l++[f]) bd x↔d0x l bd x∨fre f bd x:=by
 rw[i2G,i2G]
 constructor
 ·rintro⟨g,hg,h⟩
  rcases List.mem_append.1 hg with hg|hg
  ·exact .inl ⟨g,hg,h⟩
  ·rw[List.mem_singleton]at hg;subst hg;exact .inr h
 ·rintro(⟨g,hg,h⟩|h)
  ·exact⟨g,List.mem_append.2 (.inl hg),h⟩
  ·exact⟨f,List.mem_append.2 (.inr (List.mem_singleton.2 rfl)),h⟩
theorem i8m:∀(m:Nat) (f:Lr),SizeOf.sizeOf f≤m→WfF f→∀(bd l:List Bs),bd.length+ndF f≤100000→l.length+3*ndF f≤300000→
 Evt (fun n=>Xb n f bd l) (fun r=>(∀x,x∈r↔x∈l∨fre f bd x)∧r.length≤l.length+3*ndF f):=by
 intro m
 induction m with
 |zero=>intro f h;cases f;simp only[Lr.mk.sizeOf_spec]at h;omega
 |succ m ih=>
  intro f hf hwf bd l hbd hl
  have hnd:=d4V f
  have hws:=i4f hwf
  refine Evt.succ ?_
  simp only[Xb]
  refine Evt.WL (P:=ExP (fun t=>(∀x,x∈t↔x∈l∨(x∈f.words∧x∉bd))∧t.length≤l.length+3) (fun _=>False)) ((Evt.range (fun k s=>(∀x,x∈s↔x∈l∨(x∈f.words.take k∧x∉bd))∧s.length≤l.length+k) (fun _=>False) (fun _=>False) ⟨fun x=>by simp,by omega⟩ (fun k s hk hi=>?_)).mono fun e he=>?_) (fun t ht=>?_) (fun _ h=>h.elim)
  ·unfold YV
   simp only[Xl,Option.bind_some]
   refine Evt.cond (fun e=>Evt.Zo (Evt.chk ?_ (Evt.pure ⟨fun x=>?_,?_⟩))) (fun e=>Evt.pure ⟨fun x=>?_,by omega⟩)
   ·rw[Yl];simp only[List.length_append,List.length_cons,List.length_nil];omega
   ·replace e:=bx e
    rw[List.mem_append,hi.1 x,Xq hk,List.mem_append,List.mem_singleton]
    by_cases hx:x=Am.get f.words k
    ·subst hx;simp[e]
    ·simp[hx]
   ·simp only[List.length_append,List.length_cons,List.length_nil];omega
   ·replace e:=bx e
    rw[hi.1 x,Xq hk,List.mem_append,List.mem_singleton]
    by_cases hx:x=Am.get f.words k
    ·subst hx;simp[e]
    ·simp[hx]
  ·cases e with
   |ret r=>exact he
   |nxt t=>
    obtain⟨h1,h2⟩:=he.elim id False.elim
    rw[List.take_length]at h1
    exact⟨h1,by omega⟩
  ·obtain⟨h1,h2⟩:=ht
   have key:∀bd':List Bs,(∀y,y∈bd'↔y∈(if QK f.kind then f.name::bd else bd))→bd'.length≤bd.length+1→Evt (fun n=>Xw (Xb n) f t bd') (fun r=>(∀x,x∈r↔x∈l∨fre f bd x)∧r.length≤l.length+3*ndF f):=by
    intro bd' hb hbl
    unfold Xw
    refine Evt.WL (P:=ExP (fun r=>(∀x,x∈r↔x∈t∨d0x f.subs bd' x)∧r.length≤t.length+3*Zr f.subs) (fun _=>False)) ((Evt.range (fun k s=>(∀x,x∈s↔x∈t∨d0x (f.subs.take k) bd' x)∧s.length≤t.length+3*Zr (f.subs.take k)) (fun _=>False) (fun _=>False) ⟨fun x=>by simp[d0x],by omega⟩ (fun k s hk hi=>?_)).mono fun e he=>?_) (fun r hr=>?_) (fun _ h=>h.elim)
    ·unfold YW
     have hsz:=XE hk
     have htk:=d0g hk
     refine Evt.bind (ih _ (by omega) (i0t hwf hk) bd' s (by omega) (by omega)) fun v hv=>Evt.pure ⟨fun x=>?_,?_⟩
     ·rw[hv.1 x,hi.1 x,Xq hk,i4h,or_assoc]
     ·rw[Xq hk,d4W]
      have:=hv.2
      have:=hi.2
      omega
    ·cases e with
     |ret r=>exact he
     |nxt r=>
      have:=he.elim id False.elim
      rw[List.take_length]at this
      exact this
    ·obtain⟨h3,h4⟩:=hr
     unfold YX
     refine Evt.pure ⟨fun x=>?_,by omega⟩
     rw[h3 x,h1 x,i4d,d6j f.subs _ _ hb x,or_assoc]
   unfold YZ
   simp only[d1i,Option.bind_some]
   refine Evt.cond (fun e=>Evt.chk (by omega) (Evt.Zo (Evt.chk ?_ (key _ (fun y=>?_) ?_)))) (fun e=>key _ (fun y=>?_) (by omega))
   ·rw[Yl];simp only[List.length_append,List.length_cons,List.length_nil];omega
   ·replace e:=bx e
    rw[if_pos e];simp[or_comm]
   ·simp
   ·replace e:=bx e
    rw[if_neg e]
theorem d5S{f:Lr}(hwf:WfF f)(hn:ndF f≤50000):Evt (fun n=>Yr n f) (fun r=>(∀x,x∈r↔fre f [] x)∧r.length≤3*ndF f):=by
 unfold Yr
 refine Evt.bind (i8m _ f (Nat.le_refl _) hwf [] [] (by simp;omega) (by simp;omega)) fun v hv=>?_
 obtain⟨h1,h2⟩:=hv
 simp only[List.length_nil,Nat.zero_add]at h2
 unfold Xy XT
 have hlen:(d4S cfB v).length=v.length:=(d1C cfB v).length_eq
 refine Evt.bind (Evt.chk (by omega) (Evt.pure (P:=fun r=>r=d4S cfB v) rfl)) fun r hr=>?_
 subst hr
 refine Evt.bind (Evt.chk (by omega) (Evt.pure (P:=fun r=>True) trivial)) fun _ _=>Evt.pure ⟨fun x=>?_,?_⟩
 ·rw[i0u,(d1C cfB v).mem_iff,h1 x]
  simp
 ·have:=Lib.compact_length_le (d4S cfB v)
  omega
theorem d5T:∀(m:Nat) (f:Lr),SizeOf.sizeOf f≤m→ndF f≤100000→Evt (fun n=>WI n f) (fun r=>r=qs f):=by
 intro m
 induction m with
 |zero=>intro f h;cases f;simp only[Lr.mk.sizeOf_spec]at h;omega
 |succ m ih=>
  intro f hf hn
  have hnd:=d4V f
  refine Evt.succ ?_
  simp only[WI,d1i,Option.bind_some]
  have p2N:∀(l:List Lr) (x:Lr),qsL (l++[x])=qsL l++qs x:=fun l x=>by
   induction l with
   |nil=>simp[qsL]
   |cons a l ih=>rw[List.cons_append,qsL,qsL,ih,List.append_assoc]
  have key:∀l0:List Bs,l0=(if QK f.kind then [f.name]else [])→Evt (fun n=>XL (WI n) f l0) (fun r=>r=qs f):=by
   intro l0 h0
   have hl0:l0.length≤1:=by rw[h0];split<;>simp
   unfold XL
   refine Evt.WL (P:=ExP (fun t=>t=l0++qsL f.subs) (fun _=>False)) ((Evt.range (fun k s=>s=l0++qsL (f.subs.take k)) (fun _=>False) (fun _=>False) (by simp[qsL]) (fun k s hk hi=>?_)).mono fun e he=>?_) (fun t ht=>?_) (fun _ h=>h.elim)
   ·subst hi
    unfold Zd
    have hsz:=XE hk
    have htk:=d0g hk
    refine Evt.bind (ih _ (by omega) (by omega)) fun v hv=>Evt.Zo (Evt.chk ?_ (Evt.pure ?_))
    ·subst hv
     have h1:=i5D (f.subs.take k)
     have h2:=i0q (Am.get f.subs k)
     have h3:=p0o (f.subs.take k)
     have h4:=i0r (Am.get f.subs k)
     rw[Yl]
     simp only[List.length_append]
     omega
    ·subst hv
     show _=_
     rw[Xq hk,p2N,List.append_assoc]
   ·cases e with
    |ret r=>exact he
    |nxt t=>
     have:=he.elim id False.elim
     rw[List.take_length]at this
     exact this
   ·have ht:t=_:=ht
    subst ht
    unfold Ze
    refine Evt.pure ?_
    rw[p7U, ←h0]
  refine Evt.cond (fun e=>Evt.Zo (Evt.chk (by simp[Yl]) (key _ ?_))) (fun e=>key _ ?_)
  ·replace e:=bx e
   rw[if_pos e];rfl
  ·replace e:=bx e
   rw[if_neg e]
mutual
def ZH:Lr→List Lr
 | .mk k n w s=>.mk k n w s::ZL s
def ZL:List Lr→List Lr
 | []=>[]
 |x::l=>ZH x++ZL l
end
theorem i6R(f:Lr):ZH f=f::ZL f.subs:=by cases f;rw[ZH];rfl
mutual
theorem d7B:∀f:Lr,(ZH f).length=ndF f
 | .mk k n w s=>by rw[ZH,ndF,List.length_cons,i1K s];omega
theorem i1K:∀l:List Lr,(ZL l).length=Zr l
 | []=>by rw[ZL,Zr];rfl
 |x::l=>by rw[ZL,Zr,List.length_append,d7B x,i1K l]
end
def p7Y(b:Nat)(g:Lr)(it:IT):Prop:=it.kind=g.kind∧it.name=g.name∧it.words=g.words∧it.end_=((b+ndF g:Nat):Int)∧it.bound.length=g.words.length
mutual
theorem i8n:∀(f:Lr) (ar:List Bs) (b j:Nat),j<ndF f→p7Y (b+j) (Am.get (ZH f) j) (Am.get (i8l f ar b) j)
 | .mk k n w s,ar,b,0,_=>by
   rw[i8l,ZH]
   refine⟨rfl,rfl,rfl,?_,?_⟩
   ·show((b+(1+Zr s):Nat):Int)=_
    show _=((b+0+ndF (.mk k n w s):Nat):Int)
    rw[ndF];rfl
   ·show(w.map _).length=w.length
    simp
 | .mk k n w s,ar,b,j+1,h=>by
   rw[i8l,ZH]
   rw[ndF]at h
   have:=i0v s (if QK k then n::ar else ar) (b+1) j (by omega)
   rw[show b+(j+1)=b+1+j by omega]
   exact this
theorem i0v:∀(l:List Lr) (ar:List Bs) (b j:Nat),j<Zr l→p7Y (b+j) (Am.get (ZL l) j) (Am.get (d6r l ar b) j)
 | [],ar,b,j,h=>by rw[Zr]at h;omega
 |x::l,ar,b,j,h=>by
  rw[Zr]at h
  rw[d6r,ZL]
  by_cases hj:j<ndF x
  ·have:=i8n x ar b j hj
   have e1:Am.get (ZH x++ZL l) j=Am.get (ZH x) j:=by
    unfold Am.get
    rw[List.getD_eq_getElem?_getD,List.getD_eq_getElem?_getD,List.getElem?_append_left (by rw[d7B];exact hj)]
   have e2:Am.get (i8l x ar b++d6r l ar (b+ndF x)) j=Am.get (i8l x ar b) j:=by
    unfold Am.get
    rw[List.getD_eq_getElem?_getD,List.getD_eq_getElem?_getD,List.getElem?_append_left (by rw[d9m];exact hj)]
   rw[e1,e2];exact this
  ·have:=i0v l ar (b+ndF x) (j-ndF x) (by omega)
   have e1:Am.get (ZH x++ZL l) j=Am.get (ZL l) (j-ndF x):=by
    unfold Am.get
    rw[List.getD_eq_getElem?_getD,List.getD_eq_getElem?_getD,List.getElem?_append_right (by rw[d7B];omega),d7B]
   have e2:Am.get (i8l x ar b++d6r l ar (b+ndF x)) j=Am.get (d6r l ar (b+ndF x)) (j-ndF x):=by
    unfold Am.get
    rw[List.getD_eq_getElem?_getD,List.getD_eq_getElem?_getD,List.getElem?_append_right (by rw[d9m];omega),d9m]
   rw[e1,e2,show b+j=b+ndF x+(j-ndF x)by omega]
   exact this
end
theorem d6W:∀(l:List Lr) (x:Lr),ZL (l++[x])=ZL l++ZH x
 | [],x=>by simp[ZL]
 |a::l,x=>by rw[List.cons_append,ZL,ZL,d6W l x,List.append_assoc]
def d9n(l:List Lr)(x:Bs):Prop:=∃g∈l,g.kind=2∧g.name=x∧0<g.words.length
def i0w(l:List Lr)(x:Bs):Prop:=∃g∈l,g.kind=2∧g.name=x∧g.words.length=0
theorem d9n.app{l m:List Lr}{x:Bs}:d9n (l++m) x↔d9n l x∨d9n m x:=by
 unfold d9n
 constructor
 ·rintro⟨g,hg,h⟩
  rcases List.mem_append.1 hg with hg|hg
  ·exact .inl ⟨g,hg,h⟩
  ·exact .inr ⟨g,hg,h⟩
 ·rintro(⟨g,hg,h⟩|⟨g,hg,h⟩)
  ·exact⟨g,List.mem_append.2 (.inl hg),h⟩
  ·exact⟨g,List.mem_append.2 (.inr hg),h⟩
theorem i0w.app{l m:List Lr}{x:Bs}:i0w (l++m) x↔i0w l x∨i0w m x:=by
 unfold i0w
 constructor
 ·rintro⟨g,hg,h⟩
  rcases List.mem_append.1 hg with hg|hg
  ·exact .inl ⟨g,hg,h⟩
  ·exact .inr ⟨g,hg,h⟩
 ·rintro(⟨g,hg,h⟩|⟨g,hg,h⟩)
  ·exact⟨g,List.mem_append.2 (.inl hg),h⟩
  ·exact⟨g,List.mem_append.2 (.inr hg),h⟩
theorem d9n.one{g:Lr}{x:Bs}:d9n [g] x↔g.kind=2∧g.name=x∧0<g.words.length:=by
 unfold d9n;simp
theorem i0w.one{g:Lr}{x:Bs}:i0w [g] x↔g.kind=2∧g.name=x∧g.words.length=0:=by
 unfold i0w;simp
theorem p5a:∀(m:Nat) (f:Lr),SizeOf.sizeOf f≤m→∀x,Evt (fun n=>YH n f x) (fun r=>(r.1=true↔d9n (ZH f) x)∧(r.2=true↔i0w (ZH f) x)):=by
 intro m
 induction m with
 |zero=>intro f h;cases f;simp only[Lr.mk.sizeOf_spec]at h;omega
 |succ m ih=>
  intro f hf x
  refine Evt.succ ?_
  simp only[YH]
  have key:∀j:Bool×Bool,(j.1=true↔d9n [f] x)→(j.2=true↔i0w [f] x)→Evt (fun n=>ZF (YH n) f x j) (fun r=>(r.1=true↔d9n (ZH f) x)∧(r.2=true↔i0w (ZH f) x)):=by
   intro j h1 h2
   unfold ZF
   refine Evt.WL (P:=ExP (fun s:Bool×Bool=>(s.1=true↔d9n (f::ZL f.subs) x)∧(s.2=true↔i0w (f::ZL f.subs) x)) (fun _=>False)) ((Evt.range (fun k s=>(s.1=true↔d9n ([f]++ZL (f.subs.take k)) x)∧(s.2=true↔i0w ([f]++ZL (f.subs.take k)) x)) (fun _=>False) (fun _=>False) ⟨by simpa[ZL]using h1,by simpa[ZL]using h2⟩ (fun k s hk hi=>?_)).mono fun e he=>?_) (fun t ht=>?_) (fun _ h=>h.elim)
   ·unfold d2j
    have hsz:=XE hk
    refine Evt.bind (ih _ (by omega) x) fun v hv=>Evt.pure ⟨?_,?_⟩
    ·rw[Xq hk,d6W, ←List.append_assoc,d9n.app, ←hv.1, ←hi.1]
     cases s.1<;>simp
    ·rw[Xq hk,d6W, ←List.append_assoc,i0w.app, ←hv.2, ←hi.2]
     cases s.2<;>simp
   ·cases e with
    |ret r=>exact he
    |nxt t=>
     have:=he.elim id False.elim
     rw[List.take_length]at this
     exact this
   ·unfold d2k
    refine Evt.pure ?_
    rw[i6R]
    exact ht
  refine Evt.cond (fun e=>key _ ?_ ?_) (fun e=>key _ ?_ ?_)
  ·replace e:=bx e
   rw[d9n.one];simp[e.1,e.2]
  ·replace e:=bx e
   rw[i0w.one];simp[e.1,e.2]
  ·rw[d9n.one]
   refine⟨fun h=>(by cases h),fun h=>?_⟩
   simp[h.1,h.2.1]at e
  ·rw[i0w.one]
   refine⟨fun h=>(by cases h),fun h=>?_⟩
   simp[h.1,h.2.1]at e
def d4X(l:List IT)(x:Bs):Prop:=∃it∈l,∃m,m<it.words.length∧Am.get it.words m=x∧Am.get it.bound m=false
theorem d4X.app{l m:List IT}{x:Bs}:d4X (l++m) x↔d4X l x∨d4X m x:=by
 unfold d4X
 constructor
 ·rintro⟨g,hg,h⟩
  rcases List.mem_append.1 hg with hg|hg
  ·exact .inl ⟨g,hg,h⟩
  ·exact .inr ⟨g,hg,h⟩
 ·rintro(⟨g,hg,h⟩|⟨g,hg,h⟩)
  ·exact⟨g,List.mem_append.2 (.inl hg),h⟩
  ·exact⟨g,List.mem_append.2 (.inr hg),h⟩
theorem d4X.cons{a:IT}{l:List IT}{x:Bs}:d4X (a::l) x↔d4X [a] x∨d4X l x:=by
 rw[←d4X.app];rfl
theorem d4X.nil{x:Bs}:¬d4X [] x:=fun⟨_,h,_⟩=>by cases h
theorem get_map{α β:Type}[Inhabited α][Inhabited β](g:α→β){l:List α}{k:Nat}(h:k<l.length):Am.get (l.map g) k=g (Am.get l k):=by
 unfold Am.get
 rw[List.getD_eq_getElem?_getD,List.getD_eq_getElem?_getD,List.getElem?_map,List.getElem?_eq_getElem h]
 rfl
mutual
theorem p0B:∀(f:Lr) (ar:List Bs) (b:Nat) (x:Bs),d4X (i8l f ar b) x↔fre f ar x
 | .mk k n w s,ar,b,x=>by
   rw[i8l,d4X.cons,fre,i1L s]
   refine or_congr_left ?_
   constructor
   ·rintro⟨it,hit,m,h1,h2,h3⟩
    rw[List.mem_singleton]at hit
    subst hit
    have h1:m<w.length:=h1
    have h2:Am.get w m=x:=h2
    have h3:Am.get (w.map fun x=>decide (x∈ar)) m=false:=h3
    rw[get_map _ h1,h2]at h3
    exact⟨d1g.2 ⟨m,h1,h2⟩,of_decide_eq_false h3⟩
   ·rintro⟨h1,h2⟩
    obtain⟨m,h3,h4⟩:=d1g.1 h1
    refine⟨_,List.mem_singleton.2 rfl,m,h3,h4,?_⟩
    show Am.get (w.map fun x=>decide (x∈ar)) m=false
    rw[get_map _ h3,h4]
    exact decide_eq_false h2
theorem i1L:∀(l:List Lr) (ar:List Bs) (b:Nat) (x:Bs),d4X (d6r l ar b) x↔d0x l ar x
 | [],ar,b,x=>by rw[d6r,d0x];exact⟨fun h=>d4X.nil h,False.elim⟩
 |f::l,ar,b,x=>by rw[d6r,d0x,d4X.app,p0B f,i1L l]
end
def qsI(l:List IT):List Bs:=l.flatMap fun it=>if QK it.kind then [it.name]else []
mutual
theorem p5b:∀(f:Lr) (ar:List Bs) (b:Nat),qsI (i8l f ar b)=qs f
 | .mk k n w s,ar,b=>by
   rw[i8l,qs]
   show(if QK k then [n]else [])++qsI _=_
   rw[i6S s]
theorem i6S:∀(l:List Lr) (ar:List Bs) (b:Nat),qsI (d6r l ar b)=qsL l
 | [],ar,b=>by rw[d6r,qsL];rfl
 |f::l,ar,b=>by
  rw[d6r,qsL, ←p5b f ar b, ←i6S l ar (b+ndF f)]
  exact List.flatMap_append
end
def p3Q(l:List Bs)(x:Bs)(r:Int):Prop:=(x∉l∧r= -1)∨∃j,j<l.length∧Am.get l j=x∧(∀i,i<j→Am.get l i≠x)∧r=(j:Int)
theorem p3Q.mem{l:List Bs}{x:Bs}{r:Int}(h:p3Q l x r):0≤r↔x∈l:=by
 rcases h with⟨h1,rfl⟩|⟨j,hj,e,_,rfl⟩
 ·exact⟨fun h=>absurd h (by decide),fun h=>absurd h h1⟩
 ·exact⟨fun _=>d1g.2 ⟨j,hj,e⟩,fun _=>by omega⟩
def vns(s:Wu):List Bs:=s.words++s.WO++s.parts
open Classical in
noncomputable def d1u(s:Wu)(i:Nat):Int:=
 if ¬Xn (Am.get (vns s) i)then 10
 else if Am.get (vns s) i∈(vns s).take i then 7
 else if i<s.words.length then(if fre s.form [] (Am.get (vns s) i)then 0 else 15)
 else if i<s.words.length+s.WO.length then(if d9n (ZH s.form) (Am.get (vns s) i)∨i0w (ZH s.form) (Am.get (vns s) i)then 0 else 15)
 else if d9n (ZH s.form) (Am.get (vns s) i)then 5 else if i0w (ZH s.form) (Am.get (vns s) i)then 0 else 15
def QOk(s:Wu):Prop:=∀k,k<(qs s.form).length→Am.get (qs s.form) k∉ (qs s.form).take k∧Am.get (qs s.form) k∉s.words
def OkS(s:Wu):Prop:=OkF s.form∧(vns s).length≤300∧(∀j,j<(vns s).length→d1u s j=0)∧QOk s
def FB(step:Nat→Int)(N:Nat)(r:WC):Prop:=∃k,k<N∧(∀j,j<k→step j=0)∧step k≠0∧r=⟨step k,k⟩
theorem FB.uniq{step:Nat→Int}{N:Nat}{r r':WC}(h:FB step N r)(h':FB step N r'):r=r':=by
 obtain⟨k,_,h2,h3,rfl⟩:=h
 obtain⟨k',_,h2',h3',rfl⟩:=h'
 have:k=k':=by
  rcases Nat.lt_trichotomy k k' with h|h|h
  ·exact absurd (h2' k h) h3
  ·exact h
  ·exact absurd (h2 k' h) h3'
 rw[this]
def p2O(s:Wu)(r:WC):Prop:=
 (¬OkF s.form∧r=d6I s.form)∨(OkF s.form∧300<(vns s).length∧r=⟨2, -1⟩)∨(OkF s.form∧(vns s).length≤300∧FB (d1u s) (vns s).length r)∨
 (OkF s.form∧(vns s).length≤300∧(∀j,j<(vns s).length→d1u s j=0)∧¬QOk s∧r=⟨7, -1⟩)∨(OkS s∧r=⟨0,0⟩)
theorem p2O.code{s:Wu}{r:WC}(h:p2O s r)(h0:r.code=0):OkS s∧r=⟨0,0⟩:=by
 rcases h with⟨h1,rfl⟩|⟨_,_,rfl⟩|⟨_,_,k,_,_,h3,rfl⟩|⟨_,_,_,_,rfl⟩|h
 ·exact absurd ((d3W _).1 h0) h1
 ·cases h0
 ·exact absurd h0 h3
 ·cases h0
 ·exact h
theorem p2O.ok{s:Wu}{r:WC}(h:p2O s r)(h0:OkS s):r=⟨0,0⟩:=by
 obtain⟨k1,k2,k3,k4⟩:=h0
 rcases h with⟨h1,_⟩|⟨_,h1,_⟩|⟨_,_,k,h2,_,h3,_⟩|⟨_,_,_,h1,_⟩|⟨_,h⟩
 ·exact absurd k1 h1
 ·omega
 ·exact absurd (k3 k h2) h3
 ·exact absurd k4 h1
 ·exact h
theorem p2O.uniq{s:Wu}{r r':WC}(h:p2O s r)(h':p2O s r'):r=r':=by
 rcases h with⟨h1,rfl⟩|⟨h1,h2,rfl⟩|⟨h1,h2,h3⟩|⟨h1,h2,h3,h4,rfl⟩|⟨h1,rfl⟩
 ·rcases h' with⟨k1,rfl⟩|⟨k1,_⟩|⟨k1,_⟩|⟨k1,_⟩|⟨k1,_⟩
  ·rfl
  ·exact absurd k1 h1
  ·exact absurd k1 h1
  ·exact absurd k1 h1
  ·exact absurd k1.1 h1
 ·rcases h' with⟨k1,_⟩|⟨_,_,rfl⟩|⟨_,k2,_⟩|⟨_,k2,_⟩|⟨k1,_⟩
  ·exact absurd h1 k1
  ·rfl
  ·omega
  ·omega
  ·exact absurd k1.2.1 (by omega)
 ·rcases h' with⟨k1,_⟩|⟨_,k2,_⟩|⟨_,_,k3⟩|⟨_,_,k3,_⟩|⟨k1,_⟩
  ·exact absurd h1 k1
  ·omega
  ·exact h3.uniq k3
  ·obtain⟨k,a,_,b,_⟩:=h3;exact absurd (k3 k a) b
  ·obtain⟨k,a,_,b,_⟩:=h3;exact absurd (k1.2.2.1 k a) b
 ·rcases h' with⟨k1,_⟩|⟨_,k2,_⟩|⟨_,_,k3⟩|⟨_,_,_,_,rfl⟩|⟨k1,_⟩
  ·exact absurd h1 k1
  ·omega
  ·obtain⟨k,a,_,b,_⟩:=k3;exact absurd (h3 k a) b
  ·rfl
  ·exact absurd k1.2.2.2 h4
 ·exact(p2O.ok h' h1).symm
def SB(s:Wu):Prop:=s.words.length≤1048576∧s.WO.length≤1048576∧s.parts.length≤1048576∧∀x∈vns s,x.length≤8000000
theorem i2J(s:Wu):(vns s).length=s.words.length+s.WO.length+s.parts.length:=by unfold vns;simp only[List.length_append]
theorem i5F{s:Wu}(hb:SB s):Evt (fun n=>d0h n s) (p2O s):=by
 obtain⟨b1,b2,b3,_⟩:=hb
 have hvl:=i2J s
 unfold d0h
 refine Evt.bind (d1j s.form) fun v hv=>?_
 subst hv
 refine Evt.cond (fun e=>Evt.pure (.inl ⟨fun h=>?_,rfl⟩)) (fun e=>?_)
 ·rw[i0s h]at e;simp at e
 replace e:=bx e
 have hok:OkF s.form:=(d3W _).1 e
 unfold YO d8h
 have hfl: [s.words,s.WO,s.parts].flatten=vns s:=by unfold vns;simp
 simp only[Option.bind_assoc,Option.bind_some,hfl]
 refine Evt.bind (P:=fun v=>v=vns s) (Evt.chk (by rw[hvl];simp;omega) (Evt.pure rfl)) fun v hv=>?_
 subst hv
 refine Evt.cond (fun e=>?_) (fun e=>?_)
 ·replace e:=bx e
  exact Evt.pure (.inr (.inl ⟨hok,by omega,rfl⟩))
 replace e:=bx e
 have h300:(vns s).length≤300:=by omega
 refine Evt.bind (d5S hok.1 (by have:=hok.2.1;omega)) fun v4 hv4=>?_
 replace hv4:=hv4.1
 have hwl:wr .i64 ((s.words.length:Int)+(s.WO.length:Int))=((s.words.length+s.WO.length:Nat):Int):=by rw[d6p (by omega) (by omega)];omega
 refine Evt.WL (Evt.scan (fun k _=>∀j,j<k→d1u s j=0) (fun k r=>d1u s k≠0∧r=⟨d1u s k,(k:Int)⟩) (fun j hj=>absurd hj (Nat.not_lt_zero _)) (fun k u hk hi=>?_)) (fun t ht=>?_) (fun r hr=>?_)
 ·have bad:∀c:Int,c≠0→d1u s k=c→Evt (fun _:Nat=>(XI c (k:Int)).bind fun v=>some (Ctl.ret (σ:=Unit) (τ:=Unit) v)) (p3L (fun _:Unit=>∀j,j<k+1→d1u s j=0) (fun _=>False) (fun r=>d1u s k≠0∧r=⟨d1u s k,(k:Int)⟩)):=fun c hc h=>by
   unfold XI
   exact Evt.pure ⟨by rw[h];exact hc,by rw[h]⟩
  have good:d1u s k=0→Evt (fun _:Nat=>some (Ctl.nxt (ρ:=WC) (τ:=Unit) ())) (p3L (fun _:Unit=>∀j,j<k+1→d1u s j=0) (fun _=>False) (fun r=>d1u s k≠0∧r=⟨d1u s k,(k:Int)⟩)):=fun h=>Evt.pure fun j hj=>by
   by_cases ej:j=k
   ·subst ej;exact h
   ·exact hi j (by omega)
  unfold ZY
  refine Evt.bind (d6U _) fun v17 hv17=>Evt.cond (fun e=>bad 10 (by decide) ?_) (fun e=>?_)
  ·replace e:=bx e
   have:¬Xn (Am.get (vns s) k):=fun h=>by rw[(d5R hv17).2 h]at e;cases e
   unfold d1u;rw[if_pos this]
  replace e:=bx e
  have s1:¬ ¬Xn (Am.get (vns s) k):=fun h=>h ((d5R hv17).1 e)
  refine Evt.chk (by omega) ?_
  simp only[Xl,Option.bind_some]
  refine Evt.cond (fun e=>bad 7 (by decide) ?_) (fun e=>?_)
  ·replace e:=bx e
   unfold d1u;rw[if_neg s1,if_pos e]
  replace e:=bx e
  have s2:=e
  refine Evt.bind (p5a _ s.form (Nat.le_refl _) _) fun v23 hv23=>Evt.cond (fun e=>?_) (fun e=>?_)
  ·replace e:=bx e
   have s3:k<s.words.length:=by omega
   refine Evt.cond (fun e=>bad 15 (by decide) ?_) (fun e=>good ?_)
   ·replace e:=bx e
    rw[hv4]at e
    unfold d1u;rw[if_neg s1,if_neg s2,if_pos s3,if_neg e]
   ·replace e:=bx e
    rw[hv4]at e
    unfold d1u;rw[if_neg s1,if_neg s2,if_pos s3,if_pos e]
  ·replace e:=bx e
   have s3:¬k<s.words.length:=by omega
   rw[hwl]
   refine Evt.cond (fun e=>?_) (fun e=>?_)
   ·replace e:=bx e
    have s4:k<s.words.length+s.WO.length:=by omega
    refine Evt.cond (fun e=>bad 15 (by decide) ?_) (fun e=>good ?_)
    ·replace e:=bx e
     have:¬(d9n (ZH s.form) (Am.get (vns s) k)∨i0w (ZH s.form) (Am.get (vns s) k)):=by
      rw[←hv23.1, ←hv23.2]
      simp[e.1,e.2]
     unfold d1u;rw[if_neg s1,if_neg s2,if_neg s3,if_pos s4,if_neg this]
    ·have:d9n (ZH s.form) (Am.get (vns s) k)∨i0w (ZH s.form) (Am.get (vns s) k):=by
      rw[←hv23.1, ←hv23.2]
      cases h1:v23.1
      ·cases h2:v23.2
       ·simp[h1,h2]at e
       ·exact .inr rfl
      ·exact .inl rfl
     unfold d1u;rw[if_neg s1,if_neg s2,if_neg s3,if_pos s4,if_pos this]
   ·replace e:=bx e
    have s4:¬k<s.words.length+s.WO.length:=by omega
    refine Evt.cond (fun e=>bad 5 (by decide) ?_) (fun e=>?_)
    ·have:=hv23.1.1 e
     unfold d1u;rw[if_neg s1,if_neg s2,if_neg s3,if_neg s4,if_pos this]
    ·have s5:¬d9n (ZH s.form) (Am.get (vns s) k):=by rw[←hv23.1];simp[e]
     refine Evt.cond (fun e=>bad 15 (by decide) ?_) (fun e=>good ?_)
     ·replace e:=bx e
      have:¬i0w (ZH s.form) (Am.get (vns s) k):=by rw[←hv23.2];simp[e]
      unfold d1u;rw[if_neg s1,if_neg s2,if_neg s3,if_neg s4,if_neg s5,if_neg this]
     ·replace e:=bx e
      have:=hv23.2.1 e
      unfold d1u;rw[if_neg s1,if_neg s2,if_neg s3,if_neg s4,if_neg s5,if_pos this]
 ·unfold d0a
  refine Evt.bind (d5T _ s.form (Nat.le_refl _) (by have:=hok.2.1;omega)) fun v29 hv29=>?_
  subst hv29
  have hql:(qs s.form).length≤200:=by rw[i0q];have:=i0r s.form;have:=hok.2.1;omega
  refine Evt.WL (Evt.scan (fun k _=>∀j,j<k→Am.get (qs s.form) j∉ (qs s.form).take j∧Am.get (qs s.form) j∉s.words) (fun k r=>r=⟨7, -1⟩∧¬QOk s) (fun j hj=>absurd hj (Nat.not_lt_zero _)) (fun k u hk hi=>?_)) (fun u hu=>?_) (fun r hr=>?_)
  ·unfold d0b
   refine Evt.chk (by omega) ?_
   simp only[Xl,Option.bind_some]
   refine Evt.bind (P:=fun v=>Am.get (qs s.form) k∉ (qs s.form).take k→(v=true↔Am.get (qs s.form) k∈s.words)) (Evt.gd (fun g=>Evt.pure fun _=>by simp) (fun g h=>by simp[h]at g)) fun v38 hv38=>Evt.cond (fun e=>?_) (fun e=>Evt.pure fun j hj=>?_)
   ·replace e:=bx e
    refine Evt.pure ⟨rfl,fun h=>?_⟩
    obtain⟨h1,h2⟩:=h k hk
    rcases e with e|e
    ·exact h1 e
    ·exact h2 ((hv38 h1).1 e)
   ·by_cases ej:j=k
    ·subst ej
     by_cases h1:Am.get (qs s.form) j∈(qs s.form).take j
     ·simp[h1]at e
     ·refine⟨h1,fun h2=>?_⟩
      have:=(hv38 h1).2 h2
      simp[this]at e
    ·exact hi j (by omega)
  ·unfold d0c
   exact Evt.pure (.inr (.inr (.inr (.inr ⟨⟨hok,h300,ht,hu⟩,rfl⟩))))
  ·obtain⟨k,_,_,_,rfl,h⟩:=hr
   exact .inr (.inr (.inr (.inl ⟨hok,h300,ht,h,rfl⟩)))
 ·obtain⟨k,_,hk,hi,h1,h2⟩:=hr
  exact .inr (.inr (.inl ⟨hok,h300,k,hk,hi,h1,h2⟩))
theorem i4i{l:List Bs}{k:Nat}(hk:k≤l.length){x:Bs}:x∈l.take k↔ ∃j,j<k∧Am.get l j=x:=by
 rw[d1g,List.length_take,Nat.min_eq_left hk]
 have hg:∀j,j<k→Am.get (l.take k) j=Am.get l j:=fun j hj=>by
  unfold Am.get
  rw[List.getD_eq_getElem?_getD,List.getD_eq_getElem?_getD,List.getElem?_take_of_lt hj]
 exact⟨fun⟨j,hj,e⟩=>⟨j,hj,by rw[←hg j hj];exact e⟩,fun⟨j,hj,e⟩=>⟨j,hj,by rw[hg j hj];exact e⟩⟩
mutual
theorem p2P:∀(f:Lr),WfF f→∀g∈ZH f,WfF g
 | .mk k n w s,h,g,hg=>by
   rw[i6R]at hg
   rcases List.mem_cons.1 hg with rfl|hg
   ·exact h
   ·exact i4j s ((d1P _).1 h).2 g hg
theorem i4j:∀(l:List Lr),d6i l→∀g∈ZL l,WfF g
 | [],_,g,hg=>by rw[ZL]at hg;cases hg
 |f::l,h,g,hg=>by
  rw[ZL]at hg
  rcases List.mem_append.1 hg with hg|hg
  ·exact p2P f (Ym.1 h f (List.mem_cons_self ..)) g hg
  ·exact i4j l (Ym.2 fun x hx=>Ym.1 h x (List.mem_cons_of_mem _ hx)) g hg
end
theorem d4X.one{it:IT}{x:Bs}:d4X [it] x↔ ∃m,m<it.words.length∧Am.get it.words m=x∧Am.get it.bound m=false:=by
 unfold d4X;simp
def dval(l:Bs):Nat:=l.foldl (fun a c=>10*a+(c.toNat-48)) 0
theorem i6T(u:Nat):dval (Lib.decDigits u)=u:=by
 induction u using Nat.strongRecOn with
 | _ u ih=>
   by_cases h:u<10
   ·rw[Lib.decDigits,dif_pos h]
    unfold dval
    simp only[List.foldl_cons,List.foldl_nil,UInt8.toNat_ofNat']
    omega
   ·rw[Lib.decDigits,dif_neg h]
    unfold dval
    rw[List.foldl_append]
    have:=ih (u / 10) (by omega)
    unfold dval at this
    rw[this]
    simp only[List.foldl_cons,List.foldl_nil,UInt8.toNat_ofNat']
    omega
theorem i5G{u v:Nat}(h:Lib.decDigits u=Lib.decDigits v):u=v:=by rw[←i6T u,h,i6T]
def vn(m:Nat):Bs:=118::Lib.decDigits m
theorem p3R{u v:Nat}(h:vn u=vn v):u=v:=i5G (List.cons.inj h).2
def mk(m:Nat):Bs:=33::Lib.decDigits m
theorem i5H{m:Nat}(h:m≤1000000000):(Lib.decDigits m).length≤21:=by
 have:=Lib.itoa_length_le (m:Int) (by omega) (by omega)
 rwa[Lib.itoa_nonneg]at this
def p1E(p:Bs→Prop)(j m:Nat):Prop:=j≤m∧¬p (vn m)∧∀k,j≤k→k<m→p (vn k)
theorem p1E.uniq{p:Bs→Prop}{j m m':Nat}(h:p1E p j m)(h':p1E p j m'):m=m':=by
 rcases Nat.lt_trichotomy m m' with e|e|e
 ·exact absurd (h'.2.2 m h.1 e) h.2.1
 ·exact e
 ·exact absurd (h.2.2 m' h'.1 e) h'.2.1
theorem p1E.congr{p q:Bs→Prop}(hpq:∀x,p x↔q x){j m:Nat}(h:p1E p j m):p1E q j m:=⟨h.1,fun e=>h.2.1 ((hpq _).2 e),fun k a b=>(hpq _).1 (h.2.2 k a b)⟩
theorem i6U:∀(n:Nat) (C:List Bs) (g:Nat→Bs),C.length=n→(∀i j,g i=g j→i=j)→∃m,m≤n∧g m∉C
 |0,C,g,h,_=>⟨0,Nat.le_refl _,by rw[List.length_eq_zero_iff.1 h];exact List.not_mem_nil⟩
 |n+1,C,g,h,hg=>by
  by_cases hm:g (n+1)∈C
  ·obtain⟨m,h1,h2⟩:=i6U n (C.erase (g (n+1))) g (by rw[List.length_erase_of_mem hm,h];rfl) hg
   refine⟨m,by omega,fun h3=>h2 ((List.mem_erase_of_ne fun e=>?_).2 h3)⟩
   have:=hg _ _ e
   omega
  ·exact⟨n+1,Nat.le_refl _,hm⟩
theorem p7Z{p:Bs→Prop}{C:List Bs}(hC:∀x,p x→x∈C)(j:Nat):∃m,p1E p j m∧m≤j+C.length:=by
 obtain⟨m,h1,h2⟩:=i6U _ C (fun i=>vn (j+i)) rfl (fun a b e=>by have:=p3R e;omega)
 have key:∀d j,(∃m,j≤m∧m≤j+d∧¬p (vn m))→∃m,p1E p j m∧m≤j+d:=by
  intro d
  induction d with
  |zero=>
   rintro j ⟨m,a,b,c⟩
   obtain rfl:m=j:=by omega
   exact⟨m,⟨Nat.le_refl _,c,fun k a b=>absurd a (by omega)⟩,by omega⟩
  |succ d ih=>
   rintro j ⟨m,a,b,c⟩
   by_cases hp:p (vn j)
   ·have hne:j≠m:=fun e=>c (e▸hp)
    obtain⟨m',e1,e2⟩:=ih (j+1) ⟨m,by omega,by omega,c⟩
    refine⟨m',⟨by have:=e1.1;omega,e1.2.1,fun k a b=>?_⟩,by omega⟩
    by_cases ek:k=j
    ·rw[ek];exact hp
    ·exact e1.2.2 k (by omega) b
   ·exact⟨j,⟨Nat.le_refl _,hp,fun k a b=>absurd a (by omega)⟩,by omega⟩
 exact key _ j ⟨j+m,by omega,by omega,fun hp=>h2 (hC _ hp)⟩
open Classical in
noncomputable def nx(p:Bs→Prop)(j:Nat):Nat:=Classical.epsilon fun m=>p1E p j m
theorem i5I{p:Bs→Prop}{C:List Bs}(hC:∀x,p x→x∈C)(j:Nat):p1E p j (nx p j):=Classical.epsilon_spec ((p7Z hC j).imp fun _ h=>h.1)
theorem p5c{p:Bs→Prop}{C:List Bs}(hC:∀x,p x→x∈C)(j:Nat):nx p j≤j+C.length:=by
 obtain⟨m,h1,h2⟩:=p7Z hC j
 rw[(i5I hC j).uniq h1];exact h2
noncomputable def num(p:Bs→Prop):Nat→Nat
 |0=>nx p 0
 |i+1=>nx p (num p i+1)
noncomputable def NN(p:Bs→Prop)(i:Nat):Bs:=vn (num p i)
theorem p8a{p:Bs→Prop}{C:List Bs}(hC:∀x,p x→x∈C)(i:Nat):¬p (NN p i):=by
 cases i with
 |zero=>exact(i5I hC _).2.1
 |succ i=>exact(i5I hC _).2.1
theorem i6V{p:Bs→Prop}{C:List Bs}(hC:∀x,p x→x∈C)(L:Nat)(hL:C.length≤L):∀i,num p i≤(i+1)*(L+1)
 |0=>by have:=p5c hC 0;show nx p 0≤_;omega
 |i+1=>by
  have:=p5c hC (num p i+1)
  have:=i6V hC L hL i
  show nx p (num p i+1)≤_
  rw[Nat.succ_mul (i+1)]
  omega
theorem p0C{p:Bs→Prop}{C:List Bs}(hC:∀x,p x→x∈C):∀i j,i<j→num p i<num p j
 |i,0,h=>absurd h (Nat.not_lt_zero _)
 |i,j+1,h=>by
  have h1:=(i5I hC (num p j+1)).1
  show _<nx p (num p j+1)
  by_cases e:i=j
  ·subst e;omega
  ·have:=p0C hC i j (by omega);omega
theorem p8b{p:Bs→Prop}{C:List Bs}(hC:∀x,p x→x∈C){i j:Nat}(h:NN p i=NN p j):i=j:=by
 have e:=p3R h
 rcases Nat.lt_trichotomy i j with h|h|h
 ·have:=p0C hC _ _ h;omega
 ·exact h
 ·have:=p0C hC _ _ h;omega
def d8j(K V:Nat→Bs):Nat→List (Bs×Bs)
 |0=>[]
 |k+1=>(K k,V k)::d8j K V k
theorem i0x{K K' V V':Nat→Bs}:∀ {n:Nat},(∀k,k<n→K k=K' k∧V k=V' k)→d8j K V n=d8j K' V' n
 |0,_=>rfl
 |n+1,h=>by rw[d8j,d8j,(h n (by omega)).1,(h n (by omega)).2,i0x fun k hk=>h k (by omega)]
theorem p8c{ρ:Type}(K V:Nat→Bs)(L:Nat)(hL:L≤8000000)(w:Bs)(body:Int→Option (Ctl ρ Int Bs))(hb:∀k,k<L→body (k:Int)=bif decide (K k=w)then some (.brk (V k))else some (.nxt (wr .i64 ((k:Int)-1))))(h0:body (-1)=some (.brk w)):
 Evt (fun n=>d1Y body n (wr .i64 ((L:Int)-1))) (ExP (fun t=>t=sub (d8j K V L) w) (fun _=>False)):=by
 have hw:wr .i64 ((L:Int)-1)=(L:Int)-1:=d6p (by omega) (by omega)
 rw[hw]
 refine Evt.p2J L (fun k s=>∃m:Nat,s=(m:Int)-1∧m+k=L∧sub (d8j K V L) w=sub (d8j K V m) w) _ _ ⟨L,rfl,rfl,rfl⟩ (fun k s hk hs=>?_) (fun s hs=>?_)
 ·obtain⟨m,rfl,hm,he⟩:=hs
  obtain⟨m,rfl⟩:∃j,m=j+1:=⟨m-1,by omega⟩
  have e1:((m+1:Nat):Int)-1=(m:Int):=by omega
  rw[e1,hb m (by omega)]
  refine Evt.cond (fun e=>Evt.pure ?_) (fun e=>Evt.pure ?_)
  ·replace e:=bx e
   show V m=_
   rw[he,d8j,Ye,if_pos e]
  ·replace e:=bx e
   refine⟨m,d6p (by omega) (by omega),by omega,?_⟩
   rw[he,d8j,Ye,if_neg e]
 ·obtain⟨m,rfl,hm,he⟩:=hs
  obtain rfl:m=0:=by omega
  show Evt (fun _=>body (-1)) _
  rw[h0]
  refine Evt.pure ?_
  rw[he,d8j,d8i]
  exact rfl
theorem d4s:∀(l:List Lr) (x:Lr),nqL (l++[x])=nqL l+nq x
 | [],x=>by simp[nqL]
 |a::l,x=>by rw[List.cons_append,nqL,nqL,d4s l x,Nat.add_assoc]
theorem d6k{l:List Lr}{k:Nat}(h:k<l.length):nqL (l.take k)+nq (Am.get l k)≤nqL l:=by
 have e:l=l.take (k+1)++l.drop (k+1):=(List.take_append_drop _ _).symm
 have:∀(l m:List Lr),nqL (l++m)=nqL l+nqL m:=fun l m=>by
  induction l with
  |nil=>simp[nqL]
  |cons a l ih=>rw[List.cons_append,nqL,nqL,ih,Nat.add_assoc]
 rw[←d4s, ←Xq h]
 have:=this (l.take (k+1)) (l.drop (k+1))
 rw[←e]at this
 omega
theorem d3X(N:Nat→Bs):∀(l:List Lr) (x:Lr) (env:List (Bs×Bs)) (i:Nat),Yu N (l++[x]) env i=Yu N l env i++[ren N x env (i+nqL l)]
 | [],x,env,i=>by simp[Yu,nqL]
 |a::l,x,env,i=>by rw[List.cons_append,Yu,Yu,d3X N l x,nqL,Nat.add_assoc];rfl
theorem i0y{m:Nat}(hm:m≤1000000000):itoa (m:Int)=some (Lib.decDigits m):=by
 unfold itoa
 rw[i0e (by omega),Lib.itoa_nonneg]
theorem i4k{C:List Bs}{p:Bs→Prop}(hC:∀x,x∈C↔p x){b:Nat}(hb:b+C.length≤100000000):Evt (fun n=>d2K n (b:Int) C) (fun r=>r=(vn (nx p b),((nx p b+1:Nat):Int))):=by
 unfold d2K
 have h:=i5I (fun x=>(hC x).2) b
 have hle:=p5c (fun x=>(hC x).2) b
 have step:∀m:Nat,m≤100000000→d0X C (m:Int)=bif (!decide (vn m∈C))then some (.ret (vn m,((m+1:Nat):Int)))else some (.nxt ((m+1:Nat):Int)):=fun m hm=>by
  unfold d0X
  have hl:=i5H (m:=m) (by omega)
  have hw:wr .i64 ((m:Int)+1)=((m+1:Nat):Int):=by rw[d6p (by omega) (by omega)];rfl
  have e:d9u [118] (Lib.decDigits m)=vn m:=rfl
  rw[i0y (by omega),Option.bind_some,i0e (show Yk _ _ by unfold Yk;simp;omega),e,Xl,Option.bind_some,hw]
 refine Evt.WL (Evt.p2J (nx p b-b) (fun k s=>s=((b+k:Nat):Int)) (fun _=>False) (fun r=>r=(vn (nx p b),((nx p b+1:Nat):Int))) rfl (fun k s hk hs=>?_) (fun s hs=>?_)) (fun _ ht=>ht.elim) (fun r hr=>hr)
 ·subst hs
  rw[step _ (by omega)]
  have hm:vn (b+k)∈C:=(hC _).2 (h.2.2 _ (by omega) (by omega))
  simp only[hm,decide_true,Bool.not_true,cond_false]
  exact Evt.pure rfl
 ·subst hs
  have e:b+(nx p b-b)=nx p b:=by have:=h.1;omega
  rw[e,step _ (by omega)]
  have hm:vn (nx p b)∉C:=fun hm=>h.2.1 ((hC _).1 hm)
  simp only[hm,decide_false,Bool.not_false,cond_true]
  exact Evt.pure rfl
def d8k(env:List Wy):List (Bs×Bs):=d8j (fun k=>(Am.get env k).from_) (fun k=>(Am.get env k).to_) env.length
theorem i6W{α:Type}[Inhabited α](l:List α)(x:α):Am.get (l++[x]) l.length=x∧∀k,k<l.length→Am.get (l++[x]) k=Am.get l k:=by
 unfold Am.get
 refine⟨by simp,fun k hk=>?_⟩
 rw[List.getD_eq_getElem?_getD,List.getD_eq_getElem?_getD,List.getElem?_append_left hk]
theorem i4l(env:List Wy)(a b:Bs):d8k (env++[⟨a,b⟩])=(a,b)::d8k env:=by
 unfold d8k
 rw[List.length_append,List.length_singleton,d8j,(i6W env _).1]
 congr 1
 exact i0x fun k hk=>by rw[(i6W env _).2 k hk];exact⟨rfl,rfl⟩
theorem i8o{p:Bs→Prop}{C:List Bs}(hC:∀x,x∈C↔p x)(hCl:C.length≤10000):∀(m:Nat) (f:Lr),SizeOf.sizeOf f≤m→WfF f→∀(env:List Wy) (i b:Nat),env.length+ndF f≤100000→i+nq f≤1000→nx p b=num p i→
 Evt (fun n=>Xu n f env (b:Int) C) (fun r=>r.1=ren (NN p) f (d8k env) i∧∃b':Nat,r.2=(b':Int)∧nx p b'=num p (i+nq f)):=by
 intro m
 have hC2:∀x,p x→x∈C:=fun x=>(hC x).2
 induction m with
 |zero=>intro f h;cases f;simp only[Lr.mk.sizeOf_spec]at h;omega
 |succ m ih=>
  intro f hf hwf env i b i8E hi hb
  have hnd:=d4V f
  have hws:=i4f hwf
  have hsl:=i2I hwf
  have hnq:=p2K f
  refine Evt.succ ?_
  simp only[Xu]
  refine Evt.WL (P:=ExP (fun t=>t=f.words.map (sub (d8k env))) (fun _=>False)) ((Evt.range (fun k s=>s=(f.words.take k).map (sub (d8k env))) (fun _=>False) (fun _=>False) (by simp) (fun k s hk hs=>?_)).mono fun e he=>?_) (fun t ht=>?_) (fun _ h=>h.elim)
  ·unfold d0i
   refine Evt.WL (p8c (fun k=>(Am.get env k).from_) (fun k=>(Am.get env k).to_) env.length (by omega) (Am.get f.words k) (YD env f k) (fun j hj=>?_) rfl) (fun t ht=>?_) (fun _ h=>h.elim)
   ·unfold YD
    have e1:decide (0≤(j:Int))=true:=decide_eq_true (by omega)
    rw[e1,cond_true,i0e (by omega)]
    rfl
   ·unfold d0j
    refine Evt.Zo (Evt.chk ?_ (Evt.pure ?_))
    ·subst hs
     rw[Yl];simp only[List.length_append,List.length_map,List.length_take,List.length_cons,List.length_nil];omega
    ·show _=_
     have ht:t=sub (d8k env) (Am.get f.words k):=ht
     rw[hs,ht,Xq hk,List.map_append];rfl
  ·cases e with
   |ret r=>exact he
   |nxt t=>
    have:=he.elim id False.elim
    rw[List.take_length]at this
    exact this
  ·subst ht
   have key:∀(env':List Wy) (nm:Bs) (j c:Nat),nm=(if QK f.kind then NN p i else f.name)→d8k env'=(if QK f.kind then(f.name,NN p i)::d8k env else d8k env)→j=i+(if QK f.kind then 1 else 0)→nx p c=num p j→env'.length≤env.length+1→
    Evt (fun n=>Ya (Xu n) f C (f.words.map (sub (d8k env))) ((c:Int),nm,env')) (fun r=>r.1=ren (NN p) f (d8k env) i∧∃b':Nat,r.2=(b':Int)∧nx p b'=num p (i+nq f)):=by
    intro env' nm j c hnm p5d hj hc hlen
    have hjn:j+nqL f.subs=i+nq f:=by omega
    unfold Ya
    refine Evt.WL (P:=ExP (fun t=>t.2=Yu (NN p) f.subs (d8k env') j∧∃b':Nat,t.1=(b':Int)∧nx p b'=num p (j+nqL f.subs)) (fun _=>False)) ((Evt.range (fun k s=>s.2=Yu (NN p) (f.subs.take k) (d8k env') j∧∃b':Nat,s.1=(b':Int)∧nx p b'=num p (j+nqL (f.subs.take k))) (fun _=>False) (fun _=>False) ⟨by simp[Yu],c,rfl,by simpa[nqL]using hc⟩ (fun k s hk hs=>?_)).mono fun e he=>?_) (fun t ht=>?_) (fun _ h=>h.elim)
    ·obtain⟨hs1,b',hs2,hs3⟩:=hs
     unfold d0k
     have hsz:=XE hk
     have htk:=d0g hk
     have hqk:=d6k hk
     refine Evt.bind (P:=fun r=>r.1=ren (NN p) (Am.get f.subs k) (d8k env') (j+nqL (f.subs.take k))∧∃b'':Nat,r.2=(b'':Int)∧nx p b''=num p (j+nqL (f.subs.take k)+nq (Am.get f.subs k))) ?_ fun v hv=>Evt.Zo (Evt.chk ?_ (Evt.pure ?_))
     ·rw[hs2]
      exact ih _ (by omega) (i0t hwf hk) env' _ b' (by omega) (by omega) hs3
     ·rw[Yl,hs1];simp only[List.length_append,d2J,List.length_take,List.length_cons,List.length_nil];omega
     ·obtain⟨hv1,b'',hv2,hv3⟩:=hv
      refine⟨?_,b'',hv2,?_⟩
      ·show s.2++[v.1]=_
       rw[hs1,hv1,Xq hk,d3X]
      ·rw[hv3,Xq hk,d4s,Nat.add_assoc]
    ·cases e with
     |ret r=>exact he
     |nxt t=>
      have:=he.elim id False.elim
      rw[List.take_length]at this
      exact this
    ·obtain⟨ht1,b',ht2,ht3⟩:=ht
     unfold d0l
     refine Evt.pure ⟨?_,b',ht2,by rw[ht3,hjn]⟩
     show Lr.mk _ _ _ _=_
     rw[i1J,ht1,hnm,p5d,hj]
   unfold d0m
   simp only[d1i,Option.bind_some]
   have hbl:=(i5I hC2 b).1
   have hnl:=i6V hC2 10000 hCl i
   refine Evt.cond (fun e=>?_) (fun e=>?_)
   ·replace e:=bx e
    rw[if_pos e]at hnq
    refine Evt.bind (i4k hC (b:=b) (by omega)) fun v hv=>Evt.chk (by omega) (Evt.Zo (Evt.chk ?_ ?_))
    ·rw[Yl];simp only[List.length_append,List.length_cons,List.length_nil];omega
    ·subst hv
     exact key _ _ (i+1) (nx p b+1) (by rw[if_pos e,hb];rfl) (by rw[if_pos e,i4l,hb];rfl) (by rw[if_pos e]) (by rw[hb];rfl) (by simp)
   ·replace e:=bx e
    rw[if_neg e]at hnq
    exact key _ _ i b (by rw[if_neg e]) (by rw[if_neg e]) (by rw[if_neg e];rfl) hb (by omega)
noncomputable def cf(f:Lr):Lr:=ren (NN (fre f [])) f [] 0
theorem p2Q{f:Lr}(h:OkF f):Evt (fun n=>d0u n f) (fun r=>r=cf f):=by
 have h2:=h.2.1
 unfold d0u d1Z
 have hq:=i0r f
 refine Evt.bind (P:=fun r=>r=cf f) (Evt.bind (d5S h.1 (by omega)) fun v hv=>?_) fun v hv=>Evt.pure hv
 refine Evt.WL (P:=ExP (fun _=>True) (fun _=>False)) ⟨.nxt (),trivial,0,fun n _=>rfl⟩ (fun _ _=>?_) (fun _ h=>h.elim)
 unfold d0n
 exact Evt.bind (i8o hv.1 (by omega) _ f (Nat.le_refl _) h.1 [] 0 0 (by simp;omega) (by omega) rfl) fun r hr=>Evt.pure hr.1
mutual
def SmF:Lr→Prop
 | .mk _ _ w s=>w.length≤3∧s.length≤2∧d8l s
def d8l:List Lr→Prop
 | []=>True
 |f::l=>SmF f∧d8l l
end
theorem i0z(f:Lr):SmF f↔f.words.length≤3∧f.subs.length≤2∧d8l f.subs:=by cases f;rw[SmF];rfl
theorem d7C:∀ {l:List Lr},d8l l→∀x∈l,SmF x
 | [],_,x,h=>by cases h
 |f::l,h,x,hx=>by
  rw[d8l]at h
  rcases List.mem_cons.1 hx with rfl|hx
  ·exact h.1
  ·exact d7C h.2 x hx
mutual
theorem WfF.sm:∀(f:Lr),WfF f→SmF f
 | .mk k n w s,h=>by
   rw[SmF]
   exact⟨i4f h,i2I h,d6i.sm s ((d1P _).1 h).2⟩
theorem d6i.sm:∀(l:List Lr),d6i l→d8l l
 | [],_=>by rw[d8l];trivial
 |f::l,h=>by
  rw[d8l]
  exact⟨WfF.sm f (Ym.1 h f (List.mem_cons_self ..)),d6i.sm l (Ym.2 fun x hx=>Ym.1 h x (List.mem_cons_of_mem _ hx))⟩
end
mutual
theorem SmF.ren(N:Nat→Bs):∀(f:Lr) (env:List (Bs×Bs)) (i:Nat),SmF f→SmF (ren N f env i)
 | .mk k n w s,env,i,h=>by
   rw[SmF]at h
   rw[Go.Proofs.YtfacbpehlibilaaGreatDoor.ren,SmF]
   exact⟨by rw[List.length_map];exact h.1,by rw[d2J];exact h.2.1,d8l.ren N s _ _ h.2.2⟩
theorem d8l.ren(N:Nat→Bs):∀(l:List Lr) (env:List (Bs×Bs)) (i:Nat),d8l l→d8l (Yu N l env i)
 | [],env,i,_=>by rw[Yu,d8l];trivial
 |f::l,env,i,h=>by
  rw[d8l]at h
  rw[Yu,d8l]
  exact⟨SmF.ren N f env i h.1,d8l.ren N l env _ h.2⟩
end
mutual
theorem i6X:∀(f:Lr),WfF f→∀(bd:List Bs) (x:Bs),fre f bd x→Xn x
 | .mk k n w s,h,bd,x,hx=>by
   rw[fre]at hx
   rcases hx with hx|hx
   ·exact(d1D ((d1P _).1 h).1).2.2.2.2 x hx.1
   ·exact i4m s ((d1P _).1 h).2 _ x hx
theorem i4m:∀(l:List Lr),d6i l→∀(bd:List Bs) (x:Bs),d0x l bd x→Xn x
 | [],_,bd,x,hx=>by rw[d0x]at hx;exact hx.elim
 |f::l,h,bd,x,hx=>by
  rw[d0x]at hx
  rcases hx with hx|hx
  ·exact i6X f (Ym.1 h f (List.mem_cons_self ..)) bd x hx
  ·exact i4m l (Ym.2 fun y hy=>Ym.1 h y (List.mem_cons_of_mem _ hy)) bd x hx
end
mutual
def swp(σ:Bs→Bs):Lr→Lr
 | .mk k n w s=>.mk k (if QK k then σ n else n) (w.map σ) (p8d σ s)
def p8d(σ:Bs→Bs):List Lr→List Lr
 | []=>[]
 |f::l=>swp σ f::p8d σ l
end
theorem p5e{l:List Bs}{k:Nat}(h:k<l.length):l.drop k=Am.get l k::l.drop (k+1):=by
 rw[List.drop_eq_getElem_cons h]
 simp[Am.get,h]
theorem p0D(σ:Bs→Bs){w:Bs}(h:σ w=w):∀env:List (Bs×Bs),σ (sub env w)=sub (env.map fun e=>(e.1,σ e.2)) w
 | []=>by rw[List.map_nil,d8i,h]
 |(a,b)::env=>by
  rw[List.map_cons,Ye,Ye]
  split
  ·rfl
  ·exact p0D σ h env
mutual
theorem p5f(σ:Bs→Bs)(N:Nat→Bs)(q:Nat)(h1:∀j,j<q→σ (mk j)=N j)(h2:∀w,Xn w→σ w=w):∀(f:Lr) (env:List (Bs×Bs)) (i:Nat),WfF f→i+nq f≤q→swp σ (ren mk f env i)=ren N f (env.map fun e=>(e.1,σ e.2)) i
 | .mk k n w s,env,i,hwf,hq=>by
   have hn:=((d1P _).1 hwf).1
   have hs:=((d1P _).1 hwf).2
   have hw:=(d1D hn).2.2.2.2
   rw[nq]at hq
   rw[ren,ren,swp]
   have e1:(w.map (sub env)).map σ=w.map (sub (env.map fun e=>(e.1,σ e.2))):=by
    rw[List.map_map]
    exact List.map_congr_left fun x hx=>p0D σ (h2 x (hw x hx)) env
   rw[e1]
   by_cases hk:QK k
   ·rw[if_pos hk]at hq
    simp only[if_pos hk]
    rw[h1 i (by omega),i2K σ N q h1 h2 s _ _ hs (by omega),List.map_cons,h1 i (by omega)]
   ·rw[if_neg hk]at hq
    simp only[if_neg hk]
    rw[i2K σ N q h1 h2 s _ _ hs (by omega)]
theorem i2K(σ:Bs→Bs)(N:Nat→Bs)(q:Nat)(h1:∀j,j<q→σ (mk j)=N j)(h2:∀w,Xn w→σ w=w):∀(l:List Lr) (env:List (Bs×Bs)) (i:Nat),d6i l→i+nqL l≤q→p8d σ (Yu mk l env i)=Yu N l (env.map fun e=>(e.1,σ e.2)) i
 | [],env,i,_,_=>by rw[Yu,Yu,p8d]
 |f::l,env,i,h,hq=>by
  rw[nqL]at hq
  rw[Yu,Yu,p8d,p5f σ N q h1 h2 f env i (Ym.1 h f (List.mem_cons_self ..)) (by omega),i2K σ N q h1 h2 l env _ (Ym.2 fun x hx=>Ym.1 h x (List.mem_cons_of_mem _ hx)) (by omega)]
end
end Go.Proofs.YtfacbpehlibilaaGreatDoor
