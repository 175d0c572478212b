import Derived.Lib.ItoaMem
import Derived.Lib.ItoaLen
import Derived.Test.YtdjnbjnlnjhllaaDoorFQLaw1
set_option linter.unusedVariables false
set_option linter.unusedSimpArgs false
namespace Go.Proofs.YtdjnbjnlnjhllaaDoor
open Go Go.Am
theorem qY(l:List Bs)(x:Bs):Evt (fun _=>x5 l x) (fun r=>r=decide (x∈l)):=by
 unfold x5 P1
 refine Evt.bind (P:=fun r=>0≤r↔x∈l) (Evt.y4 (Evt.scan (fun k _=>∀j,j<k→Am.get l j≠x) (fun k r=>r=(k:Int)∧Am.get l k=x) (fun j hj=>absurd hj (Nat.not_lt_zero _)) (fun k u hk hi=>?_)) (fun t ht=>?_) (fun r hr=>?_)) fun v hv=>Evt.pure ?_
 ·unfold K2
  refine Evt.cond (fun e=>Evt.pure ?_) (fun e=>Evt.pure ?_)
  ·replace e:=bx e
   exact⟨rfl,e.symm⟩
  ·replace e:=bx e
   intro j hj
   by_cases ej:j=k
   ·subst ej;exact fun h=>e h.symm
   ·exact hi j (by omega)
 ·unfold K3
  refine Evt.pure ⟨fun h=>absurd h (by decide),fun h=>?_⟩
  obtain⟨j,hj,e⟩:=aF.1 h
  exact absurd e (ht j hj)
 ·obtain⟨k,_,hk,_,rfl,e⟩:=hr
  exact⟨fun _=>aF.2 ⟨k,hk,e⟩,fun _=>by omega⟩
 ·by_cases h:x∈l
  ·simp[h,hv.2 h]
  ·have h3:¬0≤v:=fun h2=>h (hv.1 h2)
   simp only[h,h3,decide_false]
theorem P6(l:List Bs)(x:Bs):x5 l x=some (decide (x∈l)):=by
 obtain⟨r,rfl,N,hN⟩:=qY l x
 exact hN N (Nat.le_refl _)
theorem td{zs:List Bs}{x:Bs}:x∈Lib.compact zs↔x∈zs:=by
 unfold Lib.compact Lib.compactUpTo
 rw[List.mem_map]
 have hg:∀j,j<zs.length→zs.toArray[j]! =Am.get zs j:=fun j hj=>by simp[Am.get,hj]
 constructor
 ·rintro⟨j,hj,rfl⟩
  have hj:=List.mem_range.1 (List.mem_filter.1 hj).1
  rw[hg j hj]
  exact get_mem hj
 ·intro h
  obtain⟨j,hj,rfl⟩:=aF.1 h
  have key:∀j,j<zs.length→∃a,a∈(List.range zs.length).filter (Lib.keeps zs.toArray)∧zs.toArray[a]! =Am.get zs j:=by
   intro j
   induction j with
   |zero=>intro hj;exact⟨0,List.mem_filter.2 ⟨List.mem_range.2 hj,Lib.keeps_lt_one _ 0 (by omega)⟩,hg 0 hj⟩
   |succ j ih=>
    intro hj
    by_cases hk:Lib.keeps zs.toArray (j+1)=true
    ·exact⟨j+1,List.mem_filter.2 ⟨List.mem_range.2 hj,hk⟩,hg _ hj⟩
    ·obtain⟨a,h1,h2⟩:=ih (by omega)
     refine⟨a,h1,h2.trans ?_⟩
     unfold Lib.keeps at hk
     simp only[decide_eq_true_eq,not_or,Decidable.not_not,ne_eq]at hk
     have:=hk.2
     rw[hg _ hj,Nat.add_sub_cancel,hg j (by omega)]at this
     exact this.symm
  exact key j hj
mutual
theorem yJ:∀(f:u5) (bd bd':List Bs),(∀y,y∈bd↔y∈bd')→∀x,fre f bd x↔fre f bd' x
 | .mk k n w s,bd,bd',h,x=>by
   rw[fre,fre,h x,kF s _ _ (fun y=>?_) x]
   split
   ·simp[h y]
   ·exact h y
theorem kF:∀(l:List u5) (bd bd':List Bs),(∀y,y∈bd↔y∈bd')→∀x,gk l bd x↔gk l bd' x
 | [],bd,bd',h,x=>by rw[gk,gk]
 |f::l,bd,bd',h,x=>by rw[gk,gk,yJ f bd bd' h x,kF l bd bd' h x]
end
theorem yK(l:List u5)(f:u5)(bd:List Bs)(x:Bs):gk (l++[f]) bd x↔gk l bd x∨fre f bd x:=by
 rw[pN,pN]
 constructor
 ·rintro⟨g,hg,h⟩
  rcases List.mem_append.1 hg with hg|hg
  ·exact .inl ⟨g,hg,h⟩
  ·rw[List.mem_singleton]at hg;subst hg;exact .inr h
 ·rintro(⟨g,hg,h⟩|h)
  ·exact⟨g,List.mem_append.2 (.inl hg),h⟩
  ·exact⟨f,List.mem_append.2 (.inr (List.mem_singleton.2 rfl)),h⟩
theorem vH:∀(m:Nat) (f:u5),SizeOf.sizeOf f≤m→WfF f→∀(bd l:List Bs),bd.length+ndF f≤100000→l.length+3*ndF f≤300000→
 Evt (fun n=>D5 n f bd l) (fun r=>(∀x,x∈r↔x∈l∨fre f bd x)∧r.length≤l.length+3*ndF f):=by
 intro m
 induction m with
 |zero=>intro f h;cases f;simp only[u5.mk.sizeOf_spec]at h;omega
 |succ m ih=>
  intro f hf hwf bd l hbd hl
  have hnd:=nA f
  have hws:=nC hwf
  refine Evt.succ ?_
  simp only[D5]
  refine Evt.y4 (P:=ExP (fun t=>(∀x,x∈t↔x∈l∨(x∈f.words∧x∉bd))∧t.length≤l.length+3) (fun _=>False)) ((Evt.range (fun k s=>(∀x,x∈s↔x∈l∨(x∈f.words.take k∧x∉bd))∧s.length≤l.length+k) (fun _=>False) (fun _=>False) ⟨fun x=>by simp,by omega⟩ (fun k s hk hi=>?_)).mono fun e he=>?_) (fun t ht=>?_) (fun _ h=>h.elim)
  ·unfold U2
   simp only[P6,Option.bind_some]
   refine Evt.cond (fun e=>Evt.aB (Evt.chk ?_ (Evt.pure ⟨fun x=>?_,?_⟩))) (fun e=>Evt.pure ⟨fun x=>?_,by omega⟩)
   ·rw[Y4];simp only[List.length_append,List.length_cons,List.length_nil];omega
   ·replace e:=bx e
    rw[List.mem_append,hi.1 x,F3 hk,List.mem_append,List.mem_singleton]
    by_cases hx:x=Am.get f.words k
    ·subst hx;simp[e]
    ·simp[hx]
   ·simp only[List.length_append,List.length_cons,List.length_nil];omega
   ·replace e:=bx e
    rw[hi.1 x,F3 hk,List.mem_append,List.mem_singleton]
    by_cases hx:x=Am.get f.words k
    ·subst hx;simp[e]
    ·simp[hx]
  ·cases e with
   |ret r=>exact he
   |nxt t=>
    obtain⟨h1,h2⟩:=he.elim id False.elim
    rw[List.take_length]at h1
    exact⟨h1,by omega⟩
  ·obtain⟨h1,h2⟩:=ht
   have key:∀bd':List Bs,(∀y,y∈bd'↔y∈(if QK f.kind then f.name::bd else bd))→bd'.length≤bd.length+1→Evt (fun n=>J6 (D5 n) f t bd') (fun r=>(∀x,x∈r↔x∈l∨fre f bd x)∧r.length≤l.length+3*ndF f):=by
    intro bd' hb hbl
    unfold J6
    refine Evt.y4 (P:=ExP (fun r=>(∀x,x∈r↔x∈t∨gk f.subs bd' x)∧r.length≤t.length+3*aJ f.subs) (fun _=>False)) ((Evt.range (fun k s=>(∀x,x∈s↔x∈t∨gk (f.subs.take k) bd' x)∧s.length≤t.length+3*aJ (f.subs.take k)) (fun _=>False) (fun _=>False) ⟨fun x=>by simp[gk],by omega⟩ (fun k s hk hi=>?_)).mono fun e he=>?_) (fun r hr=>?_) (fun _ h=>h.elim)
    ·unfold U3
     have hsz:=V0 hk
     have htk:=dK hk
     refine Evt.bind (ih _ (by omega) (jM hwf hk) bd' s (by omega) (by omega)) fun v hv=>Evt.pure ⟨fun x=>?_,?_⟩
     ·rw[hv.1 x,hi.1 x,F3 hk,yK,or_assoc]
     ·rw[F3 hk,jL]
      have:=hv.2
      have:=hi.2
      omega
    ·cases e with
     |ret r=>exact he
     |nxt r=>
      have:=he.elim id False.elim
      rw[List.take_length]at this
      exact this
    ·obtain⟨h3,h4⟩:=hr
     unfold U4
     refine Evt.pure ⟨fun x=>?_,by omega⟩
     rw[h3 x,h1 x,Fz,kF f.subs _ _ hb x,or_assoc]
   unfold U5
   simp only[iw,Option.bind_some]
   refine Evt.cond (fun e=>Evt.chk (by omega) (Evt.aB (Evt.chk ?_ (key _ (fun y=>?_) ?_)))) (fun e=>key _ (fun y=>?_) (by omega))
   ·rw[Y4];simp only[List.length_append,List.length_cons,List.length_nil];omega
   ·replace e:=bx e
    rw[if_pos e];simp[or_comm]
   ·simp
   ·replace e:=bx e
    rw[if_neg e]
theorem gX{f:u5}(hwf:WfF f)(hn:ndF f≤50000):Evt (fun n=>S7 n f) (fun r=>(∀x,x∈r↔fre f [] x)∧r.length≤3*ndF f):=by
 unfold S7
 refine Evt.bind (vH _ f (Nat.le_refl _) hwf [] [] (by simp;omega) (by simp;omega)) fun v hv=>?_
 obtain⟨h1,h2⟩:=hv
 simp only[List.length_nil,Nat.zero_add]at h2
 unfold F6 L7
 have hlen:(qL cfB v).length=v.length:=(fu cfB v).length_eq
 refine Evt.bind (Evt.chk (by omega) (Evt.pure (P:=fun r=>r=qL cfB v) rfl)) fun r hr=>?_
 subst hr
 refine Evt.bind (Evt.chk (by omega) (Evt.pure (P:=fun r=>True) trivial)) fun _ _=>Evt.pure ⟨fun x=>?_,?_⟩
 ·rw[td,(fu cfB v).mem_iff,h1 x]
  simp
 ·have:=Lib.compact_length_le (qL cfB v)
  omega
theorem qZ:∀(m:Nat) (f:u5),SizeOf.sizeOf f≤m→ndF f≤100000→Evt (fun n=>y7 n f) (fun r=>r=qs f):=by
 intro m
 induction m with
 |zero=>intro f h;cases f;simp only[u5.mk.sizeOf_spec]at h;omega
 |succ m ih=>
  intro f hf hn
  have hnd:=nA f
  refine Evt.succ ?_
  simp only[y7,iw,Option.bind_some]
  have AO:∀(l:List u5) (x:u5),qsL (l++[x])=qsL l++qs x:=fun l x=>by
   induction l with
   |nil=>simp[qsL]
   |cons a l ih=>rw[List.cons_append,qsL,qsL,ih,List.append_assoc]
  have key:∀l0:List Bs,l0=(if QK f.kind then [f.name]else [])→Evt (fun n=>E7 (y7 n) f l0) (fun r=>r=qs f):=by
   intro l0 h0
   have hl0:l0.length≤1:=by rw[h0];split<;>simp
   unfold E7
   refine Evt.y4 (P:=ExP (fun t=>t=l0++qsL f.subs) (fun _=>False)) ((Evt.range (fun k s=>s=l0++qsL (f.subs.take k)) (fun _=>False) (fun _=>False) (by simp[qsL]) (fun k s hk hi=>?_)).mono fun e he=>?_) (fun t ht=>?_) (fun _ h=>h.elim)
   ·subst hi
    unfold P2
    have hsz:=V0 hk
    have htk:=dK hk
    refine Evt.bind (ih _ (by omega) (by omega)) fun v hv=>Evt.aB (Evt.chk ?_ (Evt.pure ?_))
    ·subst hv
     have h1:=sW (f.subs.take k)
     have h2:=oH (Am.get f.subs k)
     have h3:=xZ (f.subs.take k)
     have h4:=qU (Am.get f.subs k)
     rw[Y4]
     simp only[List.length_append]
     omega
    ·subst hv
     show _=_
     rw[F3 hk,AO,List.append_assoc]
   ·cases e with
    |ret r=>exact he
    |nxt t=>
     have:=he.elim id False.elim
     rw[List.take_length]at this
     exact this
   ·have ht:t=_:=ht
    subst ht
    unfold P3
    refine Evt.pure ?_
    rw[HZ, ←h0]
  refine Evt.cond (fun e=>Evt.aB (Evt.chk (by simp[Y4]) (key _ ?_))) (fun e=>key _ ?_)
  ·replace e:=bx e
   rw[if_pos e];rfl
  ·replace e:=bx e
   rw[if_neg e]
mutual
def I8:u5→List u5
 | .mk k n w s=>.mk k n w s::X0 s
def X0:List u5→List u5
 | []=>[]
 |x::l=>I8 x++X0 l
end
theorem uz(f:u5):I8 f=f::X0 f.subs:=by cases f;rw[I8];rfl
mutual
theorem fA:∀f:u5,(I8 f).length=ndF f
 | .mk k n w s=>by rw[I8,ndF,List.length_cons,oI s];omega
theorem oI:∀l:List u5,(X0 l).length=aJ l
 | []=>by rw[X0,aJ];rfl
 |x::l=>by rw[X0,aJ,List.length_append,fA x,oI l]
end
def FC(b:Nat)(g:u5)(it:IT):Prop:=it.kind=g.kind∧it.name=g.name∧it.words=g.words∧it.end_=((b+ndF g:Nat):Int)∧it.bound.length=g.words.length
mutual
theorem oJ:∀(f:u5) (ar:List Bs) (b j:Nat),j<ndF f→FC (b+j) (Am.get (I8 f) j) (Am.get (cF f ar b) j)
 | .mk k n w s,ar,b,0,_=>by
   rw[cF,I8]
   refine⟨rfl,rfl,rfl,?_,?_⟩
   ·show((b+(1+aJ s):Nat):Int)=_
    show _=((b+0+ndF (.mk k n w s):Nat):Int)
    rw[ndF];rfl
   ·show(w.map _).length=w.length
    simp
 | .mk k n w s,ar,b,j+1,h=>by
   rw[cF,I8]
   rw[ndF]at h
   have:=nE s (if QK k then n::ar else ar) (b+1) j (by omega)
   rw[show b+(j+1)=b+1+j by omega]
   exact this
theorem nE:∀(l:List u5) (ar:List Bs) (b j:Nat),j<aJ l→FC (b+j) (Am.get (X0 l) j) (Am.get (aL l ar b) j)
 | [],ar,b,j,h=>by rw[aJ]at h;omega
 |x::l,ar,b,j,h=>by
  rw[aJ]at h
  rw[aL,X0]
  by_cases hj:j<ndF x
  ·have:=oJ x ar b j hj
   have e1:Am.get (I8 x++X0 l) j=Am.get (I8 x) j:=by
    unfold Am.get
    rw[List.getD_eq_getElem?_getD,List.getD_eq_getElem?_getD,List.getElem?_append_left (by rw[fA];exact hj)]
   have e2:Am.get (cF x ar b++aL l ar (b+ndF x)) j=Am.get (cF x ar b) j:=by
    unfold Am.get
    rw[List.getD_eq_getElem?_getD,List.getD_eq_getElem?_getD,List.getElem?_append_left (by rw[fX];exact hj)]
   rw[e1,e2];exact this
  ·have:=nE l ar (b+ndF x) (j-ndF x) (by omega)
   have e1:Am.get (I8 x++X0 l) j=Am.get (X0 l) (j-ndF x):=by
    unfold Am.get
    rw[List.getD_eq_getElem?_getD,List.getD_eq_getElem?_getD,List.getElem?_append_right (by rw[fA];omega),fA]
   have e2:Am.get (cF x ar b++aL l ar (b+ndF x)) j=Am.get (aL l ar (b+ndF x)) (j-ndF x):=by
    unfold Am.get
    rw[List.getD_eq_getElem?_getD,List.getD_eq_getElem?_getD,List.getElem?_append_right (by rw[fX];omega),fX]
   rw[e1,e2,show b+j=b+ndF x+(j-ndF x)by omega]
   exact this
end
theorem iZ:∀(l:List u5) (x:u5),X0 (l++[x])=X0 l++I8 x
 | [],x=>by simp[X0]
 |a::l,x=>by rw[List.cons_append,X0,X0,iZ l x,List.append_assoc]
def iy(l:List u5)(x:Bs):Prop:=∃g∈l,g.kind=2∧g.name=x∧0<g.words.length
def jj(l:List u5)(x:Bs):Prop:=∃g∈l,g.kind=2∧g.name=x∧g.words.length=0
theorem iy.app{l m:List u5}{x:Bs}:iy (l++m) x↔iy l x∨iy m x:=by
 unfold iy
 constructor
 ·rintro⟨g,hg,h⟩
  rcases List.mem_append.1 hg with hg|hg
  ·exact .inl ⟨g,hg,h⟩
  ·exact .inr ⟨g,hg,h⟩
 ·rintro(⟨g,hg,h⟩|⟨g,hg,h⟩)
  ·exact⟨g,List.mem_append.2 (.inl hg),h⟩
  ·exact⟨g,List.mem_append.2 (.inr hg),h⟩
theorem jj.app{l m:List u5}{x:Bs}:jj (l++m) x↔jj l x∨jj m x:=by
 unfold jj
 constructor
 ·rintro⟨g,hg,h⟩
  rcases List.mem_append.1 hg with hg|hg
  ·exact .inl ⟨g,hg,h⟩
  ·exact .inr ⟨g,hg,h⟩
 ·rintro(⟨g,hg,h⟩|⟨g,hg,h⟩)
  ·exact⟨g,List.mem_append.2 (.inl hg),h⟩
  ·exact⟨g,List.mem_append.2 (.inr hg),h⟩
theorem iy.one{g:u5}{x:Bs}:iy [g] x↔g.kind=2∧g.name=x∧0<g.words.length:=by
 unfold iy;simp
theorem jj.one{g:u5}{x:Bs}:jj [g] x↔g.kind=2∧g.name=x∧g.words.length=0:=by
 unfold jj;simp
theorem CU:∀(m:Nat) (f:u5),SizeOf.sizeOf f≤m→∀x,Evt (fun n=>L8 n f x) (fun r=>(r.1=true↔iy (I8 f) x)∧(r.2=true↔jj (I8 f) x)):=by
 intro m
 induction m with
 |zero=>intro f h;cases f;simp only[u5.mk.sizeOf_spec]at h;omega
 |succ m ih=>
  intro f hf x
  refine Evt.succ ?_
  simp only[L8]
  have key:∀j:Bool×Bool,(j.1=true↔iy [f] x)→(j.2=true↔jj [f] x)→Evt (fun n=>S8 (L8 n) f x j) (fun r=>(r.1=true↔iy (I8 f) x)∧(r.2=true↔jj (I8 f) x)):=by
   intro j h1 h2
   unfold S8
   refine Evt.y4 (P:=ExP (fun s:Bool×Bool=>(s.1=true↔iy (f::X0 f.subs) x)∧(s.2=true↔jj (f::X0 f.subs) x)) (fun _=>False)) ((Evt.range (fun k s=>(s.1=true↔iy ([f]++X0 (f.subs.take k)) x)∧(s.2=true↔jj ([f]++X0 (f.subs.take k)) x)) (fun _=>False) (fun _=>False) ⟨by simpa[X0]using h1,by simpa[X0]using h2⟩ (fun k s hk hi=>?_)).mono fun e he=>?_) (fun t ht=>?_) (fun _ h=>h.elim)
   ·unfold aT
    have hsz:=V0 hk
    refine Evt.bind (ih _ (by omega) x) fun v hv=>Evt.pure ⟨?_,?_⟩
    ·rw[F3 hk,iZ, ←List.append_assoc,iy.app, ←hv.1, ←hi.1]
     cases s.1<;>simp
    ·rw[F3 hk,iZ, ←List.append_assoc,jj.app, ←hv.2, ←hi.2]
     cases s.2<;>simp
   ·cases e with
    |ret r=>exact he
    |nxt t=>
     have:=he.elim id False.elim
     rw[List.take_length]at this
     exact this
   ·unfold aU
    refine Evt.pure ?_
    rw[uz]
    exact ht
  refine Evt.cond (fun e=>key _ ?_ ?_) (fun e=>key _ ?_ ?_)
  ·replace e:=bx e
   rw[iy.one];simp[e.1,e.2]
  ·replace e:=bx e
   rw[jj.one];simp[e.1,e.2]
  ·rw[iy.one]
   refine⟨fun h=>(by cases h),fun h=>?_⟩
   simp[h.1,h.2.1]at e
  ·rw[jj.one]
   refine⟨fun h=>(by cases h),fun h=>?_⟩
   simp[h.1,h.2.1]at e
def cN(l:List IT)(x:Bs):Prop:=∃it∈l,∃m,m<it.words.length∧Am.get it.words m=x∧Am.get it.bound m=false
theorem cN.app{l m:List IT}{x:Bs}:cN (l++m) x↔cN l x∨cN m x:=by
 unfold cN
 constructor
 ·rintro⟨g,hg,h⟩
  rcases List.mem_append.1 hg with hg|hg
  ·exact .inl ⟨g,hg,h⟩
  ·exact .inr ⟨g,hg,h⟩
 ·rintro(⟨g,hg,h⟩|⟨g,hg,h⟩)
  ·exact⟨g,List.mem_append.2 (.inl hg),h⟩
  ·exact⟨g,List.mem_append.2 (.inr hg),h⟩
theorem cN.cons{a:IT}{l:List IT}{x:Bs}:cN (a::l) x↔cN [a] x∨cN l x:=by
 rw[←cN.app];rfl
theorem cN.nil{x:Bs}:¬cN [] x:=fun⟨_,h,_⟩=>by cases h
theorem get_map{α β:Type}[Inhabited α][Inhabited β](g:α→β){l:List α}{k:Nat}(h:k<l.length):Am.get (l.map g) k=g (Am.get l k):=by
 unfold Am.get
 rw[List.getD_eq_getElem?_getD,List.getD_eq_getElem?_getD,List.getElem?_map,List.getElem?_eq_getElem h]
 rfl
mutual
theorem rj:∀(f:u5) (ar:List Bs) (b:Nat) (x:Bs),cN (cF f ar b) x↔fre f ar x
 | .mk k n w s,ar,b,x=>by
   rw[cF,cN.cons,fre,oK s]
   refine or_congr_left ?_
   constructor
   ·rintro⟨it,hit,m,h1,h2,h3⟩
    rw[List.mem_singleton]at hit
    subst hit
    have h1:m<w.length:=h1
    have h2:Am.get w m=x:=h2
    have h3:Am.get (w.map fun x=>decide (x∈ar)) m=false:=h3
    rw[get_map _ h1,h2]at h3
    exact⟨aF.2 ⟨m,h1,h2⟩,of_decide_eq_false h3⟩
   ·rintro⟨h1,h2⟩
    obtain⟨m,h3,h4⟩:=aF.1 h1
    refine⟨_,List.mem_singleton.2 rfl,m,h3,h4,?_⟩
    show Am.get (w.map fun x=>decide (x∈ar)) m=false
    rw[get_map _ h3,h4]
    exact decide_eq_false h2
theorem oK:∀(l:List u5) (ar:List Bs) (b:Nat) (x:Bs),cN (aL l ar b) x↔gk l ar x
 | [],ar,b,x=>by rw[aL,gk];exact⟨fun h=>cN.nil h,False.elim⟩
 |f::l,ar,b,x=>by rw[aL,gk,cN.app,rj f,oK l]
end
def qsI(l:List IT):List Bs:=l.flatMap fun it=>if QK it.kind then [it.name]else []
mutual
theorem yL:∀(f:u5) (ar:List Bs) (b:Nat),qsI (cF f ar b)=qs f
 | .mk k n w s,ar,b=>by
   rw[cF,qs]
   show(if QK k then [n]else [])++qsI _=_
   rw[uD s]
theorem uD:∀(l:List u5) (ar:List Bs) (b:Nat),qsI (aL l ar b)=qsL l
 | [],ar,b=>by rw[aL,qsL];rfl
 |f::l,ar,b=>by
  rw[aL,qsL, ←yL f ar b, ←uD l ar (b+ndF f)]
  exact List.flatMap_append
end
theorem BP{ρ:Type}(l:List Bs)(x:Bs)(body:Int→Option (Ctl Int Int Unit))(hb:∀s,body s=bif decide (s<(l.length:Int))then chk (0≤s∧s<(l.length:Int)) <| bif decide (Am.get l s.toNat=x)then some (.ret s)else some (.nxt (wr .i64 (s+1)))else some (.brk ()))
 (hl:l.length≤8000000) (k:Unit→Option Int) (hk:k ()=some (-1)):Evt (fun n=>y4 (E9 body n 0) k) (fun r=>(x∉l∧r= -1)∨∃j,j<l.length∧Am.get l j=x∧(∀i,i<j→Am.get l i≠x)∧r=(j:Int)):=by
 refine Evt.y4 (Evt.fV l.length (fun k s=>s=(k:Int)∧∀i,i<k→Am.get l i≠x) (fun _=>x∉l) (fun r=>∃j,j<l.length∧Am.get l j=x∧(∀i,i<j→Am.get l i≠x)∧r=(j:Int)) ⟨rfl,fun i hi=>absurd hi (Nat.not_lt_zero _)⟩ (fun k s hk hs=>?_) (fun s hs=>?_)) (fun t ht=>?_) (fun r hr=>.inr hr)
 ·obtain⟨rfl,hs⟩:=hs
  rw[hb]
  refine Evt.cond (fun _=>Evt.chk (by omega) (Evt.cond (fun e=>Evt.pure ?_) (fun e=>Evt.pure ?_))) (fun e=>by replace e:=bx e;omega)
  ·replace e:=bx e
   exact⟨k,hk,by simpa using e,hs,rfl⟩
  ·replace e:=bx e
   rw[T8 (by omega) (by omega)]
   refine⟨rfl,fun i hi=>?_⟩
   by_cases ei:i=k
   ·subst ei;simpa using e
   ·exact hs i (by omega)
 ·obtain⟨rfl,hs⟩:=hs
  rw[hb]
  refine Evt.cond (fun e=>by replace e:=bx e;omega) (fun _=>Evt.pure fun h=>?_)
  obtain⟨j,hj,e⟩:=aF.1 h
  exact hs j hj e
 ·rw[hk]
  exact Evt.pure (.inl ⟨ht,rfl⟩)
def rm(l:List Bs)(x:Bs)(r:Int):Prop:=(x∉l∧r= -1)∨∃j,j<l.length∧Am.get l j=x∧(∀i,i<j→Am.get l i≠x)∧r=(j:Int)
theorem rm.mem{l:List Bs}{x:Bs}{r:Int}(h:rm l x r):0≤r↔x∈l:=by
 rcases h with⟨h1,rfl⟩|⟨j,hj,e,_,rfl⟩
 ·exact⟨fun h=>absurd h (by decide),fun h=>absurd h h1⟩
 ·exact⟨fun _=>aF.2 ⟨j,hj,e⟩,fun _=>by omega⟩
theorem yM(l:List Bs)(x:Bs)(hl:l.length≤8000000):Evt (fun n=>R6 n l x) (rm l x):=BP (ρ:=Unit) l x (L9 l x) (fun _=>rfl) hl _ rfl
theorem yN(l:List Bs)(x:Bs)(hl:l.length≤8000000):Evt (fun n=>R7 n x l) (rm l x):=BP (ρ:=Unit) l x (M0 l x) (fun _=>rfl) hl _ rfl
def vns(s:w6):List Bs:=s.words++s.y5++s.parts
open Classical in
noncomputable def N5(s:w6)(i:Nat):Int:=
 if ¬D9 (Am.get (vns s) i)then 10
 else if Am.get (vns s) i∈(vns s).take i then 7
 else if i<s.words.length then(if fre s.form [] (Am.get (vns s) i)then 0 else 15)
 else if i<s.words.length+s.y5.length then(if iy (I8 s.form) (Am.get (vns s) i)∨jj (I8 s.form) (Am.get (vns s) i)then 0 else 15)
 else if iy (I8 s.form) (Am.get (vns s) i)then 5 else if jj (I8 s.form) (Am.get (vns s) i)then 0 else 15
def QOk(s:w6):Prop:=∀k,k<(qs s.form).length→Am.get (qs s.form) k∉ (qs s.form).take k∧Am.get (qs s.form) k∉s.words
def OkS(s:w6):Prop:=OkF s.form∧(vns s).length≤300∧(∀j,j<(vns s).length→N5 s j=0)∧QOk s
def FB(step:Nat→Int)(N:Nat)(r:w9):Prop:=∃k,k<N∧(∀j,j<k→step j=0)∧step k≠0∧r=⟨step k,k⟩
theorem FB.uniq{step:Nat→Int}{N:Nat}{r r':w9}(h:FB step N r)(h':FB step N r'):r=r':=by
 obtain⟨k,_,h2,h3,rfl⟩:=h
 obtain⟨k',_,h2',h3',rfl⟩:=h'
 have:k=k':=by
  rcases Nat.lt_trichotomy k k' with h|h|h
  ·exact absurd (h2' k h) h3
  ·exact h
  ·exact absurd (h2 k' h) h3'
 rw[this]
def vI(s:w6)(r:w9):Prop:=
 (¬OkF s.form∧r=gW s.form)∨(OkF s.form∧300<(vns s).length∧r=⟨2, -1⟩)∨(OkF s.form∧(vns s).length≤300∧FB (N5 s) (vns s).length r)∨
 (OkF s.form∧(vns s).length≤300∧(∀j,j<(vns s).length→N5 s j=0)∧¬QOk s∧r=⟨7, -1⟩)∨(OkS s∧r=⟨0,0⟩)
theorem vI.code{s:w6}{r:w9}(h:vI s r)(h0:r.code=0):OkS s∧r=⟨0,0⟩:=by
 rcases h with⟨h1,rfl⟩|⟨_,_,rfl⟩|⟨_,_,k,_,_,h3,rfl⟩|⟨_,_,_,_,rfl⟩|h
 ·exact absurd ((bh _).1 h0) h1
 ·cases h0
 ·exact absurd h0 h3
 ·cases h0
 ·exact h
theorem vI.ok{s:w6}{r:w9}(h:vI s r)(h0:OkS s):r=⟨0,0⟩:=by
 obtain⟨k1,k2,k3,k4⟩:=h0
 rcases h with⟨h1,_⟩|⟨_,h1,_⟩|⟨_,_,k,h2,_,h3,_⟩|⟨_,_,_,h1,_⟩|⟨_,h⟩
 ·exact absurd k1 h1
 ·omega
 ·exact absurd (k3 k h2) h3
 ·exact absurd k4 h1
 ·exact h
theorem vI.uniq{s:w6}{r r':w9}(h:vI s r)(h':vI s r'):r=r':=by
 rcases h with⟨h1,rfl⟩|⟨h1,h2,rfl⟩|⟨h1,h2,h3⟩|⟨h1,h2,h3,h4,rfl⟩|⟨h1,rfl⟩
 ·rcases h' with⟨k1,rfl⟩|⟨k1,_⟩|⟨k1,_⟩|⟨k1,_⟩|⟨k1,_⟩
  ·rfl
  ·exact absurd k1 h1
  ·exact absurd k1 h1
  ·exact absurd k1 h1
  ·exact absurd k1.1 h1
 ·rcases h' with⟨k1,_⟩|⟨_,_,rfl⟩|⟨_,k2,_⟩|⟨_,k2,_⟩|⟨k1,_⟩
  ·exact absurd h1 k1
  ·rfl
  ·omega
  ·omega
  ·exact absurd k1.2.1 (by omega)
 ·rcases h' with⟨k1,_⟩|⟨_,k2,_⟩|⟨_,_,k3⟩|⟨_,_,k3,_⟩|⟨k1,_⟩
  ·exact absurd h1 k1
  ·omega
  ·exact h3.uniq k3
  ·obtain⟨k,a,_,b,_⟩:=h3;exact absurd (k3 k a) b
  ·obtain⟨k,a,_,b,_⟩:=h3;exact absurd (k1.2.2.1 k a) b
 ·rcases h' with⟨k1,_⟩|⟨_,k2,_⟩|⟨_,_,k3⟩|⟨_,_,_,_,rfl⟩|⟨k1,_⟩
  ·exact absurd h1 k1
  ·omega
  ·obtain⟨k,a,_,b,_⟩:=k3;exact absurd (h3 k a) b
  ·rfl
  ·exact absurd k1.2.2.2 h4
 ·exact(vI.ok h' h1).symm
def SB(s:w6):Prop:=s.words.length≤1048576∧s.y5.length≤1048576∧s.parts.length≤1048576∧∀x∈vns s,x.length≤8000000
theorem jc(s:w6):(vns s).length=s.words.length+s.y5.length+s.parts.length:=by unfold vns;simp only[List.length_append]
theorem nF{s:w6}(hb:SB s):Evt (fun n=>K9 n s) (vI s):=by
 obtain⟨b1,b2,b3,_⟩:=hb
 have hvl:=jc s
 unfold K9
 refine Evt.bind (bN s.form) fun v hv=>?_
 subst hv
 refine Evt.cond (fun e=>Evt.pure (.inl ⟨fun h=>?_,rfl⟩)) (fun e=>?_)
 ·rw[jK h]at e;simp at e
 replace e:=bx e
 have hok:OkF s.form:=(bh _).1 e
 unfold N4 kB
 have hfl: [s.words,s.y5,s.parts].flatten=vns s:=by unfold vns;simp
 simp only[Option.bind_assoc,Option.bind_some,hfl]
 refine Evt.bind (P:=fun v=>v=vns s) (Evt.chk (by rw[hvl];simp;omega) (Evt.pure rfl)) fun v hv=>?_
 subst hv
 refine Evt.cond (fun e=>?_) (fun e=>?_)
 ·replace e:=bx e
  exact Evt.pure (.inr (.inl ⟨hok,by omega,rfl⟩))
 replace e:=bx e
 have h300:(vns s).length≤300:=by omega
 refine Evt.bind (gX hok.1 (by have:=hok.2.1;omega)) fun v4 hv4=>?_
 replace hv4:=hv4.1
 have hwl:wr .i64 ((s.words.length:Int)+(s.y5.length:Int))=((s.words.length+s.y5.length:Nat):Int):=by rw[T8 (by omega) (by omega)];omega
 refine Evt.y4 (Evt.scan (fun k _=>∀j,j<k→N5 s j=0) (fun k r=>N5 s k≠0∧r=⟨N5 s k,(k:Int)⟩) (fun j hj=>absurd hj (Nat.not_lt_zero _)) (fun k u hk hi=>?_)) (fun t ht=>?_) (fun r hr=>?_)
 ·have bad:∀c:Int,c≠0→N5 s k=c→Evt (fun _:Nat=>(E3 c (k:Int)).bind fun v=>some (Ctl.ret (σ:=Unit) (τ:=Unit) v)) (zC (fun _:Unit=>∀j,j<k+1→N5 s j=0) (fun _=>False) (fun r=>N5 s k≠0∧r=⟨N5 s k,(k:Int)⟩)):=fun c hc h=>by
   unfold E3
   exact Evt.pure ⟨by rw[h];exact hc,by rw[h]⟩
  have good:N5 s k=0→Evt (fun _:Nat=>some (Ctl.nxt (ρ:=w9) (τ:=Unit) ())) (zC (fun _:Unit=>∀j,j<k+1→N5 s j=0) (fun _=>False) (fun r=>N5 s k≠0∧r=⟨N5 s k,(k:Int)⟩)):=fun h=>Evt.pure fun j hj=>by
   by_cases ej:j=k
   ·subst ej;exact h
   ·exact hi j (by omega)
  unfold U6
  refine Evt.bind (iY _) fun v17 hv17=>Evt.cond (fun e=>bad 10 (by decide) ?_) (fun e=>?_)
  ·replace e:=bx e
   have:¬D9 (Am.get (vns s) k):=fun h=>by rw[(aK hv17).2 h]at e;cases e
   unfold N5;rw[if_pos this]
  replace e:=bx e
  have s1:¬ ¬D9 (Am.get (vns s) k):=fun h=>h ((aK hv17).1 e)
  refine Evt.chk (by omega) ?_
  simp only[P6,Option.bind_some]
  refine Evt.cond (fun e=>bad 7 (by decide) ?_) (fun e=>?_)
  ·replace e:=bx e
   unfold N5;rw[if_neg s1,if_pos e]
  replace e:=bx e
  have s2:=e
  refine Evt.bind (CU _ s.form (Nat.le_refl _) _) fun v23 hv23=>Evt.cond (fun e=>?_) (fun e=>?_)
  ·replace e:=bx e
   have s3:k<s.words.length:=by omega
   refine Evt.cond (fun e=>bad 15 (by decide) ?_) (fun e=>good ?_)
   ·replace e:=bx e
    rw[hv4]at e
    unfold N5;rw[if_neg s1,if_neg s2,if_pos s3,if_neg e]
   ·replace e:=bx e
    rw[hv4]at e
    unfold N5;rw[if_neg s1,if_neg s2,if_pos s3,if_pos e]
  ·replace e:=bx e
   have s3:¬k<s.words.length:=by omega
   rw[hwl]
   refine Evt.cond (fun e=>?_) (fun e=>?_)
   ·replace e:=bx e
    have s4:k<s.words.length+s.y5.length:=by omega
    refine Evt.cond (fun e=>bad 15 (by decide) ?_) (fun e=>good ?_)
    ·replace e:=bx e
     have:¬(iy (I8 s.form) (Am.get (vns s) k)∨jj (I8 s.form) (Am.get (vns s) k)):=by
      rw[←hv23.1, ←hv23.2]
      simp[e.1,e.2]
     unfold N5;rw[if_neg s1,if_neg s2,if_neg s3,if_pos s4,if_neg this]
    ·have:iy (I8 s.form) (Am.get (vns s) k)∨jj (I8 s.form) (Am.get (vns s) k):=by
      rw[←hv23.1, ←hv23.2]
      cases h1:v23.1
      ·cases h2:v23.2
       ·simp[h1,h2]at e
       ·exact .inr rfl
      ·exact .inl rfl
     unfold N5;rw[if_neg s1,if_neg s2,if_neg s3,if_pos s4,if_pos this]
   ·replace e:=bx e
    have s4:¬k<s.words.length+s.y5.length:=by omega
    refine Evt.cond (fun e=>bad 5 (by decide) ?_) (fun e=>?_)
    ·have:=hv23.1.1 e
     unfold N5;rw[if_neg s1,if_neg s2,if_neg s3,if_neg s4,if_pos this]
    ·have s5:¬iy (I8 s.form) (Am.get (vns s) k):=by rw[←hv23.1];simp[e]
     refine Evt.cond (fun e=>bad 15 (by decide) ?_) (fun e=>good ?_)
     ·replace e:=bx e
      have:¬jj (I8 s.form) (Am.get (vns s) k):=by rw[←hv23.2];simp[e]
      unfold N5;rw[if_neg s1,if_neg s2,if_neg s3,if_neg s4,if_neg s5,if_neg this]
     ·replace e:=bx e
      have:=hv23.2.1 e
      unfold N5;rw[if_neg s1,if_neg s2,if_neg s3,if_neg s4,if_neg s5,if_pos this]
 ·unfold U7
  refine Evt.bind (qZ _ s.form (Nat.le_refl _) (by have:=hok.2.1;omega)) fun v29 hv29=>?_
  subst hv29
  have hql:(qs s.form).length≤200:=by rw[oH];have:=qU s.form;have:=hok.2.1;omega
  refine Evt.y4 (Evt.scan (fun k _=>∀j,j<k→Am.get (qs s.form) j∉ (qs s.form).take j∧Am.get (qs s.form) j∉s.words) (fun k r=>r=⟨7, -1⟩∧¬QOk s) (fun j hj=>absurd hj (Nat.not_lt_zero _)) (fun k u hk hi=>?_)) (fun u hu=>?_) (fun r hr=>?_)
  ·unfold U8
   refine Evt.chk (by omega) ?_
   simp only[P6,Option.bind_some]
   refine Evt.bind (P:=fun v=>Am.get (qs s.form) k∉ (qs s.form).take k→(v=true↔Am.get (qs s.form) k∈s.words)) (Evt.gd (fun g=>Evt.pure fun _=>by simp) (fun g h=>by simp[h]at g)) fun v38 hv38=>Evt.cond (fun e=>?_) (fun e=>Evt.pure fun j hj=>?_)
   ·replace e:=bx e
    refine Evt.pure ⟨rfl,fun h=>?_⟩
    obtain⟨h1,h2⟩:=h k hk
    rcases e with e|e
    ·exact h1 e
    ·exact h2 ((hv38 h1).1 e)
   ·by_cases ej:j=k
    ·subst ej
     by_cases h1:Am.get (qs s.form) j∈(qs s.form).take j
     ·simp[h1]at e
     ·refine⟨h1,fun h2=>?_⟩
      have:=(hv38 h1).2 h2
      simp[this]at e
    ·exact hi j (by omega)
  ·unfold U9
   exact Evt.pure (.inr (.inr (.inr (.inr ⟨⟨hok,h300,ht,hu⟩,rfl⟩))))
  ·obtain⟨k,_,_,_,rfl,h⟩:=hr
   exact .inr (.inr (.inr (.inl ⟨hok,h300,ht,h,rfl⟩)))
 ·obtain⟨k,_,hk,hi,h1,h2⟩:=hr
  exact .inr (.inr (.inl ⟨hok,h300,k,hk,hi,h1,h2⟩))
theorem ru{s:Bs}(hl:s.length≤8000000):Evt (fun n=>O5 n s) (fun b=>b=lx s):=by
 unfold O5
 refine Evt.y4 (Evt.fV s.length (fun k i=>i=(k:Int)∧∀j,j<k→OkC (C8 s (j:Int))∧(j=0→97≤C8 s 0∧C8 s 0≤122)) (fun _=>∀j,j<s.length→OkC (C8 s (j:Int))∧(j=0→97≤C8 s 0∧C8 s 0≤122)) (fun b=>b=false∧¬D9 s) ⟨rfl,fun j hj=>absurd hj (Nat.not_lt_zero _)⟩ (fun k i hk hi=>?_) (fun i hi=>?_)) (fun t ht=>?_) (fun r hr=>?_)
 ·obtain⟨rfl,hi⟩:=hi
  unfold J4
  refine Evt.cond (fun _=>Evt.chk (by omega) ?_) (fun e=>by replace e:=bx e;omega)
  have key:OkC (C8 s (k:Int))∧(k=0→97≤C8 s 0∧C8 s 0≤122)↔((97≤C8 s (k:Int)∧C8 s (k:Int)≤122)∨(0<(k:Int)∧(((48≤C8 s (k:Int)∧C8 s (k:Int)≤57)∨C8 s (k:Int)=95)∨C8 s (k:Int)=45))):=by
   unfold OkC
   by_cases hk0:k=0
   ·subst hk0
    simp only[Int.ofNat_zero,forall_const,Int.lt_irrefl,false_and,or_false]
    exact⟨fun h=>h.2,fun h=>⟨.inl h,h⟩⟩
   ·have:0<(k:Int):=by omega
    simp only[this,hk0,false_implies,and_true,true_and,or_assoc]
  refine Evt.cond (fun e=>Evt.pure ⟨rfl,fun hn=>?_⟩) (fun e=>Evt.pure ?_)
  ·have h2:=key.1 ⟨hn.2.2.2 k hk,fun h0=>hn.2.2.1⟩
   replace e:=bx e
   omega
  ·rw[T8 (by omega) (by omega)]
   refine⟨rfl,fun j hj=>?_⟩
   by_cases ej:j=k
   ·subst ej
    refine key.2 ?_
    replace e:=bx e
    omega
   ·exact hi j (by omega)
 ·obtain⟨rfl,hi⟩:=hi
  unfold J4
  exact Evt.cond (fun e=>by replace e:=bx e;omega) (fun _=>Evt.pure hi)
 ·unfold P4
  refine Evt.pure ?_
  by_cases h1:0<s.length
  ·by_cases h2:s.length≤30
   ·have:decide (0<(s.length:Int))=true:=decide_eq_true (by omega)
    have h3:decide ((s.length:Int)≤30)=true:=decide_eq_true (by omega)
    rw[this,h3]
    exact(kD ⟨h1,h2,(ht 0 h1).2 rfl,fun k hk=>(ht k hk).1⟩).symm
   ·have h3:decide ((s.length:Int)≤30)=false:=decide_eq_false (by omega)
    rw[h3,bg fun h=>h2 h.2.1]
    cases decide (0<(s.length:Int))<;>rfl
  ·have:decide (0<(s.length:Int))=false:=decide_eq_false (by omega)
   rw[this,bg fun h=>h1 h.1]
   rfl
 ·rw[hr.1,bg hr.2]
theorem gY{l:List Bs}{k:Nat}(hk:k≤l.length){x:Bs}:x∈l.take k↔ ∃j,j<k∧Am.get l j=x:=by
 rw[aF,List.length_take,Nat.min_eq_left hk]
 have hg:∀j,j<k→Am.get (l.take k) j=Am.get l j:=fun j hj=>by
  unfold Am.get
  rw[List.getD_eq_getElem?_getD,List.getD_eq_getElem?_getD,List.getElem?_take_of_lt hj]
 exact⟨fun⟨j,hj,e⟩=>⟨j,hj,by rw[←hg j hj];exact e⟩,fun⟨j,hj,e⟩=>⟨j,hj,by rw[hg j hj];exact e⟩⟩
mutual
theorem uE:∀(f:u5),WfF f→∀g∈I8 f,WfF g
 | .mk k n w s,h,g,hg=>by
   rw[uz]at hg
   rcases List.mem_cons.1 hg with rfl|hg
   ·exact h
   ·exact rz s ((cR _).1 h).2 g hg
theorem rz:∀(l:List u5),lO l→∀g∈X0 l,WfF g
 | [],_,g,hg=>by rw[X0]at hg;cases hg
 |f::l,h,g,hg=>by
  rw[X0]at hg
  rcases List.mem_append.1 hg with hg|hg
  ·exact uE f (N2.1 h f (List.mem_cons_self ..)) g hg
  ·exact rz l (N2.2 fun x hx=>N2.1 h x (List.mem_cons_of_mem _ hx)) g hg
end
theorem cN.one{it:IT}{x:Bs}:cN [it] x↔ ∃m,m<it.words.length∧Am.get it.words m=x∧Am.get it.bound m=false:=by
 unfold cN;simp
theorem tg(l m:List IT):qsI (l++m)=qsI l++qsI m:=List.flatMap_append
theorem yO(it:IT):qsI [it]=if QK it.kind then [it.name]else []:=by unfold qsI;simp
theorem AP(s9:Bool×Bool×Int)(R:List IT)(k:Nat)(names:List Bs)(i:Nat)(h9:s9.2.2=(i:Int))(hi:i<R.length)(hk:k<names.length)(hw:(Am.get R i).words.length≤3)(hbd:(Am.get R i).bound.length=(Am.get R i).words.length):
 Evt (fun n=>E9 (B1 s9 R (k:Int) names) n (s9.1,0)) (ExP (fun t=>t=true↔s9.1=true∨cN [Am.get R i] (Am.get names k)) (fun _=>False)):=by
 refine(Evt.fV (Am.get R i).words.length (fun j s=>s.2=(j:Int)∧(s.1=true↔s9.1=true∨∃m,m<j∧Am.get (Am.get R i).words m=Am.get names k∧Am.get (Am.get R i).bound m=false)) _ _ ⟨rfl,by simp⟩ (fun j s hj hs=>?_) (fun s hs=>?_))
 ·obtain⟨hs1,hs2⟩:=hs
  unfold B1
  rw[h9,hs1]
  simp only[Int.toNat_natCast]
  refine Evt.chk (by omega) (Evt.cond (fun _=>Evt.chk ⟨gV fun _=>by omega,gV fun _=>by omega⟩ (Evt.chk hk (Evt.chk ⟨gV fun _=>by omega,gV fun _=>by omega⟩ (Evt.pure ?_)))) (fun e=>by replace e:=bx e;omega))
  refine⟨by rw[T8 (by omega) (by omega)];omega,?_⟩
  have hx:(∃m,m<j+1∧Am.get (Am.get R i).words m=Am.get names k∧Am.get (Am.get R i).bound m=false)↔(∃m,m<j∧Am.get (Am.get R i).words m=Am.get names k∧Am.get (Am.get R i).bound m=false)∨(Am.get (Am.get R i).words j=Am.get names k∧Am.get (Am.get R i).bound j=false):=by
   constructor
   ·rintro⟨m,h1,h2⟩
    by_cases e:m=j
    ·subst e;exact .inr h2
    ·exact .inl ⟨m,by omega,h2⟩
   ·rintro(⟨m,h1,h2⟩|h2)
    ·exact⟨m,by omega,h2⟩
    ·exact⟨j,by omega,h2⟩
  rw[hx, ←or_assoc, ←hs2]
  cases s.1
  ·by_cases e:Am.get (Am.get R i).words j=Am.get names k
   ·cases Am.get (Am.get R i).bound j<;>simp[e]
   ·simp[e]
  ·simp
 ·obtain⟨hs1,hs2⟩:=hs
  unfold B1
  rw[h9,hs1]
  simp only[Int.toNat_natCast]
  refine Evt.chk (by omega) (Evt.cond (fun e=>by replace e:=bx e;omega) (fun _=>Evt.pure ?_))
  rw[cN.one]
  exact hs2
def Seen(s:w6)(R:List IT)(k i:Nat)(b1 b2:Bool):Prop:=
 (k<s.words.length→(b1=true↔cN (R.take i) (Am.get (vns s) k))∧b2=false)∧
 (¬k<s.words.length→(b1=true↔iy ((I8 s.form).take i) (Am.get (vns s) k)∨jj ((I8 s.form).take i) (Am.get (vns s) k))∧(b2=true↔iy ((I8 s.form).take i) (Am.get (vns s) k)))
theorem CV{s:w6}(hok:OkF s.form)(k:Nat)(hk:k<(vns s).length):
 Evt (fun n=>E9 (B4 n (cF s.form [] 0) (k:Int) s (vns s)) n (false,false,0)) (ExP (fun t=>Seen s (cF s.form [] 0) k (ndF s.form) t.1 t.2) (fun _=>False)):=by
 have hrl:(cF s.form [] 0).length=ndF s.form:=fX _ _ _
 have h2:=hok.2.1
 refine Evt.fV (ndF s.form) (fun i t=>t.2.2=(i:Int)∧Seen s (cF s.form [] 0) k i t.1 t.2.1) _ _ ⟨rfl,?_⟩ (fun i t hi ht=>?_) (fun t ht=>?_)
 ·refine⟨fun _=>⟨?_,rfl⟩,fun _=>⟨?_,?_⟩⟩
  ·simp[cN.nil]
  ·simp[iy,jj]
  ·simp[iy]
 ·obtain⟨ht1,ht2,ht3⟩:=ht
  have htl:=oJ s.form [] 0 i hi
  have hfl:i<(I8 s.form).length:=by rw[fA];exact hi
  have hwf:=uE _ hok.1 _ (get_mem hfl)
  have hwd:(Am.get (cF s.form [] 0) i).words.length≤3:=by rw[htl.2.2.1];exact nC hwf
  unfold B4
  refine Evt.cond (fun _=>Evt.cond (fun e=>?_) (fun e=>?_)) (fun e=>by replace e:=bx e;omega)
  ·replace e:=bx e
   have hkw:k<s.words.length:=by omega
   refine Evt.y4 (AP t _ k _ i ht1 (by omega) hk hwd (by rw[htl.2.2.1];exact htl.2.2.2.2)) (fun u hu=>?_) (fun _ h=>h.elim)
   unfold F4
   refine Evt.pure ⟨by show wr .i64 (t.2.2+1)=_;rw[ht1,T8 (by omega) (by omega)];omega,fun _=>⟨?_,(ht2 hkw).2⟩,fun h=>absurd hkw h⟩
   rw[F3 (by omega),cN.app, ←(ht2 hkw).1]
   exact hu
  ·replace e:=bx e
   have hkw:¬k<s.words.length:=by omega
   have h9:t.2.2=(i:Int):=ht1
   simp only[h9,Int.toNat_natCast]
   refine Evt.chk (by omega) (Evt.chk hk (Evt.cond (fun e=>Evt.pure ?_) (fun e=>Evt.pure ?_)))
   ·replace e:=bx e
    refine⟨by show wr .i64 ((i:Int)+1)=_;rw[T8 (by omega) (by omega)];omega,fun h=>absurd h hkw,fun _=>?_⟩
    rw[htl.1,htl.2.1]at e
    simp only[F3 hfl,iy.app,jj.app,iy.one,jj.one]
    refine⟨iff_of_true trivial ?_,?_⟩
    ·rcases Nat.eq_zero_or_pos (Am.get (I8 s.form) i).words.length with h|h
     ·exact .inr (.inr ⟨e.1,e.2,h⟩)
     ·exact .inl (.inr ⟨e.1,e.2,h⟩)
    ·rw[←(ht3 hkw).2,htl.2.2.1]
     cases t.2.1<;>simp[e.1,e.2]
   ·refine⟨by show wr .i64 ((i:Int)+1)=_;rw[T8 (by omega) (by omega)];omega,fun h=>absurd h hkw,fun _=>?_⟩
    rw[htl.1,htl.2.1]at e
    have hn:¬((Am.get (I8 s.form) i).kind=2∧(Am.get (I8 s.form) i).name=Am.get (vns s) k):=fun h=>by simp[h.1,h.2]at e
    simp only[F3 hfl,iy.app,jj.app,iy.one,jj.one]
    have n1:¬((Am.get (I8 s.form) i).kind=2∧(Am.get (I8 s.form) i).name=Am.get (vns s) k∧0<(Am.get (I8 s.form) i).words.length):=fun h=>hn ⟨h.1,h.2.1⟩
    have n2:¬((Am.get (I8 s.form) i).kind=2∧(Am.get (I8 s.form) i).name=Am.get (vns s) k∧(Am.get (I8 s.form) i).words.length=0):=fun h=>hn ⟨h.1,h.2.1⟩
    simp only[n1,n2,or_false]
    exact ht3 hkw
 ·obtain⟨ht1,ht2⟩:=ht
  unfold B4
  refine Evt.cond (fun e=>by replace e:=bx e;omega) (fun _=>Evt.pure ht2)
theorem CW{s:w6}(hb:SB s)(hok:OkF s.form)(h300:(vns s).length≤300):
 Evt (fun n=>E9 (B5 n (vns s) (cF s.form [] 0) s) n 0) (ExP (fun _=>∀j,j<(vns s).length→N5 s j=0) (fun r=>FB (N5 s) (vns s).length r)):=by
 have hvl:=jc s
 have hwl:wr .i64 ((s.words.length:Int)+(s.y5.length:Int))=((s.words.length+s.y5.length:Nat):Int):=by rw[T8 (by omega) (by omega)];omega
 refine Evt.fV (vns s).length (fun k i=>i=(k:Int)∧∀j,j<k→N5 s j=0) _ _ ⟨rfl,fun j hj=>absurd hj (Nat.not_lt_zero _)⟩ (fun k i hk hi=>?_) (fun i hi=>?_)
 ·obtain⟨rfl,hi⟩:=hi
  have bad:∀c:Int,c≠0→N5 s k=c→zC (fun i=>i=((k+1:Nat):Int)∧∀j,j<k+1→N5 s j=0) (fun _:Unit=>∀j,j<(vns s).length→N5 s j=0) (fun r=>FB (N5 s) (vns s).length r) (Ctl.ret ⟨c,(k:Int)⟩):=fun c hc h=>⟨k,hk,hi,by rw[h];exact hc,by rw[h]⟩
  have good:N5 s k=0→zC (fun i=>i=((k+1:Nat):Int)∧∀j,j<k+1→N5 s j=0) (fun _:Unit=>∀j,j<(vns s).length→N5 s j=0) (fun r=>FB (N5 s) (vns s).length r) (Ctl.nxt (wr .i64 ((k:Int)+1))):=fun h=>⟨by rw[T8 (by omega) (by omega)];omega,fun j hj=>by
   by_cases ej:j=k
   ·subst ej;exact h
   ·exact hi j (by omega)⟩
  unfold B5
  refine Evt.cond (fun _=>Evt.chk (by omega) ?_) (fun e=>by replace e:=bx e;omega)
  simp only[Int.toNat_natCast]
  refine Evt.bind (ru (hb.2.2.2 _ (get_mem hk))) fun v hv=>Evt.cond (fun e=>Evt.pure (bad 10 (by decide) ?_)) (fun e=>?_)
  ·replace e:=bx e
   have:¬D9 (Am.get (vns s) k):=fun h=>by rw[(aK hv).2 h]at e;cases e
   unfold N5;rw[if_pos this]
  replace e:=bx e
  have s1:¬ ¬D9 (Am.get (vns s) k):=fun h=>h ((aK hv).1 e)
  refine Evt.y4 (Evt.fV k (fun j i=>i=(j:Int)∧∀m,m<j→Am.get (vns s) m≠Am.get (vns s) k) (fun _=>Am.get (vns s) k∉ (vns s).take k) (fun r=>Am.get (vns s) k∈(vns s).take k∧r=Ctl.ret ⟨7,(k:Int)⟩) ⟨rfl,fun j hj=>absurd hj (Nat.not_lt_zero _)⟩ (fun j i hj hs=>?_) (fun i hs=>?_)) (fun t ht=>?_) (fun r hr=>?_)
  ·obtain⟨rfl,hs⟩:=hs
   unfold D0
   simp only[Int.toNat_natCast]
   refine Evt.cond (fun _=>Evt.chk (by omega) (Evt.cond (fun e=>Evt.pure ?_) (fun e=>Evt.pure ?_))) (fun e=>by replace e:=bx e;omega)
   ·replace e:=bx e
    exact⟨(gY (by omega)).2 ⟨j,hj,e⟩,rfl⟩
   ·replace e:=bx e
    rw[T8 (by omega) (by omega)]
    refine⟨by omega,fun m hm=>?_⟩
    by_cases em:m=j
    ·subst em;exact e
    ·exact hs m (by omega)
  ·obtain⟨rfl,hs⟩:=hs
   unfold D0
   refine Evt.cond (fun e=>by replace e:=bx e;omega) (fun _=>Evt.pure fun h=>?_)
   obtain⟨j,hj,e⟩:=(gY (by omega)).1 h
   exact hs j hj e
  ·have s2:Am.get (vns s) k∉ (vns s).take k:=ht
   unfold F9
   refine Evt.y4 (CV hok k hk) (fun u hu=>?_) (fun _ h=>h.elim)
   obtain⟨hu1,hu2⟩:=hu
   have hrt:(cF s.form [] 0).take (ndF s.form)=cF s.form [] 0:=by rw[←fX s.form [] 0,List.take_length]
   have hft:(I8 s.form).take (ndF s.form)=I8 s.form:=by rw[←fA,List.take_length]
   rw[hrt,rj]at hu1
   rw[hft]at hu2
   unfold G0
   rw[hwl]
   refine Evt.cond (fun e=>Evt.pure (bad 5 (by decide) ?_)) (fun e=>Evt.cond (fun e2=>Evt.pure (bad 15 (by decide) ?_)) (fun e2=>Evt.pure (good ?_)))
   ·replace e:=bx e
    have s3:¬k<s.words.length:=by omega
    have s4:¬k<s.words.length+s.y5.length:=by omega
    unfold N5;rw[if_neg s1,if_neg s2,if_neg s3,if_neg s4,if_pos ((hu2 s3).2.1 e.2)]
   ·have e2:u.1=false:=by simpa using e2
    unfold N5;rw[if_neg s1,if_neg s2]
    by_cases s3:k<s.words.length
    ·have:=(hu1 s3).1
     rw[if_pos s3,if_neg fun h=>by rw[this.2 h]at e2;cases e2]
    ·have:=(hu2 s3).1
     have hn:¬(iy (I8 s.form) (Am.get (vns s) k)∨jj (I8 s.form) (Am.get (vns s) k)):=fun h=>by rw[this.2 h]at e2;cases e2
     rw[if_neg s3]
     by_cases s4:k<s.words.length+s.y5.length
     ·rw[if_pos s4,if_neg hn]
     ·rw[if_neg s4,if_neg fun h=>hn (.inl h),if_neg fun h=>hn (.inr h)]
   ·have e2:u.1=true:=by simpa using e2
    unfold N5;rw[if_neg s1,if_neg s2]
    by_cases s3:k<s.words.length
    ·rw[if_pos s3,if_pos ((hu1 s3).1.1 e2)]
    ·have h:=(hu2 s3).1.1 e2
     rw[if_neg s3]
     by_cases s4:k<s.words.length+s.y5.length
     ·rw[if_pos s4,if_pos h]
     ·have h5:¬iy (I8 s.form) (Am.get (vns s) k):=fun h5=>by
       have h6:=(hu2 s3).2.2 h5
       rw[h6]at e
       have:decide (((s.words.length+s.y5.length:Nat):Int)≤(k:Int))=true:=by simp;omega
       rw[this]at e;cases e
      rw[if_neg s4,if_neg h5,if_pos (h.resolve_left h5)]
  ·obtain⟨hm,rfl⟩:=hr
   refine bad 7 (by decide) ?_
   unfold N5;rw[if_neg s1,if_pos hm]
 ·obtain⟨rfl,hi⟩:=hi
  unfold B5
  exact Evt.cond (fun e=>by replace e:=bx e;omega) (fun _=>Evt.pure hi)
theorem yP{l:List Bs}{x:Bs}{m:List Bs}:Am.get (l++x::m) l.length=x∧(l++x::m).take l.length=l:=by
 refine⟨?_,by simp⟩
 unfold Am.get;simp
theorem AU{s:w6}(hb:SB s)(hok:OkF s.form):
 Evt (fun n=>E9 (B2 n (cF s.form [] 0) s) n ([],0)) (ExP (fun _=>QOk s) (fun r=>r=⟨7, -1⟩∧¬QOk s)):=by
 have hrl:(cF s.form [] 0).length=ndF s.form:=fX _ _ _
 have h2:=hok.2.1
 have hq:qs s.form=qsI (cF s.form [] 0):=(yL _ _ _).symm
 have hql:(qs s.form).length≤200:=by rw[oH];have:=qU s.form;omega
 have hpre:∀i,qs s.form=qsI ((cF s.form [] 0).take i)++qsI ((cF s.form [] 0).drop i):=fun i=>by rw[←tg,List.take_append_drop];exact hq
 refine Evt.fV (ndF s.form) (fun i t=>t=(qsI ((cF s.form [] 0).take i),(i:Int))∧∀k,k<(qsI ((cF s.form [] 0).take i)).length→Am.get (qs s.form) k∉ (qs s.form).take k∧Am.get (qs s.form) k∉s.words) _ _ ⟨by simp[qsI],fun k hk=>by simp[qsI]at hk⟩ (fun i t hi ht=>?_) (fun t ht=>?_)
 ·obtain⟨rfl,ht⟩:=ht
  have hll:(qsI ((cF s.form [] 0).take i)).length≤200:=by have:=congrArg List.length (hpre i);rw[List.length_append]at this;omega
  unfold B2
  simp only[Int.toNat_natCast]
  refine Evt.cond (fun _=>Evt.chk (by omega) ?_) (fun e=>by replace e:=bx e;omega)
  refine Evt.cond (fun e=>?_) (fun e=>Evt.pure ?_)
  ·replace e:=bx e
   have hqk:QK (Am.get (cF s.form [] 0) i).kind:=e
   have hsn:qsI ((cF s.form [] 0).take (i+1))=qsI ((cF s.form [] 0).take i)++[(Am.get (cF s.form [] 0) i).name]:=by rw[F3 (by omega),tg,yO,if_pos hqk]
   have hx:=hpre (i+1)
   rw[hsn,List.append_assoc,List.singleton_append]at hx
   have hg:Am.get (qs s.form) (qsI ((cF s.form [] 0).take i)).length=(Am.get (cF s.form [] 0) i).name:=by rw[hx];exact yP.1
   have ht2:(qs s.form).take (qsI ((cF s.form [] 0).take i)).length=qsI ((cF s.form [] 0).take i):=by rw[hx];exact yP.2
   have hlt:(qsI ((cF s.form [] 0).take i)).length<(qs s.form).length:=by rw[hx];simp
   refine Evt.bind (yN _ _ (by omega)) fun v hv=>Evt.bind (P:=fun w=>¬0≤v→rm s.words (Am.get (cF s.form [] 0) i).name w) (Evt.gd (fun _=>(yM _ _ (by have:=hb.1;omega)).mono fun w hw _=>hw) (fun g h=>by simp at g;omega)) fun w hw=>?_
   refine Evt.cond (fun e=>Evt.pure ⟨rfl,fun h=>?_⟩) (fun e=>Evt.aB (Evt.chk ?_ (Evt.pure ?_)))
   ·obtain⟨k1,k2⟩:=h _ hlt
    rw[hg,ht2]at k1
    rw[hg]at k2
    have n1:¬0≤v:=fun h=>k1 (hv.mem.1 h)
    have n2:¬0≤w:=fun h=>k2 ((hw n1).mem.1 h)
    simp[n1,n2]at e
   ·rw[Y4,List.length_append,List.length_singleton];omega
   ·have n1:¬0≤v:=fun h=>by simp[h]at e
    have n2:¬0≤w:=fun h=>by simp[h]at e
    refine⟨by rw[hsn,T8 (by omega) (by omega)];rfl,fun k hk=>?_⟩
    rw[hsn,List.length_append,List.length_singleton]at hk
    by_cases ek:k=(qsI ((cF s.form [] 0).take i)).length
    ·subst ek
     rw[hg,ht2]
     exact⟨fun h=>n1 (hv.mem.2 h),fun h=>n2 ((hw n1).mem.2 h)⟩
    ·exact ht k (by omega)
  ·replace e:=bx e
   have hqk:¬QK (Am.get (cF s.form [] 0) i).kind:=fun h=>by rcases h with h|h<;>simp[h]at e
   have hsn:qsI ((cF s.form [] 0).take (i+1))=qsI ((cF s.form [] 0).take i):=by rw[F3 (by omega),tg,yO,if_neg hqk,List.append_nil]
   refine⟨by rw[hsn,T8 (by omega) (by omega)];rfl,?_⟩
   rw[hsn];exact ht
 ·obtain⟨rfl,ht⟩:=ht
  unfold B2
  refine Evt.cond (fun e=>by replace e:=bx e;omega) (fun _=>Evt.pure ?_)
  have hrt:(cF s.form [] 0).take (ndF s.form)=cF s.form [] 0:=by rw[←hrl,List.take_length]
  rw[hrt, ←hq]at ht
  exact ht
theorem nW{s:w6}(hb:SB s):Evt (fun n=>F0 n s) (vI s):=by
 have hvl:=jc s
 obtain⟨b1,b2,b3,_⟩:=id hb
 unfold F0
 refine Evt.bind (qW s.form) fun v hv=>?_
 subst hv
 refine Evt.cond (fun e=>Evt.pure (.inl ⟨fun h=>?_,rfl⟩)) (fun e=>?_)
 ·rw[jK h]at e;simp at e
 replace e:=bx e
 have hok:OkF s.form:=(bh _).1 e
 have hw:wr .i64 (wr .i64 ((s.words.length:Int)+(s.y5.length:Int))+(s.parts.length:Int))=((vns s).length:Int):=by
  rw[T8 (n:=(s.words.length:Int)+(s.y5.length:Int)) (by omega) (by omega),T8 (by omega) (by omega)];omega
 rw[hw]
 refine Evt.cond (fun e=>?_) (fun e=>?_)
 ·replace e:=bx e
  exact Evt.pure (.inr (.inl ⟨hok,by omega,rfl⟩))
 replace e:=bx e
 have h300:(vns s).length≤300:=by omega
 refine Evt.y4 (yG s.words _ (fun _=>rfl) [] (by simp;omega)) (fun t ht=>?_) (fun _ h=>h.elim)
 unfold G1
 have ht:t=s.words:=ht
 subst ht
 refine Evt.y4 (yG s.y5 _ (fun _=>rfl) s.words (by omega)) (fun t ht=>?_) (fun _ h=>h.elim)
 unfold G2
 have ht:t=s.words++s.y5:=ht
 subst ht
 refine Evt.y4 (yG s.parts _ (fun _=>rfl) (s.words++s.y5) (by rw[List.length_append];omega)) (fun t ht=>?_) (fun _ h=>h.elim)
 unfold G3
 have ht:t=vns s:=ht
 subst ht
 refine Evt.bind (AL hok.1 [] (by have:=hok.2.1;omega) (by simp)) fun v hv=>?_
 subst hv
 refine Evt.y4 (CW hb hok h300) (fun t ht=>?_) (fun r hr=>.inr (.inr (.inl ⟨hok,h300,hr⟩)))
 unfold G4
 refine Evt.y4 (AU hb hok) (fun u hu=>?_) (fun r hr=>.inr (.inr (.inr (.inl ⟨hok,h300,ht,hr.2,hr.1⟩))))
 exact Evt.pure (.inr (.inr (.inr (.inr ⟨⟨hok,h300,ht,hu⟩,rfl⟩))))
def dval(l:Bs):Nat:=l.foldl (fun a c=>10*a+(c.toNat-48)) 0
theorem uF(u:Nat):dval (Lib.decDigits u)=u:=by
 induction u using Nat.strongRecOn with
 | _ u ih=>
   by_cases h:u<10
   ·rw[Lib.decDigits,dif_pos h]
    unfold dval
    simp only[List.foldl_cons,List.foldl_nil,UInt8.toNat_ofNat']
    omega
   ·rw[Lib.decDigits,dif_neg h]
    unfold dval
    rw[List.foldl_append]
    have:=ih (u / 10) (by omega)
    unfold dval at this
    rw[this]
    simp only[List.foldl_cons,List.foldl_nil,UInt8.toNat_ofNat']
    omega
theorem CX{u v:Nat}(h:Lib.decDigits u=Lib.decDigits v):u=v:=by rw[←uF u,h,uF]
def vn(m:Nat):Bs:=118::Lib.decDigits m
theorem FD{u v:Nat}(h:vn u=vn v):u=v:=CX (List.cons.inj h).2
def mk(m:Nat):Bs:=33::Lib.decDigits m
theorem yQ{m:Nat}(h:m≤1000000000):(Lib.decDigits m).length≤21:=by
 have:=Lib.itoa_length_le (m:Int) (by omega) (by omega)
 rwa[Lib.itoa_nonneg]at this
def zD(p:Bs→Prop)(j m:Nat):Prop:=j≤m∧¬p (vn m)∧∀k,j≤k→k<m→p (vn k)
theorem zD.uniq{p:Bs→Prop}{j m m':Nat}(h:zD p j m)(h':zD p j m'):m=m':=by
 rcases Nat.lt_trichotomy m m' with e|e|e
 ·exact absurd (h'.2.2 m h.1 e) h.2.1
 ·exact e
 ·exact absurd (h.2.2 m' h'.1 e) h'.2.1
theorem zD.congr{p q:Bs→Prop}(hpq:∀x,p x↔q x){j m:Nat}(h:zD p j m):zD q j m:=⟨h.1,fun e=>h.2.1 ((hpq _).2 e),fun k a b=>(hpq _).1 (h.2.2 k a b)⟩
theorem uG:∀(n:Nat) (C:List Bs) (g:Nat→Bs),C.length=n→(∀i j,g i=g j→i=j)→∃m,m≤n∧g m∉C
 |0,C,g,h,_=>⟨0,Nat.le_refl _,by rw[List.length_eq_zero_iff.1 h];exact List.not_mem_nil⟩
 |n+1,C,g,h,hg=>by
  by_cases hm:g (n+1)∈C
  ·obtain⟨m,h1,h2⟩:=uG n (C.erase (g (n+1))) g (by rw[List.length_erase_of_mem hm,h];rfl) hg
   refine⟨m,by omega,fun h3=>h2 ((List.mem_erase_of_ne fun e=>?_).2 h3)⟩
   have:=hg _ _ e
   omega
  ·exact⟨n+1,Nat.le_refl _,hm⟩
theorem FE{p:Bs→Prop}{C:List Bs}(hC:∀x,p x→x∈C)(j:Nat):∃m,zD p j m∧m≤j+C.length:=by
 obtain⟨m,h1,h2⟩:=uG _ C (fun i=>vn (j+i)) rfl (fun a b e=>by have:=FD e;omega)
 have key:∀d j,(∃m,j≤m∧m≤j+d∧¬p (vn m))→∃m,zD p j m∧m≤j+d:=by
  intro d
  induction d with
  |zero=>
   rintro j ⟨m,a,b,c⟩
   obtain rfl:m=j:=by omega
   exact⟨m,⟨Nat.le_refl _,c,fun k a b=>absurd a (by omega)⟩,by omega⟩
  |succ d ih=>
   rintro j ⟨m,a,b,c⟩
   by_cases hp:p (vn j)
   ·have hne:j≠m:=fun e=>c (e▸hp)
    obtain⟨m',e1,e2⟩:=ih (j+1) ⟨m,by omega,by omega,c⟩
    refine⟨m',⟨by have:=e1.1;omega,e1.2.1,fun k a b=>?_⟩,by omega⟩
    by_cases ek:k=j
    ·rw[ek];exact hp
    ·exact e1.2.2 k (by omega) b
   ·exact⟨j,⟨Nat.le_refl _,hp,fun k a b=>absurd a (by omega)⟩,by omega⟩
 exact key _ j ⟨j+m,by omega,by omega,fun hp=>h2 (hC _ hp)⟩
open Classical in
noncomputable def nx(p:Bs→Prop)(j:Nat):Nat:=Classical.epsilon fun m=>zD p j m
theorem yR{p:Bs→Prop}{C:List Bs}(hC:∀x,p x→x∈C)(j:Nat):zD p j (nx p j):=Classical.epsilon_spec ((FE hC j).imp fun _ h=>h.1)
theorem CY{p:Bs→Prop}{C:List Bs}(hC:∀x,p x→x∈C)(j:Nat):nx p j≤j+C.length:=by
 obtain⟨m,h1,h2⟩:=FE hC j
 rw[(yR hC j).uniq h1];exact h2
noncomputable def num(p:Bs→Prop):Nat→Nat
 |0=>nx p 0
 |i+1=>nx p (num p i+1)
noncomputable def NN(p:Bs→Prop)(i:Nat):Bs:=vn (num p i)
theorem FH{p:Bs→Prop}{C:List Bs}(hC:∀x,p x→x∈C)(i:Nat):¬p (NN p i):=by
 cases i with
 |zero=>exact(yR hC _).2.1
 |succ i=>exact(yR hC _).2.1
theorem yS{p:Bs→Prop}{C:List Bs}(hC:∀x,p x→x∈C)(L:Nat)(hL:C.length≤L):∀i,num p i≤(i+1)*(L+1)
 |0=>by have:=CY hC 0;show nx p 0≤_;omega
 |i+1=>by
  have:=CY hC (num p i+1)
  have:=yS hC L hL i
  show nx p (num p i+1)≤_
  rw[Nat.succ_mul (i+1)]
  omega
def kG(K V:Nat→Bs):Nat→List (Bs×Bs)
 |0=>[]
 |k+1=>(K k,V k)::kG K V k
theorem nG{K K' V V':Nat→Bs}:∀ {n:Nat},(∀k,k<n→K k=K' k∧V k=V' k)→kG K V n=kG K' V' n
 |0,_=>rfl
 |n+1,h=>by rw[kG,kG,(h n (by omega)).1,(h n (by omega)).2,nG fun k hk=>h k (by omega)]
theorem Ia{ρ:Type}(K V:Nat→Bs)(L:Nat)(hL:L≤8000000)(w:Bs)(body:Int→Option (Ctl ρ Int Bs))(hb:∀k,k<L→body (k:Int)=bif decide (K k=w)then some (.brk (V k))else some (.nxt (wr .i64 ((k:Int)-1))))(h0:body (-1)=some (.brk w)):
 Evt (fun n=>E9 body n (wr .i64 ((L:Int)-1))) (ExP (fun t=>t=sub (kG K V L) w) (fun _=>False)):=by
 have hw:wr .i64 ((L:Int)-1)=(L:Int)-1:=T8 (by omega) (by omega)
 rw[hw]
 refine Evt.fV L (fun k s=>∃m:Nat,s=(m:Int)-1∧m+k=L∧sub (kG K V L) w=sub (kG K V m) w) _ _ ⟨L,rfl,rfl,rfl⟩ (fun k s hk hs=>?_) (fun s hs=>?_)
 ·obtain⟨m,rfl,hm,he⟩:=hs
  obtain⟨m,rfl⟩:∃j,m=j+1:=⟨m-1,by omega⟩
  have e1:((m+1:Nat):Int)-1=(m:Int):=by omega
  rw[e1,hb m (by omega)]
  refine Evt.cond (fun e=>Evt.pure ?_) (fun e=>Evt.pure ?_)
  ·replace e:=bx e
   show V m=_
   rw[he,kG,fW,if_pos e]
  ·replace e:=bx e
   refine⟨m,T8 (by omega) (by omega),by omega,?_⟩
   rw[he,kG,fW,if_neg e]
 ·obtain⟨m,rfl,hm,he⟩:=hs
  obtain rfl:m=0:=by omega
  show Evt (fun _=>body (-1)) _
  rw[h0]
  refine Evt.pure ?_
  rw[he,kG,yg]
  exact rfl
theorem pQ:∀(l:List u5) (x:u5),nqL (l++[x])=nqL l+nq x
 | [],x=>by simp[nqL]
 |a::l,x=>by rw[List.cons_append,nqL,nqL,pQ l x,Nat.add_assoc]
theorem AV{l:List u5}{k:Nat}(h:k<l.length):nqL (l.take k)+nq (Am.get l k)≤nqL l:=by
 have e:l=l.take (k+1)++l.drop (k+1):=(List.take_append_drop _ _).symm
 have:∀(l m:List u5),nqL (l++m)=nqL l+nqL m:=fun l m=>by
  induction l with
  |nil=>simp[nqL]
  |cons a l ih=>rw[List.cons_append,nqL,nqL,ih,Nat.add_assoc]
 rw[←pQ, ←F3 h]
 have:=this (l.take (k+1)) (l.drop (k+1))
 rw[←e]at this
 omega
theorem rA(N:Nat→Bs):∀(l:List u5) (x:u5) (env:List (Bs×Bs)) (i:Nat),cM N (l++[x]) env i=cM N l env i++[ren N x env (i+nqL l)]
 | [],x,env,i=>by simp[cM,nqL]
 |a::l,x,env,i=>by rw[List.cons_append,cM,cM,rA N l x,nqL,Nat.add_assoc];rfl
theorem CZ{m:Nat}(hm:m≤1000000000):itoa (m:Int)=some (Lib.decDigits m):=by
 unfold itoa
 rw[sN (by omega),Lib.itoa_nonneg]
theorem yT{C:List Bs}{p:Bs→Prop}(hC:∀x,x∈C↔p x){b:Nat}(hb:b+C.length≤100000000):Evt (fun n=>bO n (b:Int) C) (fun r=>r=(vn (nx p b),((nx p b+1:Nat):Int))):=by
 unfold bO
 have h:=yR (fun x=>(hC x).2) b
 have hle:=CY (fun x=>(hC x).2) b
 have step:∀m:Nat,m≤100000000→X1 C (m:Int)=bif (!decide (vn m∈C))then some (.ret (vn m,((m+1:Nat):Int)))else some (.nxt ((m+1:Nat):Int)):=fun m hm=>by
  unfold X1
  have hl:=yQ (m:=m) (by omega)
  have hw:wr .i64 ((m:Int)+1)=((m+1:Nat):Int):=by rw[T8 (by omega) (by omega)];rfl
  have e:qj [118] (Lib.decDigits m)=vn m:=rfl
  rw[CZ (by omega),Option.bind_some,sN (show X8 _ _ by unfold X8;simp;omega),e,P6,Option.bind_some,hw]
 refine Evt.y4 (Evt.fV (nx p b-b) (fun k s=>s=((b+k:Nat):Int)) (fun _=>False) (fun r=>r=(vn (nx p b),((nx p b+1:Nat):Int))) rfl (fun k s hk hs=>?_) (fun s hs=>?_)) (fun _ ht=>ht.elim) (fun r hr=>hr)
 ·subst hs
  rw[step _ (by omega)]
  have hm:vn (b+k)∈C:=(hC _).2 (h.2.2 _ (by omega) (by omega))
  simp only[hm,decide_true,Bool.not_true,cond_false]
  exact Evt.pure rfl
 ·subst hs
  have e:b+(nx p b-b)=nx p b:=by have:=h.1;omega
  rw[e,step _ (by omega)]
  have hm:vn (nx p b)∉C:=fun hm=>h.2.1 ((hC _).1 hm)
  simp only[hm,decide_false,Bool.not_false,cond_true]
  exact Evt.pure rfl
def tj(env:List x6):List (Bs×Bs):=kG (fun k=>(Am.get env k).from_) (fun k=>(Am.get env k).to_) env.length
theorem uH{α:Type}[Inhabited α](l:List α)(x:α):Am.get (l++[x]) l.length=x∧∀k,k<l.length→Am.get (l++[x]) k=Am.get l k:=by
 unfold Am.get
 refine⟨by simp,fun k hk=>?_⟩
 rw[List.getD_eq_getElem?_getD,List.getD_eq_getElem?_getD,List.getElem?_append_left hk]
theorem yU(env:List x6)(a b:Bs):tj (env++[⟨a,b⟩])=(a,b)::tj env:=by
 unfold tj
 rw[List.length_append,List.length_singleton,kG,(uH env _).1]
 congr 1
 exact nG fun k hk=>by rw[(uH env _).2 k hk];exact⟨rfl,rfl⟩
theorem vJ{p:Bs→Prop}{C:List Bs}(hC:∀x,x∈C↔p x)(hCl:C.length≤10000):∀(m:Nat) (f:u5),SizeOf.sizeOf f≤m→WfF f→∀(env:List x6) (i b:Nat),env.length+ndF f≤100000→i+nq f≤1000→nx p b=num p i→
 Evt (fun n=>I9 n f env (b:Int) C) (fun r=>r.1=ren (NN p) f (tj env) i∧∃b':Nat,r.2=(b':Int)∧nx p b'=num p (i+nq f)):=by
 intro m
 have hC2:∀x,p x→x∈C:=fun x=>(hC x).2
 induction m with
 |zero=>intro f h;cases f;simp only[u5.mk.sizeOf_spec]at h;omega
 |succ m ih=>
  intro f hf hwf env i b yV hi hb
  have hnd:=nA f
  have hws:=nC hwf
  have hsl:=nD hwf
  have hnq:=HY f
  refine Evt.succ ?_
  simp only[I9]
  refine Evt.y4 (P:=ExP (fun t=>t=f.words.map (sub (tj env))) (fun _=>False)) ((Evt.range (fun k s=>s=(f.words.take k).map (sub (tj env))) (fun _=>False) (fun _=>False) (by simp) (fun k s hk hs=>?_)).mono fun e he=>?_) (fun t ht=>?_) (fun _ h=>h.elim)
  ·unfold Z6
   refine Evt.y4 (Ia (fun k=>(Am.get env k).from_) (fun k=>(Am.get env k).to_) env.length (by omega) (Am.get f.words k) (V1 env f k) (fun j hj=>?_) rfl) (fun t ht=>?_) (fun _ h=>h.elim)
   ·unfold V1
    have e1:decide (0≤(j:Int))=true:=decide_eq_true (by omega)
    rw[e1,cond_true,sN (by omega)]
    rfl
   ·unfold Z7
    refine Evt.aB (Evt.chk ?_ (Evt.pure ?_))
    ·subst hs
     rw[Y4];simp only[List.length_append,List.length_map,List.length_take,List.length_cons,List.length_nil];omega
    ·show _=_
     have ht:t=sub (tj env) (Am.get f.words k):=ht
     rw[hs,ht,F3 hk,List.map_append];rfl
  ·cases e with
   |ret r=>exact he
   |nxt t=>
    have:=he.elim id False.elim
    rw[List.take_length]at this
    exact this
  ·subst ht
   have key:∀(env':List x6) (nm:Bs) (j c:Nat),nm=(if QK f.kind then NN p i else f.name)→tj env'=(if QK f.kind then(f.name,NN p i)::tj env else tj env)→j=i+(if QK f.kind then 1 else 0)→nx p c=num p j→env'.length≤env.length+1→
    Evt (fun n=>P9 (I9 n) f C (f.words.map (sub (tj env))) ((c:Int),nm,env')) (fun r=>r.1=ren (NN p) f (tj env) i∧∃b':Nat,r.2=(b':Int)∧nx p b'=num p (i+nq f)):=by
    intro env' nm j c hnm Ib hj hc hlen
    have hjn:j+nqL f.subs=i+nq f:=by omega
    unfold P9
    refine Evt.y4 (P:=ExP (fun t=>t.2=cM (NN p) f.subs (tj env') j∧∃b':Nat,t.1=(b':Int)∧nx p b'=num p (j+nqL f.subs)) (fun _=>False)) ((Evt.range (fun k s=>s.2=cM (NN p) (f.subs.take k) (tj env') j∧∃b':Nat,s.1=(b':Int)∧nx p b'=num p (j+nqL (f.subs.take k))) (fun _=>False) (fun _=>False) ⟨by simp[cM],c,rfl,by simpa[nqL]using hc⟩ (fun k s hk hs=>?_)).mono fun e he=>?_) (fun t ht=>?_) (fun _ h=>h.elim)
    ·obtain⟨hs1,b',hs2,hs3⟩:=hs
     unfold Z8
     have hsz:=V0 hk
     have htk:=dK hk
     have hqk:=AV hk
     refine Evt.bind (P:=fun r=>r.1=ren (NN p) (Am.get f.subs k) (tj env') (j+nqL (f.subs.take k))∧∃b'':Nat,r.2=(b'':Int)∧nx p b''=num p (j+nqL (f.subs.take k)+nq (Am.get f.subs k))) ?_ fun v hv=>Evt.aB (Evt.chk ?_ (Evt.pure ?_))
     ·rw[hs2]
      exact ih _ (by omega) (jM hwf hk) env' _ b' (by omega) (by omega) hs3
     ·rw[Y4,hs1];simp only[List.length_append,lP,List.length_take,List.length_cons,List.length_nil];omega
     ·obtain⟨hv1,b'',hv2,hv3⟩:=hv
      refine⟨?_,b'',hv2,?_⟩
      ·show s.2++[v.1]=_
       rw[hs1,hv1,F3 hk,rA]
      ·rw[hv3,F3 hk,pQ,Nat.add_assoc]
    ·cases e with
     |ret r=>exact he
     |nxt t=>
      have:=he.elim id False.elim
      rw[List.take_length]at this
      exact this
    ·obtain⟨ht1,b',ht2,ht3⟩:=ht
     unfold Z9
     refine Evt.pure ⟨?_,b',ht2,by rw[ht3,hjn]⟩
     show u5.mk _ _ _ _=_
     rw[Fw,ht1,hnm,Ib,hj]
   unfold ah
   simp only[iw,Option.bind_some]
   have hbl:=(yR hC2 b).1
   have hnl:=yS hC2 10000 hCl i
   refine Evt.cond (fun e=>?_) (fun e=>?_)
   ·replace e:=bx e
    rw[if_pos e]at hnq
    refine Evt.bind (yT hC (b:=b) (by omega)) fun v hv=>Evt.chk (by omega) (Evt.aB (Evt.chk ?_ ?_))
    ·rw[Y4];simp only[List.length_append,List.length_cons,List.length_nil];omega
    ·subst hv
     exact key _ _ (i+1) (nx p b+1) (by rw[if_pos e,hb];rfl) (by rw[if_pos e,yU,hb];rfl) (by rw[if_pos e]) (by rw[hb];rfl) (by simp)
   ·replace e:=bx e
    rw[if_neg e]at hnq
    exact key _ _ i b (by rw[if_neg e]) (by rw[if_neg e]) (by rw[if_neg e];rfl) hb (by omega)
noncomputable def cf(f:u5):u5:=ren (NN (fre f [])) f [] 0
theorem uI{f:u5}(h:OkF f):Evt (fun n=>Z1 n f) (fun r=>r=cf f):=by
 have h2:=h.2.1
 unfold Z1 cu
 have hq:=qU f
 refine Evt.bind (P:=fun r=>r=cf f) (Evt.bind (gX h.1 (by omega)) fun v hv=>?_) fun v hv=>Evt.pure hv
 refine Evt.y4 (P:=ExP (fun _=>True) (fun _=>False)) ⟨.nxt (),trivial,0,fun n _=>rfl⟩ (fun _ _=>?_) (fun _ h=>h.elim)
 unfold aj
 exact Evt.bind (vJ hv.1 (by omega) _ f (Nat.le_refl _) h.1 [] 0 0 (by simp;omega) (by omega) rfl) fun r hr=>Evt.pure hr.1
mutual
def SmF:u5→Prop
 | .mk _ _ w s=>w.length≤3∧s.length≤2∧pR s
def pR:List u5→Prop
 | []=>True
 |f::l=>SmF f∧pR l
end
theorem uJ(f:u5):SmF f↔f.words.length≤3∧f.subs.length≤2∧pR f.subs:=by cases f;rw[SmF];rfl
theorem lQ:∀ {l:List u5},pR l→∀x∈l,SmF x
 | [],_,x,h=>by cases h
 |f::l,h,x,hx=>by
  rw[pR]at h
  rcases List.mem_cons.1 hx with rfl|hx
  ·exact h.1
  ·exact lQ h.2 x hx
mutual
theorem WfF.sm:∀(f:u5),WfF f→SmF f
 | .mk k n w s,h=>by
   rw[SmF]
   exact⟨nC h,nD h,lO.sm s ((cR _).1 h).2⟩
theorem lO.sm:∀(l:List u5),lO l→pR l
 | [],_=>by rw[pR];trivial
 |f::l,h=>by
  rw[pR]
  exact⟨WfF.sm f (N2.1 h f (List.mem_cons_self ..)),lO.sm l (N2.2 fun x hx=>N2.1 h x (List.mem_cons_of_mem _ hx))⟩
end
mutual
theorem SmF.ren(N:Nat→Bs):∀(f:u5) (env:List (Bs×Bs)) (i:Nat),SmF f→SmF (ren N f env i)
 | .mk k n w s,env,i,h=>by
   rw[SmF]at h
   rw[Go.Proofs.YtdjnbjnlnjhllaaDoor.ren,SmF]
   exact⟨by rw[List.length_map];exact h.1,by rw[lP];exact h.2.1,pR.ren N s _ _ h.2.2⟩
theorem pR.ren(N:Nat→Bs):∀(l:List u5) (env:List (Bs×Bs)) (i:Nat),pR l→pR (cM N l env i)
 | [],env,i,_=>by rw[cM,pR];trivial
 |f::l,env,i,h=>by
  rw[pR]at h
  rw[cM,pR]
  exact⟨SmF.ren N f env i h.1,pR.ren N l env _ h.2⟩
end
mutual
theorem AW:∀(f:u5),WfF f→∀(bd:List Bs) (x:Bs),fre f bd x→D9 x
 | .mk k n w s,h,bd,x,hx=>by
   rw[fre]at hx
   rcases hx with hx|hx
   ·exact(cX ((cR _).1 h).1).2.2.2.2 x hx.1
   ·exact rB s ((cR _).1 h).2 _ x hx
theorem rB:∀(l:List u5),lO l→∀(bd:List Bs) (x:Bs),gk l bd x→D9 x
 | [],_,bd,x,hx=>by rw[gk]at hx;exact hx.elim
 |f::l,h,bd,x,hx=>by
  rw[gk]at hx
  rcases hx with hx|hx
  ·exact AW f (N2.1 h f (List.mem_cons_self ..)) bd x hx
  ·exact rB l (N2.2 fun y hy=>N2.1 h y (List.mem_cons_of_mem _ hy)) bd x hx
end
mutual
def swp(σ:Bs→Bs):u5→u5
 | .mk k n w s=>.mk k (if QK k then σ n else n) (w.map σ) (FI σ s)
def FI(σ:Bs→Bs):List u5→List u5
 | []=>[]
 |f::l=>swp σ f::FI σ l
end
theorem Da{l:List Bs}{k:Nat}(h:k<l.length):l.drop k=Am.get l k::l.drop (k+1):=by
 rw[List.drop_eq_getElem_cons h]
 simp[Am.get,h]
theorem yW(σ:Bs→Bs){w:Bs}(h:σ w=w):∀env:List (Bs×Bs),σ (sub env w)=sub (env.map fun e=>(e.1,σ e.2)) w
 | []=>by rw[List.map_nil,yg,h]
 |(a,b)::env=>by
  rw[List.map_cons,fW,fW]
  split
  ·rfl
  ·exact yW σ h env
mutual
theorem Db(σ:Bs→Bs)(N:Nat→Bs)(q:Nat)(h1:∀j,j<q→σ (mk j)=N j)(h2:∀w,D9 w→σ w=w):∀(f:u5) (env:List (Bs×Bs)) (i:Nat),WfF f→i+nq f≤q→swp σ (ren mk f env i)=ren N f (env.map fun e=>(e.1,σ e.2)) i
 | .mk k n w s,env,i,hwf,hq=>by
   have hn:=((cR _).1 hwf).1
   have hs:=((cR _).1 hwf).2
   have hw:=(cX hn).2.2.2.2
   rw[nq]at hq
   rw[ren,ren,swp]
   have e1:(w.map (sub env)).map σ=w.map (sub (env.map fun e=>(e.1,σ e.2))):=by
    rw[List.map_map]
    exact List.map_congr_left fun x hx=>yW σ (h2 x (hw x hx)) env
   rw[e1]
   by_cases hk:QK k
   ·rw[if_pos hk]at hq
    simp only[if_pos hk]
    rw[h1 i (by omega),pS σ N q h1 h2 s _ _ hs (by omega),List.map_cons,h1 i (by omega)]
   ·rw[if_neg hk]at hq
    simp only[if_neg hk]
    rw[pS σ N q h1 h2 s _ _ hs (by omega)]
theorem pS(σ:Bs→Bs)(N:Nat→Bs)(q:Nat)(h1:∀j,j<q→σ (mk j)=N j)(h2:∀w,D9 w→σ w=w):∀(l:List u5) (env:List (Bs×Bs)) (i:Nat),lO l→i+nqL l≤q→FI σ (cM mk l env i)=cM N l (env.map fun e=>(e.1,σ e.2)) i
 | [],env,i,_,_=>by rw[cM,cM,FI]
 |f::l,env,i,h,hq=>by
  rw[nqL]at hq
  rw[cM,cM,FI,Db σ N q h1 h2 f env i (N2.1 h f (List.mem_cons_self ..)) (by omega),pS σ N q h1 h2 l env _ (N2.2 fun x hx=>N2.1 h x (List.mem_cons_of_mem _ hx)) (by omega)]
end
end Go.Proofs.YtdjnbjnlnjhllaaDoor
