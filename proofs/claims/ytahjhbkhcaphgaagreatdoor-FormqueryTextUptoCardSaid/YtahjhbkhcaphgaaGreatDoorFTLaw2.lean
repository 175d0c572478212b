import Derived.Lib.ItoaMem
import Derived.Lib.ItoaLen
import Derived.Test.YtahjhbkhcaphgaaGreatDoorFTLaw1
set_option linter.unusedVariables false
set_option linter.unusedSimpArgs false
namespace Go.Proofs.YtahjhbkhcaphgaaGreatDoor
open Go Go.Am
theorem tg(l:List Bs)(x:Bs):Evt (fun _=>x7 l x) (fun r=>r=decide (x∈l)):=by
 unfold x7 Q8
 refine Evt.bind (P:=fun r=>0≤r↔x∈l) (Evt.B2 (Evt.scan (fun k _=>∀j,j<k→Am.get l j≠x) (fun k r=>r=(k:Int)∧Am.get l k=x) (fun j hj=>absurd hj (Nat.not_lt_zero _)) (fun k u hk hi=>?_)) (fun t ht=>?_) (fun r hr=>?_)) fun v hv=>Evt.pure ?_
 ·unfold K8
  refine Evt.cond (fun e=>Evt.pure ?_) (fun e=>Evt.pure ?_)
  ·replace e:=bx e
   exact⟨rfl,e.symm⟩
  ·replace e:=bx e
   intro j hj
   by_cases ej:j=k
   ·subst ej;exact fun h=>e h.symm
   ·exact hi j (by omega)
 ·unfold K9
  refine Evt.pure ⟨fun h=>absurd h (by decide),fun h=>?_⟩
  obtain⟨j,hj,e⟩:=bT.1 h
  exact absurd e (ht j hj)
 ·obtain⟨k,_,hk,_,rfl,e⟩:=hr
  exact⟨fun _=>bT.2 ⟨k,hk,e⟩,fun _=>by omega⟩
 ·by_cases h:x∈l
  ·simp[h,hv.2 h]
  ·have h3:¬0≤v:=fun h2=>h (hv.1 h2)
   simp only[h,h3,decide_false]
theorem bJ(l:List Bs)(x:Bs):x7 l x=some (decide (x∈l)):=by
 obtain⟨r,rfl,N,hN⟩:=tg l x
 exact hN N (Nat.le_refl _)
theorem uS{zs:List Bs}{x:Bs}:x∈Lib.compact zs↔x∈zs:=by
 unfold Lib.compact Lib.compactUpTo
 rw[List.mem_map]
 have hg:∀j,j<zs.length→zs.toArray[j]! =Am.get zs j:=fun j hj=>by simp[Am.get,hj]
 constructor
 ·rintro⟨j,hj,rfl⟩
  have hj:=List.mem_range.1 (List.mem_filter.1 hj).1
  rw[hg j hj]
  exact get_mem hj
 ·intro h
  obtain⟨j,hj,rfl⟩:=bT.1 h
  have key:∀j,j<zs.length→∃a,a∈(List.range zs.length).filter (Lib.keeps zs.toArray)∧zs.toArray[a]! =Am.get zs j:=by
   intro j
   induction j with
   |zero=>intro hj;exact⟨0,List.mem_filter.2 ⟨List.mem_range.2 hj,Lib.keeps_lt_one _ 0 (by omega)⟩,hg 0 hj⟩
   |succ j ih=>
    intro hj
    by_cases hk:Lib.keeps zs.toArray (j+1)=true
    ·exact⟨j+1,List.mem_filter.2 ⟨List.mem_range.2 hj,hk⟩,hg _ hj⟩
    ·obtain⟨a,h1,h2⟩:=ih (by omega)
     refine⟨a,h1,h2.trans ?_⟩
     unfold Lib.keeps at hk
     simp only[decide_eq_true_eq,not_or,Decidable.not_not,ne_eq]at hk
     have:=hk.2
     rw[hg _ hj,Nat.add_sub_cancel,hg j (by omega)]at this
     exact this.symm
  exact key j hj
mutual
theorem Ae:∀(f:u6) (bd bd':List Bs),(∀y,y∈bd↔y∈bd')→∀x,fre f bd x↔fre f bd' x
 | .mk k n w s,bd,bd',h,x=>by
   rw[fre,fre,h x,lS s _ _ (fun y=>?_) x]
   split
   ·simp[h y]
   ·exact h y
theorem lS:∀(l:List u6) (bd bd':List Bs),(∀y,y∈bd↔y∈bd')→∀x,iC l bd x↔iC l bd' x
 | [],bd,bd',h,x=>by rw[iC,iC]
 |f::l,bd,bd',h,x=>by rw[iC,iC,Ae f bd bd' h x,lS l bd bd' h x]
end
theorem Af(l:List u6)(f:u6)(bd:List Bs)(x:Bs):iC (l++[f]) bd x↔iC l bd x∨fre f bd x:=by
 rw[ru,ru]
 constructor
 ·rintro⟨g,hg,h⟩
  rcases List.mem_append.1 hg with hg|hg
  ·exact .inl ⟨g,hg,h⟩
  ·rw[List.mem_singleton]at hg;subst hg;exact .inr h
 ·rintro(⟨g,hg,h⟩|h)
  ·exact⟨g,List.mem_append.2 (.inl hg),h⟩
  ·exact⟨f,List.mem_append.2 (.inr (List.mem_singleton.2 rfl)),h⟩
theorem xH:∀(m:Nat) (f:u6),SizeOf.sizeOf f≤m→WfF f→∀(bd l:List Bs),bd.length+ndF f≤100000→l.length+3*ndF f≤300000→
 Evt (fun n=>E7 n f bd l) (fun r=>(∀x,x∈r↔x∈l∨fre f bd x)∧r.length≤l.length+3*ndF f):=by
 intro m
 induction m with
 |zero=>intro f h;cases f;simp only[u6.mk.sizeOf_spec]at h;omega
 |succ m ih=>
  intro f hf hwf bd l hbd hl
  have hnd:=sU f
  have hws:=sZ hwf
  refine Evt.succ ?_
  simp only[E7]
  refine Evt.B2 (P:=ExP (fun t=>(∀x,x∈t↔x∈l∨(x∈f.words∧x∉bd))∧t.length≤l.length+3) (fun _=>False)) ((Evt.range (fun k s=>(∀x,x∈s↔x∈l∨(x∈f.words.take k∧x∉bd))∧s.length≤l.length+k) (fun _=>False) (fun _=>False) ⟨fun x=>by simp,by omega⟩ (fun k s hk hi=>?_)).mono fun e he=>?_) (fun t ht=>?_) (fun _ h=>h.elim)
  ·unfold W7
   simp only[bJ,Option.bind_some]
   refine Evt.cond (fun e=>Evt.aB (Evt.chk ?_ (Evt.pure ⟨fun x=>?_,?_⟩))) (fun e=>Evt.pure ⟨fun x=>?_,by omega⟩)
   ·rw[eL];simp only[List.length_append,List.length_cons,List.length_nil];omega
   ·replace e:=bx e
    rw[List.mem_append,hi.1 x,U9 hk,List.mem_append,List.mem_singleton]
    by_cases hx:x=Am.get f.words k
    ·subst hx;simp[e]
    ·simp[hx]
   ·simp only[List.length_append,List.length_cons,List.length_nil];omega
   ·replace e:=bx e
    rw[hi.1 x,U9 hk,List.mem_append,List.mem_singleton]
    by_cases hx:x=Am.get f.words k
    ·subst hx;simp[e]
    ·simp[hx]
  ·cases e with
   |ret r=>exact he
   |nxt t=>
    obtain⟨h1,h2⟩:=he.elim id False.elim
    rw[List.take_length]at h1
    exact⟨h1,by omega⟩
  ·obtain⟨h1,h2⟩:=ht
   have key:∀bd':List Bs,(∀y,y∈bd'↔y∈(if QK f.kind then f.name::bd else bd))→bd'.length≤bd.length+1→Evt (fun n=>K5 (E7 n) f t bd') (fun r=>(∀x,x∈r↔x∈l∨fre f bd x)∧r.length≤l.length+3*ndF f):=by
    intro bd' hb hbl
    unfold K5
    refine Evt.B2 (P:=ExP (fun r=>(∀x,x∈r↔x∈t∨iC f.subs bd' x)∧r.length≤t.length+3*aD f.subs) (fun _=>False)) ((Evt.range (fun k s=>(∀x,x∈s↔x∈t∨iC (f.subs.take k) bd' x)∧s.length≤t.length+3*aD (f.subs.take k)) (fun _=>False) (fun _=>False) ⟨fun x=>by simp[iC],by omega⟩ (fun k s hk hi=>?_)).mono fun e he=>?_) (fun r hr=>?_) (fun _ h=>h.elim)
    ·unfold W8
     have hsz:=bU hk
     have htk:=kW hk
     refine Evt.bind (ih _ (by omega) (qk hwf hk) bd' s (by omega) (by omega)) fun v hv=>Evt.pure ⟨fun x=>?_,?_⟩
     ·rw[hv.1 x,hi.1 x,U9 hk,Af,or_assoc]
     ·rw[U9 hk,oJ]
      have:=hv.2
      have:=hi.2
      omega
    ·cases e with
     |ret r=>exact he
     |nxt r=>
      have:=he.elim id False.elim
      rw[List.take_length]at this
      exact this
    ·obtain⟨h3,h4⟩:=hr
     unfold W9
     refine Evt.pure ⟨fun x=>?_,by omega⟩
     rw[h3 x,h1 x,Io,lS f.subs _ _ hb x,or_assoc]
   unfold X0
   simp only[nj,Option.bind_some]
   refine Evt.cond (fun e=>Evt.chk (by omega) (Evt.aB (Evt.chk ?_ (key _ (fun y=>?_) ?_)))) (fun e=>key _ (fun y=>?_) (by omega))
   ·rw[eL];simp only[List.length_append,List.length_cons,List.length_nil];omega
   ·replace e:=bx e
    rw[if_pos e];simp[or_comm]
   ·simp
   ·replace e:=bx e
    rw[if_neg e]
theorem tj{f:u6}(hwf:WfF f)(hn:ndF f≤50000):Evt (fun n=>U3 n f) (fun r=>(∀x,x∈r↔fre f [] x)∧r.length≤3*ndF f):=by
 unfold U3
 refine Evt.bind (xH _ f (Nat.le_refl _) hwf [] [] (by simp;omega) (by simp;omega)) fun v hv=>?_
 obtain⟨h1,h2⟩:=hv
 simp only[List.length_nil,Nat.zero_add]at h2
 unfold G9 N0
 have hlen:(sL cfB v).length=v.length:=(gq cfB v).length_eq
 refine Evt.bind (Evt.chk (by omega) (Evt.pure (P:=fun r=>r=sL cfB v) rfl)) fun r hr=>?_
 subst hr
 refine Evt.bind (Evt.chk (by omega) (Evt.pure (P:=fun r=>True) trivial)) fun _ _=>Evt.pure ⟨fun x=>?_,?_⟩
 ·rw[uS,(gq cfB v).mem_iff,h1 x]
  simp
 ·have:=Lib.compact_length_le (sL cfB v)
  omega
theorem Ag:∀(m:Nat) (f:u6),SizeOf.sizeOf f≤m→ndF f≤100000→Evt (fun n=>B7 n f) (fun r=>r=qs f):=by
 intro m
 induction m with
 |zero=>intro f h;cases f;simp only[u6.mk.sizeOf_spec]at h;omega
 |succ m ih=>
  intro f hf hn
  have hnd:=sU f
  refine Evt.succ ?_
  simp only[B7,nj,Option.bind_some]
  have CH:∀(l:List u6) (x:u6),qsL (l++[x])=qsL l++qs x:=fun l x=>by
   induction l with
   |nil=>simp[qsL]
   |cons a l ih=>rw[List.cons_append,qsL,qsL,ih,List.append_assoc]
  have key:∀l0:List Bs,l0=(if QK f.kind then [f.name]else [])→Evt (fun n=>G0 (B7 n) f l0) (fun r=>r=qs f):=by
   intro l0 h0
   have hl0:l0.length≤1:=by rw[h0];split<;>simp
   unfold G0
   refine Evt.B2 (P:=ExP (fun t=>t=l0++qsL f.subs) (fun _=>False)) ((Evt.range (fun k s=>s=l0++qsL (f.subs.take k)) (fun _=>False) (fun _=>False) (by simp[qsL]) (fun k s hk hi=>?_)).mono fun e he=>?_) (fun t ht=>?_) (fun _ h=>h.elim)
   ·subst hi
    unfold Q9
    have hsz:=bU hk
    have htk:=kW hk
    refine Evt.bind (ih _ (by omega) (by omega)) fun v hv=>Evt.aB (Evt.chk ?_ (Evt.pure ?_))
    ·subst hv
     have h1:=uN (f.subs.take k)
     have h2:=sV (Am.get f.subs k)
     have h3:=zL (f.subs.take k)
     have h4:=zK (Am.get f.subs k)
     rw[eL]
     simp only[List.length_append]
     omega
    ·subst hv
     show _=_
     rw[U9 hk,CH,List.append_assoc]
   ·cases e with
    |ret r=>exact he
    |nxt t=>
     have:=he.elim id False.elim
     rw[List.take_length]at this
     exact this
   ·have ht:t=_:=ht
    subst ht
    unfold R0
    refine Evt.pure ?_
    rw[KW, ←h0]
  refine Evt.cond (fun e=>Evt.aB (Evt.chk (by simp[eL]) (key _ ?_))) (fun e=>key _ ?_)
  ·replace e:=bx e
   rw[if_pos e];rfl
  ·replace e:=bx e
   rw[if_neg e]
mutual
def J8:u6→List u6
 | .mk k n w s=>.mk k n w s::Z7 s
def Z7:List u6→List u6
 | []=>[]
 |x::l=>J8 x++Z7 l
end
theorem wm(f:u6):J8 f=f::Z7 f.subs:=by cases f;rw[J8];rfl
mutual
theorem gB:∀f:u6,(J8 f).length=ndF f
 | .mk k n w s=>by rw[J8,ndF,List.length_cons,ql s];omega
theorem ql:∀l:List u6,(Z7 l).length=aD l
 | []=>by rw[Z7,aD];rfl
 |x::l=>by rw[Z7,aD,List.length_append,gB x,ql l]
end
def Ip(b:Nat)(g:u6)(it:IT):Prop:=it.kind=g.kind∧it.name=g.name∧it.words=g.words∧it.end_=((b+ndF g:Nat):Int)∧it.bound.length=g.words.length
mutual
theorem qm:∀(f:u6) (ar:List Bs) (b j:Nat),j<ndF f→Ip (b+j) (Am.get (J8 f) j) (Am.get (cZ f ar b) j)
 | .mk k n w s,ar,b,0,_=>by
   rw[cZ,J8]
   refine⟨rfl,rfl,rfl,?_,?_⟩
   ·show((b+(1+aD s):Nat):Int)=_
    show _=((b+0+ndF (.mk k n w s):Nat):Int)
    rw[ndF];rfl
   ·show(w.map _).length=w.length
    simp
 | .mk k n w s,ar,b,j+1,h=>by
   rw[cZ,J8]
   rw[ndF]at h
   have:=oK s (if QK k then n::ar else ar) (b+1) j (by omega)
   rw[show b+(j+1)=b+1+j by omega]
   exact this
theorem oK:∀(l:List u6) (ar:List Bs) (b j:Nat),j<aD l→Ip (b+j) (Am.get (Z7 l) j) (Am.get (aT l ar b) j)
 | [],ar,b,j,h=>by rw[aD]at h;omega
 |x::l,ar,b,j,h=>by
  rw[aD]at h
  rw[aT,Z7]
  by_cases hj:j<ndF x
  ·have:=qm x ar b j hj
   have e1:Am.get (J8 x++Z7 l) j=Am.get (J8 x) j:=by
    unfold Am.get
    rw[List.getD_eq_getElem?_getD,List.getD_eq_getElem?_getD,List.getElem?_append_left (by rw[gB];exact hj)]
   have e2:Am.get (cZ x ar b++aT l ar (b+ndF x)) j=Am.get (cZ x ar b) j:=by
    unfold Am.get
    rw[List.getD_eq_getElem?_getD,List.getD_eq_getElem?_getD,List.getElem?_append_left (by rw[gV];exact hj)]
   rw[e1,e2];exact this
  ·have:=oK l ar (b+ndF x) (j-ndF x) (by omega)
   have e1:Am.get (J8 x++Z7 l) j=Am.get (Z7 l) (j-ndF x):=by
    unfold Am.get
    rw[List.getD_eq_getElem?_getD,List.getD_eq_getElem?_getD,List.getElem?_append_right (by rw[gB];omega),gB]
   have e2:Am.get (cZ x ar b++aT l ar (b+ndF x)) j=Am.get (aT l ar (b+ndF x)) (j-ndF x):=by
    unfold Am.get
    rw[List.getD_eq_getElem?_getD,List.getD_eq_getElem?_getD,List.getElem?_append_right (by rw[gV];omega),gV]
   rw[e1,e2,show b+j=b+ndF x+(j-ndF x)by omega]
   exact this
end
theorem jU:∀(l:List u6) (x:u6),Z7 (l++[x])=Z7 l++J8 x
 | [],x=>by simp[Z7]
 |a::l,x=>by rw[List.cons_append,Z7,Z7,jU l x,List.append_assoc]
def jm(l:List u6)(x:Bs):Prop:=∃g∈l,g.kind=2∧g.name=x∧0<g.words.length
def kf(l:List u6)(x:Bs):Prop:=∃g∈l,g.kind=2∧g.name=x∧g.words.length=0
theorem jm.app{l m:List u6}{x:Bs}:jm (l++m) x↔jm l x∨jm m x:=by
 unfold jm
 constructor
 ·rintro⟨g,hg,h⟩
  rcases List.mem_append.1 hg with hg|hg
  ·exact .inl ⟨g,hg,h⟩
  ·exact .inr ⟨g,hg,h⟩
 ·rintro(⟨g,hg,h⟩|⟨g,hg,h⟩)
  ·exact⟨g,List.mem_append.2 (.inl hg),h⟩
  ·exact⟨g,List.mem_append.2 (.inr hg),h⟩
theorem kf.app{l m:List u6}{x:Bs}:kf (l++m) x↔kf l x∨kf m x:=by
 unfold kf
 constructor
 ·rintro⟨g,hg,h⟩
  rcases List.mem_append.1 hg with hg|hg
  ·exact .inl ⟨g,hg,h⟩
  ·exact .inr ⟨g,hg,h⟩
 ·rintro(⟨g,hg,h⟩|⟨g,hg,h⟩)
  ·exact⟨g,List.mem_append.2 (.inl hg),h⟩
  ·exact⟨g,List.mem_append.2 (.inr hg),h⟩
theorem jm.one{g:u6}{x:Bs}:jm [g] x↔g.kind=2∧g.name=x∧0<g.words.length:=by
 unfold jm;simp
theorem kf.one{g:u6}{x:Bs}:kf [g] x↔g.kind=2∧g.name=x∧g.words.length=0:=by
 unfold kf;simp
theorem EW:∀(m:Nat) (f:u6),SizeOf.sizeOf f≤m→∀x,Evt (fun n=>N2 n f x) (fun r=>(r.1=true↔jm (J8 f) x)∧(r.2=true↔kf (J8 f) x)):=by
 intro m
 induction m with
 |zero=>intro f h;cases f;simp only[u6.mk.sizeOf_spec]at h;omega
 |succ m ih=>
  intro f hf x
  refine Evt.succ ?_
  simp only[N2]
  have key:∀j:Bool×Bool,(j.1=true↔jm [f] x)→(j.2=true↔kf [f] x)→Evt (fun n=>U4 (N2 n) f x j) (fun r=>(r.1=true↔jm (J8 f) x)∧(r.2=true↔kf (J8 f) x)):=by
   intro j h1 h2
   unfold U4
   refine Evt.B2 (P:=ExP (fun s:Bool×Bool=>(s.1=true↔jm (f::Z7 f.subs) x)∧(s.2=true↔kf (f::Z7 f.subs) x)) (fun _=>False)) ((Evt.range (fun k s=>(s.1=true↔jm ([f]++Z7 (f.subs.take k)) x)∧(s.2=true↔kf ([f]++Z7 (f.subs.take k)) x)) (fun _=>False) (fun _=>False) ⟨by simpa[Z7]using h1,by simpa[Z7]using h2⟩ (fun k s hk hi=>?_)).mono fun e he=>?_) (fun t ht=>?_) (fun _ h=>h.elim)
   ·unfold bh
    have hsz:=bU hk
    refine Evt.bind (ih _ (by omega) x) fun v hv=>Evt.pure ⟨?_,?_⟩
    ·rw[U9 hk,jU, ←List.append_assoc,jm.app, ←hv.1, ←hi.1]
     cases s.1<;>simp
    ·rw[U9 hk,jU, ←List.append_assoc,kf.app, ←hv.2, ←hi.2]
     cases s.2<;>simp
   ·cases e with
    |ret r=>exact he
    |nxt t=>
     have:=he.elim id False.elim
     rw[List.take_length]at this
     exact this
   ·unfold bn
    refine Evt.pure ?_
    rw[wm]
    exact ht
  refine Evt.cond (fun e=>key _ ?_ ?_) (fun e=>key _ ?_ ?_)
  ·replace e:=bx e
   rw[jm.one];simp[e.1,e.2]
  ·replace e:=bx e
   rw[kf.one];simp[e.1,e.2]
  ·rw[jm.one]
   refine⟨fun h=>(by cases h),fun h=>?_⟩
   simp[h.1,h.2.1]at e
  ·rw[kf.one]
   refine⟨fun h=>(by cases h),fun h=>?_⟩
   simp[h.1,h.2.1]at e
def dz(l:List IT)(x:Bs):Prop:=∃it∈l,∃m,m<it.words.length∧Am.get it.words m=x∧Am.get it.bound m=false
theorem dz.app{l m:List IT}{x:Bs}:dz (l++m) x↔dz l x∨dz m x:=by
 unfold dz
 constructor
 ·rintro⟨g,hg,h⟩
  rcases List.mem_append.1 hg with hg|hg
  ·exact .inl ⟨g,hg,h⟩
  ·exact .inr ⟨g,hg,h⟩
 ·rintro(⟨g,hg,h⟩|⟨g,hg,h⟩)
  ·exact⟨g,List.mem_append.2 (.inl hg),h⟩
  ·exact⟨g,List.mem_append.2 (.inr hg),h⟩
theorem dz.cons{a:IT}{l:List IT}{x:Bs}:dz (a::l) x↔dz [a] x∨dz l x:=by
 rw[←dz.app];rfl
theorem dz.nil{x:Bs}:¬dz [] x:=fun⟨_,h,_⟩=>by cases h
theorem get_map{α β:Type}[Inhabited α][Inhabited β](g:α→β){l:List α}{k:Nat}(h:k<l.length):Am.get (l.map g) k=g (Am.get l k):=by
 unfold Am.get
 rw[List.getD_eq_getElem?_getD,List.getD_eq_getElem?_getD,List.getElem?_map,List.getElem?_eq_getElem h]
 rfl
mutual
theorem tq:∀(f:u6) (ar:List Bs) (b:Nat) (x:Bs),dz (cZ f ar b) x↔fre f ar x
 | .mk k n w s,ar,b,x=>by
   rw[cZ,dz.cons,fre,qo s]
   refine or_congr_left ?_
   constructor
   ·rintro⟨it,hit,m,h1,h2,h3⟩
    rw[List.mem_singleton]at hit
    subst hit
    have h1:m<w.length:=h1
    have h2:Am.get w m=x:=h2
    have h3:Am.get (w.map fun x=>decide (x∈ar)) m=false:=h3
    rw[get_map _ h1,h2]at h3
    exact⟨bT.2 ⟨m,h1,h2⟩,of_decide_eq_false h3⟩
   ·rintro⟨h1,h2⟩
    obtain⟨m,h3,h4⟩:=bT.1 h1
    refine⟨_,List.mem_singleton.2 rfl,m,h3,h4,?_⟩
    show Am.get (w.map fun x=>decide (x∈ar)) m=false
    rw[get_map _ h3,h4]
    exact decide_eq_false h2
theorem qo:∀(l:List u6) (ar:List Bs) (b:Nat) (x:Bs),dz (aT l ar b) x↔iC l ar x
 | [],ar,b,x=>by rw[aT,iC];exact⟨fun h=>dz.nil h,False.elim⟩
 |f::l,ar,b,x=>by rw[aT,iC,dz.app,tq f,qo l]
end
def qsI(l:List IT):List Bs:=l.flatMap fun it=>if QK it.kind then [it.name]else []
mutual
theorem Ah:∀(f:u6) (ar:List Bs) (b:Nat),qsI (cZ f ar b)=qs f
 | .mk k n w s,ar,b=>by
   rw[cZ,qs]
   show(if QK k then [n]else [])++qsI _=_
   rw[wo s]
theorem wo:∀(l:List u6) (ar:List Bs) (b:Nat),qsI (aT l ar b)=qsL l
 | [],ar,b=>by rw[aT,qsL];rfl
 |f::l,ar,b=>by
  rw[aT,qsL, ←Ah f ar b, ←wo l ar (b+ndF f)]
  exact List.flatMap_append
end
theorem DJ{ρ:Type}(l:List Bs)(x:Bs)(body:Int→Option (Ctl Int Int Unit))(hb:∀s,body s=bif decide (s<(l.length:Int))then chk (0≤s∧s<(l.length:Int)) <| bif decide (Am.get l s.toNat=x)then some (.ret s)else some (.nxt (wr .i64 (s+1)))else some (.brk ()))
 (hl:l.length≤8000000) (k:Unit→Option Int) (hk:k ()=some (-1)):Evt (fun n=>B2 (G7 body n 0) k) (fun r=>(x∉l∧r= -1)∨∃j,j<l.length∧Am.get l j=x∧(∀i,i<j→Am.get l i≠x)∧r=(j:Int)):=by
 refine Evt.B2 (Evt.kT l.length (fun k s=>s=(k:Int)∧∀i,i<k→Am.get l i≠x) (fun _=>x∉l) (fun r=>∃j,j<l.length∧Am.get l j=x∧(∀i,i<j→Am.get l i≠x)∧r=(j:Int)) ⟨rfl,fun i hi=>absurd hi (Nat.not_lt_zero _)⟩ (fun k s hk hs=>?_) (fun s hs=>?_)) (fun t ht=>?_) (fun r hr=>.inr hr)
 ·obtain⟨rfl,hs⟩:=hs
  rw[hb]
  refine Evt.cond (fun _=>Evt.chk (by omega) (Evt.cond (fun e=>Evt.pure ?_) (fun e=>Evt.pure ?_))) (fun e=>by replace e:=bx e;omega)
  ·replace e:=bx e
   exact⟨k,hk,by simpa using e,hs,rfl⟩
  ·replace e:=bx e
   rw[Z4 (by omega) (by omega)]
   refine⟨rfl,fun i hi=>?_⟩
   by_cases ei:i=k
   ·subst ei;simpa using e
   ·exact hs i (by omega)
 ·obtain⟨rfl,hs⟩:=hs
  rw[hb]
  refine Evt.cond (fun e=>by replace e:=bx e;omega) (fun _=>Evt.pure fun h=>?_)
  obtain⟨j,hj,e⟩:=bT.1 h
  exact hs j hj e
 ·rw[hk]
  exact Evt.pure (.inl ⟨ht,rfl⟩)
def tu(l:List Bs)(x:Bs)(r:Int):Prop:=(x∉l∧r= -1)∨∃j,j<l.length∧Am.get l j=x∧(∀i,i<j→Am.get l i≠x)∧r=(j:Int)
theorem tu.mem{l:List Bs}{x:Bs}{r:Int}(h:tu l x r):0≤r↔x∈l:=by
 rcases h with⟨h1,rfl⟩|⟨j,hj,e,_,rfl⟩
 ·exact⟨fun h=>absurd h (by decide),fun h=>absurd h h1⟩
 ·exact⟨fun _=>bT.2 ⟨j,hj,e⟩,fun _=>by omega⟩
theorem Ai(l:List Bs)(x:Bs)(hl:l.length≤8000000):Evt (fun n=>T6 n l x) (tu l x):=DJ (ρ:=Unit) l x (N3 l x) (fun _=>rfl) hl _ rfl
theorem Aj(l:List Bs)(x:Bs)(hl:l.length≤8000000):Evt (fun n=>T7 n x l) (tu l x):=DJ (ρ:=Unit) l x (N4 l x) (fun _=>rfl) hl _ rfl
def vns(s:w8):List Bs:=s.words++s.B1++s.parts
open Classical in
noncomputable def O5(s:w8)(i:Nat):Int:=
 if ¬A8 (Am.get (vns s) i)then 10
 else if Am.get (vns s) i∈(vns s).take i then 7
 else if i<s.words.length then(if fre s.form [] (Am.get (vns s) i)then 0 else 15)
 else if i<s.words.length+s.B1.length then(if jm (J8 s.form) (Am.get (vns s) i)∨kf (J8 s.form) (Am.get (vns s) i)then 0 else 15)
 else if jm (J8 s.form) (Am.get (vns s) i)then 5 else if kf (J8 s.form) (Am.get (vns s) i)then 0 else 15
def QOk(s:w8):Prop:=∀k,k<(qs s.form).length→Am.get (qs s.form) k∉ (qs s.form).take k∧Am.get (qs s.form) k∉s.words
def OkS(s:w8):Prop:=OkF s.form∧(vns s).length≤300∧(∀j,j<(vns s).length→O5 s j=0)∧QOk s
def FB(step:Nat→Int)(N:Nat)(r:x6):Prop:=∃k,k<N∧(∀j,j<k→step j=0)∧step k≠0∧r=⟨step k,k⟩
theorem FB.uniq{step:Nat→Int}{N:Nat}{r r':x6}(h:FB step N r)(h':FB step N r'):r=r':=by
 obtain⟨k,_,h2,h3,rfl⟩:=h
 obtain⟨k',_,h2',h3',rfl⟩:=h'
 have:k=k':=by
  rcases Nat.lt_trichotomy k k' with h|h|h
  ·exact absurd (h2' k h) h3
  ·exact h
  ·exact absurd (h2 k' h) h3'
 rw[this]
def xI(s:w8)(r:x6):Prop:=
 (¬OkF s.form∧r=jG s.form)∨(OkF s.form∧300<(vns s).length∧r=⟨2, -1⟩)∨(OkF s.form∧(vns s).length≤300∧FB (O5 s) (vns s).length r)∨
 (OkF s.form∧(vns s).length≤300∧(∀j,j<(vns s).length→O5 s j=0)∧¬QOk s∧r=⟨7, -1⟩)∨(OkS s∧r=⟨0,0⟩)
theorem xI.code{s:w8}{r:x6}(h:xI s r)(h0:r.code=0):OkS s∧r=⟨0,0⟩:=by
 rcases h with⟨h1,rfl⟩|⟨_,_,rfl⟩|⟨_,_,k,_,_,h3,rfl⟩|⟨_,_,_,_,rfl⟩|h
 ·exact absurd ((jT _).1 h0) h1
 ·cases h0
 ·exact absurd h0 h3
 ·cases h0
 ·exact h
theorem xI.ok{s:w8}{r:x6}(h:xI s r)(h0:OkS s):r=⟨0,0⟩:=by
 obtain⟨k1,k2,k3,k4⟩:=h0
 rcases h with⟨h1,_⟩|⟨_,h1,_⟩|⟨_,_,k,h2,_,h3,_⟩|⟨_,_,_,h1,_⟩|⟨_,h⟩
 ·exact absurd k1 h1
 ·omega
 ·exact absurd (k3 k h2) h3
 ·exact absurd k4 h1
 ·exact h
theorem xI.uniq{s:w8}{r r':x6}(h:xI s r)(h':xI s r'):r=r':=by
 rcases h with⟨h1,rfl⟩|⟨h1,h2,rfl⟩|⟨h1,h2,h3⟩|⟨h1,h2,h3,h4,rfl⟩|⟨h1,rfl⟩
 ·rcases h' with⟨k1,rfl⟩|⟨k1,_⟩|⟨k1,_⟩|⟨k1,_⟩|⟨k1,_⟩
  ·rfl
  ·exact absurd k1 h1
  ·exact absurd k1 h1
  ·exact absurd k1 h1
  ·exact absurd k1.1 h1
 ·rcases h' with⟨k1,_⟩|⟨_,_,rfl⟩|⟨_,k2,_⟩|⟨_,k2,_⟩|⟨k1,_⟩
  ·exact absurd h1 k1
  ·rfl
  ·omega
  ·omega
  ·exact absurd k1.2.1 (by omega)
 ·rcases h' with⟨k1,_⟩|⟨_,k2,_⟩|⟨_,_,k3⟩|⟨_,_,k3,_⟩|⟨k1,_⟩
  ·exact absurd h1 k1
  ·omega
  ·exact h3.uniq k3
  ·obtain⟨k,a,_,b,_⟩:=h3;exact absurd (k3 k a) b
  ·obtain⟨k,a,_,b,_⟩:=h3;exact absurd (k1.2.2.1 k a) b
 ·rcases h' with⟨k1,_⟩|⟨_,k2,_⟩|⟨_,_,k3⟩|⟨_,_,_,_,rfl⟩|⟨k1,_⟩
  ·exact absurd h1 k1
  ·omega
  ·obtain⟨k,a,_,b,_⟩:=k3;exact absurd (h3 k a) b
  ·rfl
  ·exact absurd k1.2.2.2 h4
 ·exact(xI.ok h' h1).symm
def SB(s:w8):Prop:=s.words.length≤1048576∧s.B1.length≤1048576∧s.parts.length≤1048576∧∀x∈vns s,x.length≤8000000
theorem oM(s:w8):(vns s).length=s.words.length+s.B1.length+s.parts.length:=by unfold vns;simp only[List.length_append]
theorem oN{s:w8}(hb:SB s):Evt (fun n=>J0 n s) (xI s):=by
 obtain⟨b1,b2,b3,_⟩:=hb
 have hvl:=oM s
 unfold J0
 refine Evt.bind (kV s.form) fun v hv=>?_
 subst hv
 refine Evt.cond (fun e=>Evt.pure (.inl ⟨fun h=>?_,rfl⟩)) (fun e=>?_)
 ·rw[sX h]at e;simp at e
 replace e:=bx e
 have hok:OkF s.form:=(jT _).1 e
 unfold U6 qW
 have hfl: [s.words,s.B1,s.parts].flatten=vns s:=by unfold vns;simp
 simp only[Option.bind_assoc,Option.bind_some,hfl]
 refine Evt.bind (P:=fun v=>v=vns s) (Evt.chk (by rw[hvl];simp;omega) (Evt.pure rfl)) fun v hv=>?_
 subst hv
 refine Evt.cond (fun e=>?_) (fun e=>?_)
 ·replace e:=bx e
  exact Evt.pure (.inr (.inl ⟨hok,by omega,rfl⟩))
 replace e:=bx e
 have h300:(vns s).length≤300:=by omega
 refine Evt.bind (tj hok.1 (by have:=hok.2.1;omega)) fun v4 hv4=>?_
 replace hv4:=hv4.1
 have hwl:wr .i64 ((s.words.length:Int)+(s.B1.length:Int))=((s.words.length+s.B1.length:Nat):Int):=by rw[Z4 (by omega) (by omega)];omega
 refine Evt.B2 (Evt.scan (fun k _=>∀j,j<k→O5 s j=0) (fun k r=>O5 s k≠0∧r=⟨O5 s k,(k:Int)⟩) (fun j hj=>absurd hj (Nat.not_lt_zero _)) (fun k u hk hi=>?_)) (fun t ht=>?_) (fun r hr=>?_)
 ·have bad:∀c:Int,c≠0→O5 s k=c→Evt (fun _:Nat=>(C2 c (k:Int)).bind fun v=>some (Ctl.ret (σ:=Unit) (τ:=Unit) v)) (zC (fun _:Unit=>∀j,j<k+1→O5 s j=0) (fun _=>False) (fun r=>O5 s k≠0∧r=⟨O5 s k,(k:Int)⟩)):=fun c hc h=>by
   unfold C2
   exact Evt.pure ⟨by rw[h];exact hc,by rw[h]⟩
  have good:O5 s k=0→Evt (fun _:Nat=>some (Ctl.nxt (ρ:=x6) (τ:=Unit) ())) (zC (fun _:Unit=>∀j,j<k+1→O5 s j=0) (fun _=>False) (fun r=>O5 s k≠0∧r=⟨O5 s k,(k:Int)⟩)):=fun h=>Evt.pure fun j hj=>by
   by_cases ej:j=k
   ·subst ej;exact h
   ·exact hi j (by omega)
  unfold X1
  refine Evt.bind (eM _) fun v17 hv17=>Evt.cond (fun e=>bad 10 (by decide) ?_) (fun e=>?_)
  ·replace e:=bx e
   have:¬A8 (Am.get (vns s) k):=fun h=>by rw[(Z6 hv17).2 h]at e;cases e
   unfold O5;rw[if_pos this]
  replace e:=bx e
  have s1:¬ ¬A8 (Am.get (vns s) k):=fun h=>h ((Z6 hv17).1 e)
  refine Evt.chk (by omega) ?_
  simp only[bJ,Option.bind_some]
  refine Evt.cond (fun e=>bad 7 (by decide) ?_) (fun e=>?_)
  ·replace e:=bx e
   unfold O5;rw[if_neg s1,if_pos e]
  replace e:=bx e
  have s2:=e
  refine Evt.bind (EW _ s.form (Nat.le_refl _) _) fun v23 hv23=>Evt.cond (fun e=>?_) (fun e=>?_)
  ·replace e:=bx e
   have s3:k<s.words.length:=by omega
   refine Evt.cond (fun e=>bad 15 (by decide) ?_) (fun e=>good ?_)
   ·replace e:=bx e
    rw[hv4]at e
    unfold O5;rw[if_neg s1,if_neg s2,if_pos s3,if_neg e]
   ·replace e:=bx e
    rw[hv4]at e
    unfold O5;rw[if_neg s1,if_neg s2,if_pos s3,if_pos e]
  ·replace e:=bx e
   have s3:¬k<s.words.length:=by omega
   rw[hwl]
   refine Evt.cond (fun e=>?_) (fun e=>?_)
   ·replace e:=bx e
    have s4:k<s.words.length+s.B1.length:=by omega
    refine Evt.cond (fun e=>bad 15 (by decide) ?_) (fun e=>good ?_)
    ·replace e:=bx e
     have:¬(jm (J8 s.form) (Am.get (vns s) k)∨kf (J8 s.form) (Am.get (vns s) k)):=by
      rw[←hv23.1, ←hv23.2]
      simp[e.1,e.2]
     unfold O5;rw[if_neg s1,if_neg s2,if_neg s3,if_pos s4,if_neg this]
    ·have:jm (J8 s.form) (Am.get (vns s) k)∨kf (J8 s.form) (Am.get (vns s) k):=by
      rw[←hv23.1, ←hv23.2]
      cases h1:v23.1
      ·cases h2:v23.2
       ·simp[h1,h2]at e
       ·exact .inr rfl
      ·exact .inl rfl
     unfold O5;rw[if_neg s1,if_neg s2,if_neg s3,if_pos s4,if_pos this]
   ·replace e:=bx e
    have s4:¬k<s.words.length+s.B1.length:=by omega
    refine Evt.cond (fun e=>bad 5 (by decide) ?_) (fun e=>?_)
    ·have:=hv23.1.1 e
     unfold O5;rw[if_neg s1,if_neg s2,if_neg s3,if_neg s4,if_pos this]
    ·have s5:¬jm (J8 s.form) (Am.get (vns s) k):=by rw[←hv23.1];simp[e]
     refine Evt.cond (fun e=>bad 15 (by decide) ?_) (fun e=>good ?_)
     ·replace e:=bx e
      have:¬kf (J8 s.form) (Am.get (vns s) k):=by rw[←hv23.2];simp[e]
      unfold O5;rw[if_neg s1,if_neg s2,if_neg s3,if_neg s4,if_neg s5,if_neg this]
     ·replace e:=bx e
      have:=hv23.2.1 e
      unfold O5;rw[if_neg s1,if_neg s2,if_neg s3,if_neg s4,if_neg s5,if_pos this]
 ·unfold X2
  refine Evt.bind (Ag _ s.form (Nat.le_refl _) (by have:=hok.2.1;omega)) fun v29 hv29=>?_
  subst hv29
  have hql:(qs s.form).length≤200:=by rw[sV];have:=zK s.form;have:=hok.2.1;omega
  refine Evt.B2 (Evt.scan (fun k _=>∀j,j<k→Am.get (qs s.form) j∉ (qs s.form).take j∧Am.get (qs s.form) j∉s.words) (fun k r=>r=⟨7, -1⟩∧¬QOk s) (fun j hj=>absurd hj (Nat.not_lt_zero _)) (fun k u hk hi=>?_)) (fun u hu=>?_) (fun r hr=>?_)
  ·unfold X3
   refine Evt.chk (by omega) ?_
   simp only[bJ,Option.bind_some]
   refine Evt.bind (P:=fun v=>Am.get (qs s.form) k∉ (qs s.form).take k→(v=true↔Am.get (qs s.form) k∈s.words)) (Evt.gd (fun g=>Evt.pure fun _=>by simp) (fun g h=>by simp[h]at g)) fun v38 hv38=>Evt.cond (fun e=>?_) (fun e=>Evt.pure fun j hj=>?_)
   ·replace e:=bx e
    refine Evt.pure ⟨rfl,fun h=>?_⟩
    obtain⟨h1,h2⟩:=h k hk
    rcases e with e|e
    ·exact h1 e
    ·exact h2 ((hv38 h1).1 e)
   ·by_cases ej:j=k
    ·subst ej
     by_cases h1:Am.get (qs s.form) j∈(qs s.form).take j
     ·simp[h1]at e
     ·refine⟨h1,fun h2=>?_⟩
      have:=(hv38 h1).2 h2
      simp[this]at e
    ·exact hi j (by omega)
  ·unfold X4
   exact Evt.pure (.inr (.inr (.inr (.inr ⟨⟨hok,h300,ht,hu⟩,rfl⟩))))
  ·obtain⟨k,_,_,_,rfl,h⟩:=hr
   exact .inr (.inr (.inr (.inl ⟨hok,h300,ht,h,rfl⟩)))
 ·obtain⟨k,_,hk,hi,h1,h2⟩:=hr
  exact .inr (.inr (.inl ⟨hok,h300,k,hk,hi,h1,h2⟩))
theorem tv{s:Bs}(hl:s.length≤8000000):Evt (fun n=>P5 n s) (fun b=>b=mI s):=by
 unfold P5
 refine Evt.B2 (Evt.kT s.length (fun k i=>i=(k:Int)∧∀j,j<k→OkC (B3 s (j:Int))∧(j=0→97≤B3 s 0∧B3 s 0≤122)) (fun _=>∀j,j<s.length→OkC (B3 s (j:Int))∧(j=0→97≤B3 s 0∧B3 s 0≤122)) (fun b=>b=false∧¬A8 s) ⟨rfl,fun j hj=>absurd hj (Nat.not_lt_zero _)⟩ (fun k i hk hi=>?_) (fun i hi=>?_)) (fun t ht=>?_) (fun r hr=>?_)
 ·obtain⟨rfl,hi⟩:=hi
  unfold K1
  refine Evt.cond (fun _=>Evt.chk (by omega) ?_) (fun e=>by replace e:=bx e;omega)
  have key:OkC (B3 s (k:Int))∧(k=0→97≤B3 s 0∧B3 s 0≤122)↔((97≤B3 s (k:Int)∧B3 s (k:Int)≤122)∨(0<(k:Int)∧(((48≤B3 s (k:Int)∧B3 s (k:Int)≤57)∨B3 s (k:Int)=95)∨B3 s (k:Int)=45))):=by
   unfold OkC
   by_cases hk0:k=0
   ·subst hk0
    simp only[Int.ofNat_zero,forall_const,Int.lt_irrefl,false_and,or_false]
    exact⟨fun h=>h.2,fun h=>⟨.inl h,h⟩⟩
   ·have:0<(k:Int):=by omega
    simp only[this,hk0,false_implies,and_true,true_and,or_assoc]
  refine Evt.cond (fun e=>Evt.pure ⟨rfl,fun hn=>?_⟩) (fun e=>Evt.pure ?_)
  ·have h2:=key.1 ⟨hn.2.2.2 k hk,fun h0=>hn.2.2.1⟩
   replace e:=bx e
   omega
  ·rw[Z4 (by omega) (by omega)]
   refine⟨rfl,fun j hj=>?_⟩
   by_cases ej:j=k
   ·subst ej
    refine key.2 ?_
    replace e:=bx e
    omega
   ·exact hi j (by omega)
 ·obtain⟨rfl,hi⟩:=hi
  unfold K1
  exact Evt.cond (fun e=>by replace e:=bx e;omega) (fun _=>Evt.pure hi)
 ·unfold R2
  refine Evt.pure ?_
  by_cases h1:0<s.length
  ·by_cases h2:s.length≤30
   ·have:decide (0<(s.length:Int))=true:=decide_eq_true (by omega)
    have h3:decide ((s.length:Int)≤30)=true:=decide_eq_true (by omega)
    rw[this,h3]
    exact(jl ⟨h1,h2,(ht 0 h1).2 rfl,fun k hk=>(ht k hk).1⟩).symm
   ·have h3:decide ((s.length:Int)≤30)=false:=decide_eq_false (by omega)
    rw[h3,bq fun h=>h2 h.2.1]
    cases decide (0<(s.length:Int))<;>rfl
  ·have:decide (0<(s.length:Int))=false:=decide_eq_false (by omega)
   rw[this,bq fun h=>h1 h.1]
   rfl
 ·rw[hr.1,bq hr.2]
theorem iV{l:List Bs}{k:Nat}(hk:k≤l.length){x:Bs}:x∈l.take k↔ ∃j,j<k∧Am.get l j=x:=by
 rw[bT,List.length_take,Nat.min_eq_left hk]
 have hg:∀j,j<k→Am.get (l.take k) j=Am.get l j:=fun j hj=>by
  unfold Am.get
  rw[List.getD_eq_getElem?_getD,List.getD_eq_getElem?_getD,List.getElem?_take_of_lt hj]
 exact⟨fun⟨j,hj,e⟩=>⟨j,hj,by rw[←hg j hj];exact e⟩,fun⟨j,hj,e⟩=>⟨j,hj,by rw[hg j hj];exact e⟩⟩
mutual
theorem wq:∀(f:u6),WfF f→∀g∈J8 f,WfF g
 | .mk k n w s,h,g,hg=>by
   rw[wm]at hg
   rcases List.mem_cons.1 hg with rfl|hg
   ·exact h
   ·exact tw s ((dL _).1 h).2 g hg
theorem tw:∀(l:List u6),ni l→∀g∈Z7 l,WfF g
 | [],_,g,hg=>by rw[Z7]at hg;cases hg
 |f::l,h,g,hg=>by
  rw[Z7]at hg
  rcases List.mem_append.1 hg with hg|hg
  ·exact wq f (M4.1 h f (List.mem_cons_self ..)) g hg
  ·exact tw l (M4.2 fun x hx=>M4.1 h x (List.mem_cons_of_mem _ hx)) g hg
end
theorem dz.one{it:IT}{x:Bs}:dz [it] x↔ ∃m,m<it.words.length∧Am.get it.words m=x∧Am.get it.bound m=false:=by
 unfold dz;simp
theorem uT(l m:List IT):qsI (l++m)=qsI l++qsI m:=List.flatMap_append
theorem Ak(it:IT):qsI [it]=if QK it.kind then [it.name]else []:=by unfold qsI;simp
theorem CJ(s9:Bool×Bool×Int)(R:List IT)(k:Nat)(names:List Bs)(i:Nat)(h9:s9.2.2=(i:Int))(hi:i<R.length)(hk:k<names.length)(hw:(Am.get R i).words.length≤3)(hbd:(Am.get R i).bound.length=(Am.get R i).words.length):
 Evt (fun n=>G7 (C8 s9 R (k:Int) names) n (s9.1,0)) (ExP (fun t=>t=true↔s9.1=true∨dz [Am.get R i] (Am.get names k)) (fun _=>False)):=by
 refine(Evt.kT (Am.get R i).words.length (fun j s=>s.2=(j:Int)∧(s.1=true↔s9.1=true∨∃m,m<j∧Am.get (Am.get R i).words m=Am.get names k∧Am.get (Am.get R i).bound m=false)) _ _ ⟨rfl,by simp⟩ (fun j s hj hs=>?_) (fun s hs=>?_))
 ·obtain⟨hs1,hs2⟩:=hs
  unfold C8
  rw[h9,hs1]
  simp only[Int.toNat_natCast]
  refine Evt.chk (by omega) (Evt.cond (fun _=>Evt.chk ⟨aR fun _=>by omega,aR fun _=>by omega⟩ (Evt.chk hk (Evt.chk ⟨aR fun _=>by omega,aR fun _=>by omega⟩ (Evt.pure ?_)))) (fun e=>by replace e:=bx e;omega))
  refine⟨by rw[Z4 (by omega) (by omega)];omega,?_⟩
  have hx:(∃m,m<j+1∧Am.get (Am.get R i).words m=Am.get names k∧Am.get (Am.get R i).bound m=false)↔(∃m,m<j∧Am.get (Am.get R i).words m=Am.get names k∧Am.get (Am.get R i).bound m=false)∨(Am.get (Am.get R i).words j=Am.get names k∧Am.get (Am.get R i).bound j=false):=by
   constructor
   ·rintro⟨m,h1,h2⟩
    by_cases e:m=j
    ·subst e;exact .inr h2
    ·exact .inl ⟨m,by omega,h2⟩
   ·rintro(⟨m,h1,h2⟩|h2)
    ·exact⟨m,by omega,h2⟩
    ·exact⟨j,by omega,h2⟩
  rw[hx, ←or_assoc, ←hs2]
  cases s.1
  ·by_cases e:Am.get (Am.get R i).words j=Am.get names k
   ·cases Am.get (Am.get R i).bound j<;>simp[e]
   ·simp[e]
  ·simp
 ·obtain⟨hs1,hs2⟩:=hs
  unfold C8
  rw[h9,hs1]
  simp only[Int.toNat_natCast]
  refine Evt.chk (by omega) (Evt.cond (fun e=>by replace e:=bx e;omega) (fun _=>Evt.pure ?_))
  rw[dz.one]
  exact hs2
def Seen(s:w8)(R:List IT)(k i:Nat)(b1 b2:Bool):Prop:=
 (k<s.words.length→(b1=true↔dz (R.take i) (Am.get (vns s) k))∧b2=false)∧
 (¬k<s.words.length→(b1=true↔jm ((J8 s.form).take i) (Am.get (vns s) k)∨kf ((J8 s.form).take i) (Am.get (vns s) k))∧(b2=true↔jm ((J8 s.form).take i) (Am.get (vns s) k)))
theorem EX{s:w8}(hok:OkF s.form)(k:Nat)(hk:k<(vns s).length):
 Evt (fun n=>G7 (D2 n (cZ s.form [] 0) (k:Int) s (vns s)) n (false,false,0)) (ExP (fun t=>Seen s (cZ s.form [] 0) k (ndF s.form) t.1 t.2) (fun _=>False)):=by
 have hrl:(cZ s.form [] 0).length=ndF s.form:=gV _ _ _
 have h2:=hok.2.1
 refine Evt.kT (ndF s.form) (fun i t=>t.2.2=(i:Int)∧Seen s (cZ s.form [] 0) k i t.1 t.2.1) _ _ ⟨rfl,?_⟩ (fun i t hi ht=>?_) (fun t ht=>?_)
 ·refine⟨fun _=>⟨?_,rfl⟩,fun _=>⟨?_,?_⟩⟩
  ·simp[dz.nil]
  ·simp[jm,kf]
  ·simp[jm]
 ·obtain⟨ht1,ht2,ht3⟩:=ht
  have htl:=qm s.form [] 0 i hi
  have hfl:i<(J8 s.form).length:=by rw[gB];exact hi
  have hwf:=wq _ hok.1 _ (get_mem hfl)
  have hwd:(Am.get (cZ s.form [] 0) i).words.length≤3:=by rw[htl.2.2.1];exact sZ hwf
  unfold D2
  refine Evt.cond (fun _=>Evt.cond (fun e=>?_) (fun e=>?_)) (fun e=>by replace e:=bx e;omega)
  ·replace e:=bx e
   have hkw:k<s.words.length:=by omega
   refine Evt.B2 (CJ t _ k _ i ht1 (by omega) hk hwd (by rw[htl.2.2.1];exact htl.2.2.2.2)) (fun u hu=>?_) (fun _ h=>h.elim)
   unfold G6
   refine Evt.pure ⟨by show wr .i64 (t.2.2+1)=_;rw[ht1,Z4 (by omega) (by omega)];omega,fun _=>⟨?_,(ht2 hkw).2⟩,fun h=>absurd hkw h⟩
   rw[U9 (by omega),dz.app, ←(ht2 hkw).1]
   exact hu
  ·replace e:=bx e
   have hkw:¬k<s.words.length:=by omega
   have h9:t.2.2=(i:Int):=ht1
   simp only[h9,Int.toNat_natCast]
   refine Evt.chk (by omega) (Evt.chk hk (Evt.cond (fun e=>Evt.pure ?_) (fun e=>Evt.pure ?_)))
   ·replace e:=bx e
    refine⟨by show wr .i64 ((i:Int)+1)=_;rw[Z4 (by omega) (by omega)];omega,fun h=>absurd h hkw,fun _=>?_⟩
    rw[htl.1,htl.2.1]at e
    simp only[U9 hfl,jm.app,kf.app,jm.one,kf.one]
    refine⟨iff_of_true trivial ?_,?_⟩
    ·rcases Nat.eq_zero_or_pos (Am.get (J8 s.form) i).words.length with h|h
     ·exact .inr (.inr ⟨e.1,e.2,h⟩)
     ·exact .inl (.inr ⟨e.1,e.2,h⟩)
    ·rw[←(ht3 hkw).2,htl.2.2.1]
     cases t.2.1<;>simp[e.1,e.2]
   ·refine⟨by show wr .i64 ((i:Int)+1)=_;rw[Z4 (by omega) (by omega)];omega,fun h=>absurd h hkw,fun _=>?_⟩
    rw[htl.1,htl.2.1]at e
    have hn:¬((Am.get (J8 s.form) i).kind=2∧(Am.get (J8 s.form) i).name=Am.get (vns s) k):=fun h=>by simp[h.1,h.2]at e
    simp only[U9 hfl,jm.app,kf.app,jm.one,kf.one]
    have n1:¬((Am.get (J8 s.form) i).kind=2∧(Am.get (J8 s.form) i).name=Am.get (vns s) k∧0<(Am.get (J8 s.form) i).words.length):=fun h=>hn ⟨h.1,h.2.1⟩
    have n2:¬((Am.get (J8 s.form) i).kind=2∧(Am.get (J8 s.form) i).name=Am.get (vns s) k∧(Am.get (J8 s.form) i).words.length=0):=fun h=>hn ⟨h.1,h.2.1⟩
    simp only[n1,n2,or_false]
    exact ht3 hkw
 ·obtain⟨ht1,ht2⟩:=ht
  unfold D2
  refine Evt.cond (fun e=>by replace e:=bx e;omega) (fun _=>Evt.pure ht2)
theorem EY{s:w8}(hb:SB s)(hok:OkF s.form)(h300:(vns s).length≤300):
 Evt (fun n=>G7 (D3 n (vns s) (cZ s.form [] 0) s) n 0) (ExP (fun _=>∀j,j<(vns s).length→O5 s j=0) (fun r=>FB (O5 s) (vns s).length r)):=by
 have hvl:=oM s
 have hwl:wr .i64 ((s.words.length:Int)+(s.B1.length:Int))=((s.words.length+s.B1.length:Nat):Int):=by rw[Z4 (by omega) (by omega)];omega
 refine Evt.kT (vns s).length (fun k i=>i=(k:Int)∧∀j,j<k→O5 s j=0) _ _ ⟨rfl,fun j hj=>absurd hj (Nat.not_lt_zero _)⟩ (fun k i hk hi=>?_) (fun i hi=>?_)
 ·obtain⟨rfl,hi⟩:=hi
  have bad:∀c:Int,c≠0→O5 s k=c→zC (fun i=>i=((k+1:Nat):Int)∧∀j,j<k+1→O5 s j=0) (fun _:Unit=>∀j,j<(vns s).length→O5 s j=0) (fun r=>FB (O5 s) (vns s).length r) (Ctl.ret ⟨c,(k:Int)⟩):=fun c hc h=>⟨k,hk,hi,by rw[h];exact hc,by rw[h]⟩
  have good:O5 s k=0→zC (fun i=>i=((k+1:Nat):Int)∧∀j,j<k+1→O5 s j=0) (fun _:Unit=>∀j,j<(vns s).length→O5 s j=0) (fun r=>FB (O5 s) (vns s).length r) (Ctl.nxt (wr .i64 ((k:Int)+1))):=fun h=>⟨by rw[Z4 (by omega) (by omega)];omega,fun j hj=>by
   by_cases ej:j=k
   ·subst ej;exact h
   ·exact hi j (by omega)⟩
  unfold D3
  refine Evt.cond (fun _=>Evt.chk (by omega) ?_) (fun e=>by replace e:=bx e;omega)
  simp only[Int.toNat_natCast]
  refine Evt.bind (tv (hb.2.2.2 _ (get_mem hk))) fun v hv=>Evt.cond (fun e=>Evt.pure (bad 10 (by decide) ?_)) (fun e=>?_)
  ·replace e:=bx e
   have:¬A8 (Am.get (vns s) k):=fun h=>by rw[(Z6 hv).2 h]at e;cases e
   unfold O5;rw[if_pos this]
  replace e:=bx e
  have s1:¬ ¬A8 (Am.get (vns s) k):=fun h=>h ((Z6 hv).1 e)
  refine Evt.B2 (Evt.kT k (fun j i=>i=(j:Int)∧∀m,m<j→Am.get (vns s) m≠Am.get (vns s) k) (fun _=>Am.get (vns s) k∉ (vns s).take k) (fun r=>Am.get (vns s) k∈(vns s).take k∧r=Ctl.ret ⟨7,(k:Int)⟩) ⟨rfl,fun j hj=>absurd hj (Nat.not_lt_zero _)⟩ (fun j i hj hs=>?_) (fun i hs=>?_)) (fun t ht=>?_) (fun r hr=>?_)
  ·obtain⟨rfl,hs⟩:=hs
   unfold E2
   simp only[Int.toNat_natCast]
   refine Evt.cond (fun _=>Evt.chk (by omega) (Evt.cond (fun e=>Evt.pure ?_) (fun e=>Evt.pure ?_))) (fun e=>by replace e:=bx e;omega)
   ·replace e:=bx e
    exact⟨(iV (by omega)).2 ⟨j,hj,e⟩,rfl⟩
   ·replace e:=bx e
    rw[Z4 (by omega) (by omega)]
    refine⟨by omega,fun m hm=>?_⟩
    by_cases em:m=j
    ·subst em;exact e
    ·exact hs m (by omega)
  ·obtain⟨rfl,hs⟩:=hs
   unfold E2
   refine Evt.cond (fun e=>by replace e:=bx e;omega) (fun _=>Evt.pure fun h=>?_)
   obtain⟨j,hj,e⟩:=(iV (by omega)).1 h
   exact hs j hj e
  ·have s2:Am.get (vns s) k∉ (vns s).take k:=ht
   unfold H7
   refine Evt.B2 (EX hok k hk) (fun u hu=>?_) (fun _ h=>h.elim)
   obtain⟨hu1,hu2⟩:=hu
   have hrt:(cZ s.form [] 0).take (ndF s.form)=cZ s.form [] 0:=by rw[←gV s.form [] 0,List.take_length]
   have hft:(J8 s.form).take (ndF s.form)=J8 s.form:=by rw[←gB,List.take_length]
   rw[hrt,tq]at hu1
   rw[hft]at hu2
   unfold H8
   rw[hwl]
   refine Evt.cond (fun e=>Evt.pure (bad 5 (by decide) ?_)) (fun e=>Evt.cond (fun e2=>Evt.pure (bad 15 (by decide) ?_)) (fun e2=>Evt.pure (good ?_)))
   ·replace e:=bx e
    have s3:¬k<s.words.length:=by omega
    have s4:¬k<s.words.length+s.B1.length:=by omega
    unfold O5;rw[if_neg s1,if_neg s2,if_neg s3,if_neg s4,if_pos ((hu2 s3).2.1 e.2)]
   ·have e2:u.1=false:=by simpa using e2
    unfold O5;rw[if_neg s1,if_neg s2]
    by_cases s3:k<s.words.length
    ·have:=(hu1 s3).1
     rw[if_pos s3,if_neg fun h=>by rw[this.2 h]at e2;cases e2]
    ·have:=(hu2 s3).1
     have hn:¬(jm (J8 s.form) (Am.get (vns s) k)∨kf (J8 s.form) (Am.get (vns s) k)):=fun h=>by rw[this.2 h]at e2;cases e2
     rw[if_neg s3]
     by_cases s4:k<s.words.length+s.B1.length
     ·rw[if_pos s4,if_neg hn]
     ·rw[if_neg s4,if_neg fun h=>hn (.inl h),if_neg fun h=>hn (.inr h)]
   ·have e2:u.1=true:=by simpa using e2
    unfold O5;rw[if_neg s1,if_neg s2]
    by_cases s3:k<s.words.length
    ·rw[if_pos s3,if_pos ((hu1 s3).1.1 e2)]
    ·have h:=(hu2 s3).1.1 e2
     rw[if_neg s3]
     by_cases s4:k<s.words.length+s.B1.length
     ·rw[if_pos s4,if_pos h]
     ·have h5:¬jm (J8 s.form) (Am.get (vns s) k):=fun h5=>by
       have h6:=(hu2 s3).2.2 h5
       rw[h6]at e
       have:decide (((s.words.length+s.B1.length:Nat):Int)≤(k:Int))=true:=by simp;omega
       rw[this]at e;cases e
      rw[if_neg s4,if_neg h5,if_pos (h.resolve_left h5)]
  ·obtain⟨hm,rfl⟩:=hr
   refine bad 7 (by decide) ?_
   unfold O5;rw[if_neg s1,if_pos hm]
 ·obtain⟨rfl,hi⟩:=hi
  unfold D3
  exact Evt.cond (fun e=>by replace e:=bx e;omega) (fun _=>Evt.pure hi)
theorem Al{l:List Bs}{x:Bs}{m:List Bs}:Am.get (l++x::m) l.length=x∧(l++x::m).take l.length=l:=by
 refine⟨?_,by simp⟩
 unfold Am.get;simp
theorem CK{s:w8}(hb:SB s)(hok:OkF s.form):
 Evt (fun n=>G7 (C9 n (cZ s.form [] 0) s) n ([],0)) (ExP (fun _=>QOk s) (fun r=>r=⟨7, -1⟩∧¬QOk s)):=by
 have hrl:(cZ s.form [] 0).length=ndF s.form:=gV _ _ _
 have h2:=hok.2.1
 have hq:qs s.form=qsI (cZ s.form [] 0):=(Ah _ _ _).symm
 have hql:(qs s.form).length≤200:=by rw[sV];have:=zK s.form;omega
 have hpre:∀i,qs s.form=qsI ((cZ s.form [] 0).take i)++qsI ((cZ s.form [] 0).drop i):=fun i=>by rw[←uT,List.take_append_drop];exact hq
 refine Evt.kT (ndF s.form) (fun i t=>t=(qsI ((cZ s.form [] 0).take i),(i:Int))∧∀k,k<(qsI ((cZ s.form [] 0).take i)).length→Am.get (qs s.form) k∉ (qs s.form).take k∧Am.get (qs s.form) k∉s.words) _ _ ⟨by simp[qsI],fun k hk=>by simp[qsI]at hk⟩ (fun i t hi ht=>?_) (fun t ht=>?_)
 ·obtain⟨rfl,ht⟩:=ht
  have hll:(qsI ((cZ s.form [] 0).take i)).length≤200:=by have:=congrArg List.length (hpre i);rw[List.length_append]at this;omega
  unfold C9
  simp only[Int.toNat_natCast]
  refine Evt.cond (fun _=>Evt.chk (by omega) ?_) (fun e=>by replace e:=bx e;omega)
  refine Evt.cond (fun e=>?_) (fun e=>Evt.pure ?_)
  ·replace e:=bx e
   have hqk:QK (Am.get (cZ s.form [] 0) i).kind:=e
   have hsn:qsI ((cZ s.form [] 0).take (i+1))=qsI ((cZ s.form [] 0).take i)++[(Am.get (cZ s.form [] 0) i).name]:=by rw[U9 (by omega),uT,Ak,if_pos hqk]
   have hx:=hpre (i+1)
   rw[hsn,List.append_assoc,List.singleton_append]at hx
   have hg:Am.get (qs s.form) (qsI ((cZ s.form [] 0).take i)).length=(Am.get (cZ s.form [] 0) i).name:=by rw[hx];exact Al.1
   have ht2:(qs s.form).take (qsI ((cZ s.form [] 0).take i)).length=qsI ((cZ s.form [] 0).take i):=by rw[hx];exact Al.2
   have hlt:(qsI ((cZ s.form [] 0).take i)).length<(qs s.form).length:=by rw[hx];simp
   refine Evt.bind (Aj _ _ (by omega)) fun v hv=>Evt.bind (P:=fun w=>¬0≤v→tu s.words (Am.get (cZ s.form [] 0) i).name w) (Evt.gd (fun _=>(Ai _ _ (by have:=hb.1;omega)).mono fun w hw _=>hw) (fun g h=>by simp at g;omega)) fun w hw=>?_
   refine Evt.cond (fun e=>Evt.pure ⟨rfl,fun h=>?_⟩) (fun e=>Evt.aB (Evt.chk ?_ (Evt.pure ?_)))
   ·obtain⟨k1,k2⟩:=h _ hlt
    rw[hg,ht2]at k1
    rw[hg]at k2
    have n1:¬0≤v:=fun h=>k1 (hv.mem.1 h)
    have n2:¬0≤w:=fun h=>k2 ((hw n1).mem.1 h)
    simp[n1,n2]at e
   ·rw[eL,List.length_append,List.length_singleton];omega
   ·have n1:¬0≤v:=fun h=>by simp[h]at e
    have n2:¬0≤w:=fun h=>by simp[h]at e
    refine⟨by rw[hsn,Z4 (by omega) (by omega)];rfl,fun k hk=>?_⟩
    rw[hsn,List.length_append,List.length_singleton]at hk
    by_cases ek:k=(qsI ((cZ s.form [] 0).take i)).length
    ·subst ek
     rw[hg,ht2]
     exact⟨fun h=>n1 (hv.mem.2 h),fun h=>n2 ((hw n1).mem.2 h)⟩
    ·exact ht k (by omega)
  ·replace e:=bx e
   have hqk:¬QK (Am.get (cZ s.form [] 0) i).kind:=fun h=>by rcases h with h|h<;>simp[h]at e
   have hsn:qsI ((cZ s.form [] 0).take (i+1))=qsI ((cZ s.form [] 0).take i):=by rw[U9 (by omega),uT,Ak,if_neg hqk,List.append_nil]
   refine⟨by rw[hsn,Z4 (by omega) (by omega)];rfl,?_⟩
   rw[hsn];exact ht
 ·obtain⟨rfl,ht⟩:=ht
  unfold C9
  refine Evt.cond (fun e=>by replace e:=bx e;omega) (fun _=>Evt.pure ?_)
  have hrt:(cZ s.form [] 0).take (ndF s.form)=cZ s.form [] 0:=by rw[←hrl,List.take_length]
  rw[hrt, ←hq]at ht
  exact ht
theorem pG{s:w8}(hb:SB s):Evt (fun n=>G3 n s) (xI s):=by
 have hvl:=oM s
 obtain⟨b1,b2,b3,_⟩:=id hb
 unfold G3
 refine Evt.bind (sY s.form) fun v hv=>?_
 subst hv
 refine Evt.cond (fun e=>Evt.pure (.inl ⟨fun h=>?_,rfl⟩)) (fun e=>?_)
 ·rw[sX h]at e;simp at e
 replace e:=bx e
 have hok:OkF s.form:=(jT _).1 e
 have hw:wr .i64 (wr .i64 ((s.words.length:Int)+(s.B1.length:Int))+(s.parts.length:Int))=((vns s).length:Int):=by
  rw[Z4 (n:=(s.words.length:Int)+(s.B1.length:Int)) (by omega) (by omega),Z4 (by omega) (by omega)];omega
 rw[hw]
 refine Evt.cond (fun e=>?_) (fun e=>?_)
 ·replace e:=bx e
  exact Evt.pure (.inr (.inl ⟨hok,by omega,rfl⟩))
 replace e:=bx e
 have h300:(vns s).length≤300:=by omega
 refine Evt.B2 (Ab s.words _ (fun _=>rfl) [] (by simp;omega)) (fun t ht=>?_) (fun _ h=>h.elim)
 unfold H9
 have ht:t=s.words:=ht
 subst ht
 refine Evt.B2 (Ab s.B1 _ (fun _=>rfl) s.words (by omega)) (fun t ht=>?_) (fun _ h=>h.elim)
 unfold I0
 have ht:t=s.words++s.B1:=ht
 subst ht
 refine Evt.B2 (Ab s.parts _ (fun _=>rfl) (s.words++s.B1) (by rw[List.length_append];omega)) (fun t ht=>?_) (fun _ h=>h.elim)
 unfold I3
 have ht:t=vns s:=ht
 subst ht
 refine Evt.bind (CG hok.1 [] (by have:=hok.2.1;omega) (by simp)) fun v hv=>?_
 subst hv
 refine Evt.B2 (EY hb hok h300) (fun t ht=>?_) (fun r hr=>.inr (.inr (.inl ⟨hok,h300,hr⟩)))
 unfold I4
 refine Evt.B2 (CK hb hok) (fun u hu=>?_) (fun r hr=>.inr (.inr (.inr (.inl ⟨hok,h300,ht,hr.2,hr.1⟩))))
 exact Evt.pure (.inr (.inr (.inr (.inr ⟨⟨hok,h300,ht,hu⟩,rfl⟩))))
def vn(m:Nat):Bs:=118::Lib.decDigits m
def mk(m:Nat):Bs:=33::Lib.decDigits m
def EZ(p:Bs→Prop)(j m:Nat):Prop:=j≤m∧¬p (vn m)∧∀k,j≤k→k<m→p (vn k)
theorem EZ.uniq{p:Bs→Prop}{j m m':Nat}(h:EZ p j m)(h':EZ p j m'):m=m':=by
 rcases Nat.lt_trichotomy m m' with e|e|e
 ·exact absurd (h'.2.2 m h.1 e) h.2.1
 ·exact e
 ·exact absurd (h.2.2 m' h'.1 e) h'.2.1
theorem EZ.congr{p q:Bs→Prop}(hpq:∀x,p x↔q x){j m:Nat}(h:EZ p j m):EZ q j m:=⟨h.1,fun e=>h.2.1 ((hpq _).2 e),fun k a b=>(hpq _).1 (h.2.2 k a b)⟩
open Classical in
noncomputable def nx(p:Bs→Prop)(j:Nat):Nat:=Classical.epsilon fun m=>EZ p j m
noncomputable def num(p:Bs→Prop):Nat→Nat
 |0=>nx p 0
 |i+1=>nx p (num p i+1)
noncomputable def NN(p:Bs→Prop)(i:Nat):Bs:=vn (num p i)
noncomputable def cf(f:u6):u6:=ren (NN (fre f [])) f [] 0
mutual
def SmF:u6→Prop
 | .mk _ _ w s=>w.length≤3∧s.length≤2∧qp s
def qp:List u6→Prop
 | []=>True
 |f::l=>SmF f∧qp l
end
theorem Ao(f:u6):SmF f↔f.words.length≤3∧f.subs.length≤2∧qp f.subs:=by cases f;rw[SmF];rfl
theorem rB:∀ {l:List u6},qp l→∀x∈l,SmF x
 | [],_,x,h=>by cases h
 |f::l,h,x,hx=>by
  rw[qp]at h
  rcases List.mem_cons.1 hx with rfl|hx
  ·exact h.1
  ·exact rB h.2 x hx
mutual
theorem WfF.sm:∀(f:u6),WfF f→SmF f
 | .mk k n w s,h=>by
   rw[SmF]
   exact⟨sZ h,uR h,ni.sm s ((dL _).1 h).2⟩
theorem ni.sm:∀(l:List u6),ni l→qp l
 | [],_=>by rw[qp];trivial
 |f::l,h=>by
  rw[qp]
  exact⟨WfF.sm f (M4.1 h f (List.mem_cons_self ..)),ni.sm l (M4.2 fun x hx=>M4.1 h x (List.mem_cons_of_mem _ hx))⟩
end
mutual
theorem SmF.ren(N:Nat→Bs):∀(f:u6) (env:List (Bs×Bs)) (i:Nat),SmF f→SmF (ren N f env i)
 | .mk k n w s,env,i,h=>by
   rw[SmF]at h
   rw[Go.Proofs.YtahjhbkhcaphgaaGreatDoor.ren,SmF]
   exact⟨by rw[List.length_map];exact h.1,by rw[rj];exact h.2.1,qp.ren N s _ _ h.2.2⟩
theorem qp.ren(N:Nat→Bs):∀(l:List u6) (env:List (Bs×Bs)) (i:Nat),qp l→qp (gH N l env i)
 | [],env,i,_=>by rw[gH,qp];trivial
 |f::l,env,i,h=>by
  rw[qp]at h
  rw[gH,qp]
  exact⟨SmF.ren N f env i h.1,qp.ren N l env _ h.2⟩
end
mutual
theorem CM:∀(f:u6),WfF f→∀(bd:List Bs) (x:Bs),fre f bd x→A8 x
 | .mk k n w s,h,bd,x,hx=>by
   rw[fre]at hx
   rcases hx with hx|hx
   ·exact(dS ((dL _).1 h).1).2.2.2.2 x hx.1
   ·exact tA s ((dL _).1 h).2 _ x hx
theorem tA:∀(l:List u6),ni l→∀(bd:List Bs) (x:Bs),iC l bd x→A8 x
 | [],_,bd,x,hx=>by rw[iC]at hx;exact hx.elim
 |f::l,h,bd,x,hx=>by
  rw[iC]at hx
  rcases hx with hx|hx
  ·exact CM f (M4.1 h f (List.mem_cons_self ..)) bd x hx
  ·exact tA l (M4.2 fun y hy=>M4.1 h y (List.mem_cons_of_mem _ hy)) bd x hx
end
mutual
def swp(σ:Bs→Bs):u6→u6
 | .mk k n w s=>.mk k (if QK k then σ n else n) (w.map σ) (Iq σ s)
def Iq(σ:Bs→Bs):List u6→List u6
 | []=>[]
 |f::l=>swp σ f::Iq σ l
end
theorem Fa{l:List Bs}{k:Nat}(h:k<l.length):l.drop k=Am.get l k::l.drop (k+1):=by
 rw[List.drop_eq_getElem_cons h]
 simp[Am.get,h]
theorem Ap(σ:Bs→Bs){w:Bs}(h:σ w=w):∀env:List (Bs×Bs),σ (sub env w)=sub (env.map fun e=>(e.1,σ e.2)) w
 | []=>by rw[List.map_nil,EO,h]
 |(a,b)::env=>by
  rw[List.map_cons,kU,kU]
  split
  ·rfl
  ·exact Ap σ h env
mutual
theorem Fe(σ:Bs→Bs)(N:Nat→Bs)(q:Nat)(h1:∀j,j<q→σ (mk j)=N j)(h2:∀w,A8 w→σ w=w):∀(f:u6) (env:List (Bs×Bs)) (i:Nat),WfF f→i+nq f≤q→swp σ (ren mk f env i)=ren N f (env.map fun e=>(e.1,σ e.2)) i
 | .mk k n w s,env,i,hwf,hq=>by
   have hn:=((dL _).1 hwf).1
   have hs:=((dL _).1 hwf).2
   have hw:=(dS hn).2.2.2.2
   rw[nq]at hq
   rw[ren,ren,swp]
   have e1:(w.map (sub env)).map σ=w.map (sub (env.map fun e=>(e.1,σ e.2))):=by
    rw[List.map_map]
    exact List.map_congr_left fun x hx=>Ap σ (h2 x (hw x hx)) env
   rw[e1]
   by_cases hk:QK k
   ·rw[if_pos hk]at hq
    simp only[if_pos hk]
    rw[h1 i (by omega),rC σ N q h1 h2 s _ _ hs (by omega),List.map_cons,h1 i (by omega)]
   ·rw[if_neg hk]at hq
    simp only[if_neg hk]
    rw[rC σ N q h1 h2 s _ _ hs (by omega)]
theorem rC(σ:Bs→Bs)(N:Nat→Bs)(q:Nat)(h1:∀j,j<q→σ (mk j)=N j)(h2:∀w,A8 w→σ w=w):∀(l:List u6) (env:List (Bs×Bs)) (i:Nat),ni l→i+nqL l≤q→Iq σ (gH mk l env i)=gH N l (env.map fun e=>(e.1,σ e.2)) i
 | [],env,i,_,_=>by rw[gH,gH,Iq]
 |f::l,env,i,h,hq=>by
  rw[nqL]at hq
  rw[gH,gH,Iq,Fe σ N q h1 h2 f env i (M4.1 h f (List.mem_cons_self ..)) (by omega),rC σ N q h1 h2 l env _ (M4.2 fun x hx=>M4.1 h x (List.mem_cons_of_mem _ hx)) (by omega)]
end
end Go.Proofs.YtahjhbkhcaphgaaGreatDoor
