import Derived.Lib.ItoaMem
import Derived.Lib.ItoaLen
import Derived.Test.YtfacbpehlibilaaGreatDoorTZLaw1
set_option linter.unusedVariables false
set_option linter.unusedSimpArgs false
namespace Go.Proofs.YtfacbpehlibilaaGreatDoor
open Go Go.Am
theorem yB(l:List Bs)(x:Bs):Evt (fun _=>A0 l x) (fun r=>r=decide (x∈l)):=by
 unfold A0 S8
 refine Evt.bind (P:=fun r=>0≤r↔x∈l) (Evt.C1 (Evt.scan (fun k _=>∀j,j<k→Am.get l j≠x) (fun k r=>r=(k:Int)∧Am.get l k=x) (fun j hj=>absurd hj (Nat.not_lt_zero _)) (fun k u hk hi=>?_)) (fun t ht=>?_) (fun r hr=>?_)) fun v hv=>Evt.pure ?_
 ·unfold O4
  refine Evt.cond (fun e=>Evt.pure ?_) (fun e=>Evt.pure ?_)
  ·replace e:=bx e
   exact⟨rfl,e.symm⟩
  ·replace e:=bx e
   intro j hj
   by_cases ej:j=k
   ·subst ej;exact fun h=>e h.symm
   ·exact hi j (by omega)
 ·unfold O5
  refine Evt.pure ⟨fun h=>absurd h (by decide),fun h=>?_⟩
  obtain⟨j,hj,e⟩:=V7.1 h
  exact absurd e (ht j hj)
 ·obtain⟨k,_,hk,_,rfl,e⟩:=hr
  exact⟨fun _=>V7.2 ⟨k,hk,e⟩,fun _=>by omega⟩
 ·by_cases h:x∈l
  ·simp[h,hv.2 h]
  ·have h3:¬0≤v:=fun h2=>h (hv.1 h2)
   simp only[h,h3,decide_false]
theorem F9(l:List Bs)(x:Bs):A0 l x=some (decide (x∈l)):=by
 obtain⟨r,rfl,N,hN⟩:=yB l x
 exact hN N (Nat.le_refl _)
theorem sL{zs:List Bs}{x:Bs}:x∈Lib.compact zs↔x∈zs:=by
 unfold Lib.compact Lib.compactUpTo
 rw[List.mem_map]
 have hg:∀j,j<zs.length→zs.toArray[j]! =Am.get zs j:=fun j hj=>by simp[Am.get,hj]
 constructor
 ·rintro⟨j,hj,rfl⟩
  have hj:=List.mem_range.1 (List.mem_filter.1 hj).1
  rw[hg j hj]
  exact get_mem hj
 ·intro h
  obtain⟨j,hj,rfl⟩:=V7.1 h
  have key:∀j,j<zs.length→∃a,a∈(List.range zs.length).filter (Lib.keeps zs.toArray)∧zs.toArray[a]! =Am.get zs j:=by
   intro j
   induction j with
   |zero=>intro hj;exact⟨0,List.mem_filter.2 ⟨List.mem_range.2 hj,Lib.keeps_lt_one _ 0 (by omega)⟩,hg 0 hj⟩
   |succ j ih=>
    intro hj
    by_cases hk:Lib.keeps zs.toArray (j+1)=true
    ·exact⟨j+1,List.mem_filter.2 ⟨List.mem_range.2 hj,hk⟩,hg _ hj⟩
    ·obtain⟨a,h1,h2⟩:=ih (by omega)
     refine⟨a,h1,h2.trans ?_⟩
     unfold Lib.keeps at hk
     simp only[decide_eq_true_eq,not_or,Decidable.not_not,ne_eq]at hk
     have:=hk.2
     rw[hg _ hj,Nat.add_sub_cancel,hg j (by omega)]at this
     exact this.symm
  exact key j hj
mutual
theorem FU:∀(f:u5) (bd bd':List Bs),(∀y,y∈bd↔y∈bd')→∀x,fre f bd x↔fre f bd' x
 | .mk k n w s,bd,bd',h,x=>by
   rw[fre,fre,h x,lJ s _ _ (fun y=>?_) x]
   split
   ·simp[h y]
   ·exact h y
theorem lJ:∀(l:List u5) (bd bd':List Bs),(∀y,y∈bd↔y∈bd')→∀x,W8 l bd x↔W8 l bd' x
 | [],bd,bd',h,x=>by rw[W8,W8]
 |f::l,bd,bd',h,x=>by rw[W8,W8,FU f bd bd' h x,lJ l bd bd' h x]
end
theorem yC(l:List u5)(f:u5)(bd:List Bs)(x:Bs):W8 (l++[f]) bd x↔W8 l bd x∨fre f bd x:=by
 rw[wh,wh]
 constructor
 ·rintro⟨g,hg,h⟩
  rcases List.mem_append.1 hg with hg|hg
  ·exact .inl ⟨g,hg,h⟩
  ·rw[List.mem_singleton]at hg;subst hg;exact .inr h
 ·rintro(⟨g,hg,h⟩|h)
  ·exact⟨g,List.mem_append.2 (.inl hg),h⟩
  ·exact⟨f,List.mem_append.2 (.inr (List.mem_singleton.2 rfl)),h⟩
theorem Dz:∀(m:Nat) (f:u5),SizeOf.sizeOf f≤m→WfF f→∀(bd l:List Bs),bd.length+ndF f≤100000→l.length+3*ndF f≤300000→
 Evt (fun n=>E7 n f bd l) (fun r=>(∀x,x∈r↔x∈l∨fre f bd x)∧r.length≤l.length+3*ndF f):=by
 intro m
 induction m with
 |zero=>intro f h;cases f;simp only[u5.mk.sizeOf_spec]at h;omega
 |succ m ih=>
  intro f hf hwf bd l hbd hl
  have hnd:=kr f
  have hws:=yA hwf
  refine Evt.succ ?_
  simp only[E7]
  refine Evt.C1 (P:=ExP (fun t=>(∀x,x∈t↔x∈l∨(x∈f.words∧x∉bd))∧t.length≤l.length+3) (fun _=>False)) ((Evt.range (fun k s=>(∀x,x∈s↔x∈l∨(x∈f.words.take k∧x∉bd))∧s.length≤l.length+k) (fun _=>False) (fun _=>False) ⟨fun x=>by simp,by omega⟩ (fun k s hk hi=>?_)).mono fun e he=>?_) (fun t ht=>?_) (fun _ h=>h.elim)
  ·unfold S2
   simp only[F9,Option.bind_some]
   refine Evt.cond (fun e=>Evt.Q8 (Evt.chk ?_ (Evt.pure ⟨fun x=>?_,?_⟩))) (fun e=>Evt.pure ⟨fun x=>?_,by omega⟩)
   ·rw[J4];simp only[List.length_append,List.length_cons,List.length_nil];omega
   ·replace e:=bx e
    rw[List.mem_append,hi.1 x,D8 hk,List.mem_append,List.mem_singleton]
    by_cases hx:x=Am.get f.words k
    ·subst hx;simp[e]
    ·simp[hx]
   ·simp only[List.length_append,List.length_cons,List.length_nil];omega
   ·replace e:=bx e
    rw[hi.1 x,D8 hk,List.mem_append,List.mem_singleton]
    by_cases hx:x=Am.get f.words k
    ·subst hx;simp[e]
    ·simp[hx]
  ·cases e with
   |ret r=>exact he
   |nxt t=>
    obtain⟨h1,h2⟩:=he.elim id False.elim
    rw[List.take_length]at h1
    exact⟨h1,by omega⟩
  ·obtain⟨h1,h2⟩:=ht
   have key:∀bd':List Bs,(∀y,y∈bd'↔y∈(if QK f.kind then f.name::bd else bd))→bd'.length≤bd.length+1→Evt (fun n=>G9 (E7 n) f t bd') (fun r=>(∀x,x∈r↔x∈l∨fre f bd x)∧r.length≤l.length+3*ndF f):=by
    intro bd' hb hbl
    unfold G9
    refine Evt.C1 (P:=ExP (fun r=>(∀x,x∈r↔x∈t∨W8 f.subs bd' x)∧r.length≤t.length+3*T6 f.subs) (fun _=>False)) ((Evt.range (fun k s=>(∀x,x∈s↔x∈t∨W8 (f.subs.take k) bd' x)∧s.length≤t.length+3*T6 (f.subs.take k)) (fun _=>False) (fun _=>False) ⟨fun x=>by simp[W8],by omega⟩ (fun k s hk hi=>?_)).mono fun e he=>?_) (fun r hr=>?_) (fun _ h=>h.elim)
    ·unfold S4
     have hsz:=I6 hk
     have htk:=bE hk
     refine Evt.bind (ih _ (by omega) (sK hwf hk) bd' s (by omega) (by omega)) fun v hv=>Evt.pure ⟨fun x=>?_,?_⟩
     ·rw[hv.1 x,hi.1 x,D8 hk,yC,or_assoc]
     ·rw[D8 hk,gn]
      have:=hv.2
      have:=hi.2
      omega
    ·cases e with
     |ret r=>exact he
     |nxt r=>
      have:=he.elim id False.elim
      rw[List.take_length]at this
      exact this
    ·obtain⟨h3,h4⟩:=hr
     unfold S5
     refine Evt.pure ⟨fun x=>?_,by omega⟩
     rw[h3 x,h1 x,yw,lJ f.subs _ _ hb x,or_assoc]
   unfold S6
   simp only[aX,Option.bind_some]
   refine Evt.cond (fun e=>Evt.chk (by omega) (Evt.Q8 (Evt.chk ?_ (key _ (fun y=>?_) ?_)))) (fun e=>key _ (fun y=>?_) (by omega))
   ·rw[J4];simp only[List.length_append,List.length_cons,List.length_nil];omega
   ·replace e:=bx e
    rw[if_pos e];simp[or_comm]
   ·simp
   ·replace e:=bx e
    rw[if_neg e]
theorem kX{f:u5}(hwf:WfF f)(hn:ndF f≤50000):Evt (fun n=>N8 n f) (fun r=>(∀x,x∈r↔fre f [] x)∧r.length≤3*ndF f):=by
 unfold N8
 refine Evt.bind (Dz _ f (Nat.le_refl _) hwf [] [] (by simp;omega) (by simp;omega)) fun v hv=>?_
 obtain⟨h1,h2⟩:=hv
 simp only[List.length_nil,Nat.zero_add]at h2
 unfold H8 K6
 have hlen:(jH cfB v).length=v.length:=(cC cfB v).length_eq
 refine Evt.bind (Evt.chk (by omega) (Evt.pure (P:=fun r=>r=jH cfB v) rfl)) fun r hr=>?_
 subst hr
 refine Evt.bind (Evt.chk (by omega) (Evt.pure (P:=fun r=>True) trivial)) fun _ _=>Evt.pure ⟨fun x=>?_,?_⟩
 ·rw[sL,(cC cfB v).mem_iff,h1 x]
  simp
 ·have:=Lib.compact_length_le (jH cfB v)
  omega
theorem jJ:∀(m:Nat) (f:u5),SizeOf.sizeOf f≤m→ndF f≤100000→Evt (fun n=>C0 n f) (fun r=>r=qs f):=by
 intro m
 induction m with
 |zero=>intro f h;cases f;simp only[u5.mk.sizeOf_spec]at h;omega
 |succ m ih=>
  intro f hf hn
  have hnd:=kr f
  refine Evt.succ ?_
  simp only[C0,aX,Option.bind_some]
  have Iq:∀(l:List u5) (x:u5),qsL (l++[x])=qsL l++qs x:=fun l x=>by
   induction l with
   |nil=>simp[qsL]
   |cons a l ih=>rw[List.cons_append,qsL,qsL,ih,List.append_assoc]
  have key:∀l0:List Bs,l0=(if QK f.kind then [f.name]else [])→Evt (fun n=>J6 (C0 n) f l0) (fun r=>r=qs f):=by
   intro l0 h0
   have hl0:l0.length≤1:=by rw[h0];split<;>simp
   unfold J6
   refine Evt.C1 (P:=ExP (fun t=>t=l0++qsL f.subs) (fun _=>False)) ((Evt.range (fun k s=>s=l0++qsL (f.subs.take k)) (fun _=>False) (fun _=>False) (by simp[qsL]) (fun k s hk hi=>?_)).mono fun e he=>?_) (fun t ht=>?_) (fun _ h=>h.elim)
   ·subst hi
    unfold S9
    have hsz:=I6 hk
    have htk:=bE hk
    refine Evt.bind (ih _ (by omega) (by omega)) fun v hv=>Evt.Q8 (Evt.chk ?_ (Evt.pure ?_))
    ·subst hv
     have h1:=Al (f.subs.take k)
     have h2:=nO (Am.get f.subs k)
     have h3:=FH (f.subs.take k)
     have h4:=oW (Am.get f.subs k)
     rw[J4]
     simp only[List.length_append]
     omega
    ·subst hv
     show _=_
     rw[D8 hk,Iq,List.append_assoc]
   ·cases e with
    |ret r=>exact he
    |nxt t=>
     have:=he.elim id False.elim
     rw[List.take_length]at this
     exact this
   ·have ht:t=_:=ht
    subst ht
    unfold T2
    refine Evt.pure ?_
    rw[KB, ←h0]
  refine Evt.cond (fun e=>Evt.Q8 (Evt.chk (by simp[J4]) (key _ ?_))) (fun e=>key _ ?_)
  ·replace e:=bx e
   rw[if_pos e];rfl
  ·replace e:=bx e
   rw[if_neg e]
mutual
def Z0:u5→List u5
 | .mk k n w s=>.mk k n w s::av s
def av:List u5→List u5
 | []=>[]
 |x::l=>Z0 x++av l
end
theorem qI(f:u5):Z0 f=f::av f.subs:=by cases f;rw[Z0];rfl
mutual
theorem nQ:∀f:u5,(Z0 f).length=ndF f
 | .mk k n w s=>by rw[Z0,ndF,List.length_cons,uR s];omega
theorem uR:∀l:List u5,(av l).length=T6 l
 | []=>by rw[av,T6];rfl
 |x::l=>by rw[av,T6,List.length_append,nQ x,uR l]
end
def Oo(b:Nat)(g:u5)(it:IT):Prop:=it.kind=g.kind∧it.name=g.name∧it.words=g.words∧it.end_=((b+ndF g:Nat):Int)∧it.bound.length=g.words.length
mutual
theorem DA:∀(f:u5) (ar:List Bs) (b j:Nat),j<ndF f→Oo (b+j) (Am.get (Z0 f) j) (Am.get (Dy f ar b) j)
 | .mk k n w s,ar,b,0,_=>by
   rw[Dy,Z0]
   refine⟨rfl,rfl,rfl,?_,?_⟩
   ·show((b+(1+T6 s):Nat):Int)=_
    show _=((b+0+ndF (.mk k n w s):Nat):Int)
    rw[ndF];rfl
   ·show(w.map _).length=w.length
    simp
 | .mk k n w s,ar,b,j+1,h=>by
   rw[Dy,Z0]
   rw[ndF]at h
   have:=sM s (if QK k then n::ar else ar) (b+1) j (by omega)
   rw[show b+(j+1)=b+1+j by omega]
   exact this
theorem sM:∀(l:List u5) (ar:List Bs) (b j:Nat),j<T6 l→Oo (b+j) (Am.get (av l) j) (Am.get (lQ l ar b) j)
 | [],ar,b,j,h=>by rw[T6]at h;omega
 |x::l,ar,b,j,h=>by
  rw[T6]at h
  rw[lQ,av]
  by_cases hj:j<ndF x
  ·have:=DA x ar b j hj
   have e1:Am.get (Z0 x++av l) j=Am.get (Z0 x) j:=by
    unfold Am.get
    rw[List.getD_eq_getElem?_getD,List.getD_eq_getElem?_getD,List.getElem?_append_left (by rw[nQ];exact hj)]
   have e2:Am.get (Dy x ar b++lQ l ar (b+ndF x)) j=Am.get (Dy x ar b) j:=by
    unfold Am.get
    rw[List.getD_eq_getElem?_getD,List.getD_eq_getElem?_getD,List.getElem?_append_left (by rw[qH];exact hj)]
   rw[e1,e2];exact this
  ·have:=sM l ar (b+ndF x) (j-ndF x) (by omega)
   have e1:Am.get (Z0 x++av l) j=Am.get (av l) (j-ndF x):=by
    unfold Am.get
    rw[List.getD_eq_getElem?_getD,List.getD_eq_getElem?_getD,List.getElem?_append_right (by rw[nQ];omega),nQ]
   have e2:Am.get (Dy x ar b++lQ l ar (b+ndF x)) j=Am.get (lQ l ar (b+ndF x)) (j-ndF x):=by
    unfold Am.get
    rw[List.getD_eq_getElem?_getD,List.getD_eq_getElem?_getD,List.getElem?_append_right (by rw[qH];omega),qH]
   rw[e1,e2,show b+j=b+ndF x+(j-ndF x)by omega]
   exact this
end
theorem mQ:∀(l:List u5) (x:u5),av (l++[x])=av l++Z0 x
 | [],x=>by simp[av]
 |a::l,x=>by rw[List.cons_append,av,av,mQ l x,List.append_assoc]
def qJ(l:List u5)(x:Bs):Prop:=∃g∈l,g.kind=2∧g.name=x∧0<g.words.length
def sN(l:List u5)(x:Bs):Prop:=∃g∈l,g.kind=2∧g.name=x∧g.words.length=0
theorem qJ.app{l m:List u5}{x:Bs}:qJ (l++m) x↔qJ l x∨qJ m x:=by
 unfold qJ
 constructor
 ·rintro⟨g,hg,h⟩
  rcases List.mem_append.1 hg with hg|hg
  ·exact .inl ⟨g,hg,h⟩
  ·exact .inr ⟨g,hg,h⟩
 ·rintro(⟨g,hg,h⟩|⟨g,hg,h⟩)
  ·exact⟨g,List.mem_append.2 (.inl hg),h⟩
  ·exact⟨g,List.mem_append.2 (.inr hg),h⟩
theorem sN.app{l m:List u5}{x:Bs}:sN (l++m) x↔sN l x∨sN m x:=by
 unfold sN
 constructor
 ·rintro⟨g,hg,h⟩
  rcases List.mem_append.1 hg with hg|hg
  ·exact .inl ⟨g,hg,h⟩
  ·exact .inr ⟨g,hg,h⟩
 ·rintro(⟨g,hg,h⟩|⟨g,hg,h⟩)
  ·exact⟨g,List.mem_append.2 (.inl hg),h⟩
  ·exact⟨g,List.mem_append.2 (.inr hg),h⟩
theorem qJ.one{g:u5}{x:Bs}:qJ [g] x↔g.kind=2∧g.name=x∧0<g.words.length:=by
 unfold qJ;simp
theorem sN.one{g:u5}{x:Bs}:sN [g] x↔g.kind=2∧g.name=x∧g.words.length=0:=by
 unfold sN;simp
theorem KI:∀(m:Nat) (f:u5),SizeOf.sizeOf f≤m→∀x,Evt (fun n=>P5 n f x) (fun r=>(r.1=true↔qJ (Z0 f) x)∧(r.2=true↔sN (Z0 f) x)):=by
 intro m
 induction m with
 |zero=>intro f h;cases f;simp only[u5.mk.sizeOf_spec]at h;omega
 |succ m ih=>
  intro f hf x
  refine Evt.succ ?_
  simp only[P5]
  have key:∀j:Bool×Bool,(j.1=true↔qJ [f] x)→(j.2=true↔sN [f] x)→Evt (fun n=>W1 (P5 n) f x j) (fun r=>(r.1=true↔qJ (Z0 f) x)∧(r.2=true↔sN (Z0 f) x)):=by
   intro j h1 h2
   unfold W1
   refine Evt.C1 (P:=ExP (fun s:Bool×Bool=>(s.1=true↔qJ (f::av f.subs) x)∧(s.2=true↔sN (f::av f.subs) x)) (fun _=>False)) ((Evt.range (fun k s=>(s.1=true↔qJ ([f]++av (f.subs.take k)) x)∧(s.2=true↔sN ([f]++av (f.subs.take k)) x)) (fun _=>False) (fun _=>False) ⟨by simpa[av]using h1,by simpa[av]using h2⟩ (fun k s hk hi=>?_)).mono fun e he=>?_) (fun t ht=>?_) (fun _ h=>h.elim)
   ·unfold dx
    have hsz:=I6 hk
    refine Evt.bind (ih _ (by omega) x) fun v hv=>Evt.pure ⟨?_,?_⟩
    ·rw[D8 hk,mQ, ←List.append_assoc,qJ.app, ←hv.1, ←hi.1]
     cases s.1<;>simp
    ·rw[D8 hk,mQ, ←List.append_assoc,sN.app, ←hv.2, ←hi.2]
     cases s.2<;>simp
   ·cases e with
    |ret r=>exact he
    |nxt t=>
     have:=he.elim id False.elim
     rw[List.take_length]at this
     exact this
   ·unfold dy
    refine Evt.pure ?_
    rw[qI]
    exact ht
  refine Evt.cond (fun e=>key _ ?_ ?_) (fun e=>key _ ?_ ?_)
  ·replace e:=bx e
   rw[qJ.one];simp[e.1,e.2]
  ·replace e:=bx e
   rw[sN.one];simp[e.1,e.2]
  ·rw[qJ.one]
   refine⟨fun h=>(by cases h),fun h=>?_⟩
   simp[h.1,h.2.1]at e
  ·rw[sN.one]
   refine⟨fun h=>(by cases h),fun h=>?_⟩
   simp[h.1,h.2.1]at e
def jK(l:List IT)(x:Bs):Prop:=∃it∈l,∃m,m<it.words.length∧Am.get it.words m=x∧Am.get it.bound m=false
theorem jK.app{l m:List IT}{x:Bs}:jK (l++m) x↔jK l x∨jK m x:=by
 unfold jK
 constructor
 ·rintro⟨g,hg,h⟩
  rcases List.mem_append.1 hg with hg|hg
  ·exact .inl ⟨g,hg,h⟩
  ·exact .inr ⟨g,hg,h⟩
 ·rintro(⟨g,hg,h⟩|⟨g,hg,h⟩)
  ·exact⟨g,List.mem_append.2 (.inl hg),h⟩
  ·exact⟨g,List.mem_append.2 (.inr hg),h⟩
theorem jK.cons{a:IT}{l:List IT}{x:Bs}:jK (a::l) x↔jK [a] x∨jK l x:=by
 rw[←jK.app];rfl
theorem jK.nil{x:Bs}:¬jK [] x:=fun⟨_,h,_⟩=>by cases h
theorem get_map{α β:Type}[Inhabited α][Inhabited β](g:α→β){l:List α}{k:Nat}(h:k<l.length):Am.get (l.map g) k=g (Am.get l k):=by
 unfold Am.get
 rw[List.getD_eq_getElem?_getD,List.getD_eq_getElem?_getD,List.getElem?_map,List.getElem?_eq_getElem h]
 rfl
mutual
theorem FV:∀(f:u5) (ar:List Bs) (b:Nat) (x:Bs),jK (Dy f ar b) x↔fre f ar x
 | .mk k n w s,ar,b,x=>by
   rw[Dy,jK.cons,fre,uS s]
   refine or_congr_left ?_
   constructor
   ·rintro⟨it,hit,m,h1,h2,h3⟩
    rw[List.mem_singleton]at hit
    subst hit
    have h1:m<w.length:=h1
    have h2:Am.get w m=x:=h2
    have h3:Am.get (w.map fun x=>decide (x∈ar)) m=false:=h3
    rw[get_map _ h1,h2]at h3
    exact⟨V7.2 ⟨m,h1,h2⟩,of_decide_eq_false h3⟩
   ·rintro⟨h1,h2⟩
    obtain⟨m,h3,h4⟩:=V7.1 h1
    refine⟨_,List.mem_singleton.2 rfl,m,h3,h4,?_⟩
    show Am.get (w.map fun x=>decide (x∈ar)) m=false
    rw[get_map _ h3,h4]
    exact decide_eq_false h2
theorem uS:∀(l:List u5) (ar:List Bs) (b:Nat) (x:Bs),jK (lQ l ar b) x↔W8 l ar x
 | [],ar,b,x=>by rw[lQ,W8];exact⟨fun h=>jK.nil h,False.elim⟩
 |f::l,ar,b,x=>by rw[lQ,W8,jK.app,FV f,uS l]
end
def qsI(l:List IT):List Bs:=l.flatMap fun it=>if QK it.kind then [it.name]else []
mutual
theorem KJ:∀(f:u5) (ar:List Bs) (b:Nat),qsI (Dy f ar b)=qs f
 | .mk k n w s,ar,b=>by
   rw[Dy,qs]
   show(if QK k then [n]else [])++qsI _=_
   rw[Cb s]
theorem Cb:∀(l:List u5) (ar:List Bs) (b:Nat),qsI (lQ l ar b)=qsL l
 | [],ar,b=>by rw[lQ,qsL];rfl
 |f::l,ar,b=>by
  rw[lQ,qsL, ←KJ f ar b, ←Cb l ar (b+ndF f)]
  exact List.flatMap_append
end
def Jy(l:List Bs)(x:Bs)(r:Int):Prop:=(x∉l∧r= -1)∨∃j,j<l.length∧Am.get l j=x∧(∀i,i<j→Am.get l i≠x)∧r=(j:Int)
theorem Jy.mem{l:List Bs}{x:Bs}{r:Int}(h:Jy l x r):0≤r↔x∈l:=by
 rcases h with⟨h1,rfl⟩|⟨j,hj,e,_,rfl⟩
 ·exact⟨fun h=>absurd h (by decide),fun h=>absurd h h1⟩
 ·exact⟨fun _=>V7.2 ⟨j,hj,e⟩,fun _=>by omega⟩
def vns(s:w9):List Bs:=s.words++s.C4++s.parts
open Classical in
noncomputable def bV(s:w9)(i:Nat):Int:=
 if ¬B9 (Am.get (vns s) i)then 10
 else if Am.get (vns s) i∈(vns s).take i then 7
 else if i<s.words.length then(if fre s.form [] (Am.get (vns s) i)then 0 else 15)
 else if i<s.words.length+s.C4.length then(if qJ (Z0 s.form) (Am.get (vns s) i)∨sN (Z0 s.form) (Am.get (vns s) i)then 0 else 15)
 else if qJ (Z0 s.form) (Am.get (vns s) i)then 5 else if sN (Z0 s.form) (Am.get (vns s) i)then 0 else 15
def QOk(s:w9):Prop:=∀k,k<(qs s.form).length→Am.get (qs s.form) k∉ (qs s.form).take k∧Am.get (qs s.form) k∉s.words
def OkS(s:w9):Prop:=OkF s.form∧(vns s).length≤300∧(∀j,j<(vns s).length→bV s j=0)∧QOk s
def FB(step:Nat→Int)(N:Nat)(r:B1):Prop:=∃k,k<N∧(∀j,j<k→step j=0)∧step k≠0∧r=⟨step k,k⟩
theorem FB.uniq{step:Nat→Int}{N:Nat}{r r':B1}(h:FB step N r)(h':FB step N r'):r=r':=by
 obtain⟨k,_,h2,h3,rfl⟩:=h
 obtain⟨k',_,h2',h3',rfl⟩:=h'
 have:k=k':=by
  rcases Nat.lt_trichotomy k k' with h|h|h
  ·exact absurd (h2' k h) h3
  ·exact h
  ·exact absurd (h2 k' h) h3'
 rw[this]
def GY(s:w9)(r:B1):Prop:=
 (¬OkF s.form∧r=kW s.form)∨(OkF s.form∧300<(vns s).length∧r=⟨2, -1⟩)∨(OkF s.form∧(vns s).length≤300∧FB (bV s) (vns s).length r)∨
 (OkF s.form∧(vns s).length≤300∧(∀j,j<(vns s).length→bV s j=0)∧¬QOk s∧r=⟨7, -1⟩)∨(OkS s∧r=⟨0,0⟩)
theorem GY.code{s:w9}{r:B1}(h:GY s r)(h0:r.code=0):OkS s∧r=⟨0,0⟩:=by
 rcases h with⟨h1,rfl⟩|⟨_,_,rfl⟩|⟨_,_,k,_,_,h3,rfl⟩|⟨_,_,_,_,rfl⟩|h
 ·exact absurd ((fN _).1 h0) h1
 ·cases h0
 ·exact absurd h0 h3
 ·cases h0
 ·exact h
theorem GY.ok{s:w9}{r:B1}(h:GY s r)(h0:OkS s):r=⟨0,0⟩:=by
 obtain⟨k1,k2,k3,k4⟩:=h0
 rcases h with⟨h1,_⟩|⟨_,h1,_⟩|⟨_,_,k,h2,_,h3,_⟩|⟨_,_,_,h1,_⟩|⟨_,h⟩
 ·exact absurd k1 h1
 ·omega
 ·exact absurd (k3 k h2) h3
 ·exact absurd k4 h1
 ·exact h
theorem GY.uniq{s:w9}{r r':B1}(h:GY s r)(h':GY s r'):r=r':=by
 rcases h with⟨h1,rfl⟩|⟨h1,h2,rfl⟩|⟨h1,h2,h3⟩|⟨h1,h2,h3,h4,rfl⟩|⟨h1,rfl⟩
 ·rcases h' with⟨k1,rfl⟩|⟨k1,_⟩|⟨k1,_⟩|⟨k1,_⟩|⟨k1,_⟩
  ·rfl
  ·exact absurd k1 h1
  ·exact absurd k1 h1
  ·exact absurd k1 h1
  ·exact absurd k1.1 h1
 ·rcases h' with⟨k1,_⟩|⟨_,_,rfl⟩|⟨_,k2,_⟩|⟨_,k2,_⟩|⟨k1,_⟩
  ·exact absurd h1 k1
  ·rfl
  ·omega
  ·omega
  ·exact absurd k1.2.1 (by omega)
 ·rcases h' with⟨k1,_⟩|⟨_,k2,_⟩|⟨_,_,k3⟩|⟨_,_,k3,_⟩|⟨k1,_⟩
  ·exact absurd h1 k1
  ·omega
  ·exact h3.uniq k3
  ·obtain⟨k,a,_,b,_⟩:=h3;exact absurd (k3 k a) b
  ·obtain⟨k,a,_,b,_⟩:=h3;exact absurd (k1.2.2.1 k a) b
 ·rcases h' with⟨k1,_⟩|⟨_,k2,_⟩|⟨_,_,k3⟩|⟨_,_,_,_,rfl⟩|⟨k1,_⟩
  ·exact absurd h1 k1
  ·omega
  ·obtain⟨k,a,_,b,_⟩:=k3;exact absurd (h3 k a) b
  ·rfl
  ·exact absurd k1.2.2.2 h4
 ·exact(GY.ok h' h1).symm
def SB(s:w9):Prop:=s.words.length≤1048576∧s.C4.length≤1048576∧s.parts.length≤1048576∧∀x∈vns s,x.length≤8000000
theorem wo(s:w9):(vns s).length=s.words.length+s.C4.length+s.parts.length:=by unfold vns;simp only[List.length_append]
theorem sO{s:w9}(hb:SB s):Evt (fun n=>ay n s) (GY s):=by
 obtain⟨b1,b2,b3,_⟩:=hb
 have hvl:=wo s
 unfold ay
 refine Evt.bind (R2 s.form) fun v hv=>?_
 subst hv
 refine Evt.cond (fun e=>Evt.pure (.inl ⟨fun h=>?_,rfl⟩)) (fun e=>?_)
 ·rw[nP h]at e;simp at e
 replace e:=bx e
 have hok:OkF s.form:=(fN _).1 e
 unfold R3 oU
 have hfl: [s.words,s.C4,s.parts].flatten=vns s:=by unfold vns;simp
 simp only[Option.bind_assoc,Option.bind_some,hfl]
 refine Evt.bind (P:=fun v=>v=vns s) (Evt.chk (by rw[hvl];simp;omega) (Evt.pure rfl)) fun v hv=>?_
 subst hv
 refine Evt.cond (fun e=>?_) (fun e=>?_)
 ·replace e:=bx e
  exact Evt.pure (.inr (.inl ⟨hok,by omega,rfl⟩))
 replace e:=bx e
 have h300:(vns s).length≤300:=by omega
 refine Evt.bind (kX hok.1 (by have:=hok.2.1;omega)) fun v4 hv4=>?_
 replace hv4:=hv4.1
 have hwl:wr .i64 ((s.words.length:Int)+(s.C4.length:Int))=((s.words.length+s.C4.length:Nat):Int):=by rw[iy (by omega) (by omega)];omega
 refine Evt.C1 (Evt.scan (fun k _=>∀j,j<k→bV s j=0) (fun k r=>bV s k≠0∧r=⟨bV s k,(k:Int)⟩) (fun j hj=>absurd hj (Nat.not_lt_zero _)) (fun k u hk hi=>?_)) (fun t ht=>?_) (fun r hr=>?_)
 ·have bad:∀c:Int,c≠0→bV s k=c→Evt (fun _:Nat=>(J2 c (k:Int)).bind fun v=>some (Ctl.ret (σ:=Unit) (τ:=Unit) v)) (Jt (fun _:Unit=>∀j,j<k+1→bV s j=0) (fun _=>False) (fun r=>bV s k≠0∧r=⟨bV s k,(k:Int)⟩)):=fun c hc h=>by
   unfold J2
   exact Evt.pure ⟨by rw[h];exact hc,by rw[h]⟩
  have good:bV s k=0→Evt (fun _:Nat=>some (Ctl.nxt (ρ:=B1) (τ:=Unit) ())) (Jt (fun _:Unit=>∀j,j<k+1→bV s j=0) (fun _=>False) (fun r=>bV s k≠0∧r=⟨bV s k,(k:Int)⟩)):=fun h=>Evt.pure fun j hj=>by
   by_cases ej:j=k
   ·subst ej;exact h
   ·exact hi j (by omega)
  unfold Z9
  refine Evt.bind (Z1 _) fun v17 hv17=>Evt.cond (fun e=>bad 10 (by decide) ?_) (fun e=>?_)
  ·replace e:=bx e
   have:¬B9 (Am.get (vns s) k):=fun h=>by rw[(K5 hv17).2 h]at e;cases e
   unfold bV;rw[if_pos this]
  replace e:=bx e
  have s1:¬ ¬B9 (Am.get (vns s) k):=fun h=>h ((K5 hv17).1 e)
  refine Evt.chk (by omega) ?_
  simp only[F9,Option.bind_some]
  refine Evt.cond (fun e=>bad 7 (by decide) ?_) (fun e=>?_)
  ·replace e:=bx e
   unfold bV;rw[if_neg s1,if_pos e]
  replace e:=bx e
  have s2:=e
  refine Evt.bind (KI _ s.form (Nat.le_refl _) _) fun v23 hv23=>Evt.cond (fun e=>?_) (fun e=>?_)
  ·replace e:=bx e
   have s3:k<s.words.length:=by omega
   refine Evt.cond (fun e=>bad 15 (by decide) ?_) (fun e=>good ?_)
   ·replace e:=bx e
    rw[hv4]at e
    unfold bV;rw[if_neg s1,if_neg s2,if_pos s3,if_neg e]
   ·replace e:=bx e
    rw[hv4]at e
    unfold bV;rw[if_neg s1,if_neg s2,if_pos s3,if_pos e]
  ·replace e:=bx e
   have s3:¬k<s.words.length:=by omega
   rw[hwl]
   refine Evt.cond (fun e=>?_) (fun e=>?_)
   ·replace e:=bx e
    have s4:k<s.words.length+s.C4.length:=by omega
    refine Evt.cond (fun e=>bad 15 (by decide) ?_) (fun e=>good ?_)
    ·replace e:=bx e
     have:¬(qJ (Z0 s.form) (Am.get (vns s) k)∨sN (Z0 s.form) (Am.get (vns s) k)):=by
      rw[←hv23.1, ←hv23.2]
      simp[e.1,e.2]
     unfold bV;rw[if_neg s1,if_neg s2,if_neg s3,if_pos s4,if_neg this]
    ·have:qJ (Z0 s.form) (Am.get (vns s) k)∨sN (Z0 s.form) (Am.get (vns s) k):=by
      rw[←hv23.1, ←hv23.2]
      cases h1:v23.1
      ·cases h2:v23.2
       ·simp[h1,h2]at e
       ·exact .inr rfl
      ·exact .inl rfl
     unfold bV;rw[if_neg s1,if_neg s2,if_neg s3,if_pos s4,if_pos this]
   ·replace e:=bx e
    have s4:¬k<s.words.length+s.C4.length:=by omega
    refine Evt.cond (fun e=>bad 5 (by decide) ?_) (fun e=>?_)
    ·have:=hv23.1.1 e
     unfold bV;rw[if_neg s1,if_neg s2,if_neg s3,if_neg s4,if_pos this]
    ·have s5:¬qJ (Z0 s.form) (Am.get (vns s) k):=by rw[←hv23.1];simp[e]
     refine Evt.cond (fun e=>bad 15 (by decide) ?_) (fun e=>good ?_)
     ·replace e:=bx e
      have:¬sN (Z0 s.form) (Am.get (vns s) k):=by rw[←hv23.2];simp[e]
      unfold bV;rw[if_neg s1,if_neg s2,if_neg s3,if_neg s4,if_neg s5,if_neg this]
     ·replace e:=bx e
      have:=hv23.2.1 e
      unfold bV;rw[if_neg s1,if_neg s2,if_neg s3,if_neg s4,if_neg s5,if_pos this]
 ·unfold ah
  refine Evt.bind (jJ _ s.form (Nat.le_refl _) (by have:=hok.2.1;omega)) fun v29 hv29=>?_
  subst hv29
  have hql:(qs s.form).length≤200:=by rw[nO];have:=oW s.form;have:=hok.2.1;omega
  refine Evt.C1 (Evt.scan (fun k _=>∀j,j<k→Am.get (qs s.form) j∉ (qs s.form).take j∧Am.get (qs s.form) j∉s.words) (fun k r=>r=⟨7, -1⟩∧¬QOk s) (fun j hj=>absurd hj (Nat.not_lt_zero _)) (fun k u hk hi=>?_)) (fun u hu=>?_) (fun r hr=>?_)
  ·unfold aj
   refine Evt.chk (by omega) ?_
   simp only[F9,Option.bind_some]
   refine Evt.bind (P:=fun v=>Am.get (qs s.form) k∉ (qs s.form).take k→(v=true↔Am.get (qs s.form) k∈s.words)) (Evt.gd (fun g=>Evt.pure fun _=>by simp) (fun g h=>by simp[h]at g)) fun v38 hv38=>Evt.cond (fun e=>?_) (fun e=>Evt.pure fun j hj=>?_)
   ·replace e:=bx e
    refine Evt.pure ⟨rfl,fun h=>?_⟩
    obtain⟨h1,h2⟩:=h k hk
    rcases e with e|e
    ·exact h1 e
    ·exact h2 ((hv38 h1).1 e)
   ·by_cases ej:j=k
    ·subst ej
     by_cases h1:Am.get (qs s.form) j∈(qs s.form).take j
     ·simp[h1]at e
     ·refine⟨h1,fun h2=>?_⟩
      have:=(hv38 h1).2 h2
      simp[this]at e
    ·exact hi j (by omega)
  ·unfold ak
   exact Evt.pure (.inr (.inr (.inr (.inr ⟨⟨hok,h300,ht,hu⟩,rfl⟩))))
  ·obtain⟨k,_,_,_,rfl,h⟩:=hr
   exact .inr (.inr (.inr (.inl ⟨hok,h300,ht,h,rfl⟩)))
 ·obtain⟨k,_,hk,hi,h1,h2⟩:=hr
  exact .inr (.inr (.inl ⟨hok,h300,k,hk,hi,h1,h2⟩))
theorem iY{s:Bs}(hl:s.length≤8000000):Evt (fun n=>N6 n s) (fun b=>b=vW s):=by
 unfold N6
 refine Evt.C1 (Evt.vY s.length (fun k i=>i=(k:Int)∧∀j,j<k→OkC (L4 s (j:Int))∧(j=0→97≤L4 s 0∧L4 s 0≤122)) (fun _=>∀j,j<s.length→OkC (L4 s (j:Int))∧(j=0→97≤L4 s 0∧L4 s 0≤122)) (fun b=>b=false∧¬B9 s) ⟨rfl,fun j hj=>absurd hj (Nat.not_lt_zero _)⟩ (fun k i hk hi=>?_) (fun i hi=>?_)) (fun t ht=>?_) (fun r hr=>?_)
 ·obtain⟨rfl,hi⟩:=hi
  unfold N2
  refine Evt.cond (fun _=>Evt.chk (by omega) ?_) (fun e=>by replace e:=bx e;omega)
  have key:OkC (L4 s (k:Int))∧(k=0→97≤L4 s 0∧L4 s 0≤122)↔((97≤L4 s (k:Int)∧L4 s (k:Int)≤122)∨(0<(k:Int)∧(((48≤L4 s (k:Int)∧L4 s (k:Int)≤57)∨L4 s (k:Int)=95)∨L4 s (k:Int)=45))):=by
   unfold OkC
   by_cases hk0:k=0
   ·subst hk0
    simp only[Int.ofNat_zero,forall_const,Int.lt_irrefl,false_and,or_false]
    exact⟨fun h=>h.2,fun h=>⟨.inl h,h⟩⟩
   ·have:0<(k:Int):=by omega
    simp only[this,hk0,false_implies,and_true,true_and,or_assoc]
  refine Evt.cond (fun e=>Evt.pure ⟨rfl,fun hn=>?_⟩) (fun e=>Evt.pure ?_)
  ·have h2:=key.1 ⟨hn.2.2.2 k hk,fun h0=>hn.2.2.1⟩
   replace e:=bx e
   omega
  ·rw[iy (by omega) (by omega)]
   refine⟨rfl,fun j hj=>?_⟩
   by_cases ej:j=k
   ·subst ej
    refine key.2 ?_
    replace e:=bx e
    omega
   ·exact hi j (by omega)
 ·obtain⟨rfl,hi⟩:=hi
  unfold N2
  exact Evt.cond (fun e=>by replace e:=bx e;omega) (fun _=>Evt.pure hi)
 ·unfold T3
  refine Evt.pure ?_
  by_cases h1:0<s.length
  ·by_cases h2:s.length≤30
   ·have:decide (0<(s.length:Int))=true:=decide_eq_true (by omega)
    have h3:decide ((s.length:Int)≤30)=true:=decide_eq_true (by omega)
    rw[this,h3]
    exact(uP ⟨h1,h2,(ht 0 h1).2 rfl,fun k hk=>(ht k hk).1⟩).symm
   ·have h3:decide ((s.length:Int)≤30)=false:=decide_eq_false (by omega)
    rw[h3,iD fun h=>h2 h.2.1]
    cases decide (0<(s.length:Int))<;>rfl
  ·have:decide (0<(s.length:Int))=false:=decide_eq_false (by omega)
   rw[this,iD fun h=>h1 h.1]
   rfl
 ·rw[hr.1,iD hr.2]
theorem yD{l:List Bs}{k:Nat}(hk:k≤l.length){x:Bs}:x∈l.take k↔ ∃j,j<k∧Am.get l j=x:=by
 rw[V7,List.length_take,Nat.min_eq_left hk]
 have hg:∀j,j<k→Am.get (l.take k) j=Am.get l j:=fun j hj=>by
  unfold Am.get
  rw[List.getD_eq_getElem?_getD,List.getD_eq_getElem?_getD,List.getElem?_take_of_lt hj]
 exact⟨fun⟨j,hj,e⟩=>⟨j,hj,by rw[←hg j hj];exact e⟩,fun⟨j,hj,e⟩=>⟨j,hj,by rw[hg j hj];exact e⟩⟩
mutual
theorem Ir:∀(f:u5),WfF f→∀g∈Z0 f,WfF g
 | .mk k n w s,h,g,hg=>by
   rw[qI]at hg
   rcases List.mem_cons.1 hg with rfl|hg
   ·exact h
   ·exact yE s ((Z4 _).1 h).2 g hg
theorem yE:∀(l:List u5),gY l→∀g∈av l,WfF g
 | [],_,g,hg=>by rw[av]at hg;cases hg
 |f::l,h,g,hg=>by
  rw[av]at hg
  rcases List.mem_append.1 hg with hg|hg
  ·exact Ir f (N0.1 h f (List.mem_cons_self ..)) g hg
  ·exact yE l (N0.2 fun x hx=>N0.1 h x (List.mem_cons_of_mem _ hx)) g hg
end
theorem jK.one{it:IT}{x:Bs}:jK [it] x↔ ∃m,m<it.words.length∧Am.get it.words m=x∧Am.get it.bound m=false:=by
 unfold jK;simp
def dval(l:Bs):Nat:=l.foldl (fun a c=>10*a+(c.toNat-48)) 0
theorem Cc(u:Nat):dval (Lib.decDigits u)=u:=by
 induction u using Nat.strongRecOn with
 | _ u ih=>
   by_cases h:u<10
   ·rw[Lib.decDigits,dif_pos h]
    unfold dval
    simp only[List.foldl_cons,List.foldl_nil,UInt8.toNat_ofNat']
    omega
   ·rw[Lib.decDigits,dif_neg h]
    unfold dval
    rw[List.foldl_append]
    have:=ih (u / 10) (by omega)
    unfold dval at this
    rw[this]
    simp only[List.foldl_cons,List.foldl_nil,UInt8.toNat_ofNat']
    omega
theorem wq{u v:Nat}(h:Lib.decDigits u=Lib.decDigits v):u=v:=by rw[←Cc u,h,Cc]
def vn(m:Nat):Bs:=118::Lib.decDigits m
theorem Jz{u v:Nat}(h:vn u=vn v):u=v:=wq (List.cons.inj h).2
def mk(m:Nat):Bs:=33::Lib.decDigits m
theorem Ar{m:Nat}(h:m≤1000000000):(Lib.decDigits m).length≤21:=by
 have:=Lib.itoa_length_le (m:Int) (by omega) (by omega)
 rwa[Lib.itoa_nonneg]at this
def GZ(p:Bs→Prop)(j m:Nat):Prop:=j≤m∧¬p (vn m)∧∀k,j≤k→k<m→p (vn k)
theorem GZ.uniq{p:Bs→Prop}{j m m':Nat}(h:GZ p j m)(h':GZ p j m'):m=m':=by
 rcases Nat.lt_trichotomy m m' with e|e|e
 ·exact absurd (h'.2.2 m h.1 e) h.2.1
 ·exact e
 ·exact absurd (h.2.2 m' h'.1 e) h'.2.1
theorem GZ.congr{p q:Bs→Prop}(hpq:∀x,p x↔q x){j m:Nat}(h:GZ p j m):GZ q j m:=⟨h.1,fun e=>h.2.1 ((hpq _).2 e),fun k a b=>(hpq _).1 (h.2.2 k a b)⟩
theorem Cd:∀(n:Nat) (C:List Bs) (g:Nat→Bs),C.length=n→(∀i j,g i=g j→i=j)→∃m,m≤n∧g m∉C
 |0,C,g,h,_=>⟨0,Nat.le_refl _,by rw[List.length_eq_zero_iff.1 h];exact List.not_mem_nil⟩
 |n+1,C,g,h,hg=>by
  by_cases hm:g (n+1)∈C
  ·obtain⟨m,h1,h2⟩:=Cd n (C.erase (g (n+1))) g (by rw[List.length_erase_of_mem hm,h];rfl) hg
   refine⟨m,by omega,fun h3=>h2 ((List.mem_erase_of_ne fun e=>?_).2 h3)⟩
   have:=hg _ _ e
   omega
  ·exact⟨n+1,Nat.le_refl _,hm⟩
theorem Oq{p:Bs→Prop}{C:List Bs}(hC:∀x,p x→x∈C)(j:Nat):∃m,GZ p j m∧m≤j+C.length:=by
 obtain⟨m,h1,h2⟩:=Cd _ C (fun i=>vn (j+i)) rfl (fun a b e=>by have:=Jz e;omega)
 have key:∀d j,(∃m,j≤m∧m≤j+d∧¬p (vn m))→∃m,GZ p j m∧m≤j+d:=by
  intro d
  induction d with
  |zero=>
   rintro j ⟨m,a,b,c⟩
   obtain rfl:m=j:=by omega
   exact⟨m,⟨Nat.le_refl _,c,fun k a b=>absurd a (by omega)⟩,by omega⟩
  |succ d ih=>
   rintro j ⟨m,a,b,c⟩
   by_cases hp:p (vn j)
   ·have hne:j≠m:=fun e=>c (e▸hp)
    obtain⟨m',e1,e2⟩:=ih (j+1) ⟨m,by omega,by omega,c⟩
    refine⟨m',⟨by have:=e1.1;omega,e1.2.1,fun k a b=>?_⟩,by omega⟩
    by_cases ek:k=j
    ·rw[ek];exact hp
    ·exact e1.2.2 k (by omega) b
   ·exact⟨j,⟨Nat.le_refl _,hp,fun k a b=>absurd a (by omega)⟩,by omega⟩
 exact key _ j ⟨j+m,by omega,by omega,fun hp=>h2 (hC _ hp)⟩
open Classical in
noncomputable def nx(p:Bs→Prop)(j:Nat):Nat:=Classical.epsilon fun m=>GZ p j m
theorem Au{p:Bs→Prop}{C:List Bs}(hC:∀x,p x→x∈C)(j:Nat):GZ p j (nx p j):=Classical.epsilon_spec ((Oq hC j).imp fun _ h=>h.1)
theorem KL{p:Bs→Prop}{C:List Bs}(hC:∀x,p x→x∈C)(j:Nat):nx p j≤j+C.length:=by
 obtain⟨m,h1,h2⟩:=Oq hC j
 rw[(Au hC j).uniq h1];exact h2
noncomputable def num(p:Bs→Prop):Nat→Nat
 |0=>nx p 0
 |i+1=>nx p (num p i+1)
noncomputable def NN(p:Bs→Prop)(i:Nat):Bs:=vn (num p i)
theorem FW{p:Bs→Prop}{C:List Bs}(hC:∀x,p x→x∈C)(i:Nat):¬p (NN p i):=by
 cases i with
 |zero=>exact(Au hC _).2.1
 |succ i=>exact(Au hC _).2.1
theorem yF{p:Bs→Prop}{C:List Bs}(hC:∀x,p x→x∈C)(L:Nat)(hL:C.length≤L):∀i,num p i≤(i+1)*(L+1)
 |0=>by have:=KL hC 0;show nx p 0≤_;omega
 |i+1=>by
  have:=KL hC (num p i+1)
  have:=yF hC L hL i
  show nx p (num p i+1)≤_
  rw[Nat.succ_mul (i+1)]
  omega
theorem FX{p:Bs→Prop}{C:List Bs}(hC:∀x,p x→x∈C):∀i j,i<j→num p i<num p j
 |i,0,h=>absurd h (Nat.not_lt_zero _)
 |i,j+1,h=>by
  have h1:=(Au hC (num p j+1)).1
  show _<nx p (num p j+1)
  by_cases e:i=j
  ·subst e;omega
  ·have:=FX hC i j (by omega);omega
theorem Ot{p:Bs→Prop}{C:List Bs}(hC:∀x,p x→x∈C){i j:Nat}(h:NN p i=NN p j):i=j:=by
 have e:=Jz h
 rcases Nat.lt_trichotomy i j with h|h|h
 ·have:=FX hC _ _ h;omega
 ·exact h
 ·have:=FX hC _ _ h;omega
def oX(K V:Nat→Bs):Nat→List (Bs×Bs)
 |0=>[]
 |k+1=>(K k,V k)::oX K V k
theorem sP{K K' V V':Nat→Bs}:∀ {n:Nat},(∀k,k<n→K k=K' k∧V k=V' k)→oX K V n=oX K' V' n
 |0,_=>rfl
 |n+1,h=>by rw[oX,oX,(h n (by omega)).1,(h n (by omega)).2,sP fun k hk=>h k (by omega)]
theorem Ou{ρ:Type}(K V:Nat→Bs)(L:Nat)(hL:L≤8000000)(w:Bs)(body:Int→Option (Ctl ρ Int Bs))(hb:∀k,k<L→body (k:Int)=bif decide (K k=w)then some (.brk (V k))else some (.nxt (wr .i64 ((k:Int)-1))))(h0:body (-1)=some (.brk w)):
 Evt (fun n=>bM body n (wr .i64 ((L:Int)-1))) (ExP (fun t=>t=sub (oX K V L) w) (fun _=>False)):=by
 have hw:wr .i64 ((L:Int)-1)=(L:Int)-1:=iy (by omega) (by omega)
 rw[hw]
 refine Evt.vY L (fun k s=>∃m:Nat,s=(m:Int)-1∧m+k=L∧sub (oX K V L) w=sub (oX K V m) w) _ _ ⟨L,rfl,rfl,rfl⟩ (fun k s hk hs=>?_) (fun s hs=>?_)
 ·obtain⟨m,rfl,hm,he⟩:=hs
  obtain⟨m,rfl⟩:∃j,m=j+1:=⟨m-1,by omega⟩
  have e1:((m+1:Nat):Int)-1=(m:Int):=by omega
  rw[e1,hb m (by omega)]
  refine Evt.cond (fun e=>Evt.pure ?_) (fun e=>Evt.pure ?_)
  ·replace e:=bx e
   show V m=_
   rw[he,oX,K1,if_pos e]
  ·replace e:=bx e
   refine⟨m,iy (by omega) (by omega),by omega,?_⟩
   rw[he,oX,K1,if_neg e]
 ·obtain⟨m,rfl,hm,he⟩:=hs
  obtain rfl:m=0:=by omega
  show Evt (fun _=>body (-1)) _
  rw[h0]
  refine Evt.pure ?_
  rw[he,oX,mP]
  exact rfl
theorem iZ:∀(l:List u5) (x:u5),nqL (l++[x])=nqL l+nq x
 | [],x=>by simp[nqL]
 |a::l,x=>by rw[List.cons_append,nqL,nqL,iZ l x,Nat.add_assoc]
theorem lK{l:List u5}{k:Nat}(h:k<l.length):nqL (l.take k)+nq (Am.get l k)≤nqL l:=by
 have e:l=l.take (k+1)++l.drop (k+1):=(List.take_append_drop _ _).symm
 have:∀(l m:List u5),nqL (l++m)=nqL l+nqL m:=fun l m=>by
  induction l with
  |nil=>simp[nqL]
  |cons a l ih=>rw[List.cons_append,nqL,nqL,ih,Nat.add_assoc]
 rw[←iZ, ←D8 h]
 have:=this (l.take (k+1)) (l.drop (k+1))
 rw[←e]at this
 omega
theorem gq(N:Nat→Bs):∀(l:List u5) (x:u5) (env:List (Bs×Bs)) (i:Nat),I7 N (l++[x]) env i=I7 N l env i++[ren N x env (i+nqL l)]
 | [],x,env,i=>by simp[I7,nqL]
 |a::l,x,env,i=>by rw[List.cons_append,I7,I7,gq N l x,nqL,Nat.add_assoc];rfl
theorem oY{m:Nat}(hm:m≤1000000000):itoa (m:Int)=some (Lib.decDigits m):=by
 unfold itoa
 rw[sk (by omega),Lib.itoa_nonneg]
theorem yG{C:List Bs}{p:Bs→Prop}(hC:∀x,x∈C↔p x){b:Nat}(hb:b+C.length≤100000000):Evt (fun n=>eN n (b:Int) C) (fun r=>r=(vn (nx p b),((nx p b+1:Nat):Int))):=by
 unfold eN
 have h:=Au (fun x=>(hC x).2) b
 have hle:=KL (fun x=>(hC x).2) b
 have step:∀m:Nat,m≤100000000→bF C (m:Int)=bif (!decide (vn m∈C))then some (.ret (vn m,((m+1:Nat):Int)))else some (.nxt ((m+1:Nat):Int)):=fun m hm=>by
  unfold bF
  have hl:=Ar (m:=m) (by omega)
  have hw:wr .i64 ((m:Int)+1)=((m+1:Nat):Int):=by rw[iy (by omega) (by omega)];rfl
  have e:lP [118] (Lib.decDigits m)=vn m:=rfl
  rw[oY (by omega),Option.bind_some,sk (show M5 _ _ by unfold M5;simp;omega),e,F9,Option.bind_some,hw]
 refine Evt.C1 (Evt.vY (nx p b-b) (fun k s=>s=((b+k:Nat):Int)) (fun _=>False) (fun r=>r=(vn (nx p b),((nx p b+1:Nat):Int))) rfl (fun k s hk hs=>?_) (fun s hs=>?_)) (fun _ ht=>ht.elim) (fun r hr=>hr)
 ·subst hs
  rw[step _ (by omega)]
  have hm:vn (b+k)∈C:=(hC _).2 (h.2.2 _ (by omega) (by omega))
  simp only[hm,decide_true,Bool.not_true,cond_false]
  exact Evt.pure rfl
 ·subst hs
  have e:b+(nx p b-b)=nx p b:=by have:=h.1;omega
  rw[e,step _ (by omega)]
  have hm:vn (nx p b)∉C:=fun hm=>h.2.1 ((hC _).1 hm)
  simp only[hm,decide_false,Bool.not_false,cond_true]
  exact Evt.pure rfl
def oZ(env:List B0):List (Bs×Bs):=oX (fun k=>(Am.get env k).from_) (fun k=>(Am.get env k).to_) env.length
theorem Ce{α:Type}[Inhabited α](l:List α)(x:α):Am.get (l++[x]) l.length=x∧∀k,k<l.length→Am.get (l++[x]) k=Am.get l k:=by
 unfold Am.get
 refine⟨by simp,fun k hk=>?_⟩
 rw[List.getD_eq_getElem?_getD,List.getD_eq_getElem?_getD,List.getElem?_append_left hk]
theorem yH(env:List B0)(a b:Bs):oZ (env++[⟨a,b⟩])=(a,b)::oZ env:=by
 unfold oZ
 rw[List.length_append,List.length_singleton,oX,(Ce env _).1]
 congr 1
 exact sP fun k hk=>by rw[(Ce env _).2 k hk];exact⟨rfl,rfl⟩
theorem DB{p:Bs→Prop}{C:List Bs}(hC:∀x,x∈C↔p x)(hCl:C.length≤10000):∀(m:Nat) (f:u5),SizeOf.sizeOf f≤m→WfF f→∀(env:List B0) (i b:Nat),env.length+ndF f≤100000→i+nq f≤1000→nx p b=num p i→
 Evt (fun n=>G7 n f env (b:Int) C) (fun r=>r.1=ren (NN p) f (oZ env) i∧∃b':Nat,r.2=(b':Int)∧nx p b'=num p (i+nq f)):=by
 intro m
 have hC2:∀x,p x→x∈C:=fun x=>(hC x).2
 induction m with
 |zero=>intro f h;cases f;simp only[u5.mk.sizeOf_spec]at h;omega
 |succ m ih=>
  intro f hf hwf env i b Cg hi hb
  have hnd:=kr f
  have hws:=yA hwf
  have hsl:=wm hwf
  have hnq:=FE f
  refine Evt.succ ?_
  simp only[G7]
  refine Evt.C1 (P:=ExP (fun t=>t=f.words.map (sub (oZ env))) (fun _=>False)) ((Evt.range (fun k s=>s=(f.words.take k).map (sub (oZ env))) (fun _=>False) (fun _=>False) (by simp) (fun k s hk hs=>?_)).mono fun e he=>?_) (fun t ht=>?_) (fun _ h=>h.elim)
  ·unfold aA
   refine Evt.C1 (Ou (fun k=>(Am.get env k).from_) (fun k=>(Am.get env k).to_) env.length (by omega) (Am.get f.words k) (P0 env f k) (fun j hj=>?_) rfl) (fun t ht=>?_) (fun _ h=>h.elim)
   ·unfold P0
    have e1:decide (0≤(j:Int))=true:=decide_eq_true (by omega)
    rw[e1,cond_true,sk (by omega)]
    rfl
   ·unfold aB
    refine Evt.Q8 (Evt.chk ?_ (Evt.pure ?_))
    ·subst hs
     rw[J4];simp only[List.length_append,List.length_map,List.length_take,List.length_cons,List.length_nil];omega
    ·show _=_
     have ht:t=sub (oZ env) (Am.get f.words k):=ht
     rw[hs,ht,D8 hk,List.map_append];rfl
  ·cases e with
   |ret r=>exact he
   |nxt t=>
    have:=he.elim id False.elim
    rw[List.take_length]at this
    exact this
  ·subst ht
   have key:∀(env':List B0) (nm:Bs) (j c:Nat),nm=(if QK f.kind then NN p i else f.name)→oZ env'=(if QK f.kind then(f.name,NN p i)::oZ env else oZ env)→j=i+(if QK f.kind then 1 else 0)→nx p c=num p j→env'.length≤env.length+1→
    Evt (fun n=>L5 (G7 n) f C (f.words.map (sub (oZ env))) ((c:Int),nm,env')) (fun r=>r.1=ren (NN p) f (oZ env) i∧∃b':Nat,r.2=(b':Int)∧nx p b'=num p (i+nq f)):=by
    intro env' nm j c hnm KM hj hc hlen
    have hjn:j+nqL f.subs=i+nq f:=by omega
    unfold L5
    refine Evt.C1 (P:=ExP (fun t=>t.2=I7 (NN p) f.subs (oZ env') j∧∃b':Nat,t.1=(b':Int)∧nx p b'=num p (j+nqL f.subs)) (fun _=>False)) ((Evt.range (fun k s=>s.2=I7 (NN p) (f.subs.take k) (oZ env') j∧∃b':Nat,s.1=(b':Int)∧nx p b'=num p (j+nqL (f.subs.take k))) (fun _=>False) (fun _=>False) ⟨by simp[I7],c,rfl,by simpa[nqL]using hc⟩ (fun k s hk hs=>?_)).mono fun e he=>?_) (fun t ht=>?_) (fun _ h=>h.elim)
    ·obtain⟨hs1,b',hs2,hs3⟩:=hs
     unfold aC
     have hsz:=I6 hk
     have htk:=bE hk
     have hqk:=lK hk
     refine Evt.bind (P:=fun r=>r.1=ren (NN p) (Am.get f.subs k) (oZ env') (j+nqL (f.subs.take k))∧∃b'':Nat,r.2=(b'':Int)∧nx p b''=num p (j+nqL (f.subs.take k)+nq (Am.get f.subs k))) ?_ fun v hv=>Evt.Q8 (Evt.chk ?_ (Evt.pure ?_))
     ·rw[hs2]
      exact ih _ (by omega) (sK hwf hk) env' _ b' (by omega) (by omega) hs3
     ·rw[J4,hs1];simp only[List.length_append,bP,List.length_take,List.length_cons,List.length_nil];omega
     ·obtain⟨hv1,b'',hv2,hv3⟩:=hv
      refine⟨?_,b'',hv2,?_⟩
      ·show s.2++[v.1]=_
       rw[hs1,hv1,D8 hk,gq]
      ·rw[hv3,D8 hk,iZ,Nat.add_assoc]
    ·cases e with
     |ret r=>exact he
     |nxt t=>
      have:=he.elim id False.elim
      rw[List.take_length]at this
      exact this
    ·obtain⟨ht1,b',ht2,ht3⟩:=ht
     unfold aD
     refine Evt.pure ⟨?_,b',ht2,by rw[ht3,hjn]⟩
     show u5.mk _ _ _ _=_
     rw[sH,ht1,hnm,KM,hj]
   unfold aH
   simp only[aX,Option.bind_some]
   have hbl:=(Au hC2 b).1
   have hnl:=yF hC2 10000 hCl i
   refine Evt.cond (fun e=>?_) (fun e=>?_)
   ·replace e:=bx e
    rw[if_pos e]at hnq
    refine Evt.bind (yG hC (b:=b) (by omega)) fun v hv=>Evt.chk (by omega) (Evt.Q8 (Evt.chk ?_ ?_))
    ·rw[J4];simp only[List.length_append,List.length_cons,List.length_nil];omega
    ·subst hv
     exact key _ _ (i+1) (nx p b+1) (by rw[if_pos e,hb];rfl) (by rw[if_pos e,yH,hb];rfl) (by rw[if_pos e]) (by rw[hb];rfl) (by simp)
   ·replace e:=bx e
    rw[if_neg e]at hnq
    exact key _ _ i b (by rw[if_neg e]) (by rw[if_neg e]) (by rw[if_neg e];rfl) hb (by omega)
noncomputable def cf(f:u5):u5:=ren (NN (fre f [])) f [] 0
theorem Iu{f:u5}(h:OkF f):Evt (fun n=>aT n f) (fun r=>r=cf f):=by
 have h2:=h.2.1
 unfold aT cW
 have hq:=oW f
 refine Evt.bind (P:=fun r=>r=cf f) (Evt.bind (kX h.1 (by omega)) fun v hv=>?_) fun v hv=>Evt.pure hv
 refine Evt.C1 (P:=ExP (fun _=>True) (fun _=>False)) ⟨.nxt (),trivial,0,fun n _=>rfl⟩ (fun _ _=>?_) (fun _ h=>h.elim)
 unfold aI
 exact Evt.bind (DB hv.1 (by omega) _ f (Nat.le_refl _) h.1 [] 0 0 (by simp;omega) (by omega) rfl) fun r hr=>Evt.pure hr.1
mutual
def SmF:u5→Prop
 | .mk _ _ w s=>w.length≤3∧s.length≤2∧nS s
def nS:List u5→Prop
 | []=>True
 |f::l=>SmF f∧nS l
end
theorem sQ(f:u5):SmF f↔f.words.length≤3∧f.subs.length≤2∧nS f.subs:=by cases f;rw[SmF];rfl
theorem nT:∀ {l:List u5},nS l→∀x∈l,SmF x
 | [],_,x,h=>by cases h
 |f::l,h,x,hx=>by
  rw[nS]at h
  rcases List.mem_cons.1 hx with rfl|hx
  ·exact h.1
  ·exact nT h.2 x hx
mutual
theorem WfF.sm:∀(f:u5),WfF f→SmF f
 | .mk k n w s,h=>by
   rw[SmF]
   exact⟨yA h,wm h,gY.sm s ((Z4 _).1 h).2⟩
theorem gY.sm:∀(l:List u5),gY l→nS l
 | [],_=>by rw[nS];trivial
 |f::l,h=>by
  rw[nS]
  exact⟨WfF.sm f (N0.1 h f (List.mem_cons_self ..)),gY.sm l (N0.2 fun x hx=>N0.1 h x (List.mem_cons_of_mem _ hx))⟩
end
mutual
theorem SmF.ren(N:Nat→Bs):∀(f:u5) (env:List (Bs×Bs)) (i:Nat),SmF f→SmF (ren N f env i)
 | .mk k n w s,env,i,h=>by
   rw[SmF]at h
   rw[Go.Proofs.YtfacbpehlibilaaGreatDoor.ren,SmF]
   exact⟨by rw[List.length_map];exact h.1,by rw[bP];exact h.2.1,nS.ren N s _ _ h.2.2⟩
theorem nS.ren(N:Nat→Bs):∀(l:List u5) (env:List (Bs×Bs)) (i:Nat),nS l→nS (I7 N l env i)
 | [],env,i,_=>by rw[I7,nS];trivial
 |f::l,env,i,h=>by
  rw[nS]at h
  rw[I7,nS]
  exact⟨SmF.ren N f env i h.1,nS.ren N l env _ h.2⟩
end
mutual
theorem kc:∀(f:u5),WfF f→∀(bd:List Bs) (x:Bs),fre f bd x→B9 x
 | .mk k n w s,h,bd,x,hx=>by
   rw[fre]at hx
   rcases hx with hx|hx
   ·exact(Z8 ((Z4 _).1 h).1).2.2.2.2 x hx.1
   ·exact yI s ((Z4 _).1 h).2 _ x hx
theorem yI:∀(l:List u5),gY l→∀(bd:List Bs) (x:Bs),W8 l bd x→B9 x
 | [],_,bd,x,hx=>by rw[W8]at hx;exact hx.elim
 |f::l,h,bd,x,hx=>by
  rw[W8]at hx
  rcases hx with hx|hx
  ·exact kc f (N0.1 h f (List.mem_cons_self ..)) bd x hx
  ·exact yI l (N0.2 fun y hy=>N0.1 h y (List.mem_cons_of_mem _ hy)) bd x hx
end
mutual
def swp(σ:Bs→Bs):u5→u5
 | .mk k n w s=>.mk k (if QK k then σ n else n) (w.map σ) (Ov σ s)
def Ov(σ:Bs→Bs):List u5→List u5
 | []=>[]
 |f::l=>swp σ f::Ov σ l
end
theorem KN{l:List Bs}{k:Nat}(h:k<l.length):l.drop k=Am.get l k::l.drop (k+1):=by
 rw[List.drop_eq_getElem_cons h]
 simp[Am.get,h]
theorem FY(σ:Bs→Bs){w:Bs}(h:σ w=w):∀env:List (Bs×Bs),σ (sub env w)=sub (env.map fun e=>(e.1,σ e.2)) w
 | []=>by rw[List.map_nil,mP,h]
 |(a,b)::env=>by
  rw[List.map_cons,K1,K1]
  split
  ·rfl
  ·exact FY σ h env
mutual
theorem KO(σ:Bs→Bs)(N:Nat→Bs)(q:Nat)(h1:∀j,j<q→σ (mk j)=N j)(h2:∀w,B9 w→σ w=w):∀(f:u5) (env:List (Bs×Bs)) (i:Nat),WfF f→i+nq f≤q→swp σ (ren mk f env i)=ren N f (env.map fun e=>(e.1,σ e.2)) i
 | .mk k n w s,env,i,hwf,hq=>by
   have hn:=((Z4 _).1 hwf).1
   have hs:=((Z4 _).1 hwf).2
   have hw:=(Z8 hn).2.2.2.2
   rw[nq]at hq
   rw[ren,ren,swp]
   have e1:(w.map (sub env)).map σ=w.map (sub (env.map fun e=>(e.1,σ e.2))):=by
    rw[List.map_map]
    exact List.map_congr_left fun x hx=>FY σ (h2 x (hw x hx)) env
   rw[e1]
   by_cases hk:QK k
   ·rw[if_pos hk]at hq
    simp only[if_pos hk]
    rw[h1 i (by omega),wu σ N q h1 h2 s _ _ hs (by omega),List.map_cons,h1 i (by omega)]
   ·rw[if_neg hk]at hq
    simp only[if_neg hk]
    rw[wu σ N q h1 h2 s _ _ hs (by omega)]
theorem wu(σ:Bs→Bs)(N:Nat→Bs)(q:Nat)(h1:∀j,j<q→σ (mk j)=N j)(h2:∀w,B9 w→σ w=w):∀(l:List u5) (env:List (Bs×Bs)) (i:Nat),gY l→i+nqL l≤q→Ov σ (I7 mk l env i)=I7 N l (env.map fun e=>(e.1,σ e.2)) i
 | [],env,i,_,_=>by rw[I7,I7,Ov]
 |f::l,env,i,h,hq=>by
  rw[nqL]at hq
  rw[I7,I7,Ov,KO σ N q h1 h2 f env i (N0.1 h f (List.mem_cons_self ..)) (by omega),wu σ N q h1 h2 l env _ (N0.2 fun x hx=>N0.1 h x (List.mem_cons_of_mem _ hx)) (by omega)]
end
end Go.Proofs.YtfacbpehlibilaaGreatDoor
