import Derived.Lib.ItoaMem
import Derived.Lib.ItoaLen
import Derived.Test.YtdjnbjnlnjhllaaDoorFBLaw1
set_option linter.unusedVariables false
set_option linter.unusedSimpArgs false
namespace Go.Proofs.YtdjnbjnlnjhllaaDoor
open Go Go.Am
theorem d2d(l:List Bs)(x:Bs):Evt (fun _=>Mf l x) (fun r=>r=decide (x∈l)):=by
 unfold Mf Oj
 refine Evt.bind (P:=fun r=>0≤r↔x∈l) (Evt.Mw (Evt.scan (fun k _=>∀j,j<k→Am.get l j≠x) (fun k r=>r=(k:Int)∧Am.get l k=x) (fun j hj=>absurd hj (Nat.not_lt_zero _)) (fun k u hk hi=>?_)) (fun t ht=>?_) (fun r hr=>?_)) fun v hv=>Evt.pure ?_
 ·unfold NG
  refine Evt.cond (fun e=>Evt.pure ?_) (fun e=>Evt.pure ?_)
  ·replace e:=bx e
   exact⟨rfl,e.symm⟩
  ·replace e:=bx e
   intro j hj
   by_cases ej:j=k
   ·subst ej;exact fun h=>e h.symm
   ·exact hi j (by omega)
 ·unfold NH
  refine Evt.pure ⟨fun h=>absurd h (by decide),fun h=>?_⟩
  obtain⟨j,hj,e⟩:=Na.1 h
  exact absurd e (ht j hj)
 ·obtain⟨k,_,hk,_,rfl,e⟩:=hr
  exact⟨fun _=>Na.2 ⟨k,hk,e⟩,fun _=>by omega⟩
 ·by_cases h:x∈l
  ·simp[h,hv.2 h]
  ·have h3:¬0≤v:=fun h2=>h (hv.1 h2)
   simp only[h,h3,decide_false]
theorem NY(l:List Bs)(x:Bs):Mf l x=some (decide (x∈l)):=by
 obtain⟨r,rfl,N,hN⟩:=d2d l x
 exact hN N (Nat.le_refl _)
theorem d3p{zs:List Bs}{x:Bs}:x∈Lib.compact zs↔x∈zs:=by
 unfold Lib.compact Lib.compactUpTo
 rw[List.mem_map]
 have hg:∀j,j<zs.length→zs.toArray[j]! =Am.get zs j:=fun j hj=>by simp[Am.get,hj]
 constructor
 ·rintro⟨j,hj,rfl⟩
  have hj:=List.mem_range.1 (List.mem_filter.1 hj).1
  rw[hg j hj]
  exact get_mem hj
 ·intro h
  obtain⟨j,hj,rfl⟩:=Na.1 h
  have key:∀j,j<zs.length→∃a,a∈(List.range zs.length).filter (Lib.keeps zs.toArray)∧zs.toArray[a]! =Am.get zs j:=by
   intro j
   induction j with
   |zero=>intro hj;exact⟨0,List.mem_filter.2 ⟨List.mem_range.2 hj,Lib.keeps_lt_one _ 0 (by omega)⟩,hg 0 hj⟩
   |succ j ih=>
    intro hj
    by_cases hk:Lib.keeps zs.toArray (j+1)=true
    ·exact⟨j+1,List.mem_filter.2 ⟨List.mem_range.2 hj,hk⟩,hg _ hj⟩
    ·obtain⟨a,h1,h2⟩:=ih (by omega)
     refine⟨a,h1,h2.trans ?_⟩
     unfold Lib.keeps at hk
     simp only[decide_eq_true_eq,not_or,Decidable.not_not,ne_eq]at hk
     have:=hk.2
     rw[hg _ hj,Nat.add_sub_cancel,hg j (by omega)]at this
     exact this.symm
  exact key j hj
mutual
theorem d7h:∀(f:LZ) (bd bd':List Bs),(∀y,y∈bd↔y∈bd')→∀x,fre f bd x↔fre f bd' x
 | .mk k n w s,bd,bd',h,x=>by
   rw[fre,fre,h x,XE s _ _ (fun y=>?_) x]
   split
   ·simp[h y]
   ·exact h y
theorem XE:∀(l:List LZ) (bd bd':List Bs),(∀y,y∈bd↔y∈bd')→∀x,Un l bd x↔Un l bd' x
 | [],bd,bd',h,x=>by rw[Un,Un]
 |f::l,bd,bd',h,x=>by rw[Un,Un,d7h f bd bd' h x,XE l bd bd' h x]
end
theorem d7i(l:List LZ)(f:LZ)(bd:List Bs)(x:Bs):Un (l++[f]) bd x↔Un l bd x∨fre f bd x:=by
 rw[d0P,d0P]
 constructor
 ·rintro⟨g,hg,h⟩
  rcases List.mem_append.1 hg with hg|hg
  ·exact .inl ⟨g,hg,h⟩
  ·rw[List.mem_singleton]at hg;subst hg;exact .inr h
 ·rintro(⟨g,hg,h⟩|h)
  ·exact⟨g,List.mem_append.2 (.inl hg),h⟩
  ·exact⟨f,List.mem_append.2 (.inr (List.mem_singleton.2 rfl)),h⟩
theorem d5f:∀(m:Nat) (f:LZ),SizeOf.sizeOf f≤m→WfF f→∀(bd l:List Bs),bd.length+ndF f≤100000→l.length+3*ndF f≤300000→
 Evt (fun n=>MO n f bd l) (fun r=>(∀x,x∈r↔x∈l∨fre f bd x)∧r.length≤l.length+3*ndF f):=by
 intro m
 induction m with
 |zero=>intro f h;cases f;simp only[LZ.mk.sizeOf_spec]at h;omega
 |succ m ih=>
  intro f hf hwf bd l hbd hl
  have hnd:=WW f
  have hws:=d2c hwf
  refine Evt.succ ?_
  simp only[MO]
  refine Evt.Mw (P:=ExP (fun t=>(∀x,x∈t↔x∈l∨(x∈f.words∧x∉bd))∧t.length≤l.length+3) (fun _=>False)) ((Evt.range (fun k s=>(∀x,x∈s↔x∈l∨(x∈f.words.take k∧x∉bd))∧s.length≤l.length+k) (fun _=>False) (fun _=>False) ⟨fun x=>by simp,by omega⟩ (fun k s hk hi=>?_)).mono fun e he=>?_) (fun t ht=>?_) (fun _ h=>h.elim)
  ·unfold Pg
   simp only[NY,Option.bind_some]
   refine Evt.cond (fun e=>Evt.Sk (Evt.chk ?_ (Evt.pure ⟨fun x=>?_,?_⟩))) (fun e=>Evt.pure ⟨fun x=>?_,by omega⟩)
   ·rw[QS];simp only[List.length_append,List.length_cons,List.length_nil];omega
   ·replace e:=bx e
    rw[List.mem_append,hi.1 x,Od hk,List.mem_append,List.mem_singleton]
    by_cases hx:x=Am.get f.words k
    ·subst hx;simp[e]
    ·simp[hx]
   ·simp only[List.length_append,List.length_cons,List.length_nil];omega
   ·replace e:=bx e
    rw[hi.1 x,Od hk,List.mem_append,List.mem_singleton]
    by_cases hx:x=Am.get f.words k
    ·subst hx;simp[e]
    ·simp[hx]
  ·cases e with
   |ret r=>exact he
   |nxt t=>
    obtain⟨h1,h2⟩:=he.elim id False.elim
    rw[List.take_length]at h1
    exact⟨h1,by omega⟩
  ·obtain⟨h1,h2⟩:=ht
   have key:∀bd':List Bs,(∀y,y∈bd'↔y∈(if QK f.kind then f.name::bd else bd))→bd'.length≤bd.length+1→Evt (fun n=>Nz (MO n) f t bd') (fun r=>(∀x,x∈r↔x∈l∨fre f bd x)∧r.length≤l.length+3*ndF f):=by
    intro bd' hb hbl
    unfold Nz
    refine Evt.Mw (P:=ExP (fun r=>(∀x,x∈r↔x∈t∨Un f.subs bd' x)∧r.length≤t.length+3*Pb f.subs) (fun _=>False)) ((Evt.range (fun k s=>(∀x,x∈s↔x∈t∨Un (f.subs.take k) bd' x)∧s.length≤t.length+3*Pb (f.subs.take k)) (fun _=>False) (fun _=>False) ⟨fun x=>by simp[Un],by omega⟩ (fun k s hk hi=>?_)).mono fun e he=>?_) (fun r hr=>?_) (fun _ h=>h.elim)
    ·unfold Ph
     have hsz:=Oi hk
     have htk:=Tl hk
     refine Evt.bind (ih _ (by omega) (Uh hwf hk) bd' s (by omega) (by omega)) fun v hv=>Evt.pure ⟨fun x=>?_,?_⟩
     ·rw[hv.1 x,hi.1 x,Od hk,d7i,or_assoc]
     ·rw[Od hk,Vo]
      have:=hv.2
      have:=hi.2
      omega
    ·cases e with
     |ret r=>exact he
     |nxt r=>
      have:=he.elim id False.elim
      rw[List.take_length]at this
      exact this
    ·obtain⟨h3,h4⟩:=hr
     unfold Pj
     refine Evt.pure ⟨fun x=>?_,by omega⟩
     rw[h3 x,h1 x,d7c,XE f.subs _ _ hb x,or_assoc]
   unfold Pk
   simp only[UD,Option.bind_some]
   refine Evt.cond (fun e=>Evt.chk (by omega) (Evt.Sk (Evt.chk ?_ (key _ (fun y=>?_) ?_)))) (fun e=>key _ (fun y=>?_) (by omega))
   ·rw[QS];simp only[List.length_append,List.length_cons,List.length_nil];omega
   ·replace e:=bx e
    rw[if_pos e];simp[or_comm]
   ·simp
   ·replace e:=bx e
    rw[if_neg e]
theorem Vp{f:LZ}(hwf:WfF f)(hn:ndF f≤50000):Evt (fun n=>OO n f) (fun r=>(∀x,x∈r↔fre f [] x)∧r.length≤3*ndF f):=by
 unfold OO
 refine Evt.bind (d5f _ f (Nat.le_refl _) hwf [] [] (by simp;omega) (by simp;omega)) fun v hv=>?_
 obtain⟨h1,h2⟩:=hv
 simp only[List.length_nil,Nat.zero_add]at h2
 unfold Nk NR
 have hlen:(d1R cfB v).length=v.length:=(Uf cfB v).length_eq
 refine Evt.bind (Evt.chk (by omega) (Evt.pure (P:=fun r=>r=d1R cfB v) rfl)) fun r hr=>?_
 subst hr
 refine Evt.bind (Evt.chk (by omega) (Evt.pure (P:=fun r=>True) trivial)) fun _ _=>Evt.pure ⟨fun x=>?_,?_⟩
 ·rw[d3p,(Uf cfB v).mem_iff,h1 x]
  simp
 ·have:=Lib.compact_length_le (d1R cfB v)
  omega
theorem Zm:∀(m:Nat) (f:LZ),SizeOf.sizeOf f≤m→ndF f≤100000→Evt (fun n=>Mp n f) (fun r=>r=qs f):=by
 intro m
 induction m with
 |zero=>intro f h;cases f;simp only[LZ.mk.sizeOf_spec]at h;omega
 |succ m ih=>
  intro f hf hn
  have hnd:=WW f
  refine Evt.succ ?_
  simp only[Mp,UD,Option.bind_some]
  have d8R:∀(l:List LZ) (x:LZ),qsL (l++[x])=qsL l++qs x:=fun l x=>by
   induction l with
   |nil=>simp[qsL]
   |cons a l ih=>rw[List.cons_append,qsL,qsL,ih,List.append_assoc]
  have key:∀l0:List Bs,l0=(if QK f.kind then [f.name]else [])→Evt (fun n=>Nc (Mp n) f l0) (fun r=>r=qs f):=by
   intro l0 h0
   have hl0:l0.length≤1:=by rw[h0];split<;>simp
   unfold Nc
   refine Evt.Mw (P:=ExP (fun t=>t=l0++qsL f.subs) (fun _=>False)) ((Evt.range (fun k s=>s=l0++qsL (f.subs.take k)) (fun _=>False) (fun _=>False) (by simp[qsL]) (fun k s hk hi=>?_)).mono fun e he=>?_) (fun t ht=>?_) (fun _ h=>h.elim)
   ·subst hi
    unfold Ol
    have hsz:=Oi hk
    have htk:=Tl hk
    refine Evt.bind (ih _ (by omega) (by omega)) fun v hv=>Evt.Sk (Evt.chk ?_ (Evt.pure ?_))
    ·subst hv
     have h1:=d3n (f.subs.take k)
     have h2:=d0i (Am.get f.subs k)
     have h3:=d6R (f.subs.take k)
     have h4:=d2a (Am.get f.subs k)
     rw[QS]
     simp only[List.length_append]
     omega
    ·subst hv
     show _=_
     rw[Od hk,d8R,List.append_assoc]
   ·cases e with
    |ret r=>exact he
    |nxt t=>
     have:=he.elim id False.elim
     rw[List.take_length]at this
     exact this
   ·have ht:t=_:=ht
    subst ht
    unfold Om
    refine Evt.pure ?_
    rw[d0N, ←h0]
  refine Evt.cond (fun e=>Evt.Sk (Evt.chk (by simp[QS]) (key _ ?_))) (fun e=>key _ ?_)
  ·replace e:=bx e
   rw[if_pos e];rfl
  ·replace e:=bx e
   rw[if_neg e]
mutual
def Oa:LZ→List LZ
 | .mk k n w s=>.mk k n w s::NC s
def NC:List LZ→List LZ
 | []=>[]
 |x::l=>Oa x++NC l
end
theorem Xa(f:LZ):Oa f=f::NC f.subs:=by cases f;rw[Oa];rfl
mutual
theorem Tm:∀f:LZ,(Oa f).length=ndF f
 | .mk k n w s=>by rw[Oa,ndF,List.length_cons,d0j s];omega
theorem d0j:∀l:List LZ,(NC l).length=Pb l
 | []=>by rw[NC,Pb];rfl
 |x::l=>by rw[NC,Pb,List.length_append,Tm x,d0j l]
end
def i2Y(b:Nat)(g:LZ)(it:IT):Prop:=it.kind=g.kind∧it.name=g.name∧it.words=g.words∧it.end_=((b+ndF g:Nat):Int)∧it.bound.length=g.words.length
mutual
theorem d5g:∀(f:LZ) (ar:List Bs) (b j:Nat),j<ndF f→i2Y (b+j) (Am.get (Oa f) j) (Am.get (d0R f ar b) j)
 | .mk k n w s,ar,b,0,_=>by
   rw[d0R,Oa]
   refine⟨rfl,rfl,rfl,?_,?_⟩
   ·show((b+(1+Pb s):Nat):Int)=_
    show _=((b+0+ndF (.mk k n w s):Nat):Int)
    rw[ndF];rfl
   ·show(w.map _).length=w.length
    simp
 | .mk k n w s,ar,b,j+1,h=>by
   rw[d0R,Oa]
   rw[ndF]at h
   have:=Zn s (if QK k then n::ar else ar) (b+1) j (by omega)
   rw[show b+(j+1)=b+1+j by omega]
   exact this
theorem Zn:∀(l:List LZ) (ar:List Bs) (b j:Nat),j<Pb l→i2Y (b+j) (Am.get (NC l) j) (Am.get (Ug l ar b) j)
 | [],ar,b,j,h=>by rw[Pb]at h;omega
 |x::l,ar,b,j,h=>by
  rw[Pb]at h
  rw[Ug,NC]
  by_cases hj:j<ndF x
  ·have:=d5g x ar b j hj
   have e1:Am.get (Oa x++NC l) j=Am.get (Oa x) j:=by
    unfold Am.get
    rw[List.getD_eq_getElem?_getD,List.getD_eq_getElem?_getD,List.getElem?_append_left (by rw[Tm];exact hj)]
   have e2:Am.get (d0R x ar b++Ug l ar (b+ndF x)) j=Am.get (d0R x ar b) j:=by
    unfold Am.get
    rw[List.getD_eq_getElem?_getD,List.getD_eq_getElem?_getD,List.getElem?_append_left (by rw[WZ];exact hj)]
   rw[e1,e2];exact this
  ·have:=Zn l ar (b+ndF x) (j-ndF x) (by omega)
   have e1:Am.get (Oa x++NC l) j=Am.get (NC l) (j-ndF x):=by
    unfold Am.get
    rw[List.getD_eq_getElem?_getD,List.getD_eq_getElem?_getD,List.getElem?_append_right (by rw[Tm];omega),Tm]
   have e2:Am.get (d0R x ar b++Ug l ar (b+ndF x)) j=Am.get (Ug l ar (b+ndF x)) (j-ndF x):=by
    unfold Am.get
    rw[List.getD_eq_getElem?_getD,List.getD_eq_getElem?_getD,List.getElem?_append_right (by rw[WZ];omega),WZ]
   rw[e1,e2,show b+j=b+ndF x+(j-ndF x)by omega]
   exact this
end
theorem Wr:∀(l:List LZ) (x:LZ),NC (l++[x])=NC l++Oa x
 | [],x=>by simp[NC]
 |a::l,x=>by rw[List.cons_append,NC,NC,Wr l x,List.append_assoc]
def Wx(l:List LZ)(x:Bs):Prop:=∃g∈l,g.kind=2∧g.name=x∧0<g.words.length
def Vq(l:List LZ)(x:Bs):Prop:=∃g∈l,g.kind=2∧g.name=x∧g.words.length=0
theorem Wx.app{l m:List LZ}{x:Bs}:Wx (l++m) x↔Wx l x∨Wx m x:=by
 unfold Wx
 constructor
 ·rintro⟨g,hg,h⟩
  rcases List.mem_append.1 hg with hg|hg
  ·exact .inl ⟨g,hg,h⟩
  ·exact .inr ⟨g,hg,h⟩
 ·rintro(⟨g,hg,h⟩|⟨g,hg,h⟩)
  ·exact⟨g,List.mem_append.2 (.inl hg),h⟩
  ·exact⟨g,List.mem_append.2 (.inr hg),h⟩
theorem Vq.app{l m:List LZ}{x:Bs}:Vq (l++m) x↔Vq l x∨Vq m x:=by
 unfold Vq
 constructor
 ·rintro⟨g,hg,h⟩
  rcases List.mem_append.1 hg with hg|hg
  ·exact .inl ⟨g,hg,h⟩
  ·exact .inr ⟨g,hg,h⟩
 ·rintro(⟨g,hg,h⟩|⟨g,hg,h⟩)
  ·exact⟨g,List.mem_append.2 (.inl hg),h⟩
  ·exact⟨g,List.mem_append.2 (.inr hg),h⟩
theorem Wx.one{g:LZ}{x:Bs}:Wx [g] x↔g.kind=2∧g.name=x∧0<g.words.length:=by
 unfold Wx;simp
theorem Vq.one{g:LZ}{x:Bs}:Vq [g] x↔g.kind=2∧g.name=x∧g.words.length=0:=by
 unfold Vq;simp
theorem i0J:∀(m:Nat) (f:LZ),SizeOf.sizeOf f≤m→∀x,Evt (fun n=>NS n f x) (fun r=>(r.1=true↔Wx (Oa f) x)∧(r.2=true↔Vq (Oa f) x)):=by
 intro m
 induction m with
 |zero=>intro f h;cases f;simp only[LZ.mk.sizeOf_spec]at h;omega
 |succ m ih=>
  intro f hf x
  refine Evt.succ ?_
  simp only[NS]
  have key:∀j:Bool×Bool,(j.1=true↔Wx [f] x)→(j.2=true↔Vq [f] x)→Evt (fun n=>OP (NS n) f x j) (fun r=>(r.1=true↔Wx (Oa f) x)∧(r.2=true↔Vq (Oa f) x)):=by
   intro j h1 h2
   unfold OP
   refine Evt.Mw (P:=ExP (fun s:Bool×Bool=>(s.1=true↔Wx (f::NC f.subs) x)∧(s.2=true↔Vq (f::NC f.subs) x)) (fun _=>False)) ((Evt.range (fun k s=>(s.1=true↔Wx ([f]++NC (f.subs.take k)) x)∧(s.2=true↔Vq ([f]++NC (f.subs.take k)) x)) (fun _=>False) (fun _=>False) ⟨by simpa[NC]using h1,by simpa[NC]using h2⟩ (fun k s hk hi=>?_)).mono fun e he=>?_) (fun t ht=>?_) (fun _ h=>h.elim)
   ·unfold Rc
    have hsz:=Oi hk
    refine Evt.bind (ih _ (by omega) x) fun v hv=>Evt.pure ⟨?_,?_⟩
    ·rw[Od hk,Wr, ←List.append_assoc,Wx.app, ←hv.1, ←hi.1]
     cases s.1<;>simp
    ·rw[Od hk,Wr, ←List.append_assoc,Vq.app, ←hv.2, ←hi.2]
     cases s.2<;>simp
   ·cases e with
    |ret r=>exact he
    |nxt t=>
     have:=he.elim id False.elim
     rw[List.take_length]at this
     exact this
   ·unfold Rf
    refine Evt.pure ?_
    rw[Xa]
    exact ht
  refine Evt.cond (fun e=>key _ ?_ ?_) (fun e=>key _ ?_ ?_)
  ·replace e:=bx e
   rw[Wx.one];simp[e.1,e.2]
  ·replace e:=bx e
   rw[Vq.one];simp[e.1,e.2]
  ·rw[Wx.one]
   refine⟨fun h=>(by cases h),fun h=>?_⟩
   simp[h.1,h.2.1]at e
  ·rw[Vq.one]
   refine⟨fun h=>(by cases h),fun h=>?_⟩
   simp[h.1,h.2.1]at e
def Ui(l:List IT)(x:Bs):Prop:=∃it∈l,∃m,m<it.words.length∧Am.get it.words m=x∧Am.get it.bound m=false
theorem Ui.app{l m:List IT}{x:Bs}:Ui (l++m) x↔Ui l x∨Ui m x:=by
 unfold Ui
 constructor
 ·rintro⟨g,hg,h⟩
  rcases List.mem_append.1 hg with hg|hg
  ·exact .inl ⟨g,hg,h⟩
  ·exact .inr ⟨g,hg,h⟩
 ·rintro(⟨g,hg,h⟩|⟨g,hg,h⟩)
  ·exact⟨g,List.mem_append.2 (.inl hg),h⟩
  ·exact⟨g,List.mem_append.2 (.inr hg),h⟩
theorem Ui.cons{a:IT}{l:List IT}{x:Bs}:Ui (a::l) x↔Ui [a] x∨Ui l x:=by
 rw[←Ui.app];rfl
theorem Ui.nil{x:Bs}:¬Ui [] x:=fun⟨_,h,_⟩=>by cases h
theorem get_map{α β:Type}[Inhabited α][Inhabited β](g:α→β){l:List α}{k:Nat}(h:k<l.length):Am.get (l.map g) k=g (Am.get l k):=by
 unfold Am.get
 rw[List.getD_eq_getElem?_getD,List.getD_eq_getElem?_getD,List.getElem?_map,List.getElem?_eq_getElem h]
 rfl
mutual
theorem d7j:∀(f:LZ) (ar:List Bs) (b:Nat) (x:Bs),Ui (d0R f ar b) x↔fre f ar x
 | .mk k n w s,ar,b,x=>by
   rw[d0R,Ui.cons,fre,d0k s]
   refine or_congr_left ?_
   constructor
   ·rintro⟨it,hit,m,h1,h2,h3⟩
    rw[List.mem_singleton]at hit
    subst hit
    have h1:m<w.length:=h1
    have h2:Am.get w m=x:=h2
    have h3:Am.get (w.map fun x=>decide (x∈ar)) m=false:=h3
    rw[get_map _ h1,h2]at h3
    exact⟨Na.2 ⟨m,h1,h2⟩,of_decide_eq_false h3⟩
   ·rintro⟨h1,h2⟩
    obtain⟨m,h3,h4⟩:=Na.1 h1
    refine⟨_,List.mem_singleton.2 rfl,m,h3,h4,?_⟩
    show Am.get (w.map fun x=>decide (x∈ar)) m=false
    rw[get_map _ h3,h4]
    exact decide_eq_false h2
theorem d0k:∀(l:List LZ) (ar:List Bs) (b:Nat) (x:Bs),Ui (Ug l ar b) x↔Un l ar x
 | [],ar,b,x=>by rw[Ug,Un];exact⟨fun h=>Ui.nil h,False.elim⟩
 |f::l,ar,b,x=>by rw[Ug,Un,Ui.app,d7j f,d0k l]
end
def qsI(l:List IT):List Bs:=l.flatMap fun it=>if QK it.kind then [it.name]else []
mutual
theorem i0K:∀(f:LZ) (ar:List Bs) (b:Nat),qsI (d0R f ar b)=qs f
 | .mk k n w s,ar,b=>by
   rw[d0R,qs]
   show(if QK k then [n]else [])++qsI _=_
   rw[d4q s]
theorem d4q:∀(l:List LZ) (ar:List Bs) (b:Nat),qsI (Ug l ar b)=qsL l
 | [],ar,b=>by rw[Ug,qsL];rfl
 |f::l,ar,b=>by
  rw[Ug,qsL, ←i0K f ar b, ←d4q l ar (b+ndF f)]
  exact List.flatMap_append
end
def d9G(l:List Bs)(x:Bs)(r:Int):Prop:=(x∉l∧r= -1)∨∃j,j<l.length∧Am.get l j=x∧(∀i,i<j→Am.get l i≠x)∧r=(j:Int)
theorem d9G.mem{l:List Bs}{x:Bs}{r:Int}(h:d9G l x r):0≤r↔x∈l:=by
 rcases h with⟨h1,rfl⟩|⟨j,hj,e,_,rfl⟩
 ·exact⟨fun h=>absurd h (by decide),fun h=>absurd h h1⟩
 ·exact⟨fun _=>Na.2 ⟨j,hj,e⟩,fun _=>by omega⟩
def vns(s:Mb):List Bs:=s.words++s.Mj++s.parts
open Classical in
noncomputable def Qj(s:Mb)(i:Nat):Int:=
 if ¬MI (Am.get (vns s) i)then 10
 else if Am.get (vns s) i∈(vns s).take i then 7
 else if i<s.words.length then(if fre s.form [] (Am.get (vns s) i)then 0 else 15)
 else if i<s.words.length+s.Mj.length then(if Wx (Oa s.form) (Am.get (vns s) i)∨Vq (Oa s.form) (Am.get (vns s) i)then 0 else 15)
 else if Wx (Oa s.form) (Am.get (vns s) i)then 5 else if Vq (Oa s.form) (Am.get (vns s) i)then 0 else 15
def QOk(s:Mb):Prop:=∀k,k<(qs s.form).length→Am.get (qs s.form) k∉ (qs s.form).take k∧Am.get (qs s.form) k∉s.words
def OkS(s:Mb):Prop:=OkF s.form∧(vns s).length≤300∧(∀j,j<(vns s).length→Qj s j=0)∧QOk s
def FB(step:Nat→Int)(N:Nat)(r:Mi):Prop:=∃k,k<N∧(∀j,j<k→step j=0)∧step k≠0∧r=⟨step k,k⟩
theorem FB.uniq{step:Nat→Int}{N:Nat}{r r':Mi}(h:FB step N r)(h':FB step N r'):r=r':=by
 obtain⟨k,_,h2,h3,rfl⟩:=h
 obtain⟨k',_,h2',h3',rfl⟩:=h'
 have:k=k':=by
  rcases Nat.lt_trichotomy k k' with h|h|h
  ·exact absurd (h2' k h) h3
  ·exact h
  ·exact absurd (h2 k' h) h3'
 rw[this]
def d7k(s:Mb)(r:Mi):Prop:=
 (¬OkF s.form∧r=Wg s.form)∨(OkF s.form∧300<(vns s).length∧r=⟨2, -1⟩)∨(OkF s.form∧(vns s).length≤300∧FB (Qj s) (vns s).length r)∨
 (OkF s.form∧(vns s).length≤300∧(∀j,j<(vns s).length→Qj s j=0)∧¬QOk s∧r=⟨7, -1⟩)∨(OkS s∧r=⟨0,0⟩)
theorem d7k.code{s:Mb}{r:Mi}(h:d7k s r)(h0:r.code=0):OkS s∧r=⟨0,0⟩:=by
 rcases h with⟨h1,rfl⟩|⟨_,_,rfl⟩|⟨_,_,k,_,_,h3,rfl⟩|⟨_,_,_,_,rfl⟩|h
 ·exact absurd ((RN _).1 h0) h1
 ·cases h0
 ·exact absurd h0 h3
 ·cases h0
 ·exact h
theorem d7k.ok{s:Mb}{r:Mi}(h:d7k s r)(h0:OkS s):r=⟨0,0⟩:=by
 obtain⟨k1,k2,k3,k4⟩:=h0
 rcases h with⟨h1,_⟩|⟨_,h1,_⟩|⟨_,_,k,h2,_,h3,_⟩|⟨_,_,_,h1,_⟩|⟨_,h⟩
 ·exact absurd k1 h1
 ·omega
 ·exact absurd (k3 k h2) h3
 ·exact absurd k4 h1
 ·exact h
theorem d7k.uniq{s:Mb}{r r':Mi}(h:d7k s r)(h':d7k s r'):r=r':=by
 rcases h with⟨h1,rfl⟩|⟨h1,h2,rfl⟩|⟨h1,h2,h3⟩|⟨h1,h2,h3,h4,rfl⟩|⟨h1,rfl⟩
 ·rcases h' with⟨k1,rfl⟩|⟨k1,_⟩|⟨k1,_⟩|⟨k1,_⟩|⟨k1,_⟩
  ·rfl
  ·exact absurd k1 h1
  ·exact absurd k1 h1
  ·exact absurd k1 h1
  ·exact absurd k1.1 h1
 ·rcases h' with⟨k1,_⟩|⟨_,_,rfl⟩|⟨_,k2,_⟩|⟨_,k2,_⟩|⟨k1,_⟩
  ·exact absurd h1 k1
  ·rfl
  ·omega
  ·omega
  ·exact absurd k1.2.1 (by omega)
 ·rcases h' with⟨k1,_⟩|⟨_,k2,_⟩|⟨_,_,k3⟩|⟨_,_,k3,_⟩|⟨k1,_⟩
  ·exact absurd h1 k1
  ·omega
  ·exact h3.uniq k3
  ·obtain⟨k,a,_,b,_⟩:=h3;exact absurd (k3 k a) b
  ·obtain⟨k,a,_,b,_⟩:=h3;exact absurd (k1.2.2.1 k a) b
 ·rcases h' with⟨k1,_⟩|⟨_,k2,_⟩|⟨_,_,k3⟩|⟨_,_,_,_,rfl⟩|⟨k1,_⟩
  ·exact absurd h1 k1
  ·omega
  ·obtain⟨k,a,_,b,_⟩:=k3;exact absurd (h3 k a) b
  ·rfl
  ·exact absurd k1.2.2.2 h4
 ·exact(d7k.ok h' h1).symm
def SB(s:Mb):Prop:=s.words.length≤1048576∧s.Mj.length≤1048576∧s.parts.length≤1048576∧∀x∈vns s,x.length≤8000000
theorem Tn(s:Mb):(vns s).length=s.words.length+s.Mj.length+s.parts.length:=by unfold vns;simp only[List.length_append]
theorem Zo{s:Mb}(hb:SB s):Evt (fun n=>NP n s) (d7k s):=by
 obtain⟨b1,b2,b3,_⟩:=hb
 have hvl:=Tn s
 unfold NP
 refine Evt.bind (Qf s.form) fun v hv=>?_
 subst hv
 refine Evt.cond (fun e=>Evt.pure (.inl ⟨fun h=>?_,rfl⟩)) (fun e=>?_)
 ·rw[WY h]at e;simp at e
 replace e:=bx e
 have hok:OkF s.form:=(RN _).1 e
 unfold Ni Ux
 have hfl: [s.words,s.Mj,s.parts].flatten=vns s:=by unfold vns;simp
 simp only[Option.bind_assoc,Option.bind_some,hfl]
 refine Evt.bind (P:=fun v=>v=vns s) (Evt.chk (by rw[hvl];simp;omega) (Evt.pure rfl)) fun v hv=>?_
 subst hv
 refine Evt.cond (fun e=>?_) (fun e=>?_)
 ·replace e:=bx e
  exact Evt.pure (.inr (.inl ⟨hok,by omega,rfl⟩))
 replace e:=bx e
 have h300:(vns s).length≤300:=by omega
 refine Evt.bind (Vp hok.1 (by have:=hok.2.1;omega)) fun v4 hv4=>?_
 replace hv4:=hv4.1
 have hwl:wr .i64 ((s.words.length:Int)+(s.Mj.length:Int))=((s.words.length+s.Mj.length:Nat):Int):=by rw[Tt (by omega) (by omega)];omega
 refine Evt.Mw (Evt.scan (fun k _=>∀j,j<k→Qj s j=0) (fun k r=>Qj s k≠0∧r=⟨Qj s k,(k:Int)⟩) (fun j hj=>absurd hj (Nat.not_lt_zero _)) (fun k u hk hi=>?_)) (fun t ht=>?_) (fun r hr=>?_)
 ·have bad:∀c:Int,c≠0→Qj s k=c→Evt (fun _:Nat=>(Mn c (k:Int)).bind fun v=>some (Ctl.ret (σ:=Unit) (τ:=Unit) v)) (d6H (fun _:Unit=>∀j,j<k+1→Qj s j=0) (fun _=>False) (fun r=>Qj s k≠0∧r=⟨Qj s k,(k:Int)⟩)):=fun c hc h=>by
   unfold Mn
   exact Evt.pure ⟨by rw[h];exact hc,by rw[h]⟩
  have good:Qj s k=0→Evt (fun _:Nat=>some (Ctl.nxt (ρ:=Mi) (τ:=Unit) ())) (d6H (fun _:Unit=>∀j,j<k+1→Qj s j=0) (fun _=>False) (fun r=>Qj s k≠0∧r=⟨Qj s k,(k:Int)⟩)):=fun h=>Evt.pure fun j hj=>by
   by_cases ej:j=k
   ·subst ej;exact h
   ·exact hi j (by omega)
  unfold Pm
  refine Evt.bind (Uy _) fun v17 hv17=>Evt.cond (fun e=>bad 10 (by decide) ?_) (fun e=>?_)
  ·replace e:=bx e
   have:¬MI (Am.get (vns s) k):=fun h=>by rw[(Vn hv17).2 h]at e;cases e
   unfold Qj;rw[if_pos this]
  replace e:=bx e
  have s1:¬ ¬MI (Am.get (vns s) k):=fun h=>h ((Vn hv17).1 e)
  refine Evt.chk (by omega) ?_
  simp only[NY,Option.bind_some]
  refine Evt.cond (fun e=>bad 7 (by decide) ?_) (fun e=>?_)
  ·replace e:=bx e
   unfold Qj;rw[if_neg s1,if_pos e]
  replace e:=bx e
  have s2:=e
  refine Evt.bind (i0J _ s.form (Nat.le_refl _) _) fun v23 hv23=>Evt.cond (fun e=>?_) (fun e=>?_)
  ·replace e:=bx e
   have s3:k<s.words.length:=by omega
   refine Evt.cond (fun e=>bad 15 (by decide) ?_) (fun e=>good ?_)
   ·replace e:=bx e
    rw[hv4]at e
    unfold Qj;rw[if_neg s1,if_neg s2,if_pos s3,if_neg e]
   ·replace e:=bx e
    rw[hv4]at e
    unfold Qj;rw[if_neg s1,if_neg s2,if_pos s3,if_pos e]
  ·replace e:=bx e
   have s3:¬k<s.words.length:=by omega
   rw[hwl]
   refine Evt.cond (fun e=>?_) (fun e=>?_)
   ·replace e:=bx e
    have s4:k<s.words.length+s.Mj.length:=by omega
    refine Evt.cond (fun e=>bad 15 (by decide) ?_) (fun e=>good ?_)
    ·replace e:=bx e
     have:¬(Wx (Oa s.form) (Am.get (vns s) k)∨Vq (Oa s.form) (Am.get (vns s) k)):=by
      rw[←hv23.1, ←hv23.2]
      simp[e.1,e.2]
     unfold Qj;rw[if_neg s1,if_neg s2,if_neg s3,if_pos s4,if_neg this]
    ·have:Wx (Oa s.form) (Am.get (vns s) k)∨Vq (Oa s.form) (Am.get (vns s) k):=by
      rw[←hv23.1, ←hv23.2]
      cases h1:v23.1
      ·cases h2:v23.2
       ·simp[h1,h2]at e
       ·exact .inr rfl
      ·exact .inl rfl
     unfold Qj;rw[if_neg s1,if_neg s2,if_neg s3,if_pos s4,if_pos this]
   ·replace e:=bx e
    have s4:¬k<s.words.length+s.Mj.length:=by omega
    refine Evt.cond (fun e=>bad 5 (by decide) ?_) (fun e=>?_)
    ·have:=hv23.1.1 e
     unfold Qj;rw[if_neg s1,if_neg s2,if_neg s3,if_neg s4,if_pos this]
    ·have s5:¬Wx (Oa s.form) (Am.get (vns s) k):=by rw[←hv23.1];simp[e]
     refine Evt.cond (fun e=>bad 15 (by decide) ?_) (fun e=>good ?_)
     ·replace e:=bx e
      have:¬Vq (Oa s.form) (Am.get (vns s) k):=by rw[←hv23.2];simp[e]
      unfold Qj;rw[if_neg s1,if_neg s2,if_neg s3,if_neg s4,if_neg s5,if_neg this]
     ·replace e:=bx e
      have:=hv23.2.1 e
      unfold Qj;rw[if_neg s1,if_neg s2,if_neg s3,if_neg s4,if_neg s5,if_pos this]
 ·unfold Pn
  refine Evt.bind (Zm _ s.form (Nat.le_refl _) (by have:=hok.2.1;omega)) fun v29 hv29=>?_
  subst hv29
  have hql:(qs s.form).length≤200:=by rw[d0i];have:=d2a s.form;have:=hok.2.1;omega
  refine Evt.Mw (Evt.scan (fun k _=>∀j,j<k→Am.get (qs s.form) j∉ (qs s.form).take j∧Am.get (qs s.form) j∉s.words) (fun k r=>r=⟨7, -1⟩∧¬QOk s) (fun j hj=>absurd hj (Nat.not_lt_zero _)) (fun k u hk hi=>?_)) (fun u hu=>?_) (fun r hr=>?_)
  ·unfold Po
   refine Evt.chk (by omega) ?_
   simp only[NY,Option.bind_some]
   refine Evt.bind (P:=fun v=>Am.get (qs s.form) k∉ (qs s.form).take k→(v=true↔Am.get (qs s.form) k∈s.words)) (Evt.gd (fun g=>Evt.pure fun _=>by simp) (fun g h=>by simp[h]at g)) fun v38 hv38=>Evt.cond (fun e=>?_) (fun e=>Evt.pure fun j hj=>?_)
   ·replace e:=bx e
    refine Evt.pure ⟨rfl,fun h=>?_⟩
    obtain⟨h1,h2⟩:=h k hk
    rcases e with e|e
    ·exact h1 e
    ·exact h2 ((hv38 h1).1 e)
   ·by_cases ej:j=k
    ·subst ej
     by_cases h1:Am.get (qs s.form) j∈(qs s.form).take j
     ·simp[h1]at e
     ·refine⟨h1,fun h2=>?_⟩
      have:=(hv38 h1).2 h2
      simp[this]at e
    ·exact hi j (by omega)
  ·unfold Pp
   exact Evt.pure (.inr (.inr (.inr (.inr ⟨⟨hok,h300,ht,hu⟩,rfl⟩))))
  ·obtain⟨k,_,_,_,rfl,h⟩:=hr
   exact .inr (.inr (.inr (.inl ⟨hok,h300,ht,h,rfl⟩)))
 ·obtain⟨k,_,hk,hi,h1,h2⟩:=hr
  exact .inr (.inr (.inl ⟨hok,h300,k,hk,hi,h1,h2⟩))
theorem Vr{l:List Bs}{k:Nat}(hk:k≤l.length){x:Bs}:x∈l.take k↔ ∃j,j<k∧Am.get l j=x:=by
 rw[Na,List.length_take,Nat.min_eq_left hk]
 have hg:∀j,j<k→Am.get (l.take k) j=Am.get l j:=fun j hj=>by
  unfold Am.get
  rw[List.getD_eq_getElem?_getD,List.getD_eq_getElem?_getD,List.getElem?_take_of_lt hj]
 exact⟨fun⟨j,hj,e⟩=>⟨j,hj,by rw[←hg j hj];exact e⟩,fun⟨j,hj,e⟩=>⟨j,hj,by rw[hg j hj];exact e⟩⟩
mutual
theorem d8S:∀(f:LZ),WfF f→∀g∈Oa f,WfF g
 | .mk k n w s,h,g,hg=>by
   rw[Xa]at hg
   rcases List.mem_cons.1 hg with rfl|hg
   ·exact h
   ·exact d2e s ((Qe _).1 h).2 g hg
theorem d2e:∀(l:List LZ),WX l→∀g∈NC l,WfF g
 | [],_,g,hg=>by rw[NC]at hg;cases hg
 |f::l,h,g,hg=>by
  rw[NC]at hg
  rcases List.mem_append.1 hg with hg|hg
  ·exact d8S f (Nv.1 h f (List.mem_cons_self ..)) g hg
  ·exact d2e l (Nv.2 fun x hx=>Nv.1 h x (List.mem_cons_of_mem _ hx)) g hg
end
theorem Ui.one{it:IT}{x:Bs}:Ui [it] x↔ ∃m,m<it.words.length∧Am.get it.words m=x∧Am.get it.bound m=false:=by
 unfold Ui;simp
def dval(l:Bs):Nat:=l.foldl (fun a c=>10*a+(c.toNat-48)) 0
theorem d4r(u:Nat):dval (Lib.decDigits u)=u:=by
 induction u using Nat.strongRecOn with
 | _ u ih=>
   by_cases h:u<10
   ·rw[Lib.decDigits,dif_pos h]
    unfold dval
    simp only[List.foldl_cons,List.foldl_nil,UInt8.toNat_ofNat']
    omega
   ·rw[Lib.decDigits,dif_neg h]
    unfold dval
    rw[List.foldl_append]
    have:=ih (u / 10) (by omega)
    unfold dval at this
    rw[this]
    simp only[List.foldl_cons,List.foldl_nil,UInt8.toNat_ofNat']
    omega
theorem i0L{u v:Nat}(h:Lib.decDigits u=Lib.decDigits v):u=v:=by rw[←d4r u,h,d4r]
def vn(m:Nat):Bs:=118::Lib.decDigits m
theorem i2Z{u v:Nat}(h:vn u=vn v):u=v:=i0L (List.cons.inj h).2
def mk(m:Nat):Bs:=33::Lib.decDigits m
theorem d7l{m:Nat}(h:m≤1000000000):(Lib.decDigits m).length≤21:=by
 have:=Lib.itoa_length_le (m:Int) (by omega) (by omega)
 rwa[Lib.itoa_nonneg]at this
def d7P(p:Bs→Prop)(j m:Nat):Prop:=j≤m∧¬p (vn m)∧∀k,j≤k→k<m→p (vn k)
theorem d7P.uniq{p:Bs→Prop}{j m m':Nat}(h:d7P p j m)(h':d7P p j m'):m=m':=by
 rcases Nat.lt_trichotomy m m' with e|e|e
 ·exact absurd (h'.2.2 m h.1 e) h.2.1
 ·exact e
 ·exact absurd (h.2.2 m' h'.1 e) h'.2.1
theorem d7P.congr{p q:Bs→Prop}(hpq:∀x,p x↔q x){j m:Nat}(h:d7P p j m):d7P q j m:=⟨h.1,fun e=>h.2.1 ((hpq _).2 e),fun k a b=>(hpq _).1 (h.2.2 k a b)⟩
theorem d4s:∀(n:Nat) (C:List Bs) (g:Nat→Bs),C.length=n→(∀i j,g i=g j→i=j)→∃m,m≤n∧g m∉C
 |0,C,g,h,_=>⟨0,Nat.le_refl _,by rw[List.length_eq_zero_iff.1 h];exact List.not_mem_nil⟩
 |n+1,C,g,h,hg=>by
  by_cases hm:g (n+1)∈C
  ·obtain⟨m,h1,h2⟩:=d4s n (C.erase (g (n+1))) g (by rw[List.length_erase_of_mem hm,h];rfl) hg
   refine⟨m,by omega,fun h3=>h2 ((List.mem_erase_of_ne fun e=>?_).2 h3)⟩
   have:=hg _ _ e
   omega
  ·exact⟨n+1,Nat.le_refl _,hm⟩
theorem i3a{p:Bs→Prop}{C:List Bs}(hC:∀x,p x→x∈C)(j:Nat):∃m,d7P p j m∧m≤j+C.length:=by
 obtain⟨m,h1,h2⟩:=d4s _ C (fun i=>vn (j+i)) rfl (fun a b e=>by have:=i2Z e;omega)
 have key:∀d j,(∃m,j≤m∧m≤j+d∧¬p (vn m))→∃m,d7P p j m∧m≤j+d:=by
  intro d
  induction d with
  |zero=>
   rintro j ⟨m,a,b,c⟩
   obtain rfl:m=j:=by omega
   exact⟨m,⟨Nat.le_refl _,c,fun k a b=>absurd a (by omega)⟩,by omega⟩
  |succ d ih=>
   rintro j ⟨m,a,b,c⟩
   by_cases hp:p (vn j)
   ·have hne:j≠m:=fun e=>c (e▸hp)
    obtain⟨m',e1,e2⟩:=ih (j+1) ⟨m,by omega,by omega,c⟩
    refine⟨m',⟨by have:=e1.1;omega,e1.2.1,fun k a b=>?_⟩,by omega⟩
    by_cases ek:k=j
    ·rw[ek];exact hp
    ·exact e1.2.2 k (by omega) b
   ·exact⟨j,⟨Nat.le_refl _,hp,fun k a b=>absurd a (by omega)⟩,by omega⟩
 exact key _ j ⟨j+m,by omega,by omega,fun hp=>h2 (hC _ hp)⟩
open Classical in
noncomputable def nx(p:Bs→Prop)(j:Nat):Nat:=Classical.epsilon fun m=>d7P p j m
theorem d7m{p:Bs→Prop}{C:List Bs}(hC:∀x,p x→x∈C)(j:Nat):d7P p j (nx p j):=Classical.epsilon_spec ((i3a hC j).imp fun _ h=>h.1)
theorem i0M{p:Bs→Prop}{C:List Bs}(hC:∀x,p x→x∈C)(j:Nat):nx p j≤j+C.length:=by
 obtain⟨m,h1,h2⟩:=i3a hC j
 rw[(d7m hC j).uniq h1];exact h2
noncomputable def num(p:Bs→Prop):Nat→Nat
 |0=>nx p 0
 |i+1=>nx p (num p i+1)
noncomputable def NN(p:Bs→Prop)(i:Nat):Bs:=vn (num p i)
theorem i3b{p:Bs→Prop}{C:List Bs}(hC:∀x,p x→x∈C)(i:Nat):¬p (NN p i):=by
 cases i with
 |zero=>exact(d7m hC _).2.1
 |succ i=>exact(d7m hC _).2.1
theorem d7n{p:Bs→Prop}{C:List Bs}(hC:∀x,p x→x∈C)(L:Nat)(hL:C.length≤L):∀i,num p i≤(i+1)*(L+1)
 |0=>by have:=i0M hC 0;show nx p 0≤_;omega
 |i+1=>by
  have:=i0M hC (num p i+1)
  have:=d7n hC L hL i
  show nx p (num p i+1)≤_
  rw[Nat.succ_mul (i+1)]
  omega
def XF(K V:Nat→Bs):Nat→List (Bs×Bs)
 |0=>[]
 |k+1=>(K k,V k)::XF K V k
theorem Zp{K K' V V':Nat→Bs}:∀ {n:Nat},(∀k,k<n→K k=K' k∧V k=V' k)→XF K V n=XF K' V' n
 |0,_=>rfl
 |n+1,h=>by rw[XF,XF,(h n (by omega)).1,(h n (by omega)).2,Zp fun k hk=>h k (by omega)]
theorem i4Y{ρ:Type}(K V:Nat→Bs)(L:Nat)(hL:L≤8000000)(w:Bs)(body:Int→Option (Ctl ρ Int Bs))(hb:∀k,k<L→body (k:Int)=bif decide (K k=w)then some (.brk (V k))else some (.nxt (wr .i64 ((k:Int)-1))))(h0:body (-1)=some (.brk w)):
 Evt (fun n=>Qk body n (wr .i64 ((L:Int)-1))) (ExP (fun t=>t=sub (XF K V L) w) (fun _=>False)):=by
 have hw:wr .i64 ((L:Int)-1)=(L:Int)-1:=Tt (by omega) (by omega)
 rw[hw]
 refine Evt.d6Q L (fun k s=>∃m:Nat,s=(m:Int)-1∧m+k=L∧sub (XF K V L) w=sub (XF K V m) w) _ _ ⟨L,rfl,rfl,rfl⟩ (fun k s hk hs=>?_) (fun s hs=>?_)
 ·obtain⟨m,rfl,hm,he⟩:=hs
  obtain⟨m,rfl⟩:∃j,m=j+1:=⟨m-1,by omega⟩
  have e1:((m+1:Nat):Int)-1=(m:Int):=by omega
  rw[e1,hb m (by omega)]
  refine Evt.cond (fun e=>Evt.pure ?_) (fun e=>Evt.pure ?_)
  ·replace e:=bx e
   show V m=_
   rw[he,XF,UC,if_pos e]
  ·replace e:=bx e
   refine⟨m,Tt (by omega) (by omega),by omega,?_⟩
   rw[he,XF,UC,if_neg e]
 ·obtain⟨m,rfl,hm,he⟩:=hs
  obtain rfl:m=0:=by omega
  show Evt (fun _=>body (-1)) _
  rw[h0]
  refine Evt.pure ?_
  rw[he,XF,d6U]
  exact rfl
theorem d0T:∀(l:List LZ) (x:LZ),nqL (l++[x])=nqL l+nq x
 | [],x=>by simp[nqL]
 |a::l,x=>by rw[List.cons_append,nqL,nqL,d0T l x,Nat.add_assoc]
theorem d8T{l:List LZ}{k:Nat}(h:k<l.length):nqL (l.take k)+nq (Am.get l k)≤nqL l:=by
 have e:l=l.take (k+1)++l.drop (k+1):=(List.take_append_drop _ _).symm
 have:∀(l m:List LZ),nqL (l++m)=nqL l+nqL m:=fun l m=>by
  induction l with
  |nil=>simp[nqL]
  |cons a l ih=>rw[List.cons_append,nqL,nqL,ih,Nat.add_assoc]
 rw[←d0T, ←Od h]
 have:=this (l.take (k+1)) (l.drop (k+1))
 rw[←e]at this
 omega
theorem d2f(N:Nat→Bs):∀(l:List LZ) (x:LZ) (env:List (Bs×Bs)) (i:Nat),SD N (l++[x]) env i=SD N l env i++[ren N x env (i+nqL l)]
 | [],x,env,i=>by simp[SD,nqL]
 |a::l,x,env,i=>by rw[List.cons_append,SD,SD,d2f N l x,nqL,Nat.add_assoc];rfl
theorem i0N{m:Nat}(hm:m≤1000000000):itoa (m:Int)=some (Lib.decDigits m):=by
 unfold itoa
 rw[d3f (by omega),Lib.itoa_nonneg]
theorem d7o{C:List Bs}{p:Bs→Prop}(hC:∀x,x∈C↔p x){b:Nat}(hb:b+C.length≤100000000):Evt (fun n=>RB n (b:Int) C) (fun r=>r=(vn (nx p b),((nx p b+1:Nat):Int))):=by
 unfold RB
 have h:=d7m (fun x=>(hC x).2) b
 have hle:=i0M (fun x=>(hC x).2) b
 have step:∀m:Nat,m≤100000000→PU C (m:Int)=bif (!decide (vn m∈C))then some (.ret (vn m,((m+1:Nat):Int)))else some (.nxt ((m+1:Nat):Int)):=fun m hm=>by
  unfold PU
  have hl:=d7l (m:=m) (by omega)
  have hw:wr .i64 ((m:Int)+1)=((m+1:Nat):Int):=by rw[Tt (by omega) (by omega)];rfl
  have e:d1s [118] (Lib.decDigits m)=vn m:=rfl
  rw[i0N (by omega),Option.bind_some,d3f (show Qb _ _ by unfold Qb;simp;omega),e,NY,Option.bind_some,hw]
 refine Evt.Mw (Evt.d6Q (nx p b-b) (fun k s=>s=((b+k:Nat):Int)) (fun _=>False) (fun r=>r=(vn (nx p b),((nx p b+1:Nat):Int))) rfl (fun k s hk hs=>?_) (fun s hs=>?_)) (fun _ ht=>ht.elim) (fun r hr=>hr)
 ·subst hs
  rw[step _ (by omega)]
  have hm:vn (b+k)∈C:=(hC _).2 (h.2.2 _ (by omega) (by omega))
  simp only[hm,decide_true,Bool.not_true,cond_false]
  exact Evt.pure rfl
 ·subst hs
  have e:b+(nx p b-b)=nx p b:=by have:=h.1;omega
  rw[e,step _ (by omega)]
  have hm:vn (nx p b)∉C:=fun hm=>h.2.1 ((hC _).1 hm)
  simp only[hm,decide_false,Bool.not_false,cond_true]
  exact Evt.pure rfl
def d3q(env:List Mg):List (Bs×Bs):=XF (fun k=>(Am.get env k).from_) (fun k=>(Am.get env k).to_) env.length
theorem d4t{α:Type}[Inhabited α](l:List α)(x:α):Am.get (l++[x]) l.length=x∧∀k,k<l.length→Am.get (l++[x]) k=Am.get l k:=by
 unfold Am.get
 refine⟨by simp,fun k hk=>?_⟩
 rw[List.getD_eq_getElem?_getD,List.getD_eq_getElem?_getD,List.getElem?_append_left hk]
theorem d7p(env:List Mg)(a b:Bs):d3q (env++[⟨a,b⟩])=(a,b)::d3q env:=by
 unfold d3q
 rw[List.length_append,List.length_singleton,XF,(d4t env _).1]
 congr 1
 exact Zp fun k hk=>by rw[(d4t env _).2 k hk];exact⟨rfl,rfl⟩
theorem d5h{p:Bs→Prop}{C:List Bs}(hC:∀x,x∈C↔p x)(hCl:C.length≤10000):∀(m:Nat) (f:LZ),SizeOf.sizeOf f≤m→WfF f→∀(env:List Mg) (i b:Nat),env.length+ndF f≤100000→i+nq f≤1000→nx p b=num p i→
 Evt (fun n=>Nt n f env (b:Int) C) (fun r=>r.1=ren (NN p) f (d3q env) i∧∃b':Nat,r.2=(b':Int)∧nx p b'=num p (i+nq f)):=by
 intro m
 have hC2:∀x,p x→x∈C:=fun x=>(hC x).2
 induction m with
 |zero=>intro f h;cases f;simp only[LZ.mk.sizeOf_spec]at h;omega
 |succ m ih=>
  intro f hf hwf env i b d7q hi hb
  have hnd:=WW f
  have hws:=d2c hwf
  have hsl:=d0S hwf
  have hnq:=i4X f
  refine Evt.succ ?_
  simp only[Nt]
  refine Evt.Mw (P:=ExP (fun t=>t=f.words.map (sub (d3q env))) (fun _=>False)) ((Evt.range (fun k s=>s=(f.words.take k).map (sub (d3q env))) (fun _=>False) (fun _=>False) (by simp) (fun k s hk hs=>?_)).mono fun e he=>?_) (fun t ht=>?_) (fun _ h=>h.elim)
  ·unfold Qx
   refine Evt.Mw (i4Y (fun k=>(Am.get env k).from_) (fun k=>(Am.get env k).to_) env.length (by omega) (Am.get f.words k) (Pv env f k) (fun j hj=>?_) rfl) (fun t ht=>?_) (fun _ h=>h.elim)
   ·unfold Pv
    have e1:decide (0≤(j:Int))=true:=decide_eq_true (by omega)
    rw[e1,cond_true,d3f (by omega)]
    rfl
   ·unfold Qy
    refine Evt.Sk (Evt.chk ?_ (Evt.pure ?_))
    ·subst hs
     rw[QS];simp only[List.length_append,List.length_map,List.length_take,List.length_cons,List.length_nil];omega
    ·show _=_
     have ht:t=sub (d3q env) (Am.get f.words k):=ht
     rw[hs,ht,Od hk,List.map_append];rfl
  ·cases e with
   |ret r=>exact he
   |nxt t=>
    have:=he.elim id False.elim
    rw[List.take_length]at this
    exact this
  ·subst ht
   have key:∀(env':List Mg) (nm:Bs) (j c:Nat),nm=(if QK f.kind then NN p i else f.name)→d3q env'=(if QK f.kind then(f.name,NN p i)::d3q env else d3q env)→j=i+(if QK f.kind then 1 else 0)→nx p c=num p j→env'.length≤env.length+1→
    Evt (fun n=>Ou (Nt n) f C (f.words.map (sub (d3q env))) ((c:Int),nm,env')) (fun r=>r.1=ren (NN p) f (d3q env) i∧∃b':Nat,r.2=(b':Int)∧nx p b'=num p (i+nq f)):=by
    intro env' nm j c hnm i4Z hj hc hlen
    have hjn:j+nqL f.subs=i+nq f:=by omega
    unfold Ou
    refine Evt.Mw (P:=ExP (fun t=>t.2=SD (NN p) f.subs (d3q env') j∧∃b':Nat,t.1=(b':Int)∧nx p b'=num p (j+nqL f.subs)) (fun _=>False)) ((Evt.range (fun k s=>s.2=SD (NN p) (f.subs.take k) (d3q env') j∧∃b':Nat,s.1=(b':Int)∧nx p b'=num p (j+nqL (f.subs.take k))) (fun _=>False) (fun _=>False) ⟨by simp[SD],c,rfl,by simpa[nqL]using hc⟩ (fun k s hk hs=>?_)).mono fun e he=>?_) (fun t ht=>?_) (fun _ h=>h.elim)
    ·obtain⟨hs1,b',hs2,hs3⟩:=hs
     unfold Qz
     have hsz:=Oi hk
     have htk:=Tl hk
     have hqk:=d8T hk
     refine Evt.bind (P:=fun r=>r.1=ren (NN p) (Am.get f.subs k) (d3q env') (j+nqL (f.subs.take k))∧∃b'':Nat,r.2=(b'':Int)∧nx p b''=num p (j+nqL (f.subs.take k)+nq (Am.get f.subs k))) ?_ fun v hv=>Evt.Sk (Evt.chk ?_ (Evt.pure ?_))
     ·rw[hs2]
      exact ih _ (by omega) (Uh hwf hk) env' _ b' (by omega) (by omega) hs3
     ·rw[QS,hs1];simp only[List.length_append,Yq,List.length_take,List.length_cons,List.length_nil];omega
     ·obtain⟨hv1,b'',hv2,hv3⟩:=hv
      refine⟨?_,b'',hv2,?_⟩
      ·show s.2++[v.1]=_
       rw[hs1,hv1,Od hk,d2f]
      ·rw[hv3,Od hk,d0T,Nat.add_assoc]
    ·cases e with
     |ret r=>exact he
     |nxt t=>
      have:=he.elim id False.elim
      rw[List.take_length]at this
      exact this
    ·obtain⟨ht1,b',ht2,ht3⟩:=ht
     unfold QA
     refine Evt.pure ⟨?_,b',ht2,by rw[ht3,hjn]⟩
     show LZ.mk _ _ _ _=_
     rw[i2U,ht1,hnm,i4Z,hj]
   unfold QB
   simp only[UD,Option.bind_some]
   have hbl:=(d7m hC2 b).1
   have hnl:=d7n hC2 10000 hCl i
   refine Evt.cond (fun e=>?_) (fun e=>?_)
   ·replace e:=bx e
    rw[if_pos e]at hnq
    refine Evt.bind (d7o hC (b:=b) (by omega)) fun v hv=>Evt.chk (by omega) (Evt.Sk (Evt.chk ?_ ?_))
    ·rw[QS];simp only[List.length_append,List.length_cons,List.length_nil];omega
    ·subst hv
     exact key _ _ (i+1) (nx p b+1) (by rw[if_pos e,hb];rfl) (by rw[if_pos e,d7p,hb];rfl) (by rw[if_pos e]) (by rw[hb];rfl) (by simp)
   ·replace e:=bx e
    rw[if_neg e]at hnq
    exact key _ _ i b (by rw[if_neg e]) (by rw[if_neg e]) (by rw[if_neg e];rfl) hb (by omega)
noncomputable def cf(f:LZ):LZ:=ren (NN (fre f [])) f [] 0
theorem d0U{f:LZ}(h:OkF f):Evt (fun n=>Pw n f) (fun r=>r=cf f):=by
 have h2:=h.2.1
 unfold Pw RV
 have hq:=d2a f
 refine Evt.bind (P:=fun r=>r=cf f) (Evt.bind (Vp h.1 (by omega)) fun v hv=>?_) fun v hv=>Evt.pure hv
 refine Evt.Mw (P:=ExP (fun _=>True) (fun _=>False)) ⟨.nxt (),trivial,0,fun n _=>rfl⟩ (fun _ _=>?_) (fun _ h=>h.elim)
 unfold QC
 exact Evt.bind (d5h hv.1 (by omega) _ f (Nat.le_refl _) h.1 [] 0 0 (by simp;omega) (by omega) rfl) fun r hr=>Evt.pure hr.1
mutual
def SmF:LZ→Prop
 | .mk _ _ w s=>w.length≤3∧s.length≤2∧d0V s
def d0V:List LZ→Prop
 | []=>True
 |f::l=>SmF f∧d0V l
end
theorem d4u(f:LZ):SmF f↔f.words.length≤3∧f.subs.length≤2∧d0V f.subs:=by cases f;rw[SmF];rfl
theorem Yr:∀ {l:List LZ},d0V l→∀x∈l,SmF x
 | [],_,x,h=>by cases h
 |f::l,h,x,hx=>by
  rw[d0V]at h
  rcases List.mem_cons.1 hx with rfl|hx
  ·exact h.1
  ·exact Yr h.2 x hx
mutual
theorem WfF.sm:∀(f:LZ),WfF f→SmF f
 | .mk k n w s,h=>by
   rw[SmF]
   exact⟨d2c h,d0S h,WX.sm s ((Qe _).1 h).2⟩
theorem WX.sm:∀(l:List LZ),WX l→d0V l
 | [],_=>by rw[d0V];trivial
 |f::l,h=>by
  rw[d0V]
  exact⟨WfF.sm f (Nv.1 h f (List.mem_cons_self ..)),WX.sm l (Nv.2 fun x hx=>Nv.1 h x (List.mem_cons_of_mem _ hx))⟩
end
mutual
theorem SmF.ren(N:Nat→Bs):∀(f:LZ) (env:List (Bs×Bs)) (i:Nat),SmF f→SmF (ren N f env i)
 | .mk k n w s,env,i,h=>by
   rw[SmF]at h
   rw[Go.Proofs.YtdjnbjnlnjhllaaDoor.ren,SmF]
   exact⟨by rw[List.length_map];exact h.1,by rw[Yq];exact h.2.1,d0V.ren N s _ _ h.2.2⟩
theorem d0V.ren(N:Nat→Bs):∀(l:List LZ) (env:List (Bs×Bs)) (i:Nat),d0V l→d0V (SD N l env i)
 | [],env,i,_=>by rw[SD,d0V];trivial
 |f::l,env,i,h=>by
  rw[d0V]at h
  rw[SD,d0V]
  exact⟨SmF.ren N f env i h.1,d0V.ren N l env _ h.2⟩
end
mutual
theorem d8U:∀(f:LZ),WfF f→∀(bd:List Bs) (x:Bs),fre f bd x→MI x
 | .mk k n w s,h,bd,x,hx=>by
   rw[fre]at hx
   rcases hx with hx|hx
   ·exact(OT ((Qe _).1 h).1).2.2.2.2 x hx.1
   ·exact d2g s ((Qe _).1 h).2 _ x hx
theorem d2g:∀(l:List LZ),WX l→∀(bd:List Bs) (x:Bs),Un l bd x→MI x
 | [],_,bd,x,hx=>by rw[Un]at hx;exact hx.elim
 |f::l,h,bd,x,hx=>by
  rw[Un]at hx
  rcases hx with hx|hx
  ·exact d8U f (Nv.1 h f (List.mem_cons_self ..)) bd x hx
  ·exact d2g l (Nv.2 fun y hy=>Nv.1 h y (List.mem_cons_of_mem _ hy)) bd x hx
end
mutual
def swp(σ:Bs→Bs):LZ→LZ
 | .mk k n w s=>.mk k (if QK k then σ n else n) (w.map σ) (i3c σ s)
def i3c(σ:Bs→Bs):List LZ→List LZ
 | []=>[]
 |f::l=>swp σ f::i3c σ l
end
theorem i0O{l:List Bs}{k:Nat}(h:k<l.length):l.drop k=Am.get l k::l.drop (k+1):=by
 rw[List.drop_eq_getElem_cons h]
 simp[Am.get,h]
theorem d7r(σ:Bs→Bs){w:Bs}(h:σ w=w):∀env:List (Bs×Bs),σ (sub env w)=sub (env.map fun e=>(e.1,σ e.2)) w
 | []=>by rw[List.map_nil,d6U,h]
 |(a,b)::env=>by
  rw[List.map_cons,UC,UC]
  split
  ·rfl
  ·exact d7r σ h env
mutual
theorem i0P(σ:Bs→Bs)(N:Nat→Bs)(q:Nat)(h1:∀j,j<q→σ (mk j)=N j)(h2:∀w,MI w→σ w=w):∀(f:LZ) (env:List (Bs×Bs)) (i:Nat),WfF f→i+nq f≤q→swp σ (ren mk f env i)=ren N f (env.map fun e=>(e.1,σ e.2)) i
 | .mk k n w s,env,i,hwf,hq=>by
   have hn:=((Qe _).1 hwf).1
   have hs:=((Qe _).1 hwf).2
   have hw:=(OT hn).2.2.2.2
   rw[nq]at hq
   rw[ren,ren,swp]
   have e1:(w.map (sub env)).map σ=w.map (sub (env.map fun e=>(e.1,σ e.2))):=by
    rw[List.map_map]
    exact List.map_congr_left fun x hx=>d7r σ (h2 x (hw x hx)) env
   rw[e1]
   by_cases hk:QK k
   ·rw[if_pos hk]at hq
    simp only[if_pos hk]
    rw[h1 i (by omega),d0W σ N q h1 h2 s _ _ hs (by omega),List.map_cons,h1 i (by omega)]
   ·rw[if_neg hk]at hq
    simp only[if_neg hk]
    rw[d0W σ N q h1 h2 s _ _ hs (by omega)]
theorem d0W(σ:Bs→Bs)(N:Nat→Bs)(q:Nat)(h1:∀j,j<q→σ (mk j)=N j)(h2:∀w,MI w→σ w=w):∀(l:List LZ) (env:List (Bs×Bs)) (i:Nat),WX l→i+nqL l≤q→i3c σ (SD mk l env i)=SD N l (env.map fun e=>(e.1,σ e.2)) i
 | [],env,i,_,_=>by rw[SD,SD,i3c]
 |f::l,env,i,h,hq=>by
  rw[nqL]at hq
  rw[SD,SD,i3c,i0P σ N q h1 h2 f env i (Nv.1 h f (List.mem_cons_self ..)) (by omega),d0W σ N q h1 h2 l env _ (Nv.2 fun x hx=>Nv.1 h x (List.mem_cons_of_mem _ hx)) (by omega)]
end
end Go.Proofs.YtdjnbjnlnjhllaaDoor
