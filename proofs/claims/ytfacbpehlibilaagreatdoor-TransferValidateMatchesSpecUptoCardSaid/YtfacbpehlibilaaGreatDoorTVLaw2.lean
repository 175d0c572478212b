import Derived.Lib.ItoaMem
import Derived.Lib.ItoaLen
import Derived.Test.YtfacbpehlibilaaGreatDoorTVLaw1
set_option linter.unusedVariables false
set_option linter.unusedSimpArgs false
namespace Go.Proofs.YtfacbpehlibilaaGreatDoor
open Go Go.Am
theorem w4I(l:List Bs)(x:Bs):Evt (fun _=>r5e l x) (fun r=>r=decide (x∈l)):=by
 unfold r5e r8E
 refine Evt.bind (P:=fun r=>0≤r↔x∈l) (Evt.r5r (Evt.scan (fun k _=>∀j,j<k→Am.get l j≠x) (fun k r=>r=(k:Int)∧Am.get l k=x) (fun j hj=>absurd hj (Nat.not_lt_zero _)) (fun k u hk hi=>?_)) (fun t ht=>?_) (fun r hr=>?_)) fun v hv=>Evt.pure ?_
 ·unfold r7I
  refine Evt.cond (fun e=>Evt.pure ?_) (fun e=>Evt.pure ?_)
  ·replace e:=bx e
   exact⟨rfl,e.symm⟩
  ·replace e:=bx e
   intro j hj
   by_cases ej:j=k
   ·subst ej;exact fun h=>e h.symm
   ·exact hi j (by omega)
 ·unfold r7J
  refine Evt.pure ⟨fun h=>absurd h (by decide),fun h=>?_⟩
  obtain⟨j,hj,e⟩:=r9P.1 h
  exact absurd e (ht j hj)
 ·obtain⟨k,_,hk,_,rfl,e⟩:=hr
  exact⟨fun _=>r9P.2 ⟨k,hk,e⟩,fun _=>by omega⟩
 ·by_cases h:x∈l
  ·simp[h,hv.2 h]
  ·have h3:¬0≤v:=fun h2=>h (hv.1 h2)
   simp only[h,h3,decide_false]
theorem r7E(l:List Bs)(x:Bs):r5e l x=some (decide (x∈l)):=by
 obtain⟨r,rfl,N,hN⟩:=w4I l x
 exact hN N (Nat.le_refl _)
theorem w6f{zs:List Bs}{x:Bs}:x∈Lib.compact zs↔x∈zs:=by
 unfold Lib.compact Lib.compactUpTo
 rw[List.mem_map]
 have hg:∀j,j<zs.length→zs.toArray[j]! =Am.get zs j:=fun j hj=>by simp[Am.get,hj]
 constructor
 ·rintro⟨j,hj,rfl⟩
  have hj:=List.mem_range.1 (List.mem_filter.1 hj).1
  rw[hg j hj]
  exact get_mem hj
 ·intro h
  obtain⟨j,hj,rfl⟩:=r9P.1 h
  have key:∀j,j<zs.length→∃a,a∈(List.range zs.length).filter (Lib.keeps zs.toArray)∧zs.toArray[a]! =Am.get zs j:=by
   intro j
   induction j with
   |zero=>intro hj;exact⟨0,List.mem_filter.2 ⟨List.mem_range.2 hj,Lib.keeps_lt_one _ 0 (by omega)⟩,hg 0 hj⟩
   |succ j ih=>
    intro hj
    by_cases hk:Lib.keeps zs.toArray (j+1)=true
    ·exact⟨j+1,List.mem_filter.2 ⟨List.mem_range.2 hj,hk⟩,hg _ hj⟩
    ·obtain⟨a,h1,h2⟩:=ih (by omega)
     refine⟨a,h1,h2.trans ?_⟩
     unfold Lib.keeps at hk
     simp only[decide_eq_true_eq,not_or,Decidable.not_not,ne_eq]at hk
     have:=hk.2
     rw[hg _ hj,Nat.add_sub_cancel,hg j (by omega)]at this
     exact this.symm
  exact key j hj
mutual
theorem x0P:∀(f:p6w) (bd bd':List Bs),(∀y,y∈bd↔y∈bd')→∀x,fre f bd x↔fre f bd' x
 | .mk k n w s,bd,bd',h,x=>by
   rw[fre,fre,h x,u8D s _ _ (fun y=>?_) x]
   split
   ·simp[h y]
   ·exact h y
theorem u8D:∀(l:List p6w) (bd bd':List Bs),(∀y,y∈bd↔y∈bd')→∀x,u0x l bd x↔u0x l bd' x
 | [],bd,bd',h,x=>by rw[u0x,u0x]
 |f::l,bd,bd',h,x=>by rw[u0x,u0x,x0P f bd bd' h x,u8D l bd bd' h x]
end
theorem x0Q(l:List p6w)(f:p6w)(bd:List Bs)(x:Bs):u0x (l++[f]) bd x↔u0x l bd x∨fre f bd x:=by
 rw[w3i,w3i]
 constructor
 ·rintro⟨g,hg,h⟩
  rcases List.mem_append.1 hg with hg|hg
  ·exact .inl ⟨g,hg,h⟩
  ·rw[List.mem_singleton]at hg;subst hg;exact .inr h
 ·rintro(⟨g,hg,h⟩|h)
  ·exact⟨g,List.mem_append.2 (.inl hg),h⟩
  ·exact⟨f,List.mem_append.2 (.inr (List.mem_singleton.2 rfl)),h⟩
theorem w8C:∀(m:Nat) (f:p6w),SizeOf.sizeOf f≤m→WfF f→∀(bd l:List Bs),bd.length+ndF f≤100000→l.length+3*ndF f≤300000→
 Evt (fun n=>r6m n f bd l) (fun r=>(∀x,x∈r↔x∈l∨fre f bd x)∧r.length≤l.length+3*ndF f):=by
 intro m
 induction m with
 |zero=>intro f h;cases f;simp only[p6w.mk.sizeOf_spec]at h;omega
 |succ m ih=>
  intro f hf hwf bd l hbd hl
  have hnd:=w0O f
  have hws:=w2m hwf
  refine Evt.succ ?_
  simp only[r6m]
  refine Evt.r5r (P:=ExP (fun t=>(∀x,x∈t↔x∈l∨(x∈f.words∧x∉bd))∧t.length≤l.length+3) (fun _=>False)) ((Evt.range (fun k s=>(∀x,x∈s↔x∈l∨(x∈f.words.take k∧x∉bd))∧s.length≤l.length+k) (fun _=>False) (fun _=>False) ⟨fun x=>by simp,by omega⟩ (fun k s hk hi=>?_)).mono fun e he=>?_) (fun t ht=>?_) (fun _ h=>h.elim)
  ·unfold r9G
   simp only[r7E,Option.bind_some]
   refine Evt.cond (fun e=>Evt.r9F (Evt.chk ?_ (Evt.pure ⟨fun x=>?_,?_⟩))) (fun e=>Evt.pure ⟨fun x=>?_,by omega⟩)
   ·rw[u4e];simp only[List.length_append,List.length_cons,List.length_nil];omega
   ·replace e:=bx e
    rw[List.mem_append,hi.1 x,r8p hk,List.mem_append,List.mem_singleton]
    by_cases hx:x=Am.get f.words k
    ·subst hx;simp[e]
    ·simp[hx]
   ·simp only[List.length_append,List.length_cons,List.length_nil];omega
   ·replace e:=bx e
    rw[hi.1 x,r8p hk,List.mem_append,List.mem_singleton]
    by_cases hx:x=Am.get f.words k
    ·subst hx;simp[e]
    ·simp[hx]
  ·cases e with
   |ret r=>exact he
   |nxt t=>
    obtain⟨h1,h2⟩:=he.elim id False.elim
    rw[List.take_length]at h1
    exact⟨h1,by omega⟩
  ·obtain⟨h1,h2⟩:=ht
   have key:∀bd':List Bs,(∀y,y∈bd'↔y∈(if QK f.kind then f.name::bd else bd))→bd'.length≤bd.length+1→Evt (fun n=>r7C (r6m n) f t bd') (fun r=>(∀x,x∈r↔x∈l∨fre f bd x)∧r.length≤l.length+3*ndF f):=by
    intro bd' hb hbl
    unfold r7C
    refine Evt.r5r (P:=ExP (fun r=>(∀x,x∈r↔x∈t∨u0x f.subs bd' x)∧r.length≤t.length+3*r9s f.subs) (fun _=>False)) ((Evt.range (fun k s=>(∀x,x∈s↔x∈t∨u0x (f.subs.take k) bd' x)∧s.length≤t.length+3*r9s (f.subs.take k)) (fun _=>False) (fun _=>False) ⟨fun x=>by simp[u0x],by omega⟩ (fun k s hk hi=>?_)).mono fun e he=>?_) (fun r hr=>?_) (fun _ h=>h.elim)
    ·unfold r9H
     have hsz:=u0r hk
     have htk:=u5o hk
     refine Evt.bind (ih _ (by omega) (w0R hwf hk) bd' s (by omega) (by omega)) fun v hv=>Evt.pure ⟨fun x=>?_,?_⟩
     ·rw[hv.1 x,hi.1 x,r8p hk,x0Q,or_assoc]
     ·rw[r8p hk,w0Q]
      have:=hv.2
      have:=hi.2
      omega
    ·cases e with
     |ret r=>exact he
     |nxt r=>
      have:=he.elim id False.elim
      rw[List.take_length]at this
      exact this
    ·obtain⟨h3,h4⟩:=hr
     unfold r9I
     refine Evt.pure ⟨fun x=>?_,by omega⟩
     rw[h3 x,h1 x,w7h,u8D f.subs _ _ hb x,or_assoc]
   unfold r9J
   simp only[u5H,Option.bind_some]
   refine Evt.cond (fun e=>Evt.chk (by omega) (Evt.r9F (Evt.chk ?_ (key _ (fun y=>?_) ?_)))) (fun e=>key _ (fun y=>?_) (by omega))
   ·rw[u4e];simp only[List.length_append,List.length_cons,List.length_nil];omega
   ·replace e:=bx e
    rw[if_pos e];simp[or_comm]
   ·simp
   ·replace e:=bx e
    rw[if_neg e]
theorem w4J{f:p6w}(hwf:WfF f)(hn:ndF f≤50000):Evt (fun n=>r9k n f) (fun r=>(∀x,x∈r↔fre f [] x)∧r.length≤3*ndF f):=by
 unfold r9k
 refine Evt.bind (w8C _ f (Nat.le_refl _) hwf [] [] (by simp;omega) (by simp;omega)) fun v hv=>?_
 obtain⟨h1,h2⟩:=hv
 simp only[List.length_nil,Nat.zero_add]at h2
 unfold r6U r8b
 have hlen:(u6t cfB v).length=v.length:=(u2P cfB v).length_eq
 refine Evt.bind (Evt.chk (by omega) (Evt.pure (P:=fun r=>r=u6t cfB v) rfl)) fun r hr=>?_
 subst hr
 refine Evt.bind (Evt.chk (by omega) (Evt.pure (P:=fun r=>True) trivial)) fun _ _=>Evt.pure ⟨fun x=>?_,?_⟩
 ·rw[w6f,(u2P cfB v).mem_iff,h1 x]
  simp
 ·have:=Lib.compact_length_le (u6t cfB v)
  omega
theorem w0S:∀(m:Nat) (f:p6w),SizeOf.sizeOf f≤m→ndF f≤100000→Evt (fun n=>r5s n f) (fun r=>r=qs f):=by
 intro m
 induction m with
 |zero=>intro f h;cases f;simp only[p6w.mk.sizeOf_spec]at h;omega
 |succ m ih=>
  intro f hf hn
  have hnd:=w0O f
  refine Evt.succ ?_
  simp only[r5s,u5H,Option.bind_some]
  have x2P:∀(l:List p6w) (x:p6w),qsL (l++[x])=qsL l++qs x:=fun l x=>by
   induction l with
   |nil=>simp[qsL]
   |cons a l ih=>rw[List.cons_append,qsL,qsL,ih,List.append_assoc]
  have key:∀l0:List Bs,l0=(if QK f.kind then [f.name]else [])→Evt (fun n=>r6J (r5s n) f l0) (fun r=>r=qs f):=by
   intro l0 h0
   have hl0:l0.length≤1:=by rw[h0];split<;>simp
   unfold r6J
   refine Evt.r5r (P:=ExP (fun t=>t=l0++qsL f.subs) (fun _=>False)) ((Evt.range (fun k s=>s=l0++qsL (f.subs.take k)) (fun _=>False) (fun _=>False) (by simp[qsL]) (fun k s hk hi=>?_)).mono fun e he=>?_) (fun t ht=>?_) (fun _ h=>h.elim)
   ·subst hi
    unfold r8F
    have hsz:=u0r hk
    have htk:=u5o hk
    refine Evt.bind (ih _ (by omega) (by omega)) fun v hv=>Evt.r9F (Evt.chk ?_ (Evt.pure ?_))
    ·subst hv
     have h1:=w5Z (f.subs.take k)
     have h2:=w4E (Am.get f.subs k)
     have h3:=x0x (f.subs.take k)
     have h4:=x0w (Am.get f.subs k)
     rw[u4e]
     simp only[List.length_append]
     omega
    ·subst hv
     show _=_
     rw[r8p hk,x2P,List.append_assoc]
   ·cases e with
    |ret r=>exact he
    |nxt t=>
     have:=he.elim id False.elim
     rw[List.take_length]at this
     exact this
   ·have ht:t=_:=ht
    subst ht
    unfold r8G
    refine Evt.pure ?_
    rw[x2M, ←h0]
  refine Evt.cond (fun e=>Evt.r9F (Evt.chk (by simp[u4e]) (key _ ?_))) (fun e=>key _ ?_)
  ·replace e:=bx e
   rw[if_pos e];rfl
  ·replace e:=bx e
   rw[if_neg e]
mutual
def r5D:p6w→List p6w
 | .mk k n w s=>.mk k n w s::r7U s
def r7U:List p6w→List p6w
 | []=>[]
 |x::l=>r5D x++r7U l
end
theorem w3m(f:p6w):r5D f=f::r7U f.subs:=by cases f;rw[r5D];rfl
mutual
theorem u0s:∀f:p6w,(r5D f).length=ndF f
 | .mk k n w s=>by rw[r5D,ndF,List.length_cons,w2n s];omega
theorem w2n:∀l:List p6w,(r7U l).length=r9s l
 | []=>by rw[r7U,r9s];rfl
 |x::l=>by rw[r7U,r9s,List.length_append,u0s x,w2n l]
end
def w8D(b:Nat)(g:p6w)(it:IT):Prop:=it.kind=g.kind∧it.name=g.name∧it.words=g.words∧it.end_=((b+ndF g:Nat):Int)∧it.bound.length=g.words.length
mutual
theorem u5p:∀(f:p6w) (ar:List Bs) (b j:Nat),j<ndF f→w8D (b+j) (Am.get (r5D f) j) (Am.get (u0L f ar b) j)
 | .mk k n w s,ar,b,0,_=>by
   rw[u0L,r5D]
   refine⟨rfl,rfl,rfl,?_,?_⟩
   ·show((b+(1+r9s s):Nat):Int)=_
    show _=((b+0+ndF (.mk k n w s):Nat):Int)
    rw[ndF];rfl
   ·show(w.map _).length=w.length
    simp
 | .mk k n w s,ar,b,j+1,h=>by
   rw[u0L,r5D]
   rw[ndF]at h
   have:=w0T s (if QK k then n::ar else ar) (b+1) j (by omega)
   rw[show b+(j+1)=b+1+j by omega]
   exact this
theorem w0T:∀(l:List p6w) (ar:List Bs) (b j:Nat),j<r9s l→w8D (b+j) (Am.get (r7U l) j) (Am.get (u0M l ar b) j)
 | [],ar,b,j,h=>by rw[r9s]at h;omega
 |x::l,ar,b,j,h=>by
  rw[r9s]at h
  rw[u0M,r7U]
  by_cases hj:j<ndF x
  ·have:=u5p x ar b j hj
   have e1:Am.get (r5D x++r7U l) j=Am.get (r5D x) j:=by
    unfold Am.get
    rw[List.getD_eq_getElem?_getD,List.getD_eq_getElem?_getD,List.getElem?_append_left (by rw[u0s];exact hj)]
   have e2:Am.get (u0L x ar b++u0M l ar (b+ndF x)) j=Am.get (u0L x ar b) j:=by
    unfold Am.get
    rw[List.getD_eq_getElem?_getD,List.getD_eq_getElem?_getD,List.getElem?_append_left (by rw[u1c];exact hj)]
   rw[e1,e2];exact this
  ·have:=w0T l ar (b+ndF x) (j-ndF x) (by omega)
   have e1:Am.get (r5D x++r7U l) j=Am.get (r7U l) (j-ndF x):=by
    unfold Am.get
    rw[List.getD_eq_getElem?_getD,List.getD_eq_getElem?_getD,List.getElem?_append_right (by rw[u0s];omega),u0s]
   have e2:Am.get (u0L x ar b++u0M l ar (b+ndF x)) j=Am.get (u0M l ar (b+ndF x)) (j-ndF x):=by
    unfold Am.get
    rw[List.getD_eq_getElem?_getD,List.getD_eq_getElem?_getD,List.getElem?_append_right (by rw[u1c];omega),u1c]
   rw[e1,e2,show b+j=b+ndF x+(j-ndF x)by omega]
   exact this
end
theorem u7p:∀(l:List p6w) (x:p6w),r7U (l++[x])=r7U l++r5D x
 | [],x=>by simp[r7U]
 |a::l,x=>by rw[List.cons_append,r7U,r7U,u7p l x,List.append_assoc]
def u6M(l:List p6w)(x:Bs):Prop:=∃g∈l,g.kind=2∧g.name=x∧0<g.words.length
def u7w(l:List p6w)(x:Bs):Prop:=∃g∈l,g.kind=2∧g.name=x∧g.words.length=0
theorem u6M.app{l m:List p6w}{x:Bs}:u6M (l++m) x↔u6M l x∨u6M m x:=by
 unfold u6M
 constructor
 ·rintro⟨g,hg,h⟩
  rcases List.mem_append.1 hg with hg|hg
  ·exact .inl ⟨g,hg,h⟩
  ·exact .inr ⟨g,hg,h⟩
 ·rintro(⟨g,hg,h⟩|⟨g,hg,h⟩)
  ·exact⟨g,List.mem_append.2 (.inl hg),h⟩
  ·exact⟨g,List.mem_append.2 (.inr hg),h⟩
theorem u7w.app{l m:List p6w}{x:Bs}:u7w (l++m) x↔u7w l x∨u7w m x:=by
 unfold u7w
 constructor
 ·rintro⟨g,hg,h⟩
  rcases List.mem_append.1 hg with hg|hg
  ·exact .inl ⟨g,hg,h⟩
  ·exact .inr ⟨g,hg,h⟩
 ·rintro(⟨g,hg,h⟩|⟨g,hg,h⟩)
  ·exact⟨g,List.mem_append.2 (.inl hg),h⟩
  ·exact⟨g,List.mem_append.2 (.inr hg),h⟩
theorem u6M.one{g:p6w}{x:Bs}:u6M [g] x↔g.kind=2∧g.name=x∧0<g.words.length:=by
 unfold u6M;simp
theorem u7w.one{g:p6w}{x:Bs}:u7w [g] x↔g.kind=2∧g.name=x∧g.words.length=0:=by
 unfold u7w;simp
theorem x5a:∀(m:Nat) (f:p6w),SizeOf.sizeOf f≤m→∀x,Evt (fun n=>r8c n f x) (fun r=>(r.1=true↔u6M (r5D f) x)∧(r.2=true↔u7w (r5D f) x)):=by
 intro m
 induction m with
 |zero=>intro f h;cases f;simp only[p6w.mk.sizeOf_spec]at h;omega
 |succ m ih=>
  intro f hf x
  refine Evt.succ ?_
  simp only[r8c]
  have key:∀j:Bool×Bool,(j.1=true↔u6M [f] x)→(j.2=true↔u7w [f] x)→Evt (fun n=>r9l (r8c n) f x j) (fun r=>(r.1=true↔u6M (r5D f) x)∧(r.2=true↔u7w (r5D f) x)):=by
   intro j h1 h2
   unfold r9l
   refine Evt.r5r (P:=ExP (fun s:Bool×Bool=>(s.1=true↔u6M (f::r7U f.subs) x)∧(s.2=true↔u7w (f::r7U f.subs) x)) (fun _=>False)) ((Evt.range (fun k s=>(s.1=true↔u6M ([f]++r7U (f.subs.take k)) x)∧(s.2=true↔u7w ([f]++r7U (f.subs.take k)) x)) (fun _=>False) (fun _=>False) ⟨by simpa[r7U]using h1,by simpa[r7U]using h2⟩ (fun k s hk hi=>?_)).mono fun e he=>?_) (fun t ht=>?_) (fun _ h=>h.elim)
   ·unfold u1J
    have hsz:=u0r hk
    refine Evt.bind (ih _ (by omega) x) fun v hv=>Evt.pure ⟨?_,?_⟩
    ·rw[r8p hk,u7p, ←List.append_assoc,u6M.app, ←hv.1, ←hi.1]
     cases s.1<;>simp
    ·rw[r8p hk,u7p, ←List.append_assoc,u7w.app, ←hv.2, ←hi.2]
     cases s.2<;>simp
   ·cases e with
    |ret r=>exact he
    |nxt t=>
     have:=he.elim id False.elim
     rw[List.take_length]at this
     exact this
   ·unfold u1K
    refine Evt.pure ?_
    rw[w3m]
    exact ht
  refine Evt.cond (fun e=>key _ ?_ ?_) (fun e=>key _ ?_ ?_)
  ·replace e:=bx e
   rw[u6M.one];simp[e.1,e.2]
  ·replace e:=bx e
   rw[u7w.one];simp[e.1,e.2]
  ·rw[u6M.one]
   refine⟨fun h=>(by cases h),fun h=>?_⟩
   simp[h.1,h.2.1]at e
  ·rw[u7w.one]
   refine⟨fun h=>(by cases h),fun h=>?_⟩
   simp[h.1,h.2.1]at e
def u3A(l:List IT)(x:Bs):Prop:=∃it∈l,∃m,m<it.words.length∧Am.get it.words m=x∧Am.get it.bound m=false
theorem u3A.app{l m:List IT}{x:Bs}:u3A (l++m) x↔u3A l x∨u3A m x:=by
 unfold u3A
 constructor
 ·rintro⟨g,hg,h⟩
  rcases List.mem_append.1 hg with hg|hg
  ·exact .inl ⟨g,hg,h⟩
  ·exact .inr ⟨g,hg,h⟩
 ·rintro(⟨g,hg,h⟩|⟨g,hg,h⟩)
  ·exact⟨g,List.mem_append.2 (.inl hg),h⟩
  ·exact⟨g,List.mem_append.2 (.inr hg),h⟩
theorem u3A.cons{a:IT}{l:List IT}{x:Bs}:u3A (a::l) x↔u3A [a] x∨u3A l x:=by
 rw[←u3A.app];rfl
theorem u3A.nil{x:Bs}:¬u3A [] x:=fun⟨_,h,_⟩=>by cases h
theorem get_map{α β:Type}[Inhabited α][Inhabited β](g:α→β){l:List α}{k:Nat}(h:k<l.length):Am.get (l.map g) k=g (Am.get l k):=by
 unfold Am.get
 rw[List.getD_eq_getElem?_getD,List.getD_eq_getElem?_getD,List.getElem?_map,List.getElem?_eq_getElem h]
 rfl
mutual
theorem w4K:∀(f:p6w) (ar:List Bs) (b:Nat) (x:Bs),u3A (u0L f ar b) x↔fre f ar x
 | .mk k n w s,ar,b,x=>by
   rw[u0L,u3A.cons,fre,w2o s]
   refine or_congr_left ?_
   constructor
   ·rintro⟨it,hit,m,h1,h2,h3⟩
    rw[List.mem_singleton]at hit
    subst hit
    have h1:m<w.length:=h1
    have h2:Am.get w m=x:=h2
    have h3:Am.get (w.map fun x=>decide (x∈ar)) m=false:=h3
    rw[get_map _ h1,h2]at h3
    exact⟨r9P.2 ⟨m,h1,h2⟩,of_decide_eq_false h3⟩
   ·rintro⟨h1,h2⟩
    obtain⟨m,h3,h4⟩:=r9P.1 h1
    refine⟨_,List.mem_singleton.2 rfl,m,h3,h4,?_⟩
    show Am.get (w.map fun x=>decide (x∈ar)) m=false
    rw[get_map _ h3,h4]
    exact decide_eq_false h2
theorem w2o:∀(l:List p6w) (ar:List Bs) (b:Nat) (x:Bs),u3A (u0M l ar b) x↔u0x l ar x
 | [],ar,b,x=>by rw[u0M,u0x];exact⟨fun h=>u3A.nil h,False.elim⟩
 |f::l,ar,b,x=>by rw[u0M,u0x,u3A.app,w4K f,w2o l]
end
def qsI(l:List IT):List Bs:=l.flatMap fun it=>if QK it.kind then [it.name]else []
mutual
theorem w6g:∀(f:p6w) (ar:List Bs) (b:Nat),qsI (u0L f ar b)=qs f
 | .mk k n w s,ar,b=>by
   rw[u0L,qs]
   show(if QK k then [n]else [])++qsI _=_
   rw[w7n s]
theorem w7n:∀(l:List p6w) (ar:List Bs) (b:Nat),qsI (u0M l ar b)=qsL l
 | [],ar,b=>by rw[u0M,qsL];rfl
 |f::l,ar,b=>by
  rw[u0M,qsL, ←w6g f ar b, ←w7n l ar (b+ndF f)]
  exact List.flatMap_append
end
theorem x3M{ρ:Type}(l:List Bs)(x:Bs)(body:Int→Option (Ctl Int Int Unit))(hb:∀s,body s=bif decide (s<(l.length:Int))then chk (0≤s∧s<(l.length:Int)) <| bif decide (Am.get l s.toNat=x)then some (.ret s)else some (.nxt (wr .i64 (s+1)))else some (.brk ()))
 (hl:l.length≤8000000) (k:Unit→Option Int) (hk:k ()=some (-1)):Evt (fun n=>r5r (r6G body n 0) k) (fun r=>(x∉l∧r= -1)∨∃j,j<l.length∧Am.get l j=x∧(∀i,i<j→Am.get l i≠x)∧r=(j:Int)):=by
 refine Evt.r5r (Evt.u6u l.length (fun k s=>s=(k:Int)∧∀i,i<k→Am.get l i≠x) (fun _=>x∉l) (fun r=>∃j,j<l.length∧Am.get l j=x∧(∀i,i<j→Am.get l i≠x)∧r=(j:Int)) ⟨rfl,fun i hi=>absurd hi (Nat.not_lt_zero _)⟩ (fun k s hk hs=>?_) (fun s hs=>?_)) (fun t ht=>?_) (fun r hr=>.inr hr)
 ·obtain⟨rfl,hs⟩:=hs
  rw[hb]
  refine Evt.cond (fun _=>Evt.chk (by omega) (Evt.cond (fun e=>Evt.pure ?_) (fun e=>Evt.pure ?_))) (fun e=>by replace e:=bx e;omega)
  ·replace e:=bx e
   exact⟨k,hk,by simpa using e,hs,rfl⟩
  ·replace e:=bx e
   rw[u0Y (by omega) (by omega)]
   refine⟨rfl,fun i hi=>?_⟩
   by_cases ei:i=k
   ·subst ei;simpa using e
   ·exact hs i (by omega)
 ·obtain⟨rfl,hs⟩:=hs
  rw[hb]
  refine Evt.cond (fun e=>by replace e:=bx e;omega) (fun _=>Evt.pure fun h=>?_)
  obtain⟨j,hj,e⟩:=r9P.1 h
  exact hs j hj e
 ·rw[hk]
  exact Evt.pure (.inl ⟨ht,rfl⟩)
def u9d(l:List Bs)(x:Bs)(r:Int):Prop:=(x∉l∧r= -1)∨∃j,j<l.length∧Am.get l j=x∧(∀i,i<j→Am.get l i≠x)∧r=(j:Int)
theorem u9d.mem{l:List Bs}{x:Bs}{r:Int}(h:u9d l x r):0≤r↔x∈l:=by
 rcases h with⟨h1,rfl⟩|⟨j,hj,e,_,rfl⟩
 ·exact⟨fun h=>absurd h (by decide),fun h=>absurd h h1⟩
 ·exact⟨fun _=>r9P.2 ⟨j,hj,e⟩,fun _=>by omega⟩
theorem u5q(l:List Bs)(x:Bs)(hl:l.length≤8000000):Evt (fun n=>r5P n l x) (u9d l x):=x3M (ρ:=Unit) l x (r8d l x) (fun _=>rfl) hl _ rfl
theorem w4L(l:List Bs)(x:Bs)(hl:l.length≤8000000):Evt (fun n=>r7N n x l) (u9d l x):=x3M (ρ:=Unit) l x (r8e l x) (fun _=>rfl) hl _ rfl
def vns(s:r5b):List Bs:=s.words++s.r5o++s.parts
open Classical in
noncomputable def r8n(s:r5b)(i:Nat):Int:=
 if ¬r5Q (Am.get (vns s) i)then 10
 else if Am.get (vns s) i∈(vns s).take i then 7
 else if i<s.words.length then(if fre s.form [] (Am.get (vns s) i)then 0 else 15)
 else if i<s.words.length+s.r5o.length then(if u6M (r5D s.form) (Am.get (vns s) i)∨u7w (r5D s.form) (Am.get (vns s) i)then 0 else 15)
 else if u6M (r5D s.form) (Am.get (vns s) i)then 5 else if u7w (r5D s.form) (Am.get (vns s) i)then 0 else 15
def QOk(s:r5b):Prop:=∀k,k<(qs s.form).length→Am.get (qs s.form) k∉ (qs s.form).take k∧Am.get (qs s.form) k∉s.words
def OkS(s:r5b):Prop:=OkF s.form∧(vns s).length≤300∧(∀j,j<(vns s).length→r8n s j=0)∧QOk s
def FB(step:Nat→Int)(N:Nat)(r:r5d):Prop:=∃k,k<N∧(∀j,j<k→step j=0)∧step k≠0∧r=⟨step k,k⟩
theorem FB.uniq{step:Nat→Int}{N:Nat}{r r':r5d}(h:FB step N r)(h':FB step N r'):r=r':=by
 obtain⟨k,_,h2,h3,rfl⟩:=h
 obtain⟨k',_,h2',h3',rfl⟩:=h'
 have:k=k':=by
  rcases Nat.lt_trichotomy k k' with h|h|h
  ·exact absurd (h2' k h) h3
  ·exact h
  ·exact absurd (h2 k' h) h3'
 rw[this]
def x0R(s:r5b)(r:r5d):Prop:=
 (¬OkF s.form∧r=u4h s.form)∨(OkF s.form∧300<(vns s).length∧r=⟨2, -1⟩)∨(OkF s.form∧(vns s).length≤300∧FB (r8n s) (vns s).length r)∨
 (OkF s.form∧(vns s).length≤300∧(∀j,j<(vns s).length→r8n s j=0)∧¬QOk s∧r=⟨7, -1⟩)∨(OkS s∧r=⟨0,0⟩)
theorem x0R.code{s:r5b}{r:r5d}(h:x0R s r)(h0:r.code=0):OkS s∧r=⟨0,0⟩:=by
 rcases h with⟨h1,rfl⟩|⟨_,_,rfl⟩|⟨_,_,k,_,_,h3,rfl⟩|⟨_,_,_,_,rfl⟩|h
 ·exact absurd ((u4i _).1 h0) h1
 ·cases h0
 ·exact absurd h0 h3
 ·cases h0
 ·exact h
theorem x0R.ok{s:r5b}{r:r5d}(h:x0R s r)(h0:OkS s):r=⟨0,0⟩:=by
 obtain⟨k1,k2,k3,k4⟩:=h0
 rcases h with⟨h1,_⟩|⟨_,h1,_⟩|⟨_,_,k,h2,_,h3,_⟩|⟨_,_,_,h1,_⟩|⟨_,h⟩
 ·exact absurd k1 h1
 ·omega
 ·exact absurd (k3 k h2) h3
 ·exact absurd k4 h1
 ·exact h
theorem x0R.uniq{s:r5b}{r r':r5d}(h:x0R s r)(h':x0R s r'):r=r':=by
 rcases h with⟨h1,rfl⟩|⟨h1,h2,rfl⟩|⟨h1,h2,h3⟩|⟨h1,h2,h3,h4,rfl⟩|⟨h1,rfl⟩
 ·rcases h' with⟨k1,rfl⟩|⟨k1,_⟩|⟨k1,_⟩|⟨k1,_⟩|⟨k1,_⟩
  ·rfl
  ·exact absurd k1 h1
  ·exact absurd k1 h1
  ·exact absurd k1 h1
  ·exact absurd k1.1 h1
 ·rcases h' with⟨k1,_⟩|⟨_,_,rfl⟩|⟨_,k2,_⟩|⟨_,k2,_⟩|⟨k1,_⟩
  ·exact absurd h1 k1
  ·rfl
  ·omega
  ·omega
  ·exact absurd k1.2.1 (by omega)
 ·rcases h' with⟨k1,_⟩|⟨_,k2,_⟩|⟨_,_,k3⟩|⟨_,_,k3,_⟩|⟨k1,_⟩
  ·exact absurd h1 k1
  ·omega
  ·exact h3.uniq k3
  ·obtain⟨k,a,_,b,_⟩:=h3;exact absurd (k3 k a) b
  ·obtain⟨k,a,_,b,_⟩:=h3;exact absurd (k1.2.2.1 k a) b
 ·rcases h' with⟨k1,_⟩|⟨_,k2,_⟩|⟨_,_,k3⟩|⟨_,_,_,_,rfl⟩|⟨k1,_⟩
  ·exact absurd h1 k1
  ·omega
  ·obtain⟨k,a,_,b,_⟩:=k3;exact absurd (h3 k a) b
  ·rfl
  ·exact absurd k1.2.2.2 h4
 ·exact(x0R.ok h' h1).symm
def SB(s:r5b):Prop:=s.words.length≤1048576∧s.r5o.length≤1048576∧s.parts.length≤1048576∧∀x∈vns s,x.length≤8000000
theorem w3n(s:r5b):(vns s).length=s.words.length+s.r5o.length+s.parts.length:=by unfold vns;simp only[List.length_append]
theorem w6h{s:r5b}(hb:SB s):Evt (fun n=>r9Q n s) (x0R s):=by
 obtain⟨b1,b2,b3,_⟩:=hb
 have hvl:=w3n s
 unfold r9Q
 refine Evt.bind (u4L s.form) fun v hv=>?_
 subst hv
 refine Evt.cond (fun e=>Evt.pure (.inl ⟨fun h=>?_,rfl⟩)) (fun e=>?_)
 ·rw[w4G h]at e;simp at e
 replace e:=bx e
 have hok:OkF s.form:=(u4i _).1 e
 unfold r9t w3e
 have hfl: [s.words,s.r5o,s.parts].flatten=vns s:=by unfold vns;simp
 simp only[Option.bind_assoc,Option.bind_some,hfl]
 refine Evt.bind (P:=fun v=>v=vns s) (Evt.chk (by rw[hvl];simp;omega) (Evt.pure rfl)) fun v hv=>?_
 subst hv
 refine Evt.cond (fun e=>?_) (fun e=>?_)
 ·replace e:=bx e
  exact Evt.pure (.inr (.inl ⟨hok,by omega,rfl⟩))
 replace e:=bx e
 have h300:(vns s).length≤300:=by omega
 refine Evt.bind (w4J hok.1 (by have:=hok.2.1;omega)) fun v4 hv4=>?_
 replace hv4:=hv4.1
 have hwl:wr .i64 ((s.words.length:Int)+(s.r5o.length:Int))=((s.words.length+s.r5o.length:Nat):Int):=by rw[u0Y (by omega) (by omega)];omega
 refine Evt.r5r (Evt.scan (fun k _=>∀j,j<k→r8n s j=0) (fun k r=>r8n s k≠0∧r=⟨r8n s k,(k:Int)⟩) (fun j hj=>absurd hj (Nat.not_lt_zero _)) (fun k u hk hi=>?_)) (fun t ht=>?_) (fun r hr=>?_)
 ·have bad:∀c:Int,c≠0→r8n s k=c→Evt (fun _:Nat=>(r6F c (k:Int)).bind fun v=>some (Ctl.ret (σ:=Unit) (τ:=Unit) v)) (w4u (fun _:Unit=>∀j,j<k+1→r8n s j=0) (fun _=>False) (fun r=>r8n s k≠0∧r=⟨r8n s k,(k:Int)⟩)):=fun c hc h=>by
   unfold r6F
   exact Evt.pure ⟨by rw[h];exact hc,by rw[h]⟩
  have good:r8n s k=0→Evt (fun _:Nat=>some (Ctl.nxt (ρ:=r5d) (τ:=Unit) ())) (w4u (fun _:Unit=>∀j,j<k+1→r8n s j=0) (fun _=>False) (fun r=>r8n s k≠0∧r=⟨r8n s k,(k:Int)⟩)):=fun h=>Evt.pure fun j hj=>by
   by_cases ej:j=k
   ·subst ej;exact h
   ·exact hi j (by omega)
  unfold r9K
  refine Evt.bind (u7n _) fun v17 hv17=>Evt.cond (fun e=>bad 10 (by decide) ?_) (fun e=>?_)
  ·replace e:=bx e
   have:¬r5Q (Am.get (vns s) k):=fun h=>by rw[(u1z hv17).2 h]at e;cases e
   unfold r8n;rw[if_pos this]
  replace e:=bx e
  have s1:¬ ¬r5Q (Am.get (vns s) k):=fun h=>h ((u1z hv17).1 e)
  refine Evt.chk (by omega) ?_
  simp only[r7E,Option.bind_some]
  refine Evt.cond (fun e=>bad 7 (by decide) ?_) (fun e=>?_)
  ·replace e:=bx e
   unfold r8n;rw[if_neg s1,if_pos e]
  replace e:=bx e
  have s2:=e
  refine Evt.bind (x5a _ s.form (Nat.le_refl _) _) fun v23 hv23=>Evt.cond (fun e=>?_) (fun e=>?_)
  ·replace e:=bx e
   have s3:k<s.words.length:=by omega
   refine Evt.cond (fun e=>bad 15 (by decide) ?_) (fun e=>good ?_)
   ·replace e:=bx e
    rw[hv4]at e
    unfold r8n;rw[if_neg s1,if_neg s2,if_pos s3,if_neg e]
   ·replace e:=bx e
    rw[hv4]at e
    unfold r8n;rw[if_neg s1,if_neg s2,if_pos s3,if_pos e]
  ·replace e:=bx e
   have s3:¬k<s.words.length:=by omega
   rw[hwl]
   refine Evt.cond (fun e=>?_) (fun e=>?_)
   ·replace e:=bx e
    have s4:k<s.words.length+s.r5o.length:=by omega
    refine Evt.cond (fun e=>bad 15 (by decide) ?_) (fun e=>good ?_)
    ·replace e:=bx e
     have:¬(u6M (r5D s.form) (Am.get (vns s) k)∨u7w (r5D s.form) (Am.get (vns s) k)):=by
      rw[←hv23.1, ←hv23.2]
      simp[e.1,e.2]
     unfold r8n;rw[if_neg s1,if_neg s2,if_neg s3,if_pos s4,if_neg this]
    ·have:u6M (r5D s.form) (Am.get (vns s) k)∨u7w (r5D s.form) (Am.get (vns s) k):=by
      rw[←hv23.1, ←hv23.2]
      cases h1:v23.1
      ·cases h2:v23.2
       ·simp[h1,h2]at e
       ·exact .inr rfl
      ·exact .inl rfl
     unfold r8n;rw[if_neg s1,if_neg s2,if_neg s3,if_pos s4,if_pos this]
   ·replace e:=bx e
    have s4:¬k<s.words.length+s.r5o.length:=by omega
    refine Evt.cond (fun e=>bad 5 (by decide) ?_) (fun e=>?_)
    ·have:=hv23.1.1 e
     unfold r8n;rw[if_neg s1,if_neg s2,if_neg s3,if_neg s4,if_pos this]
    ·have s5:¬u6M (r5D s.form) (Am.get (vns s) k):=by rw[←hv23.1];simp[e]
     refine Evt.cond (fun e=>bad 15 (by decide) ?_) (fun e=>good ?_)
     ·replace e:=bx e
      have:¬u7w (r5D s.form) (Am.get (vns s) k):=by rw[←hv23.2];simp[e]
      unfold r8n;rw[if_neg s1,if_neg s2,if_neg s3,if_neg s4,if_neg s5,if_neg this]
     ·replace e:=bx e
      have:=hv23.2.1 e
      unfold r8n;rw[if_neg s1,if_neg s2,if_neg s3,if_neg s4,if_neg s5,if_pos this]
 ·unfold r9L
  refine Evt.bind (w0S _ s.form (Nat.le_refl _) (by have:=hok.2.1;omega)) fun v29 hv29=>?_
  subst hv29
  have hql:(qs s.form).length≤200:=by rw[w4E];have:=x0w s.form;have:=hok.2.1;omega
  refine Evt.r5r (Evt.scan (fun k _=>∀j,j<k→Am.get (qs s.form) j∉ (qs s.form).take j∧Am.get (qs s.form) j∉s.words) (fun k r=>r=⟨7, -1⟩∧¬QOk s) (fun j hj=>absurd hj (Nat.not_lt_zero _)) (fun k u hk hi=>?_)) (fun u hu=>?_) (fun r hr=>?_)
  ·unfold r9M
   refine Evt.chk (by omega) ?_
   simp only[r7E,Option.bind_some]
   refine Evt.bind (P:=fun v=>Am.get (qs s.form) k∉ (qs s.form).take k→(v=true↔Am.get (qs s.form) k∈s.words)) (Evt.gd (fun g=>Evt.pure fun _=>by simp) (fun g h=>by simp[h]at g)) fun v38 hv38=>Evt.cond (fun e=>?_) (fun e=>Evt.pure fun j hj=>?_)
   ·replace e:=bx e
    refine Evt.pure ⟨rfl,fun h=>?_⟩
    obtain⟨h1,h2⟩:=h k hk
    rcases e with e|e
    ·exact h1 e
    ·exact h2 ((hv38 h1).1 e)
   ·by_cases ej:j=k
    ·subst ej
     by_cases h1:Am.get (qs s.form) j∈(qs s.form).take j
     ·simp[h1]at e
     ·refine⟨h1,fun h2=>?_⟩
      have:=(hv38 h1).2 h2
      simp[this]at e
    ·exact hi j (by omega)
  ·unfold r9N
   exact Evt.pure (.inr (.inr (.inr (.inr ⟨⟨hok,h300,ht,hu⟩,rfl⟩))))
  ·obtain⟨k,_,_,_,rfl,h⟩:=hr
   exact .inr (.inr (.inr (.inl ⟨hok,h300,ht,h,rfl⟩)))
 ·obtain⟨k,_,hk,hi,h1,h2⟩:=hr
  exact .inr (.inr (.inl ⟨hok,h300,k,hk,hi,h1,h2⟩))
theorem w4M{s:Bs}(hl:s.length≤8000000):Evt (fun n=>r8x n s) (fun b=>b=u9q s):=by
 unfold r8x
 refine Evt.r5r (Evt.u6u s.length (fun k i=>i=(k:Int)∧∀j,j<k→OkC (r6p s (j:Int))∧(j=0→97≤r6p s 0∧r6p s 0≤122)) (fun _=>∀j,j<s.length→OkC (r6p s (j:Int))∧(j=0→97≤r6p s 0∧r6p s 0≤122)) (fun b=>b=false∧¬r5Q s) ⟨rfl,fun j hj=>absurd hj (Nat.not_lt_zero _)⟩ (fun k i hk hi=>?_) (fun i hi=>?_)) (fun t ht=>?_) (fun r hr=>?_)
 ·obtain⟨rfl,hi⟩:=hi
  unfold r7u
  refine Evt.cond (fun _=>Evt.chk (by omega) ?_) (fun e=>by replace e:=bx e;omega)
  have key:OkC (r6p s (k:Int))∧(k=0→97≤r6p s 0∧r6p s 0≤122)↔((97≤r6p s (k:Int)∧r6p s (k:Int)≤122)∨(0<(k:Int)∧(((48≤r6p s (k:Int)∧r6p s (k:Int)≤57)∨r6p s (k:Int)=95)∨r6p s (k:Int)=45))):=by
   unfold OkC
   by_cases hk0:k=0
   ·subst hk0
    simp only[Int.ofNat_zero,forall_const,Int.lt_irrefl,false_and,or_false]
    exact⟨fun h=>h.2,fun h=>⟨.inl h,h⟩⟩
   ·have:0<(k:Int):=by omega
    simp only[this,hk0,false_implies,and_true,true_and,or_assoc]
  refine Evt.cond (fun e=>Evt.pure ⟨rfl,fun hn=>?_⟩) (fun e=>Evt.pure ?_)
  ·have h2:=key.1 ⟨hn.2.2.2 k hk,fun h0=>hn.2.2.1⟩
   replace e:=bx e
   omega
  ·rw[u0Y (by omega) (by omega)]
   refine⟨rfl,fun j hj=>?_⟩
   by_cases ej:j=k
   ·subst ej
    refine key.2 ?_
    replace e:=bx e
    omega
   ·exact hi j (by omega)
 ·obtain⟨rfl,hi⟩:=hi
  unfold r7u
  exact Evt.cond (fun e=>by replace e:=bx e;omega) (fun _=>Evt.pure hi)
 ·unfold r8H
  refine Evt.pure ?_
  by_cases h1:0<s.length
  ·by_cases h2:s.length≤30
   ·have:decide (0<(s.length:Int))=true:=decide_eq_true (by omega)
    have h3:decide ((s.length:Int)≤30)=true:=decide_eq_true (by omega)
    rw[this,h3]
    exact(u8B ⟨h1,h2,(ht 0 h1).2 rfl,fun k hk=>(ht k hk).1⟩).symm
   ·have h3:decide ((s.length:Int)≤30)=false:=decide_eq_false (by omega)
    rw[h3,u1N fun h=>h2 h.2.1]
    cases decide (0<(s.length:Int))<;>rfl
  ·have:decide (0<(s.length:Int))=false:=decide_eq_false (by omega)
   rw[this,u1N fun h=>h1 h.1]
   rfl
 ·rw[hr.1,u1N hr.2]
theorem u6v{l:List Bs}{k:Nat}(hk:k≤l.length){x:Bs}:x∈l.take k↔ ∃j,j<k∧Am.get l j=x:=by
 rw[r9P,List.length_take,Nat.min_eq_left hk]
 have hg:∀j,j<k→Am.get (l.take k) j=Am.get l j:=fun j hj=>by
  unfold Am.get
  rw[List.getD_eq_getElem?_getD,List.getD_eq_getElem?_getD,List.getElem?_take_of_lt hj]
 exact⟨fun⟨j,hj,e⟩=>⟨j,hj,by rw[←hg j hj];exact e⟩,fun⟨j,hj,e⟩=>⟨j,hj,by rw[hg j hj];exact e⟩⟩
mutual
theorem w3o:∀(f:p6w),WfF f→∀g∈r5D f,WfF g
 | .mk k n w s,h,g,hg=>by
   rw[w3m]at hg
   rcases List.mem_cons.1 hg with rfl|hg
   ·exact h
   ·exact w4N s ((u1l _).1 h).2 g hg
theorem w4N:∀(l:List p6w),u6L l→∀g∈r7U l,WfF g
 | [],_,g,hg=>by rw[r7U]at hg;cases hg
 |f::l,h,g,hg=>by
  rw[r7U]at hg
  rcases List.mem_append.1 hg with hg|hg
  ·exact w3o f (r7s.1 h f (List.mem_cons_self ..)) g hg
  ·exact w4N l (r7s.2 fun x hx=>r7s.1 h x (List.mem_cons_of_mem _ hx)) g hg
end
theorem u3A.one{it:IT}{x:Bs}:u3A [it] x↔ ∃m,m<it.words.length∧Am.get it.words m=x∧Am.get it.bound m=false:=by
 unfold u3A;simp
theorem w0U(l m:List IT):qsI (l++m)=qsI l++qsI m:=List.flatMap_append
theorem w3p(it:IT):qsI [it]=if QK it.kind then [it.name]else []:=by unfold qsI;simp
theorem x2Q(s9:Bool×Bool×Int)(R:List IT)(k:Nat)(names:List Bs)(i:Nat)(h9:s9.2.2=(i:Int))(hi:i<R.length)(hk:k<names.length)(hw:(Am.get R i).words.length≤3)(hbd:(Am.get R i).bound.length=(Am.get R i).words.length):
 Evt (fun n=>r6G (r5R s9 R (k:Int) names) n (s9.1,0)) (ExP (fun t=>t=true↔s9.1=true∨u3A [Am.get R i] (Am.get names k)) (fun _=>False)):=by
 refine(Evt.u6u (Am.get R i).words.length (fun j s=>s.2=(j:Int)∧(s.1=true↔s9.1=true∨∃m,m<j∧Am.get (Am.get R i).words m=Am.get names k∧Am.get (Am.get R i).bound m=false)) _ _ ⟨rfl,by simp⟩ (fun j s hj hs=>?_) (fun s hs=>?_))
 ·obtain⟨hs1,hs2⟩:=hs
  unfold r5R
  rw[h9,hs1]
  simp only[Int.toNat_natCast]
  refine Evt.chk (by omega) (Evt.cond (fun _=>Evt.chk ⟨u8A fun _=>by omega,u8A fun _=>by omega⟩ (Evt.chk hk (Evt.chk ⟨u8A fun _=>by omega,u8A fun _=>by omega⟩ (Evt.pure ?_)))) (fun e=>by replace e:=bx e;omega))
  refine⟨by rw[u0Y (by omega) (by omega)];omega,?_⟩
  have hx:(∃m,m<j+1∧Am.get (Am.get R i).words m=Am.get names k∧Am.get (Am.get R i).bound m=false)↔(∃m,m<j∧Am.get (Am.get R i).words m=Am.get names k∧Am.get (Am.get R i).bound m=false)∨(Am.get (Am.get R i).words j=Am.get names k∧Am.get (Am.get R i).bound j=false):=by
   constructor
   ·rintro⟨m,h1,h2⟩
    by_cases e:m=j
    ·subst e;exact .inr h2
    ·exact .inl ⟨m,by omega,h2⟩
   ·rintro(⟨m,h1,h2⟩|h2)
    ·exact⟨m,by omega,h2⟩
    ·exact⟨j,by omega,h2⟩
  rw[hx, ←or_assoc, ←hs2]
  cases s.1
  ·by_cases e:Am.get (Am.get R i).words j=Am.get names k
   ·cases Am.get (Am.get R i).bound j<;>simp[e]
   ·simp[e]
  ·simp
 ·obtain⟨hs1,hs2⟩:=hs
  unfold r5R
  rw[h9,hs1]
  simp only[Int.toNat_natCast]
  refine Evt.chk (by omega) (Evt.cond (fun e=>by replace e:=bx e;omega) (fun _=>Evt.pure ?_))
  rw[u3A.one]
  exact hs2
def Seen(s:r5b)(R:List IT)(k i:Nat)(b1 b2:Bool):Prop:=
 (k<s.words.length→(b1=true↔u3A (R.take i) (Am.get (vns s) k))∧b2=false)∧
 (¬k<s.words.length→(b1=true↔u6M ((r5D s.form).take i) (Am.get (vns s) k)∨u7w ((r5D s.form).take i) (Am.get (vns s) k))∧(b2=true↔u6M ((r5D s.form).take i) (Am.get (vns s) k)))
theorem x5b{s:r5b}(hok:OkF s.form)(k:Nat)(hk:k<(vns s).length):
 Evt (fun n=>r6G (r5W n (u0L s.form [] 0) (k:Int) s (vns s)) n (false,false,0)) (ExP (fun t=>Seen s (u0L s.form [] 0) k (ndF s.form) t.1 t.2) (fun _=>False)):=by
 have hrl:(u0L s.form [] 0).length=ndF s.form:=u1c _ _ _
 have h2:=hok.2.1
 refine Evt.u6u (ndF s.form) (fun i t=>t.2.2=(i:Int)∧Seen s (u0L s.form [] 0) k i t.1 t.2.1) _ _ ⟨rfl,?_⟩ (fun i t hi ht=>?_) (fun t ht=>?_)
 ·refine⟨fun _=>⟨?_,rfl⟩,fun _=>⟨?_,?_⟩⟩
  ·simp[u3A.nil]
  ·simp[u6M,u7w]
  ·simp[u6M]
 ·obtain⟨ht1,ht2,ht3⟩:=ht
  have htl:=u5p s.form [] 0 i hi
  have hfl:i<(r5D s.form).length:=by rw[u0s];exact hi
  have hwf:=w3o _ hok.1 _ (get_mem hfl)
  have hwd:(Am.get (u0L s.form [] 0) i).words.length≤3:=by rw[htl.2.2.1];exact w2m hwf
  unfold r5W
  refine Evt.cond (fun _=>Evt.cond (fun e=>?_) (fun e=>?_)) (fun e=>by replace e:=bx e;omega)
  ·replace e:=bx e
   have hkw:k<s.words.length:=by omega
   refine Evt.r5r (x2Q t _ k _ i ht1 (by omega) hk hwd (by rw[htl.2.2.1];exact htl.2.2.2.2)) (fun u hu=>?_) (fun _ h=>h.elim)
   unfold r6S
   refine Evt.pure ⟨by show wr .i64 (t.2.2+1)=_;rw[ht1,u0Y (by omega) (by omega)];omega,fun _=>⟨?_,(ht2 hkw).2⟩,fun h=>absurd hkw h⟩
   rw[r8p (by omega),u3A.app, ←(ht2 hkw).1]
   exact hu
  ·replace e:=bx e
   have hkw:¬k<s.words.length:=by omega
   have h9:t.2.2=(i:Int):=ht1
   simp only[h9,Int.toNat_natCast]
   refine Evt.chk (by omega) (Evt.chk hk (Evt.cond (fun e=>Evt.pure ?_) (fun e=>Evt.pure ?_)))
   ·replace e:=bx e
    refine⟨by show wr .i64 ((i:Int)+1)=_;rw[u0Y (by omega) (by omega)];omega,fun h=>absurd h hkw,fun _=>?_⟩
    rw[htl.1,htl.2.1]at e
    simp only[r8p hfl,u6M.app,u7w.app,u6M.one,u7w.one]
    refine⟨iff_of_true trivial ?_,?_⟩
    ·rcases Nat.eq_zero_or_pos (Am.get (r5D s.form) i).words.length with h|h
     ·exact .inr (.inr ⟨e.1,e.2,h⟩)
     ·exact .inl (.inr ⟨e.1,e.2,h⟩)
    ·rw[←(ht3 hkw).2,htl.2.2.1]
     cases t.2.1<;>simp[e.1,e.2]
   ·refine⟨by show wr .i64 ((i:Int)+1)=_;rw[u0Y (by omega) (by omega)];omega,fun h=>absurd h hkw,fun _=>?_⟩
    rw[htl.1,htl.2.1]at e
    have hn:¬((Am.get (r5D s.form) i).kind=2∧(Am.get (r5D s.form) i).name=Am.get (vns s) k):=fun h=>by simp[h.1,h.2]at e
    simp only[r8p hfl,u6M.app,u7w.app,u6M.one,u7w.one]
    have n1:¬((Am.get (r5D s.form) i).kind=2∧(Am.get (r5D s.form) i).name=Am.get (vns s) k∧0<(Am.get (r5D s.form) i).words.length):=fun h=>hn ⟨h.1,h.2.1⟩
    have n2:¬((Am.get (r5D s.form) i).kind=2∧(Am.get (r5D s.form) i).name=Am.get (vns s) k∧(Am.get (r5D s.form) i).words.length=0):=fun h=>hn ⟨h.1,h.2.1⟩
    simp only[n1,n2,or_false]
    exact ht3 hkw
 ·obtain⟨ht1,ht2⟩:=ht
  unfold r5W
  refine Evt.cond (fun e=>by replace e:=bx e;omega) (fun _=>Evt.pure ht2)
theorem x5c{s:r5b}(hb:SB s)(hok:OkF s.form)(h300:(vns s).length≤300):
 Evt (fun n=>r6G (r5X n (vns s) (u0L s.form [] 0) s) n 0) (ExP (fun _=>∀j,j<(vns s).length→r8n s j=0) (fun r=>FB (r8n s) (vns s).length r)):=by
 have hvl:=w3n s
 have hwl:wr .i64 ((s.words.length:Int)+(s.r5o.length:Int))=((s.words.length+s.r5o.length:Nat):Int):=by rw[u0Y (by omega) (by omega)];omega
 refine Evt.u6u (vns s).length (fun k i=>i=(k:Int)∧∀j,j<k→r8n s j=0) _ _ ⟨rfl,fun j hj=>absurd hj (Nat.not_lt_zero _)⟩ (fun k i hk hi=>?_) (fun i hi=>?_)
 ·obtain⟨rfl,hi⟩:=hi
  have bad:∀c:Int,c≠0→r8n s k=c→w4u (fun i=>i=((k+1:Nat):Int)∧∀j,j<k+1→r8n s j=0) (fun _:Unit=>∀j,j<(vns s).length→r8n s j=0) (fun r=>FB (r8n s) (vns s).length r) (Ctl.ret ⟨c,(k:Int)⟩):=fun c hc h=>⟨k,hk,hi,by rw[h];exact hc,by rw[h]⟩
  have good:r8n s k=0→w4u (fun i=>i=((k+1:Nat):Int)∧∀j,j<k+1→r8n s j=0) (fun _:Unit=>∀j,j<(vns s).length→r8n s j=0) (fun r=>FB (r8n s) (vns s).length r) (Ctl.nxt (wr .i64 ((k:Int)+1))):=fun h=>⟨by rw[u0Y (by omega) (by omega)];omega,fun j hj=>by
   by_cases ej:j=k
   ·subst ej;exact h
   ·exact hi j (by omega)⟩
  unfold r5X
  refine Evt.cond (fun _=>Evt.chk (by omega) ?_) (fun e=>by replace e:=bx e;omega)
  simp only[Int.toNat_natCast]
  refine Evt.bind (w4M (hb.2.2.2 _ (get_mem hk))) fun v hv=>Evt.cond (fun e=>Evt.pure (bad 10 (by decide) ?_)) (fun e=>?_)
  ·replace e:=bx e
   have:¬r5Q (Am.get (vns s) k):=fun h=>by rw[(u1z hv).2 h]at e;cases e
   unfold r8n;rw[if_pos this]
  replace e:=bx e
  have s1:¬ ¬r5Q (Am.get (vns s) k):=fun h=>h ((u1z hv).1 e)
  refine Evt.r5r (Evt.u6u k (fun j i=>i=(j:Int)∧∀m,m<j→Am.get (vns s) m≠Am.get (vns s) k) (fun _=>Am.get (vns s) k∉ (vns s).take k) (fun r=>Am.get (vns s) k∈(vns s).take k∧r=Ctl.ret ⟨7,(k:Int)⟩) ⟨rfl,fun j hj=>absurd hj (Nat.not_lt_zero _)⟩ (fun j i hj hs=>?_) (fun i hs=>?_)) (fun t ht=>?_) (fun r hr=>?_)
  ·obtain⟨rfl,hs⟩:=hs
   unfold r6k
   simp only[Int.toNat_natCast]
   refine Evt.cond (fun _=>Evt.chk (by omega) (Evt.cond (fun e=>Evt.pure ?_) (fun e=>Evt.pure ?_))) (fun e=>by replace e:=bx e;omega)
   ·replace e:=bx e
    exact⟨(u6v (by omega)).2 ⟨j,hj,e⟩,rfl⟩
   ·replace e:=bx e
    rw[u0Y (by omega) (by omega)]
    refine⟨by omega,fun m hm=>?_⟩
    by_cases em:m=j
    ·subst em;exact e
    ·exact hs m (by omega)
  ·obtain⟨rfl,hs⟩:=hs
   unfold r6k
   refine Evt.cond (fun e=>by replace e:=bx e;omega) (fun _=>Evt.pure fun h=>?_)
   obtain⟨j,hj,e⟩:=(u6v (by omega)).1 h
   exact hs j hj e
  ·have s2:Am.get (vns s) k∉ (vns s).take k:=ht
   unfold r6X
   refine Evt.r5r (x5b hok k hk) (fun u hu=>?_) (fun _ h=>h.elim)
   obtain⟨hu1,hu2⟩:=hu
   have hrt:(u0L s.form [] 0).take (ndF s.form)=u0L s.form [] 0:=by rw[←u1c s.form [] 0,List.take_length]
   have hft:(r5D s.form).take (ndF s.form)=r5D s.form:=by rw[←u0s,List.take_length]
   rw[hrt,w4K]at hu1
   rw[hft]at hu2
   unfold r6Y
   rw[hwl]
   refine Evt.cond (fun e=>Evt.pure (bad 5 (by decide) ?_)) (fun e=>Evt.cond (fun e2=>Evt.pure (bad 15 (by decide) ?_)) (fun e2=>Evt.pure (good ?_)))
   ·replace e:=bx e
    have s3:¬k<s.words.length:=by omega
    have s4:¬k<s.words.length+s.r5o.length:=by omega
    unfold r8n;rw[if_neg s1,if_neg s2,if_neg s3,if_neg s4,if_pos ((hu2 s3).2.1 e.2)]
   ·have e2:u.1=false:=by simpa using e2
    unfold r8n;rw[if_neg s1,if_neg s2]
    by_cases s3:k<s.words.length
    ·have:=(hu1 s3).1
     rw[if_pos s3,if_neg fun h=>by rw[this.2 h]at e2;cases e2]
    ·have:=(hu2 s3).1
     have hn:¬(u6M (r5D s.form) (Am.get (vns s) k)∨u7w (r5D s.form) (Am.get (vns s) k)):=fun h=>by rw[this.2 h]at e2;cases e2
     rw[if_neg s3]
     by_cases s4:k<s.words.length+s.r5o.length
     ·rw[if_pos s4,if_neg hn]
     ·rw[if_neg s4,if_neg fun h=>hn (.inl h),if_neg fun h=>hn (.inr h)]
   ·have e2:u.1=true:=by simpa using e2
    unfold r8n;rw[if_neg s1,if_neg s2]
    by_cases s3:k<s.words.length
    ·rw[if_pos s3,if_pos ((hu1 s3).1.1 e2)]
    ·have h:=(hu2 s3).1.1 e2
     rw[if_neg s3]
     by_cases s4:k<s.words.length+s.r5o.length
     ·rw[if_pos s4,if_pos h]
     ·have h5:¬u6M (r5D s.form) (Am.get (vns s) k):=fun h5=>by
       have h6:=(hu2 s3).2.2 h5
       rw[h6]at e
       have:decide (((s.words.length+s.r5o.length:Nat):Int)≤(k:Int))=true:=by simp;omega
       rw[this]at e;cases e
      rw[if_neg s4,if_neg h5,if_pos (h.resolve_left h5)]
  ·obtain⟨hm,rfl⟩:=hr
   refine bad 7 (by decide) ?_
   unfold r8n;rw[if_neg s1,if_pos hm]
 ·obtain⟨rfl,hi⟩:=hi
  unfold r5X
  exact Evt.cond (fun e=>by replace e:=bx e;omega) (fun _=>Evt.pure hi)
theorem x0S{l:List Bs}{x:Bs}{m:List Bs}:Am.get (l++x::m) l.length=x∧(l++x::m).take l.length=l:=by
 refine⟨?_,by simp⟩
 unfold Am.get;simp
theorem x2R{s:r5b}(hb:SB s)(hok:OkF s.form):
 Evt (fun n=>r6G (r5S n (u0L s.form [] 0) s) n ([],0)) (ExP (fun _=>QOk s) (fun r=>r=⟨7, -1⟩∧¬QOk s)):=by
 have hrl:(u0L s.form [] 0).length=ndF s.form:=u1c _ _ _
 have h2:=hok.2.1
 have hq:qs s.form=qsI (u0L s.form [] 0):=(w6g _ _ _).symm
 have hql:(qs s.form).length≤200:=by rw[w4E];have:=x0w s.form;omega
 have hpre:∀i,qs s.form=qsI ((u0L s.form [] 0).take i)++qsI ((u0L s.form [] 0).drop i):=fun i=>by rw[←w0U,List.take_append_drop];exact hq
 refine Evt.u6u (ndF s.form) (fun i t=>t=(qsI ((u0L s.form [] 0).take i),(i:Int))∧∀k,k<(qsI ((u0L s.form [] 0).take i)).length→Am.get (qs s.form) k∉ (qs s.form).take k∧Am.get (qs s.form) k∉s.words) _ _ ⟨by simp[qsI],fun k hk=>by simp[qsI]at hk⟩ (fun i t hi ht=>?_) (fun t ht=>?_)
 ·obtain⟨rfl,ht⟩:=ht
  have hll:(qsI ((u0L s.form [] 0).take i)).length≤200:=by have:=congrArg List.length (hpre i);rw[List.length_append]at this;omega
  unfold r5S
  simp only[Int.toNat_natCast]
  refine Evt.cond (fun _=>Evt.chk (by omega) ?_) (fun e=>by replace e:=bx e;omega)
  refine Evt.cond (fun e=>?_) (fun e=>Evt.pure ?_)
  ·replace e:=bx e
   have hqk:QK (Am.get (u0L s.form [] 0) i).kind:=e
   have hsn:qsI ((u0L s.form [] 0).take (i+1))=qsI ((u0L s.form [] 0).take i)++[(Am.get (u0L s.form [] 0) i).name]:=by rw[r8p (by omega),w0U,w3p,if_pos hqk]
   have hx:=hpre (i+1)
   rw[hsn,List.append_assoc,List.singleton_append]at hx
   have hg:Am.get (qs s.form) (qsI ((u0L s.form [] 0).take i)).length=(Am.get (u0L s.form [] 0) i).name:=by rw[hx];exact x0S.1
   have ht2:(qs s.form).take (qsI ((u0L s.form [] 0).take i)).length=qsI ((u0L s.form [] 0).take i):=by rw[hx];exact x0S.2
   have hlt:(qsI ((u0L s.form [] 0).take i)).length<(qs s.form).length:=by rw[hx];simp
   refine Evt.bind (w4L _ _ (by omega)) fun v hv=>Evt.bind (P:=fun w=>¬0≤v→u9d s.words (Am.get (u0L s.form [] 0) i).name w) (Evt.gd (fun _=>(u5q _ _ (by have:=hb.1;omega)).mono fun w hw _=>hw) (fun g h=>by simp at g;omega)) fun w hw=>?_
   refine Evt.cond (fun e=>Evt.pure ⟨rfl,fun h=>?_⟩) (fun e=>Evt.r9F (Evt.chk ?_ (Evt.pure ?_)))
   ·obtain⟨k1,k2⟩:=h _ hlt
    rw[hg,ht2]at k1
    rw[hg]at k2
    have n1:¬0≤v:=fun h=>k1 (hv.mem.1 h)
    have n2:¬0≤w:=fun h=>k2 ((hw n1).mem.1 h)
    simp[n1,n2]at e
   ·rw[u4e,List.length_append,List.length_singleton];omega
   ·have n1:¬0≤v:=fun h=>by simp[h]at e
    have n2:¬0≤w:=fun h=>by simp[h]at e
    refine⟨by rw[hsn,u0Y (by omega) (by omega)];rfl,fun k hk=>?_⟩
    rw[hsn,List.length_append,List.length_singleton]at hk
    by_cases ek:k=(qsI ((u0L s.form [] 0).take i)).length
    ·subst ek
     rw[hg,ht2]
     exact⟨fun h=>n1 (hv.mem.2 h),fun h=>n2 ((hw n1).mem.2 h)⟩
    ·exact ht k (by omega)
  ·replace e:=bx e
   have hqk:¬QK (Am.get (u0L s.form [] 0) i).kind:=fun h=>by rcases h with h|h<;>simp[h]at e
   have hsn:qsI ((u0L s.form [] 0).take (i+1))=qsI ((u0L s.form [] 0).take i):=by rw[r8p (by omega),w0U,w3p,if_neg hqk,List.append_nil]
   refine⟨by rw[hsn,u0Y (by omega) (by omega)];rfl,?_⟩
   rw[hsn];exact ht
 ·obtain⟨rfl,ht⟩:=ht
  unfold r5S
  refine Evt.cond (fun e=>by replace e:=bx e;omega) (fun _=>Evt.pure ?_)
  have hrt:(u0L s.form [] 0).take (ndF s.form)=u0L s.form [] 0:=by rw[←hrl,List.take_length]
  rw[hrt, ←hq]at ht
  exact ht
theorem w1N{s:r5b}(hb:SB s):Evt (fun n=>r6P n s) (x0R s):=by
 have hvl:=w3n s
 obtain⟨b1,b2,b3,_⟩:=id hb
 unfold r6P
 refine Evt.bind (u9c s.form) fun v hv=>?_
 subst hv
 refine Evt.cond (fun e=>Evt.pure (.inl ⟨fun h=>?_,rfl⟩)) (fun e=>?_)
 ·rw[w4G h]at e;simp at e
 replace e:=bx e
 have hok:OkF s.form:=(u4i _).1 e
 have hw:wr .i64 (wr .i64 ((s.words.length:Int)+(s.r5o.length:Int))+(s.parts.length:Int))=((vns s).length:Int):=by
  rw[u0Y (n:=(s.words.length:Int)+(s.r5o.length:Int)) (by omega) (by omega),u0Y (by omega) (by omega)];omega
 rw[hw]
 refine Evt.cond (fun e=>?_) (fun e=>?_)
 ·replace e:=bx e
  exact Evt.pure (.inr (.inl ⟨hok,by omega,rfl⟩))
 replace e:=bx e
 have h300:(vns s).length≤300:=by omega
 refine Evt.r5r (x0N s.words _ (fun _=>rfl) [] (by simp;omega)) (fun t ht=>?_) (fun _ h=>h.elim)
 unfold r6Z
 have ht:t=s.words:=ht
 subst ht
 refine Evt.r5r (x0N s.r5o _ (fun _=>rfl) s.words (by omega)) (fun t ht=>?_) (fun _ h=>h.elim)
 unfold r7a
 have ht:t=s.words++s.r5o:=ht
 subst ht
 refine Evt.r5r (x0N s.parts _ (fun _=>rfl) (s.words++s.r5o) (by rw[List.length_append];omega)) (fun t ht=>?_) (fun _ h=>h.elim)
 unfold r7b
 have ht:t=vns s:=ht
 subst ht
 refine Evt.bind (u7U hok.1 [] (by have:=hok.2.1;omega) (by simp)) fun v hv=>?_
 subst hv
 refine Evt.r5r (x5c hb hok h300) (fun t ht=>?_) (fun r hr=>.inr (.inr (.inl ⟨hok,h300,hr⟩)))
 unfold r7c
 refine Evt.r5r (x2R hb hok) (fun u hu=>?_) (fun r hr=>.inr (.inr (.inr (.inl ⟨hok,h300,ht,hr.2,hr.1⟩))))
 exact Evt.pure (.inr (.inr (.inr (.inr ⟨⟨hok,h300,ht,hu⟩,rfl⟩))))
def dval(l:Bs):Nat:=l.foldl (fun a c=>10*a+(c.toNat-48)) 0
theorem w7o(u:Nat):dval (Lib.decDigits u)=u:=by
 induction u using Nat.strongRecOn with
 | _ u ih=>
   by_cases h:u<10
   ·rw[Lib.decDigits,dif_pos h]
    unfold dval
    simp only[List.foldl_cons,List.foldl_nil,UInt8.toNat_ofNat']
    omega
   ·rw[Lib.decDigits,dif_neg h]
    unfold dval
    rw[List.foldl_append]
    have:=ih (u / 10) (by omega)
    unfold dval at this
    rw[this]
    simp only[List.foldl_cons,List.foldl_nil,UInt8.toNat_ofNat']
    omega
theorem x0T{u v:Nat}(h:Lib.decDigits u=Lib.decDigits v):u=v:=by rw[←w7o u,h,w7o]
def vn(m:Nat):Bs:=118::Lib.decDigits m
def mk(m:Nat):Bs:=33::Lib.decDigits m
def x5d(p:Bs→Prop)(j m:Nat):Prop:=j≤m∧¬p (vn m)∧∀k,j≤k→k<m→p (vn k)
theorem x5d.uniq{p:Bs→Prop}{j m m':Nat}(h:x5d p j m)(h':x5d p j m'):m=m':=by
 rcases Nat.lt_trichotomy m m' with e|e|e
 ·exact absurd (h'.2.2 m h.1 e) h.2.1
 ·exact e
 ·exact absurd (h.2.2 m' h'.1 e) h'.2.1
theorem x5d.congr{p q:Bs→Prop}(hpq:∀x,p x↔q x){j m:Nat}(h:x5d p j m):x5d q j m:=⟨h.1,fun e=>h.2.1 ((hpq _).2 e),fun k a b=>(hpq _).1 (h.2.2 k a b)⟩
open Classical in
noncomputable def nx(p:Bs→Prop)(j:Nat):Nat:=Classical.epsilon fun m=>x5d p j m
noncomputable def num(p:Bs→Prop):Nat→Nat
 |0=>nx p 0
 |i+1=>nx p (num p i+1)
noncomputable def NN(p:Bs→Prop)(i:Nat):Bs:=vn (num p i)
noncomputable def cf(f:p6w):p6w:=ren (NN (fre f [])) f [] 0
mutual
def SmF:p6w→Prop
 | .mk _ _ w s=>w.length≤3∧s.length≤2∧u9e s
def u9e:List p6w→Prop
 | []=>True
 |f::l=>SmF f∧u9e l
end
theorem w7p(f:p6w):SmF f↔f.words.length≤3∧f.subs.length≤2∧u9e f.subs:=by cases f;rw[SmF];rfl
theorem w3q:∀ {l:List p6w},u9e l→∀x∈l,SmF x
 | [],_,x,h=>by cases h
 |f::l,h,x,hx=>by
  rw[u9e]at h
  rcases List.mem_cons.1 hx with rfl|hx
  ·exact h.1
  ·exact w3q h.2 x hx
mutual
theorem WfF.sm:∀(f:p6w),WfF f→SmF f
 | .mk k n w s,h=>by
   rw[SmF]
   exact⟨w2m h,w3l h,u6L.sm s ((u1l _).1 h).2⟩
theorem u6L.sm:∀(l:List p6w),u6L l→u9e l
 | [],_=>by rw[u9e];trivial
 |f::l,h=>by
  rw[u9e]
  exact⟨WfF.sm f (r7s.1 h f (List.mem_cons_self ..)),u6L.sm l (r7s.2 fun x hx=>r7s.1 h x (List.mem_cons_of_mem _ hx))⟩
end
mutual
theorem SmF.ren(N:Nat→Bs):∀(f:p6w) (env:List (Bs×Bs)) (i:Nat),SmF f→SmF (ren N f env i)
 | .mk k n w s,env,i,h=>by
   rw[SmF]at h
   rw[Go.Proofs.YtfacbpehlibilaaGreatDoor.ren,SmF]
   exact⟨by rw[List.length_map];exact h.1,by rw[u7T];exact h.2.1,u9e.ren N s _ _ h.2.2⟩
theorem u9e.ren(N:Nat→Bs):∀(l:List p6w) (env:List (Bs×Bs)) (i:Nat),u9e l→u9e (r9f N l env i)
 | [],env,i,_=>by rw[r9f,u9e];trivial
 |f::l,env,i,h=>by
  rw[u9e]at h
  rw[r9f,u9e]
  exact⟨SmF.ren N f env i h.1,u9e.ren N l env _ h.2⟩
end
mutual
theorem w7q:∀(f:p6w),WfF f→∀(bd:List Bs) (x:Bs),fre f bd x→r5Q x
 | .mk k n w s,h,bd,x,hx=>by
   rw[fre]at hx
   rcases hx with hx|hx
   ·exact(u1b ((u1l _).1 h).1).2.2.2.2 x hx.1
   ·exact w4O s ((u1l _).1 h).2 _ x hx
theorem w4O:∀(l:List p6w),u6L l→∀(bd:List Bs) (x:Bs),u0x l bd x→r5Q x
 | [],_,bd,x,hx=>by rw[u0x]at hx;exact hx.elim
 |f::l,h,bd,x,hx=>by
  rw[u0x]at hx
  rcases hx with hx|hx
  ·exact w7q f (r7s.1 h f (List.mem_cons_self ..)) bd x hx
  ·exact w4O l (r7s.2 fun y hy=>r7s.1 h y (List.mem_cons_of_mem _ hy)) bd x hx
end
mutual
def swp(σ:Bs→Bs):p6w→p6w
 | .mk k n w s=>.mk k (if QK k then σ n else n) (w.map σ) (x8b σ s)
def x8b(σ:Bs→Bs):List p6w→List p6w
 | []=>[]
 |f::l=>swp σ f::x8b σ l
end
theorem x5e{l:List Bs}{k:Nat}(h:k<l.length):l.drop k=Am.get l k::l.drop (k+1):=by
 rw[List.drop_eq_getElem_cons h]
 simp[Am.get,h]
theorem x0U(σ:Bs→Bs){w:Bs}(h:σ w=w):∀env:List (Bs×Bs),σ (sub env w)=sub (env.map fun e=>(e.1,σ e.2)) w
 | []=>by rw[List.map_nil,w6b,h]
 |(a,b)::env=>by
  rw[List.map_cons,r7H,r7H]
  split
  ·rfl
  ·exact x0U σ h env
mutual
theorem x5f(σ:Bs→Bs)(N:Nat→Bs)(q:Nat)(h1:∀j,j<q→σ (mk j)=N j)(h2:∀w,r5Q w→σ w=w):∀(f:p6w) (env:List (Bs×Bs)) (i:Nat),WfF f→i+nq f≤q→swp σ (ren mk f env i)=ren N f (env.map fun e=>(e.1,σ e.2)) i
 | .mk k n w s,env,i,hwf,hq=>by
   have hn:=((u1l _).1 hwf).1
   have hs:=((u1l _).1 hwf).2
   have hw:=(u1b hn).2.2.2.2
   rw[nq]at hq
   rw[ren,ren,swp]
   have e1:(w.map (sub env)).map σ=w.map (sub (env.map fun e=>(e.1,σ e.2))):=by
    rw[List.map_map]
    exact List.map_congr_left fun x hx=>x0U σ (h2 x (hw x hx)) env
   rw[e1]
   by_cases hk:QK k
   ·rw[if_pos hk]at hq
    simp only[if_pos hk]
    rw[h1 i (by omega),w3r σ N q h1 h2 s _ _ hs (by omega),List.map_cons,h1 i (by omega)]
   ·rw[if_neg hk]at hq
    simp only[if_neg hk]
    rw[w3r σ N q h1 h2 s _ _ hs (by omega)]
theorem w3r(σ:Bs→Bs)(N:Nat→Bs)(q:Nat)(h1:∀j,j<q→σ (mk j)=N j)(h2:∀w,r5Q w→σ w=w):∀(l:List p6w) (env:List (Bs×Bs)) (i:Nat),u6L l→i+nqL l≤q→x8b σ (r9f mk l env i)=r9f N l (env.map fun e=>(e.1,σ e.2)) i
 | [],env,i,_,_=>by rw[r9f,r9f,x8b]
 |f::l,env,i,h,hq=>by
  rw[nqL]at hq
  rw[r9f,r9f,x8b,x5f σ N q h1 h2 f env i (r7s.1 h f (List.mem_cons_self ..)) (by omega),w3r σ N q h1 h2 l env _ (r7s.2 fun x hx=>r7s.1 h x (List.mem_cons_of_mem _ hx)) (by omega)]
end
end Go.Proofs.YtfacbpehlibilaaGreatDoor
