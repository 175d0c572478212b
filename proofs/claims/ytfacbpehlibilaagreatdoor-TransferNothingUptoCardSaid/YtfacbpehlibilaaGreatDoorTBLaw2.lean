import Derived.Lib.ItoaMem
import Derived.Lib.ItoaLen
import Derived.Test.YtfacbpehlibilaaGreatDoorTBLaw1
set_option linter.unusedVariables false
set_option linter.unusedSimpArgs false
namespace Go.Proofs.YtfacbpehlibilaaGreatDoor
open Go Go.Am
theorem d6p(l:List Bs)(x:Bs):Evt (fun _=>OE l x) (fun r=>r=decide (x∈l)):=by
 unfold OE Rk
 refine Evt.bind (P:=fun r=>0≤r↔x∈l) (Evt.Pg (Evt.scan (fun k _=>∀j,j<k→Am.get l j≠x) (fun k r=>r=(k:Int)∧Am.get l k=x) (fun j hj=>absurd hj (Nat.not_lt_zero _)) (fun k u hk hi=>?_)) (fun t ht=>?_) (fun r hr=>?_)) fun v hv=>Evt.pure ?_
 ·unfold QE
  refine Evt.cond (fun e=>Evt.pure ?_) (fun e=>Evt.pure ?_)
  ·replace e:=bx e
   exact⟨rfl,e.symm⟩
  ·replace e:=bx e
   intro j hj
   by_cases ej:j=k
   ·subst ej;exact fun h=>e h.symm
   ·exact hi j (by omega)
 ·unfold QF
  refine Evt.pure ⟨fun h=>absurd h (by decide),fun h=>?_⟩
  obtain⟨j,hj,e⟩:=Zj.1 h
  exact absurd e (ht j hj)
 ·obtain⟨k,_,hk,_,rfl,e⟩:=hr
  exact⟨fun _=>Zj.2 ⟨k,hk,e⟩,fun _=>by omega⟩
 ·by_cases h:x∈l
  ·simp[h,hv.2 h]
  ·have h3:¬0≤v:=fun h2=>h (hv.1 h2)
   simp only[h,h3,decide_false]
theorem TG(l:List Bs)(x:Bs):OE l x=some (decide (x∈l)):=by
 obtain⟨r,rfl,N,hN⟩:=d6p l x
 exact hN N (Nat.le_refl _)
theorem d3v{zs:List Bs}{x:Bs}:x∈Lib.compact zs↔x∈zs:=by
 unfold Lib.compact Lib.compactUpTo
 rw[List.mem_map]
 have hg:∀j,j<zs.length→zs.toArray[j]! =Am.get zs j:=fun j hj=>by simp[Am.get,hj]
 constructor
 ·rintro⟨j,hj,rfl⟩
  have hj:=List.mem_range.1 (List.mem_filter.1 hj).1
  rw[hg j hj]
  exact get_mem hj
 ·intro h
  obtain⟨j,hj,rfl⟩:=Zj.1 h
  have key:∀j,j<zs.length→∃a,a∈(List.range zs.length).filter (Lib.keeps zs.toArray)∧zs.toArray[a]! =Am.get zs j:=by
   intro j
   induction j with
   |zero=>intro hj;exact⟨0,List.mem_filter.2 ⟨List.mem_range.2 hj,Lib.keeps_lt_one _ 0 (by omega)⟩,hg 0 hj⟩
   |succ j ih=>
    intro hj
    by_cases hk:Lib.keeps zs.toArray (j+1)=true
    ·exact⟨j+1,List.mem_filter.2 ⟨List.mem_range.2 hj,hk⟩,hg _ hj⟩
    ·obtain⟨a,h1,h2⟩:=ih (by omega)
     refine⟨a,h1,h2.trans ?_⟩
     unfold Lib.keeps at hk
     simp only[decide_eq_true_eq,not_or,Decidable.not_not,ne_eq]at hk
     have:=hk.2
     rw[hg _ hj,Nat.add_sub_cancel,hg j (by omega)]at this
     exact this.symm
  exact key j hj
mutual
theorem i1C:∀(f:Ox) (bd bd':List Bs),(∀y,y∈bd↔y∈bd')→∀x,fre f bd x↔fre f bd' x
 | .mk k n w s,bd,bd',h,x=>by
   rw[fre,fre,h x,ZC s _ _ (fun y=>?_) x]
   split
   ·simp[h y]
   ·exact h y
theorem ZC:∀(l:List Ox) (bd bd':List Bs),(∀y,y∈bd↔y∈bd')→∀x,XZ l bd x↔XZ l bd' x
 | [],bd,bd',h,x=>by rw[XZ,XZ]
 |f::l,bd,bd',h,x=>by rw[XZ,XZ,i1C f bd bd' h x,ZC l bd bd' h x]
end
theorem d6q(l:List Ox)(f:Ox)(bd:List Bs)(x:Bs):XZ (l++[f]) bd x↔XZ l bd x∨fre f bd x:=by
 rw[d5m,d5m]
 constructor
 ·rintro⟨g,hg,h⟩
  rcases List.mem_append.1 hg with hg|hg
  ·exact .inl ⟨g,hg,h⟩
  ·rw[List.mem_singleton]at hg;subst hg;exact .inr h
 ·rintro(⟨g,hg,h⟩|h)
  ·exact⟨g,List.mem_append.2 (.inl hg),h⟩
  ·exact⟨f,List.mem_append.2 (.inr (List.mem_singleton.2 rfl)),h⟩
theorem d9B:∀(m:Nat) (f:Ox),SizeOf.sizeOf f≤m→WfF f→∀(bd l:List Bs),bd.length+ndF f≤100000→l.length+3*ndF f≤300000→
 Evt (fun n=>Po n f bd l) (fun r=>(∀x,x∈r↔x∈l∨fre f bd x)∧r.length≤l.length+3*ndF f):=by
 intro m
 induction m with
 |zero=>intro f h;cases f;simp only[Ox.mk.sizeOf_spec]at h;omega
 |succ m ih=>
  intro f hf hwf bd l hbd hl
  have hnd:=d4A f
  have hws:=d8y hwf
  refine Evt.succ ?_
  simp only[Po]
  refine Evt.Pg (P:=ExP (fun t=>(∀x,x∈t↔x∈l∨(x∈f.words∧x∉bd))∧t.length≤l.length+3) (fun _=>False)) ((Evt.range (fun k s=>(∀x,x∈s↔x∈l∨(x∈f.words.take k∧x∉bd))∧s.length≤l.length+k) (fun _=>False) (fun _=>False) ⟨fun x=>by simp,by omega⟩ (fun k s hk hi=>?_)).mono fun e he=>?_) (fun t ht=>?_) (fun _ h=>h.elim)
  ·unfold Rf
   simp only[TG,Option.bind_some]
   refine Evt.cond (fun e=>Evt.Tg (Evt.chk ?_ (Evt.pure ⟨fun x=>?_,?_⟩))) (fun e=>Evt.pure ⟨fun x=>?_,by omega⟩)
   ·rw[Vl];simp only[List.length_append,List.length_cons,List.length_nil];omega
   ·replace e:=bx e
    rw[List.mem_append,hi.1 x,QL hk,List.mem_append,List.mem_singleton]
    by_cases hx:x=Am.get f.words k
    ·subst hx;simp[e]
    ·simp[hx]
   ·simp only[List.length_append,List.length_cons,List.length_nil];omega
   ·replace e:=bx e
    rw[hi.1 x,QL hk,List.mem_append,List.mem_singleton]
    by_cases hx:x=Am.get f.words k
    ·subst hx;simp[e]
    ·simp[hx]
  ·cases e with
   |ret r=>exact he
   |nxt t=>
    obtain⟨h1,h2⟩:=he.elim id False.elim
    rw[List.take_length]at h1
    exact⟨h1,by omega⟩
  ·obtain⟨h1,h2⟩:=ht
   have key:∀bd':List Bs,(∀y,y∈bd'↔y∈(if QK f.kind then f.name::bd else bd))→bd'.length≤bd.length+1→Evt (fun n=>PF (Po n) f t bd') (fun r=>(∀x,x∈r↔x∈l∨fre f bd x)∧r.length≤l.length+3*ndF f):=by
    intro bd' hb hbl
    unfold PF
    refine Evt.Pg (P:=ExP (fun r=>(∀x,x∈r↔x∈t∨XZ f.subs bd' x)∧r.length≤t.length+3*Tx f.subs) (fun _=>False)) ((Evt.range (fun k s=>(∀x,x∈s↔x∈t∨XZ (f.subs.take k) bd' x)∧s.length≤t.length+3*Tx (f.subs.take k)) (fun _=>False) (fun _=>False) ⟨fun x=>by simp[XZ],by omega⟩ (fun k s hk hi=>?_)).mono fun e he=>?_) (fun r hr=>?_) (fun _ h=>h.elim)
    ·unfold Rg
     have hsz:=Rw hk
     have htk:=Xj hk
     refine Evt.bind (ih _ (by omega) (d4C hwf hk) bd' s (by omega) (by omega)) fun v hv=>Evt.pure ⟨fun x=>?_,?_⟩
     ·rw[hv.1 x,hi.1 x,QL hk,d6q,or_assoc]
     ·rw[QL hk,Zn]
      have:=hv.2
      have:=hi.2
      omega
    ·cases e with
     |ret r=>exact he
     |nxt r=>
      have:=he.elim id False.elim
      rw[List.take_length]at this
      exact this
    ·obtain⟨h3,h4⟩:=hr
     unfold Rh
     refine Evt.pure ⟨fun x=>?_,by omega⟩
     rw[h3 x,h1 x,i4d,ZC f.subs _ _ hb x,or_assoc]
   unfold Ri
   simp only[WU,Option.bind_some]
   refine Evt.cond (fun e=>Evt.chk (by omega) (Evt.Tg (Evt.chk ?_ (key _ (fun y=>?_) ?_)))) (fun e=>key _ (fun y=>?_) (by omega))
   ·rw[Vl];simp only[List.length_append,List.length_cons,List.length_nil];omega
   ·replace e:=bx e
    rw[if_pos e];simp[or_comm]
   ·simp
   ·replace e:=bx e
    rw[if_neg e]
theorem d1S{f:Ox}(hwf:WfF f)(hn:ndF f≤50000):Evt (fun n=>Qy n f) (fun r=>(∀x,x∈r↔fre f [] x)∧r.length≤3*ndF f):=by
 unfold Qy
 refine Evt.bind (d9B _ f (Nat.le_refl _) hwf [] [] (by simp;omega) (by simp;omega)) fun v hv=>?_
 obtain⟨h1,h2⟩:=hv
 simp only[List.length_nil,Nat.zero_add]at h2
 unfold PJ Qf
 have hlen:(Yp cfB v).length=v.length:=(TM cfB v).length_eq
 refine Evt.bind (Evt.chk (by omega) (Evt.pure (P:=fun r=>r=Yp cfB v) rfl)) fun r hr=>?_
 subst hr
 refine Evt.bind (Evt.chk (by omega) (Evt.pure (P:=fun r=>True) trivial)) fun _ _=>Evt.pure ⟨fun x=>?_,?_⟩
 ·rw[d3v,(TM cfB v).mem_iff,h1 x]
  simp
 ·have:=Lib.compact_length_le (Yp cfB v)
  omega
mutual
def UW:Ox→List Ox
 | .mk k n w s=>.mk k n w s::XJ s
def XJ:List Ox→List Ox
 | []=>[]
 |x::l=>UW x++XJ l
end
theorem i3i(f:Ox):UW f=f::XJ f.subs:=by cases f;rw[UW];rfl
mutual
theorem d0N:∀f:Ox,(UW f).length=ndF f
 | .mk k n w s=>by rw[UW,ndF,List.length_cons,d4D s];omega
theorem d4D:∀l:List Ox,(XJ l).length=Tx l
 | []=>by rw[XJ,Tx];rfl
 |x::l=>by rw[XJ,Tx,List.length_append,d0N x,d4D l]
end
def i7L(b:Nat)(g:Ox)(it:IT):Prop:=it.kind=g.kind∧it.name=g.name∧it.words=g.words∧it.end_=((b+ndF g:Nat):Int)∧it.bound.length=g.words.length
mutual
theorem d9C:∀(f:Ox) (ar:List Bs) (b j:Nat),j<ndF f→i7L (b+j) (Am.get (UW f) j) (Am.get (d9A f ar b) j)
 | .mk k n w s,ar,b,0,_=>by
   rw[d9A,UW]
   refine⟨rfl,rfl,rfl,?_,?_⟩
   ·show((b+(1+Tx s):Nat):Int)=_
    show _=((b+0+ndF (.mk k n w s):Nat):Int)
    rw[ndF];rfl
   ·show(w.map _).length=w.length
    simp
 | .mk k n w s,ar,b,j+1,h=>by
   rw[d9A,UW]
   rw[ndF]at h
   have:=d3w s (if QK k then n::ar else ar) (b+1) j (by omega)
   rw[show b+(j+1)=b+1+j by omega]
   exact this
theorem d3w:∀(l:List Ox) (ar:List Bs) (b j:Nat),j<Tx l→i7L (b+j) (Am.get (XJ l) j) (Am.get (ZI l ar b) j)
 | [],ar,b,j,h=>by rw[Tx]at h;omega
 |x::l,ar,b,j,h=>by
  rw[Tx]at h
  rw[ZI,XJ]
  by_cases hj:j<ndF x
  ·have:=d9C x ar b j hj
   have e1:Am.get (UW x++XJ l) j=Am.get (UW x) j:=by
    unfold Am.get
    rw[List.getD_eq_getElem?_getD,List.getD_eq_getElem?_getD,List.getElem?_append_left (by rw[d0N];exact hj)]
   have e2:Am.get (d9A x ar b++ZI l ar (b+ndF x)) j=Am.get (d9A x ar b) j:=by
    unfold Am.get
    rw[List.getD_eq_getElem?_getD,List.getD_eq_getElem?_getD,List.getElem?_append_left (by rw[d2s];exact hj)]
   rw[e1,e2];exact this
  ·have:=d3w l ar (b+ndF x) (j-ndF x) (by omega)
   have e1:Am.get (UW x++XJ l) j=Am.get (XJ l) (j-ndF x):=by
    unfold Am.get
    rw[List.getD_eq_getElem?_getD,List.getD_eq_getElem?_getD,List.getElem?_append_right (by rw[d0N];omega),d0N]
   have e2:Am.get (d9A x ar b++ZI l ar (b+ndF x)) j=Am.get (ZI l ar (b+ndF x)) (j-ndF x):=by
    unfold Am.get
    rw[List.getD_eq_getElem?_getD,List.getD_eq_getElem?_getD,List.getElem?_append_right (by rw[d2s];omega),d2s]
   rw[e1,e2,show b+j=b+ndF x+(j-ndF x)by omega]
   exact this
end
def d9N(l:List Ox)(x:Bs):Prop:=∃g∈l,g.kind=2∧g.name=x∧0<g.words.length
def d9O(l:List Ox)(x:Bs):Prop:=∃g∈l,g.kind=2∧g.name=x∧g.words.length=0
theorem d9N.app{l m:List Ox}{x:Bs}:d9N (l++m) x↔d9N l x∨d9N m x:=by
 unfold d9N
 constructor
 ·rintro⟨g,hg,h⟩
  rcases List.mem_append.1 hg with hg|hg
  ·exact .inl ⟨g,hg,h⟩
  ·exact .inr ⟨g,hg,h⟩
 ·rintro(⟨g,hg,h⟩|⟨g,hg,h⟩)
  ·exact⟨g,List.mem_append.2 (.inl hg),h⟩
  ·exact⟨g,List.mem_append.2 (.inr hg),h⟩
theorem d9O.app{l m:List Ox}{x:Bs}:d9O (l++m) x↔d9O l x∨d9O m x:=by
 unfold d9O
 constructor
 ·rintro⟨g,hg,h⟩
  rcases List.mem_append.1 hg with hg|hg
  ·exact .inl ⟨g,hg,h⟩
  ·exact .inr ⟨g,hg,h⟩
 ·rintro(⟨g,hg,h⟩|⟨g,hg,h⟩)
  ·exact⟨g,List.mem_append.2 (.inl hg),h⟩
  ·exact⟨g,List.mem_append.2 (.inr hg),h⟩
theorem d9N.one{g:Ox}{x:Bs}:d9N [g] x↔g.kind=2∧g.name=x∧0<g.words.length:=by
 unfold d9N;simp
theorem d9O.one{g:Ox}{x:Bs}:d9O [g] x↔g.kind=2∧g.name=x∧g.words.length=0:=by
 unfold d9O;simp
def Yu(l:List IT)(x:Bs):Prop:=∃it∈l,∃m,m<it.words.length∧Am.get it.words m=x∧Am.get it.bound m=false
theorem Yu.app{l m:List IT}{x:Bs}:Yu (l++m) x↔Yu l x∨Yu m x:=by
 unfold Yu
 constructor
 ·rintro⟨g,hg,h⟩
  rcases List.mem_append.1 hg with hg|hg
  ·exact .inl ⟨g,hg,h⟩
  ·exact .inr ⟨g,hg,h⟩
 ·rintro(⟨g,hg,h⟩|⟨g,hg,h⟩)
  ·exact⟨g,List.mem_append.2 (.inl hg),h⟩
  ·exact⟨g,List.mem_append.2 (.inr hg),h⟩
theorem Yu.cons{a:IT}{l:List IT}{x:Bs}:Yu (a::l) x↔Yu [a] x∨Yu l x:=by
 rw[←Yu.app];rfl
theorem Yu.nil{x:Bs}:¬Yu [] x:=fun⟨_,h,_⟩=>by cases h
theorem get_map{α β:Type}[Inhabited α][Inhabited β](g:α→β){l:List α}{k:Nat}(h:k<l.length):Am.get (l.map g) k=g (Am.get l k):=by
 unfold Am.get
 rw[List.getD_eq_getElem?_getD,List.getD_eq_getElem?_getD,List.getElem?_map,List.getElem?_eq_getElem h]
 rfl
mutual
theorem i1D:∀(f:Ox) (ar:List Bs) (b:Nat) (x:Bs),Yu (d9A f ar b) x↔fre f ar x
 | .mk k n w s,ar,b,x=>by
   rw[d9A,Yu.cons,fre,d4E s]
   refine or_congr_left ?_
   constructor
   ·rintro⟨it,hit,m,h1,h2,h3⟩
    rw[List.mem_singleton]at hit
    subst hit
    have h1:m<w.length:=h1
    have h2:Am.get w m=x:=h2
    have h3:Am.get (w.map fun x=>decide (x∈ar)) m=false:=h3
    rw[get_map _ h1,h2]at h3
    exact⟨Zj.2 ⟨m,h1,h2⟩,of_decide_eq_false h3⟩
   ·rintro⟨h1,h2⟩
    obtain⟨m,h3,h4⟩:=Zj.1 h1
    refine⟨_,List.mem_singleton.2 rfl,m,h3,h4,?_⟩
    show Am.get (w.map fun x=>decide (x∈ar)) m=false
    rw[get_map _ h3,h4]
    exact decide_eq_false h2
theorem d4E:∀(l:List Ox) (ar:List Bs) (b:Nat) (x:Bs),Yu (ZI l ar b) x↔XZ l ar x
 | [],ar,b,x=>by rw[ZI,XZ];exact⟨fun h=>Yu.nil h,False.elim⟩
 |f::l,ar,b,x=>by rw[ZI,XZ,Yu.app,i1D f,d4E l]
end
def qsI(l:List IT):List Bs:=l.flatMap fun it=>if QK it.kind then [it.name]else []
mutual
theorem i5i:∀(f:Ox) (ar:List Bs) (b:Nat),qsI (d9A f ar b)=qs f
 | .mk k n w s,ar,b=>by
   rw[d9A,qs]
   show(if QK k then [n]else [])++qsI _=_
   rw[d8z s]
theorem d8z:∀(l:List Ox) (ar:List Bs) (b:Nat),qsI (ZI l ar b)=qsL l
 | [],ar,b=>by rw[ZI,qsL];rfl
 |f::l,ar,b=>by
  rw[ZI,qsL, ←i5i f ar b, ←d8z l ar (b+ndF f)]
  exact List.flatMap_append
end
def i4f(l:List Bs)(x:Bs)(r:Int):Prop:=(x∉l∧r= -1)∨∃j,j<l.length∧Am.get l j=x∧(∀i,i<j→Am.get l i≠x)∧r=(j:Int)
theorem i4f.mem{l:List Bs}{x:Bs}{r:Int}(h:i4f l x r):0≤r↔x∈l:=by
 rcases h with⟨h1,rfl⟩|⟨j,hj,e,_,rfl⟩
 ·exact⟨fun h=>absurd h (by decide),fun h=>absurd h h1⟩
 ·exact⟨fun _=>Zj.2 ⟨j,hj,e⟩,fun _=>by omega⟩
def vns(s:OG):List Bs:=s.words++s.PA++s.parts
open Classical in
noncomputable def d3X(s:OG)(i:Nat):Int:=
 if ¬PK (Am.get (vns s) i)then 10
 else if Am.get (vns s) i∈(vns s).take i then 7
 else if i<s.words.length then(if fre s.form [] (Am.get (vns s) i)then 0 else 15)
 else if i<s.words.length+s.PA.length then(if d9N (UW s.form) (Am.get (vns s) i)∨d9O (UW s.form) (Am.get (vns s) i)then 0 else 15)
 else if d9N (UW s.form) (Am.get (vns s) i)then 5 else if d9O (UW s.form) (Am.get (vns s) i)then 0 else 15
def QOk(s:OG):Prop:=∀k,k<(qs s.form).length→Am.get (qs s.form) k∉ (qs s.form).take k∧Am.get (qs s.form) k∉s.words
def OkS(s:OG):Prop:=OkF s.form∧(vns s).length≤300∧(∀j,j<(vns s).length→d3X s j=0)∧QOk s
def FB(step:Nat→Int)(N:Nat)(r:OL):Prop:=∃k,k<N∧(∀j,j<k→step j=0)∧step k≠0∧r=⟨step k,k⟩
theorem FB.uniq{step:Nat→Int}{N:Nat}{r r':OL}(h:FB step N r)(h':FB step N r'):r=r':=by
 obtain⟨k,_,h2,h3,rfl⟩:=h
 obtain⟨k',_,h2',h3',rfl⟩:=h'
 have:k=k':=by
  rcases Nat.lt_trichotomy k k' with h|h|h
  ·exact absurd (h2' k h) h3
  ·exact h
  ·exact absurd (h2 k' h) h3'
 rw[this]
def i4g(s:OG)(r:OL):Prop:=
 (¬OkF s.form∧r=Zm s.form)∨(OkF s.form∧300<(vns s).length∧r=⟨2, -1⟩)∨(OkF s.form∧(vns s).length≤300∧FB (d3X s) (vns s).length r)∨
 (OkF s.form∧(vns s).length≤300∧(∀j,j<(vns s).length→d3X s j=0)∧¬QOk s∧r=⟨7, -1⟩)∨(OkS s∧r=⟨0,0⟩)
theorem i4g.code{s:OG}{r:OL}(h:i4g s r)(h0:r.code=0):OkS s∧r=⟨0,0⟩:=by
 rcases h with⟨h1,rfl⟩|⟨_,_,rfl⟩|⟨_,_,k,_,_,h3,rfl⟩|⟨_,_,_,_,rfl⟩|h
 ·exact absurd ((YI _).1 h0) h1
 ·cases h0
 ·exact absurd h0 h3
 ·cases h0
 ·exact h
theorem i4g.ok{s:OG}{r:OL}(h:i4g s r)(h0:OkS s):r=⟨0,0⟩:=by
 obtain⟨k1,k2,k3,k4⟩:=h0
 rcases h with⟨h1,_⟩|⟨_,h1,_⟩|⟨_,_,k,h2,_,h3,_⟩|⟨_,_,_,h1,_⟩|⟨_,h⟩
 ·exact absurd k1 h1
 ·omega
 ·exact absurd (k3 k h2) h3
 ·exact absurd k4 h1
 ·exact h
theorem i4g.uniq{s:OG}{r r':OL}(h:i4g s r)(h':i4g s r'):r=r':=by
 rcases h with⟨h1,rfl⟩|⟨h1,h2,rfl⟩|⟨h1,h2,h3⟩|⟨h1,h2,h3,h4,rfl⟩|⟨h1,rfl⟩
 ·rcases h' with⟨k1,rfl⟩|⟨k1,_⟩|⟨k1,_⟩|⟨k1,_⟩|⟨k1,_⟩
  ·rfl
  ·exact absurd k1 h1
  ·exact absurd k1 h1
  ·exact absurd k1 h1
  ·exact absurd k1.1 h1
 ·rcases h' with⟨k1,_⟩|⟨_,_,rfl⟩|⟨_,k2,_⟩|⟨_,k2,_⟩|⟨k1,_⟩
  ·exact absurd h1 k1
  ·rfl
  ·omega
  ·omega
  ·exact absurd k1.2.1 (by omega)
 ·rcases h' with⟨k1,_⟩|⟨_,k2,_⟩|⟨_,_,k3⟩|⟨_,_,k3,_⟩|⟨k1,_⟩
  ·exact absurd h1 k1
  ·omega
  ·exact h3.uniq k3
  ·obtain⟨k,a,_,b,_⟩:=h3;exact absurd (k3 k a) b
  ·obtain⟨k,a,_,b,_⟩:=h3;exact absurd (k1.2.2.1 k a) b
 ·rcases h' with⟨k1,_⟩|⟨_,k2,_⟩|⟨_,_,k3⟩|⟨_,_,_,_,rfl⟩|⟨k1,_⟩
  ·exact absurd h1 k1
  ·omega
  ·obtain⟨k,a,_,b,_⟩:=k3;exact absurd (h3 k a) b
  ·rfl
  ·exact absurd k1.2.2.2 h4
 ·exact(i4g.ok h' h1).symm
mutual
theorem i3j:∀(f:Ox),WfF f→∀g∈UW f,WfF g
 | .mk k n w s,h,g,hg=>by
   rw[i3i]at hg
   rcases List.mem_cons.1 hg with rfl|hg
   ·exact h
   ·exact d6r s ((Uf _).1 h).2 g hg
theorem d6r:∀(l:List Ox),ZB l→∀g∈XJ l,WfF g
 | [],_,g,hg=>by rw[XJ]at hg;cases hg
 |f::l,h,g,hg=>by
  rw[XJ]at hg
  rcases List.mem_append.1 hg with hg|hg
  ·exact i3j f (Qt.1 h f (List.mem_cons_self ..)) g hg
  ·exact d6r l (Qt.2 fun x hx=>Qt.1 h x (List.mem_cons_of_mem _ hx)) g hg
end
theorem Yu.one{it:IT}{x:Bs}:Yu [it] x↔ ∃m,m<it.words.length∧Am.get it.words m=x∧Am.get it.bound m=false:=by
 unfold Yu;simp
def dval(l:Bs):Nat:=l.foldl (fun a c=>10*a+(c.toNat-48)) 0
theorem d8A(u:Nat):dval (Lib.decDigits u)=u:=by
 induction u using Nat.strongRecOn with
 | _ u ih=>
   by_cases h:u<10
   ·rw[Lib.decDigits,dif_pos h]
    unfold dval
    simp only[List.foldl_cons,List.foldl_nil,UInt8.toNat_ofNat']
    omega
   ·rw[Lib.decDigits,dif_neg h]
    unfold dval
    rw[List.foldl_append]
    have:=ih (u / 10) (by omega)
    unfold dval at this
    rw[this]
    simp only[List.foldl_cons,List.foldl_nil,UInt8.toNat_ofNat']
    omega
theorem d7F{u v:Nat}(h:Lib.decDigits u=Lib.decDigits v):u=v:=by rw[←d8A u,h,d8A]
def vn(m:Nat):Bs:=118::Lib.decDigits m
theorem i7M{u v:Nat}(h:vn u=vn v):u=v:=d7F (List.cons.inj h).2
def mk(m:Nat):Bs:=33::Lib.decDigits m
theorem d7G{m:Nat}(h:m≤1000000000):(Lib.decDigits m).length≤21:=by
 have:=Lib.itoa_length_le (m:Int) (by omega) (by omega)
 rwa[Lib.itoa_nonneg]at this
def i2e(p:Bs→Prop)(j m:Nat):Prop:=j≤m∧¬p (vn m)∧∀k,j≤k→k<m→p (vn k)
theorem i2e.uniq{p:Bs→Prop}{j m m':Nat}(h:i2e p j m)(h':i2e p j m'):m=m':=by
 rcases Nat.lt_trichotomy m m' with e|e|e
 ·exact absurd (h'.2.2 m h.1 e) h.2.1
 ·exact e
 ·exact absurd (h.2.2 m' h'.1 e) h'.2.1
theorem i2e.congr{p q:Bs→Prop}(hpq:∀x,p x↔q x){j m:Nat}(h:i2e p j m):i2e q j m:=⟨h.1,fun e=>h.2.1 ((hpq _).2 e),fun k a b=>(hpq _).1 (h.2.2 k a b)⟩
theorem d8B:∀(n:Nat) (C:List Bs) (g:Nat→Bs),C.length=n→(∀i j,g i=g j→i=j)→∃m,m≤n∧g m∉C
 |0,C,g,h,_=>⟨0,Nat.le_refl _,by rw[List.length_eq_zero_iff.1 h];exact List.not_mem_nil⟩
 |n+1,C,g,h,hg=>by
  by_cases hm:g (n+1)∈C
  ·obtain⟨m,h1,h2⟩:=d8B n (C.erase (g (n+1))) g (by rw[List.length_erase_of_mem hm,h];rfl) hg
   refine⟨m,by omega,fun h3=>h2 ((List.mem_erase_of_ne fun e=>?_).2 h3)⟩
   have:=hg _ _ e
   omega
  ·exact⟨n+1,Nat.le_refl _,hm⟩
theorem i7N{p:Bs→Prop}{C:List Bs}(hC:∀x,p x→x∈C)(j:Nat):∃m,i2e p j m∧m≤j+C.length:=by
 obtain⟨m,h1,h2⟩:=d8B _ C (fun i=>vn (j+i)) rfl (fun a b e=>by have:=i7M e;omega)
 have key:∀d j,(∃m,j≤m∧m≤j+d∧¬p (vn m))→∃m,i2e p j m∧m≤j+d:=by
  intro d
  induction d with
  |zero=>
   rintro j ⟨m,a,b,c⟩
   obtain rfl:m=j:=by omega
   exact⟨m,⟨Nat.le_refl _,c,fun k a b=>absurd a (by omega)⟩,by omega⟩
  |succ d ih=>
   rintro j ⟨m,a,b,c⟩
   by_cases hp:p (vn j)
   ·have hne:j≠m:=fun e=>c (e▸hp)
    obtain⟨m',e1,e2⟩:=ih (j+1) ⟨m,by omega,by omega,c⟩
    refine⟨m',⟨by have:=e1.1;omega,e1.2.1,fun k a b=>?_⟩,by omega⟩
    by_cases ek:k=j
    ·rw[ek];exact hp
    ·exact e1.2.2 k (by omega) b
   ·exact⟨j,⟨Nat.le_refl _,hp,fun k a b=>absurd a (by omega)⟩,by omega⟩
 exact key _ j ⟨j+m,by omega,by omega,fun hp=>h2 (hC _ hp)⟩
open Classical in
noncomputable def nx(p:Bs→Prop)(j:Nat):Nat:=Classical.epsilon fun m=>i2e p j m
theorem i3k{p:Bs→Prop}{C:List Bs}(hC:∀x,p x→x∈C)(j:Nat):i2e p j (nx p j):=Classical.epsilon_spec ((i7N hC j).imp fun _ h=>h.1)
theorem i5j{p:Bs→Prop}{C:List Bs}(hC:∀x,p x→x∈C)(j:Nat):nx p j≤j+C.length:=by
 obtain⟨m,h1,h2⟩:=i7N hC j
 rw[(i3k hC j).uniq h1];exact h2
noncomputable def num(p:Bs→Prop):Nat→Nat
 |0=>nx p 0
 |i+1=>nx p (num p i+1)
noncomputable def NN(p:Bs→Prop)(i:Nat):Bs:=vn (num p i)
theorem d8C{p:Bs→Prop}{C:List Bs}(hC:∀x,p x→x∈C)(L:Nat)(hL:C.length≤L):∀i,num p i≤(i+1)*(L+1)
 |0=>by have:=i5j hC 0;show nx p 0≤_;omega
 |i+1=>by
  have:=i5j hC (num p i+1)
  have:=d8C hC L hL i
  show nx p (num p i+1)≤_
  rw[Nat.succ_mul (i+1)]
  omega
def d1s(K V:Nat→Bs):Nat→List (Bs×Bs)
 |0=>[]
 |k+1=>(K k,V k)::d1s K V k
theorem d3x{K K' V V':Nat→Bs}:∀ {n:Nat},(∀k,k<n→K k=K' k∧V k=V' k)→d1s K V n=d1s K' V' n
 |0,_=>rfl
 |n+1,h=>by rw[d1s,d1s,(h n (by omega)).1,(h n (by omega)).2,d3x fun k hk=>h k (by omega)]
theorem i7O{ρ:Type}(K V:Nat→Bs)(L:Nat)(hL:L≤8000000)(w:Bs)(body:Int→Option (Ctl ρ Int Bs))(hb:∀k,k<L→body (k:Int)=bif decide (K k=w)then some (.brk (V k))else some (.nxt (wr .i64 ((k:Int)-1))))(h0:body (-1)=some (.brk w)):
 Evt (fun n=>TL body n (wr .i64 ((L:Int)-1))) (ExP (fun t=>t=sub (d1s K V L) w) (fun _=>False)):=by
 have hw:wr .i64 ((L:Int)-1)=(L:Int)-1:=d0H (by omega) (by omega)
 rw[hw]
 refine Evt.i1m L (fun k s=>∃m:Nat,s=(m:Int)-1∧m+k=L∧sub (d1s K V L) w=sub (d1s K V m) w) _ _ ⟨L,rfl,rfl,rfl⟩ (fun k s hk hs=>?_) (fun s hs=>?_)
 ·obtain⟨m,rfl,hm,he⟩:=hs
  obtain⟨m,rfl⟩:∃j,m=j+1:=⟨m-1,by omega⟩
  have e1:((m+1:Nat):Int)-1=(m:Int):=by omega
  rw[e1,hb m (by omega)]
  refine Evt.cond (fun e=>Evt.pure ?_) (fun e=>Evt.pure ?_)
  ·replace e:=bx e
   show V m=_
   rw[he,d1s,Tq,if_pos e]
  ·replace e:=bx e
   refine⟨m,d0H (by omega) (by omega),by omega,?_⟩
   rw[he,d1s,Tq,if_neg e]
 ·obtain⟨m,rfl,hm,he⟩:=hs
  obtain rfl:m=0:=by omega
  show Evt (fun _=>body (-1)) _
  rw[h0]
  refine Evt.pure ?_
  rw[he,d1s,d7A]
  exact rfl
theorem XK:∀(l:List Ox) (x:Ox),nqL (l++[x])=nqL l+nq x
 | [],x=>by simp[nqL]
 |a::l,x=>by rw[List.cons_append,nqL,nqL,XK l x,Nat.add_assoc]
theorem ZD{l:List Ox}{k:Nat}(h:k<l.length):nqL (l.take k)+nq (Am.get l k)≤nqL l:=by
 have e:l=l.take (k+1)++l.drop (k+1):=(List.take_append_drop _ _).symm
 have:∀(l m:List Ox),nqL (l++m)=nqL l+nqL m:=fun l m=>by
  induction l with
  |nil=>simp[nqL]
  |cons a l ih=>rw[List.cons_append,nqL,nqL,ih,Nat.add_assoc]
 rw[←XK, ←QL h]
 have:=this (l.take (k+1)) (l.drop (k+1))
 rw[←e]at this
 omega
theorem Xk(N:Nat→Bs):∀(l:List Ox) (x:Ox) (env:List (Bs×Bs)) (i:Nat),Sc N (l++[x]) env i=Sc N l env i++[ren N x env (i+nqL l)]
 | [],x,env,i=>by simp[Sc,nqL]
 |a::l,x,env,i=>by rw[List.cons_append,Sc,Sc,Xk N l x,nqL,Nat.add_assoc];rfl
theorem d5o{m:Nat}(hm:m≤1000000000):itoa (m:Int)=some (Lib.decDigits m):=by
 unfold itoa
 rw[d3j (by omega),Lib.itoa_nonneg]
theorem d6s{C:List Bs}{p:Bs→Prop}(hC:∀x,x∈C↔p x){b:Nat}(hb:b+C.length≤100000000):Evt (fun n=>Vn n (b:Int) C) (fun r=>r=(vn (nx p b),((nx p b+1:Nat):Int))):=by
 unfold Vn
 have h:=i3k (fun x=>(hC x).2) b
 have hle:=i5j (fun x=>(hC x).2) b
 have step:∀m:Nat,m≤100000000→Ta C (m:Int)=bif (!decide (vn m∈C))then some (.ret (vn m,((m+1:Nat):Int)))else some (.nxt ((m+1:Nat):Int)):=fun m hm=>by
  unfold Ta
  have hl:=d7G (m:=m) (by omega)
  have hw:wr .i64 ((m:Int)+1)=((m+1:Nat):Int):=by rw[d0H (by omega) (by omega)];rfl
  have e:ZS [118] (Lib.decDigits m)=vn m:=rfl
  rw[d5o (by omega),Option.bind_some,d3j (show RG _ _ by unfold RG;simp;omega),e,TG,Option.bind_some,hw]
 refine Evt.Pg (Evt.i1m (nx p b-b) (fun k s=>s=((b+k:Nat):Int)) (fun _=>False) (fun r=>r=(vn (nx p b),((nx p b+1:Nat):Int))) rfl (fun k s hk hs=>?_) (fun s hs=>?_)) (fun _ ht=>ht.elim) (fun r hr=>hr)
 ·subst hs
  rw[step _ (by omega)]
  have hm:vn (b+k)∈C:=(hC _).2 (h.2.2 _ (by omega) (by omega))
  simp only[hm,decide_true,Bool.not_true,cond_false]
  exact Evt.pure rfl
 ·subst hs
  have e:b+(nx p b-b)=nx p b:=by have:=h.1;omega
  rw[e,step _ (by omega)]
  have hm:vn (nx p b)∉C:=fun hm=>h.2.1 ((hC _).1 hm)
  simp only[hm,decide_false,Bool.not_false,cond_true]
  exact Evt.pure rfl
def d1t(env:List OJ):List (Bs×Bs):=d1s (fun k=>(Am.get env k).from_) (fun k=>(Am.get env k).to_) env.length
theorem d8D{α:Type}[Inhabited α](l:List α)(x:α):Am.get (l++[x]) l.length=x∧∀k,k<l.length→Am.get (l++[x]) k=Am.get l k:=by
 unfold Am.get
 refine⟨by simp,fun k hk=>?_⟩
 rw[List.getD_eq_getElem?_getD,List.getD_eq_getElem?_getD,List.getElem?_append_left hk]
theorem d6t(env:List OJ)(a b:Bs):d1t (env++[⟨a,b⟩])=(a,b)::d1t env:=by
 unfold d1t
 rw[List.length_append,List.length_singleton,d1s,(d8D env _).1]
 congr 1
 exact d3x fun k hk=>by rw[(d8D env _).2 k hk];exact⟨rfl,rfl⟩
theorem d9D{p:Bs→Prop}{C:List Bs}(hC:∀x,x∈C↔p x)(hCl:C.length≤10000):∀(m:Nat) (f:Ox),SizeOf.sizeOf f≤m→WfF f→∀(env:List OJ) (i b:Nat),env.length+ndF f≤100000→i+nq f≤1000→nx p b=num p i→
 Evt (fun n=>PD n f env (b:Int) C) (fun r=>r.1=ren (NN p) f (d1t env) i∧∃b':Nat,r.2=(b':Int)∧nx p b'=num p (i+nq f)):=by
 intro m
 have hC2:∀x,p x→x∈C:=fun x=>(hC x).2
 induction m with
 |zero=>intro f h;cases f;simp only[Ox.mk.sizeOf_spec]at h;omega
 |succ m ih=>
  intro f hf hwf env i b i4h hi hb
  have hnd:=d4A f
  have hws:=d8y hwf
  have hsl:=d7E hwf
  have hnq:=i3f f
  refine Evt.succ ?_
  simp only[PD]
  refine Evt.Pg (P:=ExP (fun t=>t=f.words.map (sub (d1t env))) (fun _=>False)) ((Evt.range (fun k s=>s=(f.words.take k).map (sub (d1t env))) (fun _=>False) (fun _=>False) (by simp) (fun k s hk hs=>?_)).mono fun e he=>?_) (fun t ht=>?_) (fun _ h=>h.elim)
  ·unfold Sh
   refine Evt.Pg (i7O (fun k=>(Am.get env k).from_) (fun k=>(Am.get env k).to_) env.length (by omega) (Am.get f.words k) (QM env f k) (fun j hj=>?_) rfl) (fun t ht=>?_) (fun _ h=>h.elim)
   ·unfold QM
    have e1:decide (0≤(j:Int))=true:=decide_eq_true (by omega)
    rw[e1,cond_true,d3j (by omega)]
    rfl
   ·unfold Si
    refine Evt.Tg (Evt.chk ?_ (Evt.pure ?_))
    ·subst hs
     rw[Vl];simp only[List.length_append,List.length_map,List.length_take,List.length_cons,List.length_nil];omega
    ·show _=_
     have ht:t=sub (d1t env) (Am.get f.words k):=ht
     rw[hs,ht,QL hk,List.map_append];rfl
  ·cases e with
   |ret r=>exact he
   |nxt t=>
    have:=he.elim id False.elim
    rw[List.take_length]at this
    exact this
  ·subst ht
   have key:∀(env':List OJ) (nm:Bs) (j c:Nat),nm=(if QK f.kind then NN p i else f.name)→d1t env'=(if QK f.kind then(f.name,NN p i)::d1t env else d1t env)→j=i+(if QK f.kind then 1 else 0)→nx p c=num p j→env'.length≤env.length+1→
    Evt (fun n=>Qj (PD n) f C (f.words.map (sub (d1t env))) ((c:Int),nm,env')) (fun r=>r.1=ren (NN p) f (d1t env) i∧∃b':Nat,r.2=(b':Int)∧nx p b'=num p (i+nq f)):=by
    intro env' nm j c hnm i5k hj hc hlen
    have hjn:j+nqL f.subs=i+nq f:=by omega
    unfold Qj
    refine Evt.Pg (P:=ExP (fun t=>t.2=Sc (NN p) f.subs (d1t env') j∧∃b':Nat,t.1=(b':Int)∧nx p b'=num p (j+nqL f.subs)) (fun _=>False)) ((Evt.range (fun k s=>s.2=Sc (NN p) (f.subs.take k) (d1t env') j∧∃b':Nat,s.1=(b':Int)∧nx p b'=num p (j+nqL (f.subs.take k))) (fun _=>False) (fun _=>False) ⟨by simp[Sc],c,rfl,by simpa[nqL]using hc⟩ (fun k s hk hs=>?_)).mono fun e he=>?_) (fun t ht=>?_) (fun _ h=>h.elim)
    ·obtain⟨hs1,b',hs2,hs3⟩:=hs
     unfold Sj
     have hsz:=Rw hk
     have htk:=Xj hk
     have hqk:=ZD hk
     refine Evt.bind (P:=fun r=>r.1=ren (NN p) (Am.get f.subs k) (d1t env') (j+nqL (f.subs.take k))∧∃b'':Nat,r.2=(b'':Int)∧nx p b''=num p (j+nqL (f.subs.take k)+nq (Am.get f.subs k))) ?_ fun v hv=>Evt.Tg (Evt.chk ?_ (Evt.pure ?_))
     ·rw[hs2]
      exact ih _ (by omega) (d4C hwf hk) env' _ b' (by omega) (by omega) hs3
     ·rw[Vl,hs1];simp only[List.length_append,Vm,List.length_take,List.length_cons,List.length_nil];omega
     ·obtain⟨hv1,b'',hv2,hv3⟩:=hv
      refine⟨?_,b'',hv2,?_⟩
      ·show s.2++[v.1]=_
       rw[hs1,hv1,QL hk,Xk]
      ·rw[hv3,QL hk,XK,Nat.add_assoc]
    ·cases e with
     |ret r=>exact he
     |nxt t=>
      have:=he.elim id False.elim
      rw[List.take_length]at this
      exact this
    ·obtain⟨ht1,b',ht2,ht3⟩:=ht
     unfold Sk
     refine Evt.pure ⟨?_,b',ht2,by rw[ht3,hjn]⟩
     show Ox.mk _ _ _ _=_
     rw[d4B,ht1,hnm,i5k,hj]
   unfold Sl
   simp only[WU,Option.bind_some]
   have hbl:=(i3k hC2 b).1
   have hnl:=d8C hC2 10000 hCl i
   refine Evt.cond (fun e=>?_) (fun e=>?_)
   ·replace e:=bx e
    rw[if_pos e]at hnq
    refine Evt.bind (d6s hC (b:=b) (by omega)) fun v hv=>Evt.chk (by omega) (Evt.Tg (Evt.chk ?_ ?_))
    ·rw[Vl];simp only[List.length_append,List.length_cons,List.length_nil];omega
    ·subst hv
     exact key _ _ (i+1) (nx p b+1) (by rw[if_pos e,hb];rfl) (by rw[if_pos e,d6t,hb];rfl) (by rw[if_pos e]) (by rw[hb];rfl) (by simp)
   ·replace e:=bx e
    rw[if_neg e]at hnq
    exact key _ _ i b (by rw[if_neg e]) (by rw[if_neg e]) (by rw[if_neg e];rfl) hb (by omega)
noncomputable def cf(f:Ox):Ox:=ren (NN (fre f [])) f [] 0
theorem i3l{f:Ox}(h:OkF f):Evt (fun n=>Sy n f) (fun r=>r=cf f):=by
 have h2:=h.2.1
 unfold Sy Ug
 have hq:=i1o f
 refine Evt.bind (P:=fun r=>r=cf f) (Evt.bind (d1S h.1 (by omega)) fun v hv=>?_) fun v hv=>Evt.pure hv
 refine Evt.Pg (P:=ExP (fun _=>True) (fun _=>False)) ⟨.nxt (),trivial,0,fun n _=>rfl⟩ (fun _ _=>?_) (fun _ h=>h.elim)
 unfold Sm
 exact Evt.bind (d9D hv.1 (by omega) _ f (Nat.le_refl _) h.1 [] 0 0 (by simp;omega) (by omega) rfl) fun r hr=>Evt.pure hr.1
mutual
def SmF:Ox→Prop
 | .mk _ _ w s=>w.length≤3∧s.length≤2∧d2a s
def d2a:List Ox→Prop
 | []=>True
 |f::l=>SmF f∧d2a l
end
theorem d4F(f:Ox):SmF f↔f.words.length≤3∧f.subs.length≤2∧d2a f.subs:=by cases f;rw[SmF];rfl
theorem d2t:∀ {l:List Ox},d2a l→∀x∈l,SmF x
 | [],_,x,h=>by cases h
 |f::l,h,x,hx=>by
  rw[d2a]at h
  rcases List.mem_cons.1 hx with rfl|hx
  ·exact h.1
  ·exact d2t h.2 x hx
mutual
theorem WfF.sm:∀(f:Ox),WfF f→SmF f
 | .mk k n w s,h=>by
   rw[SmF]
   exact⟨d8y h,d7E h,ZB.sm s ((Uf _).1 h).2⟩
theorem ZB.sm:∀(l:List Ox),ZB l→d2a l
 | [],_=>by rw[d2a];trivial
 |f::l,h=>by
  rw[d2a]
  exact⟨WfF.sm f (Qt.1 h f (List.mem_cons_self ..)),ZB.sm l (Qt.2 fun x hx=>Qt.1 h x (List.mem_cons_of_mem _ hx))⟩
end
mutual
theorem SmF.ren(N:Nat→Bs):∀(f:Ox) (env:List (Bs×Bs)) (i:Nat),SmF f→SmF (ren N f env i)
 | .mk k n w s,env,i,h=>by
   rw[SmF]at h
   rw[Go.Proofs.YtfacbpehlibilaaGreatDoor.ren,SmF]
   exact⟨by rw[List.length_map];exact h.1,by rw[Vm];exact h.2.1,d2a.ren N s _ _ h.2.2⟩
theorem d2a.ren(N:Nat→Bs):∀(l:List Ox) (env:List (Bs×Bs)) (i:Nat),d2a l→d2a (Sc N l env i)
 | [],env,i,_=>by rw[Sc,d2a];trivial
 |f::l,env,i,h=>by
  rw[d2a]at h
  rw[Sc,d2a]
  exact⟨SmF.ren N f env i h.1,d2a.ren N l env _ h.2⟩
end
mutual
theorem d8E:∀(f:Ox),WfF f→∀(bd:List Bs) (x:Bs),fre f bd x→PK x
 | .mk k n w s,h,bd,x,hx=>by
   rw[fre]at hx
   rcases hx with hx|hx
   ·exact(Uk ((Uf _).1 h).1).2.2.2.2 x hx.1
   ·exact d6u s ((Uf _).1 h).2 _ x hx
theorem d6u:∀(l:List Ox),ZB l→∀(bd:List Bs) (x:Bs),XZ l bd x→PK x
 | [],_,bd,x,hx=>by rw[XZ]at hx;exact hx.elim
 |f::l,h,bd,x,hx=>by
  rw[XZ]at hx
  rcases hx with hx|hx
  ·exact d8E f (Qt.1 h f (List.mem_cons_self ..)) bd x hx
  ·exact d6u l (Qt.2 fun y hy=>Qt.1 h y (List.mem_cons_of_mem _ hy)) bd x hx
end
mutual
def swp(σ:Bs→Bs):Ox→Ox
 | .mk k n w s=>.mk k (if QK k then σ n else n) (w.map σ) (i7P σ s)
def i7P(σ:Bs→Bs):List Ox→List Ox
 | []=>[]
 |f::l=>swp σ f::i7P σ l
end
theorem i5l{l:List Bs}{k:Nat}(h:k<l.length):l.drop k=Am.get l k::l.drop (k+1):=by
 rw[List.drop_eq_getElem_cons h]
 simp[Am.get,h]
theorem i1E(σ:Bs→Bs){w:Bs}(h:σ w=w):∀env:List (Bs×Bs),σ (sub env w)=sub (env.map fun e=>(e.1,σ e.2)) w
 | []=>by rw[List.map_nil,d7A,h]
 |(a,b)::env=>by
  rw[List.map_cons,Tq,Tq]
  split
  ·rfl
  ·exact i1E σ h env
mutual
theorem i5m(σ:Bs→Bs)(N:Nat→Bs)(q:Nat)(h1:∀j,j<q→σ (mk j)=N j)(h2:∀w,PK w→σ w=w):∀(f:Ox) (env:List (Bs×Bs)) (i:Nat),WfF f→i+nq f≤q→swp σ (ren mk f env i)=ren N f (env.map fun e=>(e.1,σ e.2)) i
 | .mk k n w s,env,i,hwf,hq=>by
   have hn:=((Uf _).1 hwf).1
   have hs:=((Uf _).1 hwf).2
   have hw:=(Uk hn).2.2.2.2
   rw[nq]at hq
   rw[ren,ren,swp]
   have e1:(w.map (sub env)).map σ=w.map (sub (env.map fun e=>(e.1,σ e.2))):=by
    rw[List.map_map]
    exact List.map_congr_left fun x hx=>i1E σ (h2 x (hw x hx)) env
   rw[e1]
   by_cases hk:QK k
   ·rw[if_pos hk]at hq
    simp only[if_pos hk]
    rw[h1 i (by omega),d5p σ N q h1 h2 s _ _ hs (by omega),List.map_cons,h1 i (by omega)]
   ·rw[if_neg hk]at hq
    simp only[if_neg hk]
    rw[d5p σ N q h1 h2 s _ _ hs (by omega)]
theorem d5p(σ:Bs→Bs)(N:Nat→Bs)(q:Nat)(h1:∀j,j<q→σ (mk j)=N j)(h2:∀w,PK w→σ w=w):∀(l:List Ox) (env:List (Bs×Bs)) (i:Nat),ZB l→i+nqL l≤q→i7P σ (Sc mk l env i)=Sc N l (env.map fun e=>(e.1,σ e.2)) i
 | [],env,i,_,_=>by rw[Sc,Sc,i7P]
 |f::l,env,i,h,hq=>by
  rw[nqL]at hq
  rw[Sc,Sc,i7P,i5m σ N q h1 h2 f env i (Qt.1 h f (List.mem_cons_self ..)) (by omega),d5p σ N q h1 h2 l env _ (Qt.2 fun x hx=>Qt.1 h x (List.mem_cons_of_mem _ hx)) (by omega)]
end
end Go.Proofs.YtfacbpehlibilaaGreatDoor
