import Derived.Lib.ItoaMem
import Derived.Lib.ItoaLen
import Derived.Test.YtanlbioodbnakaaGreatDoorTTLaw1
set_option linter.unusedVariables false
set_option linter.unusedSimpArgs false
namespace Go.Proofs.YtanlbioodbnakaaGreatDoor
open Go Go.Am
theorem yg(l:List Bs)(x:Bs):Evt (fun _=>A9 l x) (fun r=>r=decide (x∈l)):=by
 unfold A9 R7
 refine Evt.bind (P:=fun r=>0≤r↔x∈l) (Evt.C2 (Evt.scan (fun k _=>∀j,j<k→Am.get l j≠x) (fun k r=>r=(k:Int)∧Am.get l k=x) (fun j hj=>absurd hj (Nat.not_lt_zero _)) (fun k u hk hi=>?_)) (fun t ht=>?_) (fun r hr=>?_)) fun v hv=>Evt.pure ?_
 ·unfold N6
  refine Evt.cond (fun e=>Evt.pure ?_) (fun e=>Evt.pure ?_)
  ·replace e:=bx e
   exact⟨rfl,e.symm⟩
  ·replace e:=bx e
   intro j hj
   by_cases ej:j=k
   ·subst ej;exact fun h=>e h.symm
   ·exact hi j (by omega)
 ·unfold N7
  refine Evt.pure ⟨fun h=>absurd h (by decide),fun h=>?_⟩
  obtain⟨j,hj,e⟩:=bD.1 h
  exact absurd e (ht j hj)
 ·obtain⟨k,_,hk,_,rfl,e⟩:=hr
  exact⟨fun _=>bD.2 ⟨k,hk,e⟩,fun _=>by omega⟩
 ·by_cases h:x∈l
  ·simp[h,hv.2 h]
  ·have h3:¬0≤v:=fun h2=>h (hv.1 h2)
   simp only[h,h3,decide_false]
theorem J8(l:List Bs)(x:Bs):A9 l x=some (decide (x∈l)):=by
 obtain⟨r,rfl,N,hN⟩:=yg l x
 exact hN N (Nat.le_refl _)
theorem sM{zs:List Bs}{x:Bs}:x∈Lib.compact zs↔x∈zs:=by
 unfold Lib.compact Lib.compactUpTo
 rw[List.mem_map]
 have hg:∀j,j<zs.length→zs.toArray[j]! =Am.get zs j:=fun j hj=>by simp[Am.get,hj]
 constructor
 ·rintro⟨j,hj,rfl⟩
  have hj:=List.mem_range.1 (List.mem_filter.1 hj).1
  rw[hg j hj]
  exact get_mem hj
 ·intro h
  obtain⟨j,hj,rfl⟩:=bD.1 h
  have key:∀j,j<zs.length→∃a,a∈(List.range zs.length).filter (Lib.keeps zs.toArray)∧zs.toArray[a]! =Am.get zs j:=by
   intro j
   induction j with
   |zero=>intro hj;exact⟨0,List.mem_filter.2 ⟨List.mem_range.2 hj,Lib.keeps_lt_one _ 0 (by omega)⟩,hg 0 hj⟩
   |succ j ih=>
    intro hj
    by_cases hk:Lib.keeps zs.toArray (j+1)=true
    ·exact⟨j+1,List.mem_filter.2 ⟨List.mem_range.2 hj,hk⟩,hg _ hj⟩
    ·obtain⟨a,h1,h2⟩:=ih (by omega)
     refine⟨a,h1,h2.trans ?_⟩
     unfold Lib.keeps at hk
     simp only[decide_eq_true_eq,not_or,Decidable.not_not,ne_eq]at hk
     have:=hk.2
     rw[hg _ hj,Nat.add_sub_cancel,hg j (by omega)]at this
     exact this.symm
  exact key j hj
mutual
theorem Ft:∀(f:u5) (bd bd':List Bs),(∀y,y∈bd↔y∈bd')→∀x,fre f bd x↔fre f bd' x
 | .mk k n w s,bd,bd',h,x=>by
   rw[fre,fre,h x,mw s _ _ (fun y=>?_) x]
   split
   ·simp[h y]
   ·exact h y
theorem mw:∀(l:List u5) (bd bd':List Bs),(∀y,y∈bd↔y∈bd')→∀x,eP l bd x↔eP l bd' x
 | [],bd,bd',h,x=>by rw[eP,eP]
 |f::l,bd,bd',h,x=>by rw[eP,eP,Ft f bd bd' h x,mw l bd bd' h x]
end
theorem yh(l:List u5)(f:u5)(bd:List Bs)(x:Bs):eP (l++[f]) bd x↔eP l bd x∨fre f bd x:=by
 rw[vX,vX]
 constructor
 ·rintro⟨g,hg,h⟩
  rcases List.mem_append.1 hg with hg|hg
  ·exact .inl ⟨g,hg,h⟩
  ·rw[List.mem_singleton]at hg;subst hg;exact .inr h
 ·rintro(⟨g,hg,h⟩|h)
  ·exact⟨g,List.mem_append.2 (.inl hg),h⟩
  ·exact⟨f,List.mem_append.2 (.inr (List.mem_singleton.2 rfl)),h⟩
theorem CV:∀(m:Nat) (f:u5),SizeOf.sizeOf f≤m→WfF f→∀(bd l:List Bs),bd.length+ndF f≤100000→l.length+3*ndF f≤300000→
 Evt (fun n=>F0 n f bd l) (fun r=>(∀x,x∈r↔x∈l∨fre f bd x)∧r.length≤l.length+3*ndF f):=by
 intro m
 induction m with
 |zero=>intro f h;cases f;simp only[u5.mk.sizeOf_spec]at h;omega
 |succ m ih=>
  intro f hf hwf bd l hbd hl
  have hnd:=sK f
  have hws:=Bo hwf
  refine Evt.succ ?_
  simp only[F0]
  refine Evt.C2 (P:=ExP (fun t=>(∀x,x∈t↔x∈l∨(x∈f.words∧x∉bd))∧t.length≤l.length+3) (fun _=>False)) ((Evt.range (fun k s=>(∀x,x∈s↔x∈l∨(x∈f.words.take k∧x∉bd))∧s.length≤l.length+k) (fun _=>False) (fun _=>False) ⟨fun x=>by simp,by omega⟩ (fun k s hk hi=>?_)).mono fun e he=>?_) (fun t ht=>?_) (fun _ h=>h.elim)
  ·unfold R2
   simp only[J8,Option.bind_some]
   refine Evt.cond (fun e=>Evt.P6 (Evt.chk ?_ (Evt.pure ⟨fun x=>?_,?_⟩))) (fun e=>Evt.pure ⟨fun x=>?_,by omega⟩)
   ·rw[M0];simp only[List.length_append,List.length_cons,List.length_nil];omega
   ·replace e:=bx e
    rw[List.mem_append,hi.1 x,F8 hk,List.mem_append,List.mem_singleton]
    by_cases hx:x=Am.get f.words k
    ·subst hx;simp[e]
    ·simp[hx]
   ·simp only[List.length_append,List.length_cons,List.length_nil];omega
   ·replace e:=bx e
    rw[hi.1 x,F8 hk,List.mem_append,List.mem_singleton]
    by_cases hx:x=Am.get f.words k
    ·subst hx;simp[e]
    ·simp[hx]
  ·cases e with
   |ret r=>exact he
   |nxt t=>
    obtain⟨h1,h2⟩:=he.elim id False.elim
    rw[List.take_length]at h1
    exact⟨h1,by omega⟩
  ·obtain⟨h1,h2⟩:=ht
   have key:∀bd':List Bs,(∀y,y∈bd'↔y∈(if QK f.kind then f.name::bd else bd))→bd'.length≤bd.length+1→Evt (fun n=>G8 (F0 n) f t bd') (fun r=>(∀x,x∈r↔x∈l∨fre f bd x)∧r.length≤l.length+3*ndF f):=by
    intro bd' hb hbl
    unfold G8
    refine Evt.C2 (P:=ExP (fun r=>(∀x,x∈r↔x∈t∨eP f.subs bd' x)∧r.length≤t.length+3*bT f.subs) (fun _=>False)) ((Evt.range (fun k s=>(∀x,x∈s↔x∈t∨eP (f.subs.take k) bd' x)∧s.length≤t.length+3*bT (f.subs.take k)) (fun _=>False) (fun _=>False) ⟨fun x=>by simp[eP],by omega⟩ (fun k s hk hi=>?_)).mono fun e he=>?_) (fun r hr=>?_) (fun _ h=>h.elim)
    ·unfold R3
     have hsz:=J6 hk
     have htk:=gR hk
     refine Evt.bind (ih _ (by omega) (ng hwf hk) bd' s (by omega) (by omega)) fun v hv=>Evt.pure ⟨fun x=>?_,?_⟩
     ·rw[hv.1 x,hi.1 x,F8 hk,yh,or_assoc]
     ·rw[F8 hk,lP]
      have:=hv.2
      have:=hi.2
      omega
    ·cases e with
     |ret r=>exact he
     |nxt r=>
      have:=he.elim id False.elim
      rw[List.take_length]at this
      exact this
    ·obtain⟨h3,h4⟩:=hr
     unfold R4
     refine Evt.pure ⟨fun x=>?_,by omega⟩
     rw[h3 x,h1 x,Jq,mw f.subs _ _ hb x,or_assoc]
   unfold R5
   simp only[dc,Option.bind_some]
   refine Evt.cond (fun e=>Evt.chk (by omega) (Evt.P6 (Evt.chk ?_ (key _ (fun y=>?_) ?_)))) (fun e=>key _ (fun y=>?_) (by omega))
   ·rw[M0];simp only[List.length_append,List.length_cons,List.length_nil];omega
   ·replace e:=bx e
    rw[if_pos e];simp[or_comm]
   ·simp
   ·replace e:=bx e
    rw[if_neg e]
theorem lQ{f:u5}(hwf:WfF f)(hn:ndF f≤50000):Evt (fun n=>K3 n f) (fun r=>(∀x,x∈r↔fre f [] x)∧r.length≤3*ndF f):=by
 unfold K3
 refine Evt.bind (CV _ f (Nat.le_refl _) hwf [] [] (by simp;omega) (by simp;omega)) fun v hv=>?_
 obtain⟨h1,h2⟩:=hv
 simp only[List.length_nil,Nat.zero_add]at h2
 unfold H6 K2
 have hlen:(jT cfB v).length=v.length:=(cu cfB v).length_eq
 refine Evt.bind (Evt.chk (by omega) (Evt.pure (P:=fun r=>r=jT cfB v) rfl)) fun r hr=>?_
 subst hr
 refine Evt.bind (Evt.chk (by omega) (Evt.pure (P:=fun r=>True) trivial)) fun _ _=>Evt.pure ⟨fun x=>?_,?_⟩
 ·rw[sM,(cu cfB v).mem_iff,h1 x]
  simp
 ·have:=Lib.compact_length_le (jT cfB v)
  omega
theorem sN:∀(m:Nat) (f:u5),SizeOf.sizeOf f≤m→ndF f≤100000→Evt (fun n=>C4 n f) (fun r=>r=qs f):=by
 intro m
 induction m with
 |zero=>intro f h;cases f;simp only[u5.mk.sizeOf_spec]at h;omega
 |succ m ih=>
  intro f hf hn
  have hnd:=sK f
  refine Evt.succ ?_
  simp only[C4,dc,Option.bind_some]
  have Il:∀(l:List u5) (x:u5),qsL (l++[x])=qsL l++qs x:=fun l x=>by
   induction l with
   |nil=>simp[qsL]
   |cons a l ih=>rw[List.cons_append,qsL,qsL,ih,List.append_assoc]
  have key:∀l0:List Bs,l0=(if QK f.kind then [f.name]else [])→Evt (fun n=>J1 (C4 n) f l0) (fun r=>r=qs f):=by
   intro l0 h0
   have hl0:l0.length≤1:=by rw[h0];split<;>simp
   unfold J1
   refine Evt.C2 (P:=ExP (fun t=>t=l0++qsL f.subs) (fun _=>False)) ((Evt.range (fun k s=>s=l0++qsL (f.subs.take k)) (fun _=>False) (fun _=>False) (by simp[qsL]) (fun k s hk hi=>?_)).mono fun e he=>?_) (fun t ht=>?_) (fun _ h=>h.elim)
   ·subst hi
    unfold R8
    have hsz:=J6 hk
    have htk:=gR hk
    refine Evt.bind (ih _ (by omega) (by omega)) fun v hv=>Evt.P6 (Evt.chk ?_ (Evt.pure ?_))
    ·subst hv
     have h1:=zN (f.subs.take k)
     have h2:=Bf (Am.get f.subs k)
     have h3:=EZ (f.subs.take k)
     have h4:=zO (Am.get f.subs k)
     rw[M0]
     simp only[List.length_append]
     omega
    ·subst hv
     show _=_
     rw[F8 hk,Il,List.append_assoc]
   ·cases e with
    |ret r=>exact he
    |nxt t=>
     have:=he.elim id False.elim
     rw[List.take_length]at this
     exact this
   ·have ht:t=_:=ht
    subst ht
    unfold R9
    refine Evt.pure ?_
    rw[QX, ←h0]
  refine Evt.cond (fun e=>Evt.P6 (Evt.chk (by simp[M0]) (key _ ?_))) (fun e=>key _ ?_)
  ·replace e:=bx e
   rw[if_pos e];rfl
  ·replace e:=bx e
   rw[if_neg e]
mutual
def bN:u5→List u5
 | .mk k n w s=>.mk k n w s::eB s
def eB:List u5→List u5
 | []=>[]
 |x::l=>bN x++eB l
end
theorem Bp(f:u5):bN f=f::eB f.subs:=by cases f;rw[bN];rfl
mutual
theorem Fu:∀f:u5,(bN f).length=ndF f
 | .mk k n w s=>by rw[bN,ndF,List.length_cons,uQ s];omega
theorem uQ:∀l:List u5,(eB l).length=bT l
 | []=>by rw[eB,bT];rfl
 |x::l=>by rw[eB,bT,List.length_append,Fu x,uQ l]
end
theorem nH:∀(l:List u5) (x:u5),eB (l++[x])=eB l++bN x
 | [],x=>by simp[eB]
 |a::l,x=>by rw[List.cons_append,eB,eB,nH l x,List.append_assoc]
def qO(l:List u5)(x:Bs):Prop:=∃g∈l,g.kind=2∧g.name=x∧0<g.words.length
def sO(l:List u5)(x:Bs):Prop:=∃g∈l,g.kind=2∧g.name=x∧g.words.length=0
theorem qO.app{l m:List u5}{x:Bs}:qO (l++m) x↔qO l x∨qO m x:=by
 unfold qO
 constructor
 ·rintro⟨g,hg,h⟩
  rcases List.mem_append.1 hg with hg|hg
  ·exact .inl ⟨g,hg,h⟩
  ·exact .inr ⟨g,hg,h⟩
 ·rintro(⟨g,hg,h⟩|⟨g,hg,h⟩)
  ·exact⟨g,List.mem_append.2 (.inl hg),h⟩
  ·exact⟨g,List.mem_append.2 (.inr hg),h⟩
theorem sO.app{l m:List u5}{x:Bs}:sO (l++m) x↔sO l x∨sO m x:=by
 unfold sO
 constructor
 ·rintro⟨g,hg,h⟩
  rcases List.mem_append.1 hg with hg|hg
  ·exact .inl ⟨g,hg,h⟩
  ·exact .inr ⟨g,hg,h⟩
 ·rintro(⟨g,hg,h⟩|⟨g,hg,h⟩)
  ·exact⟨g,List.mem_append.2 (.inl hg),h⟩
  ·exact⟨g,List.mem_append.2 (.inr hg),h⟩
theorem qO.one{g:u5}{x:Bs}:qO [g] x↔g.kind=2∧g.name=x∧0<g.words.length:=by
 unfold qO;simp
theorem sO.one{g:u5}{x:Bs}:sO [g] x↔g.kind=2∧g.name=x∧g.words.length=0:=by
 unfold sO;simp
theorem KN:∀(m:Nat) (f:u5),SizeOf.sizeOf f≤m→∀x,Evt (fun n=>O5 n f x) (fun r=>(r.1=true↔qO (bN f) x)∧(r.2=true↔sO (bN f) x)):=by
 intro m
 induction m with
 |zero=>intro f h;cases f;simp only[u5.mk.sizeOf_spec]at h;omega
 |succ m ih=>
  intro f hf x
  refine Evt.succ ?_
  simp only[O5]
  have key:∀j:Bool×Bool,(j.1=true↔qO [f] x)→(j.2=true↔sO [f] x)→Evt (fun n=>V4 (O5 n) f x j) (fun r=>(r.1=true↔qO (bN f) x)∧(r.2=true↔sO (bN f) x)):=by
   intro j h1 h2
   unfold V4
   refine Evt.C2 (P:=ExP (fun s:Bool×Bool=>(s.1=true↔qO (f::eB f.subs) x)∧(s.2=true↔sO (f::eB f.subs) x)) (fun _=>False)) ((Evt.range (fun k s=>(s.1=true↔qO ([f]++eB (f.subs.take k)) x)∧(s.2=true↔sO ([f]++eB (f.subs.take k)) x)) (fun _=>False) (fun _=>False) ⟨by simpa[eB]using h1,by simpa[eB]using h2⟩ (fun k s hk hi=>?_)).mono fun e he=>?_) (fun t ht=>?_) (fun _ h=>h.elim)
   ·unfold dx
    have hsz:=J6 hk
    refine Evt.bind (ih _ (by omega) x) fun v hv=>Evt.pure ⟨?_,?_⟩
    ·rw[F8 hk,nH, ←List.append_assoc,qO.app, ←hv.1, ←hi.1]
     cases s.1<;>simp
    ·rw[F8 hk,nH, ←List.append_assoc,sO.app, ←hv.2, ←hi.2]
     cases s.2<;>simp
   ·cases e with
    |ret r=>exact he
    |nxt t=>
     have:=he.elim id False.elim
     rw[List.take_length]at this
     exact this
   ·unfold dy
    refine Evt.pure ?_
    rw[Bp]
    exact ht
  refine Evt.cond (fun e=>key _ ?_ ?_) (fun e=>key _ ?_ ?_)
  ·replace e:=bx e
   rw[qO.one];simp[e.1,e.2]
  ·replace e:=bx e
   rw[sO.one];simp[e.1,e.2]
  ·rw[qO.one]
   refine⟨fun h=>(by cases h),fun h=>?_⟩
   simp[h.1,h.2.1]at e
  ·rw[sO.one]
   refine⟨fun h=>(by cases h),fun h=>?_⟩
   simp[h.1,h.2.1]at e
theorem get_map{α β:Type}[Inhabited α][Inhabited β](g:α→β){l:List α}{k:Nat}(h:k<l.length):Am.get (l.map g) k=g (Am.get l k):=by
 unfold Am.get
 rw[List.getD_eq_getElem?_getD,List.getD_eq_getElem?_getD,List.getElem?_map,List.getElem?_eq_getElem h]
 rfl
def Js(l:List Bs)(x:Bs)(r:Int):Prop:=(x∉l∧r= -1)∨∃j,j<l.length∧Am.get l j=x∧(∀i,i<j→Am.get l i≠x)∧r=(j:Int)
theorem Js.mem{l:List Bs}{x:Bs}{r:Int}(h:Js l x r):0≤r↔x∈l:=by
 rcases h with⟨h1,rfl⟩|⟨j,hj,e,_,rfl⟩
 ·exact⟨fun h=>absurd h (by decide),fun h=>absurd h h1⟩
 ·exact⟨fun _=>bD.2 ⟨j,hj,e⟩,fun _=>by omega⟩
def vns(s:A8):List Bs:=s.words++s.E9++s.parts
open Classical in
noncomputable def bO(s:A8)(i:Nat):Int:=
 if ¬D2 (Am.get (vns s) i)then 10
 else if Am.get (vns s) i∈(vns s).take i then 7
 else if i<s.words.length then(if fre s.form [] (Am.get (vns s) i)then 0 else 15)
 else if i<s.words.length+s.E9.length then(if qO (bN s.form) (Am.get (vns s) i)∨sO (bN s.form) (Am.get (vns s) i)then 0 else 15)
 else if qO (bN s.form) (Am.get (vns s) i)then 5 else if sO (bN s.form) (Am.get (vns s) i)then 0 else 15
def QOk(s:A8):Prop:=∀k,k<(qs s.form).length→Am.get (qs s.form) k∉ (qs s.form).take k∧Am.get (qs s.form) k∉s.words
def OkS(s:A8):Prop:=OkF s.form∧(vns s).length≤300∧(∀j,j<(vns s).length→bO s j=0)∧QOk s
def FB(step:Nat→Int)(N:Nat)(r:B0):Prop:=∃k,k<N∧(∀j,j<k→step j=0)∧step k≠0∧r=⟨step k,k⟩
theorem FB.uniq{step:Nat→Int}{N:Nat}{r r':B0}(h:FB step N r)(h':FB step N r'):r=r':=by
 obtain⟨k,_,h2,h3,rfl⟩:=h
 obtain⟨k',_,h2',h3',rfl⟩:=h'
 have:k=k':=by
  rcases Nat.lt_trichotomy k k' with h|h|h
  ·exact absurd (h2' k h) h3
  ·exact h
  ·exact absurd (h2 k' h) h3'
 rw[this]
def GV(s:A8)(r:B0):Prop:=
 (¬OkF s.form∧r=oH s.form)∨(OkF s.form∧300<(vns s).length∧r=⟨2, -1⟩)∨(OkF s.form∧(vns s).length≤300∧FB (bO s) (vns s).length r)∨
 (OkF s.form∧(vns s).length≤300∧(∀j,j<(vns s).length→bO s j=0)∧¬QOk s∧r=⟨7, -1⟩)∨(OkS s∧r=⟨0,0⟩)
theorem GV.code{s:A8}{r:B0}(h:GV s r)(h0:r.code=0):OkS s∧r=⟨0,0⟩:=by
 rcases h with⟨h1,rfl⟩|⟨_,_,rfl⟩|⟨_,_,k,_,_,h3,rfl⟩|⟨_,_,_,_,rfl⟩|h
 ·exact absurd ((nG _).1 h0) h1
 ·cases h0
 ·exact absurd h0 h3
 ·cases h0
 ·exact h
theorem GV.ok{s:A8}{r:B0}(h:GV s r)(h0:OkS s):r=⟨0,0⟩:=by
 obtain⟨k1,k2,k3,k4⟩:=h0
 rcases h with⟨h1,_⟩|⟨_,h1,_⟩|⟨_,_,k,h2,_,h3,_⟩|⟨_,_,_,h1,_⟩|⟨_,h⟩
 ·exact absurd k1 h1
 ·omega
 ·exact absurd (k3 k h2) h3
 ·exact absurd k4 h1
 ·exact h
theorem GV.uniq{s:A8}{r r':B0}(h:GV s r)(h':GV s r'):r=r':=by
 rcases h with⟨h1,rfl⟩|⟨h1,h2,rfl⟩|⟨h1,h2,h3⟩|⟨h1,h2,h3,h4,rfl⟩|⟨h1,rfl⟩
 ·rcases h' with⟨k1,rfl⟩|⟨k1,_⟩|⟨k1,_⟩|⟨k1,_⟩|⟨k1,_⟩
  ·rfl
  ·exact absurd k1 h1
  ·exact absurd k1 h1
  ·exact absurd k1 h1
  ·exact absurd k1.1 h1
 ·rcases h' with⟨k1,_⟩|⟨_,_,rfl⟩|⟨_,k2,_⟩|⟨_,k2,_⟩|⟨k1,_⟩
  ·exact absurd h1 k1
  ·rfl
  ·omega
  ·omega
  ·exact absurd k1.2.1 (by omega)
 ·rcases h' with⟨k1,_⟩|⟨_,k2,_⟩|⟨_,_,k3⟩|⟨_,_,k3,_⟩|⟨k1,_⟩
  ·exact absurd h1 k1
  ·omega
  ·exact h3.uniq k3
  ·obtain⟨k,a,_,b,_⟩:=h3;exact absurd (k3 k a) b
  ·obtain⟨k,a,_,b,_⟩:=h3;exact absurd (k1.2.2.1 k a) b
 ·rcases h' with⟨k1,_⟩|⟨_,k2,_⟩|⟨_,_,k3⟩|⟨_,_,_,_,rfl⟩|⟨k1,_⟩
  ·exact absurd h1 k1
  ·omega
  ·obtain⟨k,a,_,b,_⟩:=k3;exact absurd (h3 k a) b
  ·rfl
  ·exact absurd k1.2.2.2 h4
 ·exact(GV.ok h' h1).symm
def SB(s:A8):Prop:=s.words.length≤1048576∧s.E9.length≤1048576∧s.parts.length≤1048576∧∀x∈vns s,x.length≤8000000
theorem vZ(s:A8):(vns s).length=s.words.length+s.E9.length+s.parts.length:=by unfold vns;simp only[List.length_append]
theorem zS{s:A8}(hb:SB s):Evt (fun n=>Z8 n s) (GV s):=by
 obtain⟨b1,b2,b3,_⟩:=hb
 have hvl:=vZ s
 unfold Z8
 refine Evt.bind (bH s.form) fun v hv=>?_
 subst hv
 refine Evt.cond (fun e=>Evt.pure (.inl ⟨fun h=>?_,rfl⟩)) (fun e=>?_)
 ·rw[oI h]at e;simp at e
 replace e:=bx e
 have hok:OkF s.form:=(nG _).1 e
 unfold P7 pK
 have hfl: [s.words,s.E9,s.parts].flatten=vns s:=by unfold vns;simp
 simp only[Option.bind_assoc,Option.bind_some,hfl]
 refine Evt.bind (P:=fun v=>v=vns s) (Evt.chk (by rw[hvl];simp;omega) (Evt.pure rfl)) fun v hv=>?_
 subst hv
 refine Evt.cond (fun e=>?_) (fun e=>?_)
 ·replace e:=bx e
  exact Evt.pure (.inr (.inl ⟨hok,by omega,rfl⟩))
 replace e:=bx e
 have h300:(vns s).length≤300:=by omega
 refine Evt.bind (lQ hok.1 (by have:=hok.2.1;omega)) fun v4 hv4=>?_
 replace hv4:=hv4.1
 have hwl:wr .i64 ((s.words.length:Int)+(s.E9.length:Int))=((s.words.length+s.E9.length:Nat):Int):=by rw[cr (by omega) (by omega)];omega
 refine Evt.C2 (Evt.scan (fun k _=>∀j,j<k→bO s j=0) (fun k r=>bO s k≠0∧r=⟨bO s k,(k:Int)⟩) (fun j hj=>absurd hj (Nat.not_lt_zero _)) (fun k u hk hi=>?_)) (fun t ht=>?_) (fun r hr=>?_)
 ·have bad:∀c:Int,c≠0→bO s k=c→Evt (fun _:Nat=>(I5 c (k:Int)).bind fun v=>some (Ctl.ret (σ:=Unit) (τ:=Unit) v)) (HZ (fun _:Unit=>∀j,j<k+1→bO s j=0) (fun _=>False) (fun r=>bO s k≠0∧r=⟨bO s k,(k:Int)⟩)):=fun c hc h=>by
   unfold I5
   exact Evt.pure ⟨by rw[h];exact hc,by rw[h]⟩
  have good:bO s k=0→Evt (fun _:Nat=>some (Ctl.nxt (ρ:=B0) (τ:=Unit) ())) (HZ (fun _:Unit=>∀j,j<k+1→bO s j=0) (fun _=>False) (fun r=>bO s k≠0∧r=⟨bO s k,(k:Int)⟩)):=fun h=>Evt.pure fun j hj=>by
   by_cases ej:j=k
   ·subst ej;exact h
   ·exact hi j (by omega)
  unfold Y9
  refine Evt.bind (dM _) fun v17 hv17=>Evt.cond (fun e=>bad 10 (by decide) ?_) (fun e=>?_)
  ·replace e:=bx e
   have:¬D2 (Am.get (vns s) k):=fun h=>by rw[(eR hv17).2 h]at e;cases e
   unfold bO;rw[if_pos this]
  replace e:=bx e
  have s1:¬ ¬D2 (Am.get (vns s) k):=fun h=>h ((eR hv17).1 e)
  refine Evt.chk (by omega) ?_
  simp only[J8,Option.bind_some]
  refine Evt.cond (fun e=>bad 7 (by decide) ?_) (fun e=>?_)
  ·replace e:=bx e
   unfold bO;rw[if_neg s1,if_pos e]
  replace e:=bx e
  have s2:=e
  refine Evt.bind (KN _ s.form (Nat.le_refl _) _) fun v23 hv23=>Evt.cond (fun e=>?_) (fun e=>?_)
  ·replace e:=bx e
   have s3:k<s.words.length:=by omega
   refine Evt.cond (fun e=>bad 15 (by decide) ?_) (fun e=>good ?_)
   ·replace e:=bx e
    rw[hv4]at e
    unfold bO;rw[if_neg s1,if_neg s2,if_pos s3,if_neg e]
   ·replace e:=bx e
    rw[hv4]at e
    unfold bO;rw[if_neg s1,if_neg s2,if_pos s3,if_pos e]
  ·replace e:=bx e
   have s3:¬k<s.words.length:=by omega
   rw[hwl]
   refine Evt.cond (fun e=>?_) (fun e=>?_)
   ·replace e:=bx e
    have s4:k<s.words.length+s.E9.length:=by omega
    refine Evt.cond (fun e=>bad 15 (by decide) ?_) (fun e=>good ?_)
    ·replace e:=bx e
     have:¬(qO (bN s.form) (Am.get (vns s) k)∨sO (bN s.form) (Am.get (vns s) k)):=by
      rw[←hv23.1, ←hv23.2]
      simp[e.1,e.2]
     unfold bO;rw[if_neg s1,if_neg s2,if_neg s3,if_pos s4,if_neg this]
    ·have:qO (bN s.form) (Am.get (vns s) k)∨sO (bN s.form) (Am.get (vns s) k):=by
      rw[←hv23.1, ←hv23.2]
      cases h1:v23.1
      ·cases h2:v23.2
       ·simp[h1,h2]at e
       ·exact .inr rfl
      ·exact .inl rfl
     unfold bO;rw[if_neg s1,if_neg s2,if_neg s3,if_pos s4,if_pos this]
   ·replace e:=bx e
    have s4:¬k<s.words.length+s.E9.length:=by omega
    refine Evt.cond (fun e=>bad 5 (by decide) ?_) (fun e=>?_)
    ·have:=hv23.1.1 e
     unfold bO;rw[if_neg s1,if_neg s2,if_neg s3,if_neg s4,if_pos this]
    ·have s5:¬qO (bN s.form) (Am.get (vns s) k):=by rw[←hv23.1];simp[e]
     refine Evt.cond (fun e=>bad 15 (by decide) ?_) (fun e=>good ?_)
     ·replace e:=bx e
      have:¬sO (bN s.form) (Am.get (vns s) k):=by rw[←hv23.2];simp[e]
      unfold bO;rw[if_neg s1,if_neg s2,if_neg s3,if_neg s4,if_neg s5,if_neg this]
     ·replace e:=bx e
      have:=hv23.2.1 e
      unfold bO;rw[if_neg s1,if_neg s2,if_neg s3,if_neg s4,if_neg s5,if_pos this]
 ·unfold Z0
  refine Evt.bind (sN _ s.form (Nat.le_refl _) (by have:=hok.2.1;omega)) fun v29 hv29=>?_
  subst hv29
  have hql:(qs s.form).length≤200:=by rw[Bf];have:=zO s.form;have:=hok.2.1;omega
  refine Evt.C2 (Evt.scan (fun k _=>∀j,j<k→Am.get (qs s.form) j∉ (qs s.form).take j∧Am.get (qs s.form) j∉s.words) (fun k r=>r=⟨7, -1⟩∧¬QOk s) (fun j hj=>absurd hj (Nat.not_lt_zero _)) (fun k u hk hi=>?_)) (fun u hu=>?_) (fun r hr=>?_)
  ·unfold Z1
   refine Evt.chk (by omega) ?_
   simp only[J8,Option.bind_some]
   refine Evt.bind (P:=fun v=>Am.get (qs s.form) k∉ (qs s.form).take k→(v=true↔Am.get (qs s.form) k∈s.words)) (Evt.gd (fun g=>Evt.pure fun _=>by simp) (fun g h=>by simp[h]at g)) fun v38 hv38=>Evt.cond (fun e=>?_) (fun e=>Evt.pure fun j hj=>?_)
   ·replace e:=bx e
    refine Evt.pure ⟨rfl,fun h=>?_⟩
    obtain⟨h1,h2⟩:=h k hk
    rcases e with e|e
    ·exact h1 e
    ·exact h2 ((hv38 h1).1 e)
   ·by_cases ej:j=k
    ·subst ej
     by_cases h1:Am.get (qs s.form) j∈(qs s.form).take j
     ·simp[h1]at e
     ·refine⟨h1,fun h2=>?_⟩
      have:=(hv38 h1).2 h2
      simp[this]at e
    ·exact hi j (by omega)
  ·unfold Z2
   exact Evt.pure (.inr (.inr (.inr (.inr ⟨⟨hok,h300,ht,hu⟩,rfl⟩))))
  ·obtain⟨k,_,_,_,rfl,h⟩:=hr
   exact .inr (.inr (.inr (.inl ⟨hok,h300,ht,h,rfl⟩)))
 ·obtain⟨k,_,hk,hi,h1,h2⟩:=hr
  exact .inr (.inr (.inl ⟨hok,h300,k,hk,hi,h1,h2⟩))
theorem yj{l:List Bs}{k:Nat}(hk:k≤l.length){x:Bs}:x∈l.take k↔ ∃j,j<k∧Am.get l j=x:=by
 rw[bD,List.length_take,Nat.min_eq_left hk]
 have hg:∀j,j<k→Am.get (l.take k) j=Am.get l j:=fun j hj=>by
  unfold Am.get
  rw[List.getD_eq_getElem?_getD,List.getD_eq_getElem?_getD,List.getElem?_take_of_lt hj]
 exact⟨fun⟨j,hj,e⟩=>⟨j,hj,by rw[←hg j hj];exact e⟩,fun⟨j,hj,e⟩=>⟨j,hj,by rw[hg j hj];exact e⟩⟩
mutual
theorem Im:∀(f:u5),WfF f→∀g∈bN f,WfF g
 | .mk k n w s,h,g,hg=>by
   rw[Bp]at hg
   rcases List.mem_cons.1 hg with rfl|hg
   ·exact h
   ·exact yp s ((Y6 _).1 h).2 g hg
theorem yp:∀(l:List u5),kE l→∀g∈eB l,WfF g
 | [],_,g,hg=>by rw[eB]at hg;cases hg
 |f::l,h,g,hg=>by
  rw[eB]at hg
  rcases List.mem_append.1 hg with hg|hg
  ·exact Im f (M6.1 h f (List.mem_cons_self ..)) g hg
  ·exact yp l (M6.2 fun x hx=>M6.1 h x (List.mem_cons_of_mem _ hx)) g hg
end
def dval(l:Bs):Nat:=l.foldl (fun a c=>10*a+(c.toNat-48)) 0
theorem Bq(u:Nat):dval (Lib.decDigits u)=u:=by
 induction u using Nat.strongRecOn with
 | _ u ih=>
   by_cases h:u<10
   ·rw[Lib.decDigits,dif_pos h]
    unfold dval
    simp only[List.foldl_cons,List.foldl_nil,UInt8.toNat_ofNat']
    omega
   ·rw[Lib.decDigits,dif_neg h]
    unfold dval
    rw[List.foldl_append]
    have:=ih (u / 10) (by omega)
    unfold dval at this
    rw[this]
    simp only[List.foldl_cons,List.foldl_nil,UInt8.toNat_ofNat']
    omega
theorem wg{u v:Nat}(h:Lib.decDigits u=Lib.decDigits v):u=v:=by rw[←Bq u,h,Bq]
def vn(m:Nat):Bs:=118::Lib.decDigits m
theorem Jt{u v:Nat}(h:vn u=vn v):u=v:=wg (List.cons.inj h).2
def mk(m:Nat):Bs:=33::Lib.decDigits m
theorem zT{m:Nat}(h:m≤1000000000):(Lib.decDigits m).length≤21:=by
 have:=Lib.itoa_length_le (m:Int) (by omega) (by omega)
 rwa[Lib.itoa_nonneg]at this
def GW(p:Bs→Prop)(j m:Nat):Prop:=j≤m∧¬p (vn m)∧∀k,j≤k→k<m→p (vn k)
theorem GW.uniq{p:Bs→Prop}{j m m':Nat}(h:GW p j m)(h':GW p j m'):m=m':=by
 rcases Nat.lt_trichotomy m m' with e|e|e
 ·exact absurd (h'.2.2 m h.1 e) h.2.1
 ·exact e
 ·exact absurd (h.2.2 m' h'.1 e) h'.2.1
theorem GW.congr{p q:Bs→Prop}(hpq:∀x,p x↔q x){j m:Nat}(h:GW p j m):GW q j m:=⟨h.1,fun e=>h.2.1 ((hpq _).2 e),fun k a b=>(hpq _).1 (h.2.2 k a b)⟩
theorem Br:∀(n:Nat) (C:List Bs) (g:Nat→Bs),C.length=n→(∀i j,g i=g j→i=j)→∃m,m≤n∧g m∉C
 |0,C,g,h,_=>⟨0,Nat.le_refl _,by rw[List.length_eq_zero_iff.1 h];exact List.not_mem_nil⟩
 |n+1,C,g,h,hg=>by
  by_cases hm:g (n+1)∈C
  ·obtain⟨m,h1,h2⟩:=Br n (C.erase (g (n+1))) g (by rw[List.length_erase_of_mem hm,h];rfl) hg
   refine⟨m,by omega,fun h3=>h2 ((List.mem_erase_of_ne fun e=>?_).2 h3)⟩
   have:=hg _ _ e
   omega
  ·exact⟨n+1,Nat.le_refl _,hm⟩
theorem Oi{p:Bs→Prop}{C:List Bs}(hC:∀x,p x→x∈C)(j:Nat):∃m,GW p j m∧m≤j+C.length:=by
 obtain⟨m,h1,h2⟩:=Br _ C (fun i=>vn (j+i)) rfl (fun a b e=>by have:=Jt e;omega)
 have key:∀d j,(∃m,j≤m∧m≤j+d∧¬p (vn m))→∃m,GW p j m∧m≤j+d:=by
  intro d
  induction d with
  |zero=>
   rintro j ⟨m,a,b,c⟩
   obtain rfl:m=j:=by omega
   exact⟨m,⟨Nat.le_refl _,c,fun k a b=>absurd a (by omega)⟩,by omega⟩
  |succ d ih=>
   rintro j ⟨m,a,b,c⟩
   by_cases hp:p (vn j)
   ·have hne:j≠m:=fun e=>c (e▸hp)
    obtain⟨m',e1,e2⟩:=ih (j+1) ⟨m,by omega,by omega,c⟩
    refine⟨m',⟨by have:=e1.1;omega,e1.2.1,fun k a b=>?_⟩,by omega⟩
    by_cases ek:k=j
    ·rw[ek];exact hp
    ·exact e1.2.2 k (by omega) b
   ·exact⟨j,⟨Nat.le_refl _,hp,fun k a b=>absurd a (by omega)⟩,by omega⟩
 exact key _ j ⟨j+m,by omega,by omega,fun hp=>h2 (hC _ hp)⟩
open Classical in
noncomputable def nx(p:Bs→Prop)(j:Nat):Nat:=Classical.epsilon fun m=>GW p j m
theorem CW{p:Bs→Prop}{C:List Bs}(hC:∀x,p x→x∈C)(j:Nat):GW p j (nx p j):=Classical.epsilon_spec ((Oi hC j).imp fun _ h=>h.1)
theorem KO{p:Bs→Prop}{C:List Bs}(hC:∀x,p x→x∈C)(j:Nat):nx p j≤j+C.length:=by
 obtain⟨m,h1,h2⟩:=Oi hC j
 rw[(CW hC j).uniq h1];exact h2
noncomputable def num(p:Bs→Prop):Nat→Nat
 |0=>nx p 0
 |i+1=>nx p (num p i+1)
noncomputable def NN(p:Bs→Prop)(i:Nat):Bs:=vn (num p i)
theorem Ju{p:Bs→Prop}{C:List Bs}(hC:∀x,p x→x∈C)(i:Nat):¬p (NN p i):=by
 cases i with
 |zero=>exact(CW hC _).2.1
 |succ i=>exact(CW hC _).2.1
theorem Fv{p:Bs→Prop}{C:List Bs}(hC:∀x,p x→x∈C)(L:Nat)(hL:C.length≤L):∀i,num p i≤(i+1)*(L+1)
 |0=>by have:=KO hC 0;show nx p 0≤_;omega
 |i+1=>by
  have:=KO hC (num p i+1)
  have:=Fv hC L hL i
  show nx p (num p i+1)≤_
  rw[Nat.succ_mul (i+1)]
  omega
theorem Fw{p:Bs→Prop}{C:List Bs}(hC:∀x,p x→x∈C):∀i j,i<j→num p i<num p j
 |i,0,h=>absurd h (Nat.not_lt_zero _)
 |i,j+1,h=>by
  have h1:=(CW hC (num p j+1)).1
  show _<nx p (num p j+1)
  by_cases e:i=j
  ·subst e;omega
  ·have:=Fw hC i j (by omega);omega
theorem Oj{p:Bs→Prop}{C:List Bs}(hC:∀x,p x→x∈C){i j:Nat}(h:NN p i=NN p j):i=j:=by
 have e:=Jt h
 rcases Nat.lt_trichotomy i j with h|h|h
 ·have:=Fw hC _ _ h;omega
 ·exact h
 ·have:=Fw hC _ _ h;omega
def pN(K V:Nat→Bs):Nat→List (Bs×Bs)
 |0=>[]
 |k+1=>(K k,V k)::pN K V k
theorem sP{K K' V V':Nat→Bs}:∀ {n:Nat},(∀k,k<n→K k=K' k∧V k=V' k)→pN K V n=pN K' V' n
 |0,_=>rfl
 |n+1,h=>by rw[pN,pN,(h n (by omega)).1,(h n (by omega)).2,sP fun k hk=>h k (by omega)]
theorem QY{ρ:Type}(K V:Nat→Bs)(L:Nat)(hL:L≤8000000)(w:Bs)(body:Int→Option (Ctl ρ Int Bs))(hb:∀k,k<L→body (k:Int)=bif decide (K k=w)then some (.brk (V k))else some (.nxt (wr .i64 ((k:Int)-1))))(h0:body (-1)=some (.brk w)):
 Evt (fun n=>Y4 body n (wr .i64 ((L:Int)-1))) (ExP (fun t=>t=sub (pN K V L) w) (fun _=>False)):=by
 have hw:wr .i64 ((L:Int)-1)=(L:Int)-1:=cr (by omega) (by omega)
 rw[hw]
 refine Evt.CU L (fun k s=>∃m:Nat,s=(m:Int)-1∧m+k=L∧sub (pN K V L) w=sub (pN K V m) w) _ _ ⟨L,rfl,rfl,rfl⟩ (fun k s hk hs=>?_) (fun s hs=>?_)
 ·obtain⟨m,rfl,hm,he⟩:=hs
  obtain⟨m,rfl⟩:∃j,m=j+1:=⟨m-1,by omega⟩
  have e1:((m+1:Nat):Int)-1=(m:Int):=by omega
  rw[e1,hb m (by omega)]
  refine Evt.cond (fun e=>Evt.pure ?_) (fun e=>Evt.pure ?_)
  ·replace e:=bx e
   show V m=_
   rw[he,pN,L1,if_pos e]
  ·replace e:=bx e
   refine⟨m,cr (by omega) (by omega),by omega,?_⟩
   rw[he,pN,L1,if_neg e]
 ·obtain⟨m,rfl,hm,he⟩:=hs
  obtain rfl:m=0:=by omega
  show Evt (fun _=>body (-1)) _
  rw[h0]
  refine Evt.pure ?_
  rw[he,pN,pL]
  exact rfl
theorem kF:∀(l:List u5) (x:u5),nqL (l++[x])=nqL l+nq x
 | [],x=>by simp[nqL]
 |a::l,x=>by rw[List.cons_append,nqL,nqL,kF l x,Nat.add_assoc]
theorem oJ{l:List u5}{k:Nat}(h:k<l.length):nqL (l.take k)+nq (Am.get l k)≤nqL l:=by
 have e:l=l.take (k+1)++l.drop (k+1):=(List.take_append_drop _ _).symm
 have:∀(l m:List u5),nqL (l++m)=nqL l+nqL m:=fun l m=>by
  induction l with
  |nil=>simp[nqL]
  |cons a l ih=>rw[List.cons_append,nqL,nqL,ih,Nat.add_assoc]
 rw[←kF, ←F8 h]
 have:=this (l.take (k+1)) (l.drop (k+1))
 rw[←e]at this
 omega
theorem jV(N:Nat→Bs):∀(l:List u5) (x:u5) (env:List (Bs×Bs)) (i:Nat),O8 N (l++[x]) env i=O8 N l env i++[ren N x env (i+nqL l)]
 | [],x,env,i=>by simp[O8,nqL]
 |a::l,x,env,i=>by rw[List.cons_append,O8,O8,jV N l x,nqL,Nat.add_assoc];rfl
theorem sQ{m:Nat}(hm:m≤1000000000):itoa (m:Int)=some (Lib.decDigits m):=by
 unfold itoa
 rw[vP (by omega),Lib.itoa_nonneg]
theorem Fx{C:List Bs}{p:Bs→Prop}(hC:∀x,x∈C↔p x){b:Nat}(hb:b+C.length≤100000000):Evt (fun n=>eS n (b:Int) C) (fun r=>r=(vn (nx p b),((nx p b+1:Nat):Int))):=by
 unfold eS
 have h:=CW (fun x=>(hC x).2) b
 have hle:=KO (fun x=>(hC x).2) b
 have step:∀m:Nat,m≤100000000→aZ C (m:Int)=bif (!decide (vn m∈C))then some (.ret (vn m,((m+1:Nat):Int)))else some (.nxt ((m+1:Nat):Int)):=fun m hm=>by
  unfold aZ
  have hl:=zT (m:=m) (by omega)
  have hw:wr .i64 ((m:Int)+1)=((m+1:Nat):Int):=by rw[cr (by omega) (by omega)];rfl
  have e:mG [118] (Lib.decDigits m)=vn m:=rfl
  rw[sQ (by omega),Option.bind_some,vP (show M4 _ _ by unfold M4;simp;omega),e,J8,Option.bind_some,hw]
 refine Evt.C2 (Evt.CU (nx p b-b) (fun k s=>s=((b+k:Nat):Int)) (fun _=>False) (fun r=>r=(vn (nx p b),((nx p b+1:Nat):Int))) rfl (fun k s hk hs=>?_) (fun s hs=>?_)) (fun _ ht=>ht.elim) (fun r hr=>hr)
 ·subst hs
  rw[step _ (by omega)]
  have hm:vn (b+k)∈C:=(hC _).2 (h.2.2 _ (by omega) (by omega))
  simp only[hm,decide_true,Bool.not_true,cond_false]
  exact Evt.pure rfl
 ·subst hs
  have e:b+(nx p b-b)=nx p b:=by have:=h.1;omega
  rw[e,step _ (by omega)]
  have hm:vn (nx p b)∉C:=fun hm=>h.2.1 ((hC _).1 hm)
  simp only[hm,decide_false,Bool.not_false,cond_true]
  exact Evt.pure rfl
def zU(env:List B3):List (Bs×Bs):=pN (fun k=>(Am.get env k).from_) (fun k=>(Am.get env k).to_) env.length
theorem qP{α:Type}[Inhabited α](l:List α)(x:α):Am.get (l++[x]) l.length=x∧∀k,k<l.length→Am.get (l++[x]) k=Am.get l k:=by
 unfold Am.get
 refine⟨by simp,fun k hk=>?_⟩
 rw[List.getD_eq_getElem?_getD,List.getD_eq_getElem?_getD,List.getElem?_append_left hk]
theorem Fy(env:List B3)(a b:Bs):zU (env++[⟨a,b⟩])=(a,b)::zU env:=by
 unfold zU
 rw[List.length_append,List.length_singleton,pN,(qP env _).1]
 congr 1
 exact sP fun k hk=>by rw[(qP env _).2 k hk];exact⟨rfl,rfl⟩
noncomputable def cf(f:u5):u5:=ren (NN (fre f [])) f [] 0
mutual
def SmF:u5→Prop
 | .mk _ _ w s=>w.length≤3∧s.length≤2∧qQ s
def qQ:List u5→Prop
 | []=>True
 |f::l=>SmF f∧qQ l
end
theorem uR(f:u5):SmF f↔f.words.length≤3∧f.subs.length≤2∧qQ f.subs:=by cases f;rw[SmF];rfl
theorem qR:∀ {l:List u5},qQ l→∀x∈l,SmF x
 | [],_,x,h=>by cases h
 |f::l,h,x,hx=>by
  rw[qQ]at h
  rcases List.mem_cons.1 hx with rfl|hx
  ·exact h.1
  ·exact qR h.2 x hx
mutual
theorem WfF.sm:∀(f:u5),WfF f→SmF f
 | .mk k n w s,h=>by
   rw[SmF]
   exact⟨Bo h,zR h,kE.sm s ((Y6 _).1 h).2⟩
theorem kE.sm:∀(l:List u5),kE l→qQ l
 | [],_=>by rw[qQ];trivial
 |f::l,h=>by
  rw[qQ]
  exact⟨WfF.sm f (M6.1 h f (List.mem_cons_self ..)),kE.sm l (M6.2 fun x hx=>M6.1 h x (List.mem_cons_of_mem _ hx))⟩
end
mutual
theorem SmF.ren(N:Nat→Bs):∀(f:u5) (env:List (Bs×Bs)) (i:Nat),SmF f→SmF (ren N f env i)
 | .mk k n w s,env,i,h=>by
   rw[SmF]at h
   rw[Go.Proofs.YtanlbioodbnakaaGreatDoor.ren,SmF]
   exact⟨by rw[List.length_map];exact h.1,by rw[gy];exact h.2.1,qQ.ren N s _ _ h.2.2⟩
theorem qQ.ren(N:Nat→Bs):∀(l:List u5) (env:List (Bs×Bs)) (i:Nat),qQ l→qQ (O8 N l env i)
 | [],env,i,_=>by rw[O8,qQ];trivial
 |f::l,env,i,h=>by
  rw[qQ]at h
  rw[O8,qQ]
  exact⟨SmF.ren N f env i h.1,qQ.ren N l env _ h.2⟩
end
mutual
theorem Bt:∀(f:u5),WfF f→∀(bd:List Bs) (x:Bs),fre f bd x→D2 x
 | .mk k n w s,h,bd,x,hx=>by
   rw[fre]at hx
   rcases hx with hx|hx
   ·exact(W1 ((Y6 _).1 h).1).2.2.2.2 x hx.1
   ·exact yq s ((Y6 _).1 h).2 _ x hx
theorem yq:∀(l:List u5),kE l→∀(bd:List Bs) (x:Bs),eP l bd x→D2 x
 | [],_,bd,x,hx=>by rw[eP]at hx;exact hx.elim
 |f::l,h,bd,x,hx=>by
  rw[eP]at hx
  rcases hx with hx|hx
  ·exact Bt f (M6.1 h f (List.mem_cons_self ..)) bd x hx
  ·exact yq l (M6.2 fun y hy=>M6.1 h y (List.mem_cons_of_mem _ hy)) bd x hx
end
mutual
def swp(σ:Bs→Bs):u5→u5
 | .mk k n w s=>.mk k (if QK k then σ n else n) (w.map σ) (Ol σ s)
def Ol(σ:Bs→Bs):List u5→List u5
 | []=>[]
 |f::l=>swp σ f::Ol σ l
end
theorem KP{l:List Bs}{k:Nat}(h:k<l.length):l.drop k=Am.get l k::l.drop (k+1):=by
 rw[List.drop_eq_getElem_cons h]
 simp[Am.get,h]
theorem Fz(σ:Bs→Bs){w:Bs}(h:σ w=w):∀env:List (Bs×Bs),σ (sub env w)=sub (env.map fun e=>(e.1,σ e.2)) w
 | []=>by rw[List.map_nil,pL,h]
 |(a,b)::env=>by
  rw[List.map_cons,L1,L1]
  split
  ·rfl
  ·exact Fz σ h env
mutual
theorem KQ(σ:Bs→Bs)(N:Nat→Bs)(q:Nat)(h1:∀j,j<q→σ (mk j)=N j)(h2:∀w,D2 w→σ w=w):∀(f:u5) (env:List (Bs×Bs)) (i:Nat),WfF f→i+nq f≤q→swp σ (ren mk f env i)=ren N f (env.map fun e=>(e.1,σ e.2)) i
 | .mk k n w s,env,i,hwf,hq=>by
   have hn:=((Y6 _).1 hwf).1
   have hs:=((Y6 _).1 hwf).2
   have hw:=(W1 hn).2.2.2.2
   rw[nq]at hq
   rw[ren,ren,swp]
   have e1:(w.map (sub env)).map σ=w.map (sub (env.map fun e=>(e.1,σ e.2))):=by
    rw[List.map_map]
    exact List.map_congr_left fun x hx=>Fz σ (h2 x (hw x hx)) env
   rw[e1]
   by_cases hk:QK k
   ·rw[if_pos hk]at hq
    simp only[if_pos hk]
    rw[h1 i (by omega),wh σ N q h1 h2 s _ _ hs (by omega),List.map_cons,h1 i (by omega)]
   ·rw[if_neg hk]at hq
    simp only[if_neg hk]
    rw[wh σ N q h1 h2 s _ _ hs (by omega)]
theorem wh(σ:Bs→Bs)(N:Nat→Bs)(q:Nat)(h1:∀j,j<q→σ (mk j)=N j)(h2:∀w,D2 w→σ w=w):∀(l:List u5) (env:List (Bs×Bs)) (i:Nat),kE l→i+nqL l≤q→Ol σ (O8 mk l env i)=O8 N l (env.map fun e=>(e.1,σ e.2)) i
 | [],env,i,_,_=>by rw[O8,O8,Ol]
 |f::l,env,i,h,hq=>by
  rw[nqL]at hq
  rw[O8,O8,Ol,KQ σ N q h1 h2 f env i (M6.1 h f (List.mem_cons_self ..)) (by omega),wh σ N q h1 h2 l env _ (M6.2 fun x hx=>M6.1 h x (List.mem_cons_of_mem _ hx)) (by omega)]
end
end Go.Proofs.YtanlbioodbnakaaGreatDoor
