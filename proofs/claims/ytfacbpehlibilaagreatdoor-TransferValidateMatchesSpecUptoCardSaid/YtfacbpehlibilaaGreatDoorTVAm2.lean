/-
 AM, part 26: a region whose order is drawn: every order comes to the same.
-/
import Derived.Orders
import Derived.Scope
import Derived.Test.YtfacbpehlibilaaGreatDoorTVAm1
import Derived.Test.YtfacbpehlibilaaGreatDoorTVLcs
set_option linter.unusedVariables false
set_option linter.unusedSimpArgs false
namespace Go.Am
open Go
def Row.ap(x:Row)(s:Fr×St):Fr×St:=(x.fr s.1,x.st s.2)
def Row.tch(x:Row):List Nat:=x.wr++(bif x.G&&x.r.new.isSome then [x.q]else [])
theorem u8u{α:Type}(l:List α)(i o:Nat)(v:α):(l.set i v)[o]? =if i=o then(l[o]?).map (fun _=>v)else l[o]? :=by
 rw[List.getElem?_set]
 by_cases h:i=o
 ·subst h
  rw[if_pos rfl,if_pos rfl]
  by_cases hl:i<l.length
  ·rw[if_pos hl,List.getElem?_eq_getElem hl];rfl
  ·rw[if_neg hl,List.getElem?_eq_none (by simpa using hl)];rfl
 ·rw[if_neg h,if_neg h]
theorem u9I{x:Row}{st st':St}{o:Nat}(h:st[o]? =st'[o]?):(x.st st)[o]? =(x.st st')[o]? :=by
 unfold Row.st
 cases x.G with
 |false=>exact h
 |true=>
  simp only[cond_true,LR.app]
  refine w2g ?_
  cases x.r.up with
  |none=>cases x.r.new with
   |none=>exact h
   |some ob=>simp only[u8u,h]
  |some p=>cases x.r.new with
   |none=>simp only[u8u,h]
   |some ob=>simp only[u8u,h]
theorem u6m{x:Row}{st:St}{o:Nat}(h:o∉x.tch):(x.st st)[o]? =st[o]? :=by
 unfold Row.st
 unfold Row.tch Row.wr at h
 cases hG:x.G with
 |false=>rfl
 |true=>
  rw[hG]at h
  simp only[cond_true,LR.app,List.mem_append,not_or]at h⊢
  obtain⟨⟨h,x4y⟩,h'⟩:=h
  rw[w6G x4y]
  have h:o∉ (match x.r.up with|some (o,_)=>[o]|none=>[])++(bif true&&x.r.new.isSome then [x.q]else []):=by
   simp only[List.mem_append,not_or];exact⟨h,h'⟩
  cases hu:x.r.up with
  |none=>cases hn:x.r.new with
   |none=>rfl
   |some ob=>
    simp[hu,hn]at h
    simp only[u8u,if_neg (Ne.symm h)]
  |some p=>cases hn:x.r.new with
   |none=>
    simp[hu,hn]at h
    simp only[u8u,if_neg (Ne.symm h)]
   |some ob=>
    simp[hu,hn]at h
    simp only[u8u,if_neg (Ne.symm h.1),if_neg (Ne.symm h.2)]
theorem u8v{x:Row}{fr:Fr}{t:Nat}(h:x.o.dst≠some t):(x.fr fr).get t=fr.get t:=by
 unfold Row.fr
 cases hd:x.o.dst with
 |none=>rfl
 |some u=>
  simp only[Fr.u5c,Fr.w0m]
  rw[if_neg]
  intro e;exact h (by rw[hd,e])
theorem u9J{x:Row}{fr fr':Fr}{t:Nat}(h:fr.get t=fr'.get t):(x.fr fr).get t=(x.fr fr').get t:=by
 unfold Row.fr
 cases hd:x.o.dst with
 |none=>exact h
 |some u=>simp only[Fr.u5c,Fr.w0m,h]
def Eqv(s s':Fr×St):Prop:=(∀t,s.1.get t=s'.1.get t)∧∀o:Nat,s.2[o]? =s'.2[o]?
theorem Eqv.refl(s:Fr×St):Eqv s s:=⟨fun _=>rfl,fun _=>rfl⟩
theorem Eqv.trans{a b c:Fr×St}(h:Eqv a b)(h':Eqv b c):Eqv a c:=⟨fun t=>(h.1 t).trans (h'.1 t),fun o=>(h.2 o).trans (h'.2 o)⟩
theorem Eqv.symm{a b:Fr×St}(h:Eqv a b):Eqv b a:=⟨fun t=>(h.1 t).symm,fun o=>(h.2 o).symm⟩
theorem Eqv.ap{s s':Fr×St}(h:Eqv s s')(x:Row):Eqv (x.ap s) (x.ap s'):=⟨fun t=>u9J (h.1 t),fun o=>u9I (h.2 o)⟩
theorem x4z{x y:Row}(hd:∀t,x.o.dst=some t→y.o.dst≠some t)(hm:∀o∈x.tch,o∉y.tch)(s:Fr×St):Eqv (x.ap (y.ap s)) (y.ap (x.ap s)):=by
 refine⟨fun t=>?_,fun o=>?_⟩
 ·simp only[Row.ap]
  by_cases h:x.o.dst=some t
  ·rw[u8v (x:=y) (hd t h)]
   exact u9J (u8v (hd t h))
  ·rw[u8v (x:=x) h]
   exact u9J (u8v h).symm
 ·simp only[Row.ap]
  by_cases h:o∈x.tch
  ·rw[u6m (x:=y) (hm o h)]
   exact u9I (u6m (hm o h))
  ·rw[u6m (x:=x) h]
   exact u9I (u6m h).symm
def full:List Row→Fr×St→Fr×St
 | [],s=>s
 |x::l,s=>full l (x.ap s)
def sel(L:Nat→Bool):Nat→List Row→Fr×St→Fr×St
 | _,[],s=>s
 |i,x::l,s=>sel L (i+1) l (bif L i then x.ap s else s)
theorem w5N{L:Nat→Bool}:∀(l:List Row) (i:Nat) (s s':Fr×St),Eqv s s'→Eqv (sel L i l s) (sel L i l s')
 | [],_,_,_,h=>h
 |x::l,i,s,s',h=>by
  simp only[sel]
  cases L i with
  |true=>exact w5N l _ _ _ (h.ap x)
  |false=>exact w5N l _ _ _ h
theorem u8w{L:Nat→Bool}:∀(l1 l2:List Row) (i:Nat) (s:Fr×St),sel L i (l1++l2) s=sel L (i+l1.length) l2 (sel L i l1 s)
 | [],_,_,_=>rfl
 |x::l1,l2,i,s=>by
  simp only[List.cons_append,sel,List.length_cons]
  rw[u8w l1 l2 (i+1)]
  congr 1
  omega
theorem w0x{L L':Nat→Bool}:∀(l:List Row) (i:Nat) (s:Fr×St),(∀k,i≤k→k<i+l.length→L k=L' k)→sel L i l s=sel L' i l s
 | [],_,_,_=>rfl
 |x::l,i,s,h=>by
  simp only[sel]
  rw[h i (Nat.le_refl _) (by simp)]
  exact w0x l _ _ fun k h1 h2=>h k (by omega) (by simp at h2 ⊢; omega)
theorem w9B{L:Nat→Bool}:∀(l:List Row) (i:Nat) (s:Fr×St),(∀k,i≤k→k<i+l.length→L k=true)→sel L i l s=full l s
 | [],_,_,_=>rfl
 |x::l,i,s,h=>by
  simp only[sel,full]
  rw[h i (Nat.le_refl _) (by simp),cond_true]
  exact w9B l _ _ fun k h1 h2=>h k (by omega) (by simp at h2 ⊢; omega)
theorem w6I{L:Nat→Bool}:∀(l:List Row) (i:Nat) (s:Fr×St),(∀k,i≤k→k<i+l.length→L k=false)→sel L i l s=s
 | [],_,_,_=>rfl
 |x::l,i,s,h=>by
  simp only[sel]
  rw[h i (Nat.le_refl _) (by simp),cond_false]
  exact w6I l _ _ fun k h1 h2=>h k (by omega) (by simp at h2 ⊢; omega)
theorem w6J{L:Nat→Bool}{x:Row}:∀(l:List Row) (i:Nat) (s:Fr×St),
 (∀k (h:k<l.length),L (i+k)=true→(∀t,x.o.dst=some t→(l[k]).o.dst≠some t)∧∀o∈x.tch,o∉ (l[k]).tch)→Eqv (sel L i l (x.ap s)) (x.ap (sel L i l s))
 | [],_,s,_=>Eqv.refl _
 |y::l,i,s,h=>by
  have hl:∀s,Eqv (sel L (i+1) l (x.ap s)) (x.ap (sel L (i+1) l s)):=fun s=>w6J l (i+1) s fun k hk hL=>by
   have:=h (k+1) (by simpa using hk) (by rw[←hL];congr 1;omega)
   simpa using this
  simp only[sel]
  cases hL:L i with
  |false=>exact hl s
  |true=>
   simp only[cond_true]
   obtain⟨h1,h2⟩:=h 0 (by simp) hL
   exact(w5N l (i+1) _ _ (x4z h1 h2 s).symm).trans (hl (y.ap s))
theorem w6K{L:Nat→Bool}{t:Nat}:∀(l:List Row) (i:Nat) (s:Fr×St),(∀k (h:k<l.length),L (i+k)=true→(l[k]).o.dst≠some t)→(sel L i l s).1.get t=s.1.get t
 | [],_,_,_=>rfl
 |y::l,i,s,h=>by
  have hl:∀s,(sel L (i+1) l s).1.get t=s.1.get t:=fun s=>w6K l (i+1) s fun k hk hL=>by
   have:=h (k+1) (by simpa using hk) (by rw[←hL];congr 1;omega)
   simpa using this
  simp only[sel]
  rw[hl]
  cases hL:L i with
  |false=>rfl
  |true=>exact u8v (h 0 (by simp) hL)
theorem w5O{L:Nat→Bool}{o:Nat}:∀(l:List Row) (i:Nat) (s:Fr×St),(∀k (h:k<l.length),L (i+k)=true→o∉ (l[k]).tch)→(sel L i l s).2[o]? =s.2[o]?
 | [],_,_,_=>rfl
 |y::l,i,s,h=>by
  have hl:∀s,(sel L (i+1) l s).2[o]? =s.2[o]? :=fun s=>w5O l (i+1) s fun k hk hL=>by
   have:=h (k+1) (by simpa using hk) (by rw[←hL];congr 1;omega)
   simpa using this
  simp only[sel]
  rw[hl]
  cases hL:L i with
  |false=>rfl
  |true=>exact u6m (h 0 (by simp) hL)
theorem w4h{L:Nat→Bool}{t:Nat}:∀(l:List Row) (i:Nat) (s s':Fr×St),s.1.get t=s'.1.get t→(∀k (h:k<l.length),L (i+k)=false→(l[k]).o.dst≠some t)→(sel L i l s).1.get t=(full l s').1.get t
 | [],_,_,_,h,_=>h
 |y::l,i,s,s',he,h=>by
  simp only[sel,full]
  refine w4h l (i+1) _ _ ?_ fun k hk hL=>by
   have:=h (k+1) (by simpa using hk) (by rw[←hL];congr 1;omega)
   simpa using this
  cases hL:L i with
  |true=>exact u9J he
  |false=>exact he.trans (u8v (h 0 (by simp) hL)).symm
theorem w6L{L:Nat→Bool}{o:Nat}:∀(l:List Row) (i:Nat) (s s':Fr×St),s.2[o]? =s'.2[o]? →(∀k (h:k<l.length),L (i+k)=false→o∉ (l[k]).tch)→(sel L i l s).2[o]? =(full l s').2[o]?
 | [],_,_,_,h,_=>h
 |y::l,i,s,s',he,h=>by
  simp only[sel,full]
  refine w6L l (i+1) _ _ ?_ fun k hk hL=>by
   have:=h (k+1) (by simpa using hk) (by rw[←hL];congr 1;omega)
   simpa using this
  cases hL:L i with
  |true=>exact u9I he
  |false=>exact he.trans (u6m (h 0 (by simp) hL)).symm
def Trace(P:Program)(gl:Gl)(N:Nat)(ops:Array Oper)(b:Nat):List Row→Fr×St→Prop
 | [],_=>True
 |x::l,s=>Fits P gl N ops b x s.1 s.2∧Trace P gl N ops b l (x.ap s)
def Ord(ops:Array Oper)(i j:Nat):Prop:=
 ∀L:Nat→Bool,(∀k o,L k=true→ops[k]? =some o→∀e∈o.after,Region.binds .any e=true→L e.on=true)→
  (∀o,ops[j]? =some o→∀e∈o.after,Region.binds .any e=true→L e.on=true)→L i=true
def Ind(ops:Array Oper)(x y:Row):Prop:=Oper.apart ops x.o y.o=true∧(∀o∈x.wr,o∉y.rd)∧∀o∈y.wr,o∉x.rd
structure Good(P:Program)(gl:Gl)(N:Nat)(ops:Array Oper)(b:Nat)(rows:List Row)(s0:Fr×St):Prop where
 hO:ops.toList=rows.map (·.o)
 tr:Trace P gl N ops b rows s0
 qs:∀i j (hi:i<rows.length) (hj:j<rows.length),i≠j→needs (rows[i]).o.op=true→needs (rows[j]).o.op=true→(rows[i]).q≠(rows[j]).q
 kept:∀x∈rows,needs x.o.op=true→s0.2[x.q]? =some (some .resv)∧b≤x.q
 fwd:∀i o,ops[i]? =some o→∀e∈o.after,Region.binds .any e=true→e.on<i
 ind:∀i j (hi:i<rows.length) (hj:j<rows.length),i<j→Ord ops i j∨Ind ops (rows[i]) (rows[j])
section
variable {P:Program} {gl:Gl} {N b:Nat} {ops:Array Oper} {w0:World} {μ0:Mu} {st0:St} {rows:List Row} {s0:Fr×St} {Q:Exit→Act→World→Prop}
theorem w5P{x:Row}(h:w6F x.r∧∀p∈x.ups,p.1∈x.r.rd){o:Nat}(ho:o∈x.wr):o∈x.rd:=by
 unfold Row.wr at ho
 unfold Row.rd
 cases hG:x.G with
 |false=>rw[hG]at ho;cases ho
 |true=>
  rw[hG]at ho
  simp only[cond_true,List.mem_append]at ho⊢
  rcases ho with ho|ho
  ·cases hu:x.r.up with
   |none=>rw[hu]at ho;cases ho
   |some p=>
    rw[hu]at ho
    simp only[List.mem_singleton]at ho
    exact h.1 o p.2 (by rw[hu,ho])
  ·obtain⟨p,hp,e⟩:=List.mem_map.1 ho
   rw[←e];exact h.2 p hp
theorem u4c{x:Row}{o:Nat}(h:o∈x.tch):o∈x.wr∨(o=x.q∧x.r.new≠none):=by
 unfold Row.tch at h
 rcases List.mem_append.1 h with h|h
 ·exact .inl h
 ·right
  cases hG:x.G<;>cases hn:x.r.new<;>simp[hG,hn]at h⊢
  exact h
theorem u7M:∀(l1:List Row) {x:Row} {l2:List Row} {s:Fr×St},Trace P gl N ops b (l1++x::l2) s→Fits P gl N ops b x (full l1 s).1 (full l1 s).2
 | [],_,_,_,h=>h.1
 | _::l1,_,_,_,h=>u7M l1 h.2
theorem w4i:∀(l1 l2:List Row) (s:Fr×St),Trace P gl N ops b (l1++l2) s→(∀x∈l1,∀y∈l2,needs x.o.op=true→needs y.o.op=true→x.q≠y.q)→
 (∀y∈l2,needs y.o.op=true→s.2[y.q]? =some (some .resv))→∀y∈l2,needs y.o.op=true→(full l1 s).2[y.q]? =some (some .resv)
 | [],_,_,_,_,h=>h
 |x::l1,l2,s,ht,hq,h=>by
  refine w4i l1 l2 (x.ap s) ht.2 (fun z hz=>hq z (by simp[hz])) fun y hy hn=>?_
  have:y.q∉x.tch:=fun hm=>by
   rcases u4c hm with hm|⟨e,hm⟩
   ·obtain⟨ob,h1,h2⟩:=u8t ht.1 _ (w5P ht.1.w6F hm)
    rw[h y hy hn]at h1
    cases h1;exact h2 rfl
   ·exact hq x (by simp) y hy (ht.1.makes hm) hn e.symm
  simp only[Row.ap]
  rw[u6m this]
  exact h y hy hn
def cnt(L:Nat→Bool):Nat→Nat
 |0=>0
 |n+1=>cnt L n+(bif L n then 0 else 1)
theorem w6M{L:Nat→Bool}:∀ {n:Nat},cnt L n=0→∀k,k<n→L k=true
 |n+1,h,k,hk=>by
  simp only[cnt]at h
  cases hL:L n with
  |false=>simp[hL]at h
  |true=>
   rcases Nat.lt_or_ge k n with hk'|hk'
   ·exact w6M (by simp[hL]at h;exact h) k hk'
   ·have:k=n:=by omega
    rw[this];exact hL
theorem w6N{L L':Nat→Bool}:∀ {n:Nat},(∀k,k<n→L k=L' k)→cnt L n=cnt L' n
 |0,_=>rfl
 |n+1,h=>by simp only[cnt];rw[w6N fun k hk=>h k (by omega),h n (by omega)]
theorem w6O{L L':Nat→Bool}{i:Nat}(hi:L i=false)(hi':L' i=true)(hs:∀k,k≠i→L k=L' k):∀ {n:Nat},i<n→cnt L' n+1=cnt L n
 |n+1,h=>by
  simp only[cnt]
  rcases Nat.lt_or_ge i n with h1|h1
  ·rw[←w6O hi hi' hs h1,hs n (by omega)];omega
  ·have:i=n:=by omega
   subst this
   rw[hi,hi',w6N (L:=L') (L':=L) fun k hk=>(hs k (by omega)).symm]
   simp
def lst(listed:Array Bool)(i:Nat):Bool:=listed.getD i false
theorem x2o{s s':Fr×St}{a:Act}{w:World}{μ:Mu}(h:Eqv s s')(hc:u7v gl N w0 μ0 st0 s.1 s.2 a w μ):u7v gl N w0 μ0 st0 s'.1 s'.2 a w μ:=by
 have e:s.2=s'.2:=List.ext_getElem? h.2
 rw[e]at hc
 exact⟨hc.sim,hc.glob,fun t=>by rw[←h.1 t];exact hc.fr t,hc.size,hc.defers,hc.step⟩
set_option maxHeartbeats 1000000 in
theorem w9C(hg:Good P gl N ops b rows s0)(hQ:∀a w μ,u7v gl N w0 μ0 st0 (full rows s0).1 (full rows s0).2 a w μ→Q .normal a w):
 ∀(fuel:Nat) (listed:Array Bool) (a:Act) (w:World) (μ:Mu),listed.size=rows.length→cnt (lst listed) rows.length≤fuel→
  (∀k o,lst listed k=true→ops[k]? =some o→∀e∈o.after,Region.binds .any e=true→lst listed e.on=true)→
  (∀i j (hi:i<rows.length) (hj:j<rows.length),lst listed j=true→lst listed i=false→needs (rows[i]).o.op=true→(rows[i]).q∉ (rows[j]).rd)→
  u7v gl N w0 μ0 st0 (sel (lst listed) 0 rows s0).1 (sel (lst listed) 0 rows s0).2 a w μ→wpAny P .any ops Q fuel listed a w:=by
 have hsz:ops.size=rows.length:=by have:=congrArg List.length hg.hO;simpa using this
 have hop:∀i (h:i<rows.length),ops[i]? =some (rows[i]).o:=fun i h=>by
  have:ops.toList[i]? =(rows.map (·.o))[i]? :=by rw[hg.hO]
  simpa[h]using this
 have hall:∀(listed:Array Bool) (a:Act) (w:World) (μ:Mu),(∀k,k<rows.length→lst listed k=true)→
  u7v gl N w0 μ0 st0 (sel (lst listed) 0 rows s0).1 (sel (lst listed) 0 rows s0).2 a w μ→Q .normal a w:=fun listed a w μ h hc=>by
  rw[w9B rows 0 s0 fun k _ hk=>h k (by omega)]at hc
  exact hQ a w μ hc
 have w9D:∀(listed:Array Bool) (i:Nat),listed.size=rows.length→(i∈Region.ready .any ops listed↔i<rows.length∧lst listed i=false∧∀o,ops[i]? =some o→∀e∈o.after,Region.binds .any e=true→lst listed e.on=true):=by
  intro listed i hls
  unfold Region.ready
  simp only[List.mem_filter,List.mem_range,hsz]
  constructor
  ·rintro⟨h1,h2⟩
   rw[hop i h1]at h2⊢
   simp only[Option.map_some,Option.getD_some,Bool.and_eq_true,Bool.not_eq_true',Array.all_eq_true_iff_forall_mem]at h2
   refine⟨h1,?_,fun o ho e he hb=>?_⟩
   ·have:=h2.1
    unfold lst
    simp[Array.getD_eq_getD_getElem?, hls,h1]at this⊢
    exact this
   ·cases ho
    have:=h2.2 e he
    simp only[Bool.or_eq_true,Bool.not_eq_true',hb,Bool.true_eq_false,false_or]at this
    exact this
  ·rintro⟨h1,h2,h3⟩
   refine⟨h1,?_⟩
   rw[hop i h1]at h3⊢
   simp only[Option.map_some,Option.getD_some,Bool.and_eq_true,Bool.not_eq_true',Array.all_eq_true_iff_forall_mem]
   refine⟨?_,fun e he=>?_⟩
   ·unfold lst at h2
    simp[Array.getD_eq_getD_getElem?, hls,h1]at h2⊢
    exact h2
   ·cases hb:Region.binds .any e with
    |false=>simp
    |true=>
     have:=h3 _ rfl e he hb
     unfold lst at this
     rw[this];rfl
 have hnone:∀(listed:Array Bool),listed.size=rows.length→Region.ready .any ops listed=[]→∀k,k<rows.length→lst listed k=true:=by
  intro listed hls hr k
  induction k using Nat.strongRecOn with
  | _ k ih=>
   intro hk
   cases hL:lst listed k with
   |true=>rfl
   |false=>
    exfalso
    have:k∈Region.ready .any ops listed:=(w9D listed k hls).2 ⟨hk,hL,fun o ho e he hb=>by
     have:=hg.fwd k o ho e he hb
     exact ih e.on this (by omega)⟩
    rw[hr]at this;cases this
 intro fuel
 induction fuel with
 |zero=>
  intro listed a w μ hls hc hcl hh hcc
  have ha:=w6M (Nat.le_zero.1 hc)
  refine⟨?_,hall listed a w μ ha hcc⟩
  rw[List.eq_nil_iff_forall_not_mem]
  intro i hi
  obtain⟨h1,h2,_⟩:=(w9D listed i hls).1 hi
  rw[ha i h1]at h2;cases h2
 |succ fuel ih=>
  intro listed a w μ hls hc hcl hh hcc
  refine⟨fun hr=>hall listed a w μ (hnone listed hls hr) hcc,fun i hi=>?_⟩
  obtain⟨hil,hLi,haf⟩:=(w9D listed i hls).1 hi
  generalize hx:rows[i]=x
  have u7i:rows=rows.take i++x::rows.drop (i+1):=by rw[←hx,List.getElem_cons_drop,List.take_append_drop]
  have x7b:(rows.take i).length=i:=by simp;omega
  have w9E:∀k (hk:k<i),lst listed k=false→Ind ops (rows[k]'(by omega)) x:=fun k hk hL=>by
   rcases hg.ind k i (by omega) hil hk with h|h
   ·have:=h (lst listed) hcl haf
    rw[this]at hL;cases hL
   ·rw[hx]at h;exact h
  have w9F:∀k (hk:i<k) (hkl:k<rows.length),lst listed k=true→Ind ops x (rows[k]):=fun k hk hkl hL=>by
   rcases hg.ind i k hil hkl hk with h|h
   ·have:=h (lst listed) hcl (fun o ho=>hcl k o hL ho)
    rw[this]at hLi;cases hLi
   ·rw[hx]at h;exact h
  have w9G:Fits P gl N ops b x (full (rows.take i) s0).1 (full (rows.take i) s0).2:=by
   have ht:=hg.tr
   rw[u7i]at ht
   exact u7M _ ht
  have x7c:∀k (hk:i≤k) (hkl:k<rows.length),needs (rows[k]).o.op=true→(full (rows.take i) s0).2[(rows[k]).q]? =some (some .resv):=fun k hk hkl hn=>by
   refine w4i (P:=P) (gl:=gl) (N:=N) (ops:=ops) (rows.take i) (rows.drop i) s0 (by rw[List.take_append_drop];exact hg.tr) (fun z hz y hy h1 h2=>?_) (fun y hy hn=>(hg.kept y (List.mem_of_mem_drop hy) hn).1) _ ?_ hn
   ·obtain⟨a',ha',e1⟩:=List.getElem_of_mem hz
    obtain⟨b',hb',e2⟩:=List.getElem_of_mem hy
    simp only[List.getElem_take]at e1
    simp only[List.getElem_drop]at e2
    simp only[List.length_take]at ha'
    simp only[List.length_drop]at hb'
    have:=hg.qs a' (i+b') (by omega) (by omega) (by omega)
    rw[e1,e2]at this
    exact this h1 h2
   ·have:rows[k]=(rows.drop i)[k-i]'(by simp;omega):=by
     rw[List.getElem_drop];congr 1;omega
    rw[this];exact List.getElem_mem _
  have y0U:∀j (h:j<rows.length),w6F (rows[j]).r∧∀p∈(rows[j]).ups,p.1∈(rows[j]).r.rd:=fun j h=>by
   have ht:=hg.tr
   have e:rows=rows.take j++rows[j]::rows.drop (j+1):=by rw[List.getElem_cons_drop,List.take_append_drop]
   rw[e]at ht
   exact(u7M _ ht).w6F
  have hmk:∀j (h:j<rows.length),(rows[j]).r.new≠none→needs (rows[j]).o.op=true:=fun j h=>by
   have ht:=hg.tr
   have e:rows=rows.take j++rows[j]::rows.drop (j+1):=by rw[List.getElem_cons_drop,List.take_append_drop]
   rw[e]at ht
   exact(u7M _ ht).makes
  have hR:∀k (hk:k<rows.length),lst listed k=false→needs (rows[k]).o.op=true→(sel (lst listed) 0 rows s0).2[(rows[k]).q]? =some (some .resv):=fun k hk hL hn=>by
   rw[w5O rows 0 s0]
   ·exact(hg.kept _ (List.getElem_mem _) hn).1
   ·intro j hj hLj hm
    rw[Nat.zero_add]at hLj
    rcases u4c hm with hm|⟨e,hm⟩
    ·exact hh k j hk hj hLj hL hn (w5P (y0U j hj) hm)
    ·have hne:k≠j:=fun e=>by subst e;rw[hL]at hLj;cases hLj
     exact hg.qs k j hk hj hne hn (hmk j hj hm) e
  have hsel:sel (lst listed) 0 rows s0=sel (lst listed) (i+1) (rows.drop (i+1)) (sel (lst listed) 0 (rows.take i) s0):=by
   conv=>lhs;rw[u7i]
   rw[u8w,x7b]
   simp only[sel,Nat.zero_add,hLi,cond_false]
  have x3A:∀t∈x.o.looksAt ops,(sel (lst listed) 0 rows s0).1.get t=(full (rows.take i) s0).1.get t:=fun t ht=>by
   rw[hsel,w6K]
   ·refine w4h _ _ _ _ rfl fun k hk hL hd=>?_
    simp only[List.length_take]at hk
    rw[Nat.zero_add]at hL
    simp only[List.getElem_take]at hd
    exact(Oper.apart_spec (w9E k (by omega) hL).1).1 t hd ht
   ·intro k hk hL hd
    simp only[List.length_drop]at hk
    simp only[List.getElem_drop]at hd
    exact(Oper.apart_spec (w9F (i+1+k) (by omega) (by omega) hL).1).2.2 t hd ht
  have u6n:∀o∈x.rd,∀k (hk:k<rows.length),lst listed k=false→needs (rows[k]).o.op=true→o≠(rows[k]).q:=fun o ho k hk hL hn e=>by
   rcases w9A hcc w9G x3A o ho with h|h
   ·rw[e]at h;exact h (hR k hk hL hn)
   ·have:=(hg.kept _ (List.getElem_mem hk) hn).2
    omega
  have x7d:=u8t w9G
  have w6P:∀o∈x.rd,∀k (hk:i<k) (hkl:k<rows.length),lst listed k=true→o∉ (rows[k]).tch:=fun o ho k hk hkl hL hm=>by
   rcases u4c hm with hm|⟨e,hm⟩
   ·exact(w9F k hk hkl hL).2.2 o hm ho
   ·obtain⟨ob,h1,h2⟩:=x7d o ho
    rw[e,x7c k (by omega) hkl (hmk k hkl hm)]at h1
    cases h1;exact h2 rfl
  have x9G:∀o∈x.rd,(sel (lst listed) 0 rows s0).2[o]? =(full (rows.take i) s0).2[o]? :=fun o ho=>by
   rw[hsel]
   have e2:(sel (lst listed) (i+1) (rows.drop (i+1)) (sel (lst listed) 0 (rows.take i) s0)).2[o]? =(sel (lst listed) 0 (rows.take i) s0).2[o]? :=w5O _ _ _ fun k hk hL=>by
    simp only[List.length_drop]at hk
    simp only[List.getElem_drop]
    exact w6P o ho (i+1+k) (by omega) (by omega) hL
   rw[e2]
   refine w6L _ _ _ _ rfl fun k hk hL hm=>?_
   simp only[List.length_take]at hk
   rw[Nat.zero_add]at hL
   simp only[List.getElem_take]at hm
   rcases u4c hm with hm|⟨e,hm⟩
   ·exact(w9E k (by omega) hL).2.1 o hm ho
   ·exact u6n o ho k (by omega) hL (hmk k (by omega) hm) e
  have x7e:Fits P gl N ops b x (sel (lst listed) 0 rows s0).1 (sel (lst listed) 0 rows s0).2:=
   w8l w9G x3A (fun o ho=>by unfold look;rw[x9G o ho]) (fun hn=>by have:=hR i hil hLi (by rw[hx];exact hn);rw[hx]at this;exact this)
  have hL':∀k,lst (listed.setIfInBounds i true) k=if k=i then true else lst listed k:=fun k=>by
   unfold lst
   by_cases e:k=i
   ·subst e;rw[if_pos rfl];simp[Array.getD_eq_getD_getElem?, hls,hil]
   ·rw[if_neg e];simp[Array.getD_eq_getD_getElem?, Array.getElem?_setIfInBounds_ne (Ne.symm e)]
  unfold wpOp
  rw[hop i hil,hx]
  refine x2n hcc x7e fun a' w' μ' hc'=>?_
  refine ih _ a' w' μ' (by simpa using hls) ?_ ?_ ?_ ?_
  ·have:=w6O (L:=lst listed) (L':=lst (listed.setIfInBounds i true)) hLi (by rw[hL',if_pos rfl]) (fun k hk=>by rw[hL',if_neg hk]) hil
   omega
  ·intro k o hk ho e he hb
   rw[hL']at hk⊢
   split
   ·rfl
   ·by_cases hki:k=i
    ·subst hki;exact haf o ho e he hb
    ·rw[if_neg hki]at hk;exact hcl k o hk ho e he hb
  ·intro k j hk hj hLj hLk hn
   rw[hL']at hLj hLk
   have hki:k≠i:=fun e=>by rw[if_pos e]at hLk;cases hLk
   rw[if_neg hki]at hLk
   by_cases hji:j=i
   ·subst hji
    rw[hx]
    intro hm
    exact u6n _ hm k hk hLk hn rfl
   ·rw[if_neg hji]at hLj
    exact hh k j hk hj hLj hLk hn
  ·refine x2o (s:=x.ap (sel (lst listed) 0 rows s0)) ?_ hc'
   have e1:sel (lst (listed.setIfInBounds i true)) 0 rows s0=sel (lst listed) (i+1) (rows.drop (i+1)) (x.ap (sel (lst listed) 0 (rows.take i) s0)):=by
    conv=>lhs;rw[u7i]
    rw[u8w,x7b]
    simp only[sel,Nat.zero_add]
    rw[hL',if_pos rfl,cond_true]
    rw[w0x (L':=lst listed) (rows.take i) 0 s0 fun k _ hk=>by
     simp only[List.length_take]at hk
     rw[hL',if_neg (by omega)]]
    exact w0x _ _ _ fun k hk _=>by rw[hL',if_neg (by omega)]
   rw[e1,hsel]
   refine(w6J _ _ _ fun k hk hL=>?_).symm
   simp only[List.length_drop]at hk
   simp only[List.getElem_drop]
   have hI:=w9F (i+1+k) (by omega) (by omega) hL
   refine⟨(Oper.apart_spec hI.1).2.1,fun o ho hm=>?_⟩
   rcases u4c ho with ho|⟨e,ho⟩
   ·exact w6P o (w5P w9G.w6F ho) (i+1+k) (by omega) (by omega) hL hm
   ·have hn:=w9G.makes ho
    rcases u4c hm with hm|⟨e',hm⟩
    ·have:=hh i (i+1+k) hil (by omega) hL hLi (by rw[hx];exact hn)
     rw[hx, ←e]at this
     exact this (w5P (y0U _ (by omega)) hm)
    ·have:=hg.qs i (i+1+k) hil (by omega) (by omega) (by rw[hx];exact hn) (hmk _ (by omega) hm)
     rw[hx]at this
     exact this (e.symm.trans e')
end
abbrev Log:=List (List Nat×List Nat)
def x9H(rd up:List Nat):Log→Prop
 | []=>True
 |(rd',up')::l=>(∀o∈up,o∉rd')∧(∀o∈up',o∉rd)∧x9H rd up l
def x3B:Log→Prop
 | []=>True
 |(rd,up)::l=>x9H rd up l∧x3B l
def upL(r:LR):List Nat:=match r.up with|some (o,_)=>[o]|none=>[]
def u6o(tr:Bool)(lg:Log)(r:LR)(ups:List (Nat×Ob)):Log:=bif tr then lg++[(r.rd,upL r++ups.map (·.1))]else lg
def x2p(N q:Nat)(tr:Bool)(dst:Option Nat)(lg:Log)(fr:Fr)(st:St)(k:Log→Fr→St→Prop)(r:LR):Prop:=
 r.ok∧dlt N dst∧k (u6o tr lg r []) (fr.u5c dst r.d) (r.app q st)
def w8m(P:Program)(gl:Gl)(b:Nat)(tr:Bool)(dst:Option Nat)(lg:Log)(fr:Fr)(st:St)(k:Log→Fr→St→Prop)(g:FuncId)(args:List D):Prop:=
 ∃r rd ups,w2P P gl g args rd st r ups∧(∀p∈ups,p.1∈rd)∧(∀o∈rd,(o<b∨∃e∈args,e.top=some o)∧∃ob,look st o=some ob∧ob≠ .resv)∧(tr=false→rd=[])∧k (u6o tr lg ⟨r,True,rd,none,none⟩ ups) (fr.u5c dst r) (puts st ups)
def w4j(P:Program)(gl:Gl)(b:Nat)(G tr:Bool)(dst:Option Nat)(lg:Log)(fr:Fr)(st:St)(k:Log→Fr→St→Prop)(g:FuncId)(args:List D):Prop:=
 ∃r rd ups,(G=true→w2P P gl g args rd st r ups)∧(∀p∈ups,p.1∈rd)∧(∀o∈rd,(o<b∨∃e∈args,e.top=some o)∧∃ob,look st o=some ob∧ob≠ .resv)∧(tr=false→rd=[])∧(G=false→puts st ups=st)∧k (u6o tr lg ⟨r,True,rd,none,none⟩ ups) (fr.u5c dst (.cond G r)) (puts st ups)
def x5Y(P:Program)(gl:Gl)(N b:Nat)(tr:Bool)(dst:Option Nat)(lg:Log)(fr:Fr)(st:St)(k:Log→Fr→St→Prop)(ok:Prop)(f:D)(args:List D):Prop:=
 match f with
 | .fn g first cap=>dlt N dst∧ok∧w8m P gl b tr dst lg fr st k g (first++args++cap)
 | _=>False
def w5Q(N q:Nat)(G:Bool)(tr:Bool)(dst:Option Nat)(lg:Log)(fr:Fr)(st:St)(k:Log→Fr→St→Prop)(r:LR):Prop:=
 u5Z G r.ok∧dlt N dst∧k (u6o tr lg r []) (fr.u5c dst (.cond G r.d)) (bif G then r.app q st else st)
def w8n(P:Program)(gl:Gl)(N b:Nat)(G:Bool)(tr:Bool)(dst:Option Nat)(lg:Log)(fr:Fr)(st:St)(k:Log→Fr→St→Prop)(ok:Prop)(f:D)(args:List D):Prop:=
 match f with
 | .fn g first cap=>dlt N dst∧ok∧w4j P gl b G tr dst lg fr st k g (first++args++cap)
 | _=>False
def x3C(P:Program)(gl:Gl)(N b q:Nat)(tr:Bool)(k k1:Log→Fr→St→Prop)(dst:Option Nat)(op:Op)(lg:Log)(fr:Fr)(st:St):Nat→Prop
 |0=>x2p N q tr dst lg fr st k (aop P gl true op fr (look st) q)
 |1=>x2p N q tr dst lg fr st k1 (aop P gl true op fr (look st) q)
 | _=>match op with
  | .call ⟨.value f,args,_⟩=>x5Y P gl N b tr dst lg fr st k (eok gl true fr f∧(∀x∈args.toList,eok gl true fr x)) (ev1 gl fr f) (args.toList.map (ev1 gl fr))
  | _=>False
def x2q(P:Program)(gl:Gl)(N b q:Nat)(tr:Bool)(k k1:Log→Fr→St→Prop)(dst:Option Nat)(op:Op)(lg:Log)(fr:Fr)(st:St):Nat→Option Bool→Prop
 |0,some G=>w5Q N q G tr dst lg fr st k (aop P gl G op fr (look st) q)
 |1,some G=>w5Q N q G tr dst lg fr st k1 (aop P gl G op fr (look st) q)
 |2,some G=>match op with
  | .call ⟨.value f,args,_⟩=>w8n P gl N b G tr dst lg fr st k (eok gl G fr f∧(∀x∈args.toList,eok gl G fr x)) (ev1 gl fr f) (args.toList.map (ev1 gl fr))
  | _=>False
 | _,_=>False
def EvD(P:Program)(gl:Gl)(N:Nat)(ops:Array Oper)(b:Nat)(trk:List Nat)(K:Fr→St→Prop):List Oper→Nat→Nat→Log→Fr→St→Prop
 | [],_,_,lg,fr,st=>x3B lg∧K fr st
 |⟨dst,op,_,_,_,none⟩::l,i,k,lg,fr,st=>x3C P gl N b (b+k) (trk.contains i) (EvD P gl N ops b trk K l (i+1) k) (EvD P gl N ops b trk K l (i+1) (k+1)) dst op lg fr st (opk op)
 |⟨dst,op,_,_,_,some (j,want)⟩::l,i,k,lg,fr,st=>x2q P gl N b (b+k) (trk.contains i) (EvD P gl N ops b trk K l (i+1) k) (EvD P gl N ops b trk K l (i+1) (k+1)) dst op lg fr st (opk op) (x1Z fr want (gslot ops j))
def rds:Op→Bool
 | .load _ _| .store _ _ _| .indexAddr _ _ _| .slice _ _ _ _ _| .lookup _ _ _ _| .mapUpdate _ _ _ _| .next _ _| .call { callee:=.builtin .len,.. }| .call { callee:=.builtin .append,.. }=>true
 | _=>false
def wrs:Op→Bool
 | .store _ _ _| .mapUpdate _ _ _ _| .next _ _| .call { callee:=.builtin .append,.. }=>true
 | _=>false
def w1I(trk:List Nat)(i:Nat)(o:Op):Bool:=(u2i o).isSome&&trk.contains i
def w9H(tbl:List Nat)(o:Oper):Nat:=o.after.toList.foldl (fun s e=>bif Region.binds .any e then s|||2^e.on|||tbl.getD e.on 0 else s) 0
def masks:List Oper→List Nat→List Nat
 | [],tbl=>tbl
 |o::l,tbl=>masks l (tbl++[w9H tbl o])
def x3D(ops:Array Oper)(trk:List Nat)(m i j:Nat):Bool:=
 Nat.testBit m i||(match ops[i]?, ops[j]? with
  |some x,some y=>Oper.apart ops x y&&((!((wrs x.op||w1I trk i x.op)&&(rds y.op||w1I trk j y.op))&& !((wrs y.op||w1I trk j y.op)&&(rds x.op||w1I trk i x.op)))||(trk.contains i&&trk.contains j))
  | _,_=>false)
def w0y(ops:Array Oper)(trk:List Nat):Bool:=
 let tbl:=masks ops.toList []
 (List.range ops.size).all fun j=>
  (match ops[j]? with|some o=>o.after.toList.all fun e=> !Region.binds .any e||Nat.blt e.on j|none=>true)&&
  (List.range j).all fun i=>x3D ops trk (tbl.getD j 0) i j
theorem w8o{tbl:List Nat}{o:Oper}{j:Nat}(h:Nat.testBit (w9H tbl o) j=true):∃e∈o.after,Region.binds .any e=true∧(e.on=j∨Nat.testBit (tbl.getD e.on 0) j=true):=by
 have key:∀(l:List Edge) (s:Nat),Nat.testBit (l.foldl (fun s e=>bif Region.binds .any e then s|||2^e.on|||tbl.getD e.on 0 else s) s) j=true→
  Nat.testBit s j=true∨∃e∈l,Region.binds .any e=true∧(e.on=j∨Nat.testBit (tbl.getD e.on 0) j=true):=by
  intro l
  induction l with
  |nil=>intro s h;exact .inl h
  |cons e l ih=>
   intro s h
   simp only[List.foldl_cons]at h
   rcases ih _ h with h|⟨e',h1,h2⟩
   ·cases hb:Region.binds .any e with
    |false=>rw[hb]at h;exact .inl h
    |true=>
     rw[hb]at h
     simp only[cond_true,Nat.testBit_or,Bool.or_eq_true,Nat.testBit_two_pow,decide_eq_true_eq]at h
     rcases h with(h|h)|h
     ·exact .inl h
     ·exact .inr ⟨e,by simp,hb,.inl h⟩
     ·exact .inr ⟨e,by simp,hb,.inr h⟩
   ·exact .inr ⟨e',by simp[h1],h2⟩
 rcases key _ 0 h with h|⟨e,h1,h2⟩
 ·simp at h
 ·exact⟨e,by simpa using h1,h2⟩
theorem w4k{ops:Array Oper}:∀(l:List Oper) (tbl:List Nat),ops.toList.drop tbl.length=l→
 (∀j,j<tbl.length→∀i,Nat.testBit (tbl.getD j 0) i=true→Ord ops i j)→∀j i,Nat.testBit ((masks l tbl).getD j 0) i=true→Ord ops i j
 | [],tbl,_,h,j,i,hb=>by
  rcases Nat.lt_or_ge j tbl.length with hj|hj
  ·exact h j hj i hb
  ·simp only[masks]at hb
   rw[List.getD_eq_getElem?_getD,List.getElem?_eq_none hj]at hb
   simp at hb
 |o::l,tbl,hl,h,j,i,hb=>by
  simp only[masks]at hb
  have ho:ops[tbl.length]? =some o:=by
   have:(ops.toList.drop tbl.length)[0]? =some o:=by rw[hl];rfl
   simpa[List.getElem?_drop]using this
  refine w4k l (tbl++[w9H tbl o]) ?_ ?_ j i hb
  ·have:=congrArg List.tail hl
   simpa[List.tail_drop]using this
  ·intro j hj i hb
   rcases Nat.lt_or_ge j tbl.length with hj'|hj'
   ·rw[List.getD_eq_getElem?_getD,List.getElem?_append_left hj', ←List.getD_eq_getElem?_getD]at hb
    exact h j hj' i hb
   ·have:j=tbl.length:=by simp at hj;omega
    subst this
    rw[List.getD_eq_getElem?_getD,List.getElem?_append_right (Nat.le_refl _)]at hb
    simp only[Nat.sub_self,List.getElem?_cons_zero,Option.getD_some]at hb
    obtain⟨e,h1,h2,h3⟩:=w8o hb
    intro L hcl haf
    have hon:=haf o ho e h1 h2
    rcases h3 with rfl|h3
    ·exact hon
    ·rcases Nat.lt_or_ge e.on tbl.length with hlt|hge
     ·exact h e.on hlt i h3 L hcl fun o' ho' e' he' hb'=>hcl e.on o' hon ho' e' he' hb'
     ·rw[List.getD_eq_getElem?_getD,List.getElem?_eq_none hge]at h3
      simp at h3
section
variable {P:Program} {gl:Gl} {N:Nat} {ops:Array Oper} {fr:Fr} {st:St} {q:Nat} {g:Bool} {op:Op} {lk:Look}
theorem x2r(h:rds op=false):(aop P gl g op fr lk q).rd=[]:=by
 cases op with
 |load|store|indexAddr|slice|lookup|mapUpdate|next=>cases h
 |range t x=>exact w2O
 |call c=>
  obtain⟨callee,args,ats⟩:=c
  cases callee with
  |value f=>rfl
  |invoke r m=>rfl
  |builtin b=>
   cases b<;>first|(cases h;done)|skip
   all_goals
    simp only[aop]
    generalize args.toList=l
    generalize ats.toList=l'
    first|rfl|(split<;>first|contradiction|rfl|exact w9x|exact w9y|exact w9w)
 |pick c a b=>exact w5L
 |build t ps=>exact w2L
 |buildSlice t len ps=>simp only[aop];cases gl.imm t<;>rfl
 |binOp o t x y u=>
  simp only[aop]
  split<;>first|exact x4v|exact w9v
 |unOp o t x=>exact x4w
 |nilCheck x=>exact u7l
 |convert s t x=>exact u8q
 |makeFunc f a b=>cases f<;>rfl
 |makeMap t r=>cases r with
  |none=>exact u8s
  |some r=>rfl
 |makeSlice t l c=>exact u6k
 |fieldAddr t x f=>exact u6j
 |field t x f=>exact w2M
 |index t x y=>exact w2N
 |extract x j=>exact u8r
 | _=>rfl
theorem x4A(h:wrs op=false)(hr:rds op=true):(aop P gl g op fr lk q).up=none:=by
 cases op<;>first|(cases h;done)|(cases hr;done)|skip
 case load=>exact(u5w _ _ _).1
 case indexAddr=>exact(u1E _ _ _ _ _).1
 case slice=>exact(u4F _ _ _ _ _ _ _).1
 case lookup=>exact(u3N _ _ _ _ _ _ _).1
 case call c=>
  obtain⟨callee,args,ats⟩:=c
  cases callee with
  |value f=>rfl
  |invoke r m=>rfl
  |builtin b=>
   cases b<;>first|(cases h;done)|(cases hr;done)|skip
   simp only[aop]
   generalize args.toList=l
   generalize ats.toList=l'
   first|rfl|(split<;>first|contradiction|rfl|exact(u5i _ _ _).1|exact(u5j _ _).1)
theorem u9K{b:Nat}{x:Row}(h:Fits P gl N ops b x fr st)(hr:rds x.o.op=false)(hc:u2i x.o.op≠none→x.r.rd=[]):x.rd=[]:=by
 unfold Row.rd
 cases hG:x.G with
 |false=>rfl
 |true=>
  rcases h.does hG with⟨_,e,_⟩|⟨_,_,_,_,_,_,_,e,_⟩
  ·rw[e];exact x2r hr
  ·exact hc (by rw[e];simp)
theorem w6Q{b:Nat}{x:Row}(h:Fits P gl N ops b x fr st)(hw:wrs x.o.op=false)(hc:u2i x.o.op≠none→x.r.rd=[]):x.wr=[]:=by
 cases hr:rds x.o.op with
 |false=>
  have:=u9K h hr hc
  rw[List.eq_nil_iff_forall_not_mem]
  intro o ho
  have:=w5P h.w6F ho
  rw[u9K h hr hc]at this;cases this
 |true=>
  unfold Row.wr
  cases hG:x.G with
  |false=>rfl
  |true=>
   rcases h.does hG with⟨_,e,_,_,hu⟩|⟨_,_,_,_,_,_,_,e,_⟩
   ·rw[e,x4A hw hr,hu];rfl
   ·rw[List.eq_nil_iff_forall_not_mem]
    intro o ho
    have h1:o∈x.wr:=by unfold Row.wr;rw[hG];exact ho
    have h2:=w5P h.w6F h1
    unfold Row.rd at h2
    rw[hG,hc (by rw[e];simp)]at h2
    cases h2
end
def u4H:List Oper→Nat
 | []=>0
 |o::l=>u4H l+(bif needs o.op then 1 else 0)
def qOk:Nat→List Row→Prop
 | _,[]=>True
 |q,x::l=>x.q=q∧qOk (bif needs x.o.op then q+1 else q) l
def u7N(trk:List Nat):Nat→List Row→Log
 | _,[]=>[]
 |i,x::l=>bif trk.contains i then(x.r.rd,upL x.r++x.ups.map (·.1))::u7N trk (i+1) l else u7N trk (i+1) l
def nrd(trk:List Nat):Nat→List Row→Prop
 | _,[]=>True
 |i,x::l=>(trk.contains i=false→u2i x.o.op≠none→x.r.rd=[])∧nrd trk (i+1) l
theorem x3E{trk:List Nat}:∀(l:List Row) (i j:Nat) (h:j<l.length),nrd trk i l→trk.contains (i+j)=false→u2i (l[j]).o.op≠none→(l[j]).r.rd=[]
 |x::l,i,0,_,h,ht,hc=>h.1 (by simpa using ht) hc
 |x::l,i,j+1,hj,h,ht,hc=>x3E l (i+1) j (by simpa using hj) h.2 (by rw[←ht];congr 1;omega) hc
section
variable {P:Program} {gl:Gl} {N:Nat} {ops:Array Oper} {b:Nat} {trk:List Nat} {K:Fr→St→Prop} {w0:World} {μ0:Mu} {st0:St} {Q:Exit→Act→World→Prop}
theorem w9I{x:Row}{fr:Fr}{st:St}{q:Nat}(h:Fits P gl N ops b x fr st)(hq:st[q]? =some (some .resv))(hne:needs x.o.op=true→q≠x.q):(x.st st)[q]? =some (some .resv):=by
 rw[u6m fun hm=>?_]
 ·exact hq
 ·rcases u4c hm with hm|⟨e,hm⟩
  ·obtain⟨ob,h1,h2⟩:=u8t h _ (w5P h.w6F hm)
   rw[hq]at h1;cases h1;exact h2 rfl
  ·exact hne (h.makes hm) e
theorem u5l{o:Oper}{l:List Oper}{i k:Nat}{lg:Log}{fr:Fr}{st:St}(x:Row)(hx:x.o=o)(hq:x.q=b+k)(hf:Fits P gl N ops b x fr st)(hnr:trk.contains i=false→u2i x.o.op≠none→x.r.rd=[])
 (hk:∀m,k≤m→m<k+u4H (o::l)→st[b+m]? =some (some .resv))
 (ih:(∀m,(bif needs o.op then k+1 else k)≤m→m<(bif needs o.op then k+1 else k)+u4H l→(x.st st)[b+m]? =some (some .resv))→
  ∃rows:List Row,rows.map (·.o)=l∧qOk (b+(bif needs o.op then k+1 else k)) rows∧Trace P gl N ops b rows (x.ap (fr,st))∧K (full rows (x.ap (fr,st))).1 (full rows (x.ap (fr,st))).2∧x3B (u6o (trk.contains i) lg x.r x.ups++u7N trk (i+1) rows)∧nrd trk (i+1) rows):
 ∃rows:List Row,rows.map (·.o)=o::l∧qOk (b+k) rows∧Trace P gl N ops b rows (fr,st)∧K (full rows (fr,st)).1 (full rows (fr,st)).2∧x3B (lg++u7N trk i rows)∧nrd trk i rows:=by
 obtain⟨rows,h1,h2,h3,h4,h5,h6⟩:=ih fun m h1 h2=>by
  refine w9I hf (hk m ?_ ?_) fun hn=>?_
  ·cases hn:needs o.op<;>simp[hn]at h1<;>omega
  ·simp only[u4H];cases hn:needs o.op<;>simp[hn]at h2⊢ <;>omega
  ·rw[hx]at hn
   rw[hq]
   simp[hn]at h1;omega
 refine⟨x::rows,by simp[hx,h1],⟨hq,?_⟩,⟨hf,h3⟩,h4,?_,hnr,h6⟩
 ·rw[hx]
  cases hn:needs o.op<;>simp[hn]at h2⊢
  ·exact h2
  ·exact h2
 ·simp only[u7N]
  unfold u6o at h5
  cases ht:trk.contains i with
  |false=>rw[ht]at h5;exact h5
  |true=>
   rw[ht]at h5
   simp only[cond_true,List.append_assoc,List.cons_append,List.nil_append]at h5⊢
   exact h5
set_option maxHeartbeats 1000000 in
theorem u7m:∀(l:List Oper) (i k:Nat) (lg:Log) (fr:Fr) (st:St),EvD P gl N ops b trk K l i k lg fr st→
 (∀m,k≤m→m<k+u4H l→st[b+m]? =some (some .resv))→
 ∃rows:List Row,rows.map (·.o)=l∧qOk (b+k) rows∧Trace P gl N ops b rows (fr,st)∧K (full rows (fr,st)).1 (full rows (fr,st)).2∧x3B (lg++u7N trk i rows)∧nrd trk i rows
 | [],i,k,lg,fr,st,h,_=>⟨[],rfl,trivial,trivial,h.2,by simpa[u7N]using h.1,trivial⟩
 |⟨dst,op,ty,pos,af,none⟩::l,i,k,lg,fr,st,h,hk=>by
  simp only[EvD]at h
  by_cases h0:opk op=0
  ·rw[h0]at h
   obtain⟨h1,h2⟩:=(u5A op).1 h0
   obtain⟨a,c,d⟩:=h
   refine u5l ⟨_,b+k,true,aop P gl true op fr (look st) (b+k),[]⟩ rfl rfl ⟨c,trivial,rfl,⟨u9H,fun _ h=>(by cases h)⟩,fun _=>.inl ⟨h1,rfl,a,(fun hn=>by rw[h2]at hn;cases hn),rfl⟩,fun hn=>absurd (w5J h2) hn⟩ (fun _ hc=>absurd h1 hc) hk ?_
   rw[h2]
   exact fun hk'=>u7m l _ _ _ _ _ d hk'
  ·by_cases h1':opk op=1
   ·rw[h1']at h
    obtain⟨h1,h2⟩:=(u5A op).2 h1'
    obtain⟨a,c,d⟩:=h
    refine u5l ⟨_,b+k,true,aop P gl true op fr (look st) (b+k),[]⟩ rfl rfl ⟨c,trivial,rfl,⟨u9H,fun _ h=>(by cases h)⟩,fun _=>.inl ⟨h1,rfl,a,fun hn=>hk k (Nat.le_refl _) ?_,rfl⟩,fun _=>h2⟩ (fun _ hc=>absurd h1 hc) hk ?_
    ·simp only[u4H,h2,cond_true];omega
    ·rw[h2]
     exact fun hk'=>u7m l _ _ _ _ _ d hk'
   ·obtain⟨f,args,ats,rfl⟩:=u5B h0 h1'
    simp only[opk,x3C,x5Y]at h
    cases hf:ev1 gl fr f<;>rw[hf]at h<;>first|exact h.elim|skip
    obtain⟨a,⟨c,d⟩,r,rd,ups,hp,hu,hrd,htr,e⟩:=h
    refine u5l ⟨_,b+k,true,⟨r,True,rd,none,none⟩,ups⟩ rfl rfl ⟨a,trivial,rfl,⟨r7M rfl,hu⟩,fun _=>.inr ⟨f,args.toList,_,_,_,r,rd,rfl,c,d,hf,hp,rfl,fun o ho=>⟨(hrd o ho).1,let ⟨ob,h1,h2⟩:=(hrd o ho).2;⟨ob,u4G.1 h1,h2⟩⟩⟩,fun hn=>absurd rfl hn⟩ (fun ht _=>htr ht) hk ?_
    exact fun hk'=>u7m l _ _ _ _ _ e hk'
 |⟨dst,op,ty,pos,af,some (j,want)⟩::l,i,k,lg,fr,st,h,hk=>by
  simp only[EvD]at h
  cases hg:x1Z fr want (gslot ops j)with
  |none=>rw[hg]at h;unfold x2q at h;split at h<;>first|exact h.elim|(rename_i e;cases e)
  |some G=>
   rw[hg]at h
   obtain⟨g1,g2⟩:=w9p (dst:=dst) (op:=op) (ty:=ty) (pos:=pos) (af:=af) hg
   by_cases h0:opk op=0
   ·rw[h0]at h
    obtain⟨a,c,d⟩:=h
    obtain⟨h1,h2⟩:=(u5A op).1 h0
    refine u5l ⟨_,b+k,G,aop P gl G op fr (look st) (b+k),[]⟩ rfl rfl ⟨c,g2.symm▸trivial,g1.symm,⟨u9H,fun _ h=>(by cases h)⟩,fun(hG:G=true)=>.inl ⟨h1,by subst hG;rfl,a hG,(fun hn=>by rw[h2]at hn;cases hn),rfl⟩,fun hn=>absurd (w5J h2) hn⟩ (fun _ hc=>absurd h1 hc) hk ?_
    rw[h2]
    exact fun hk'=>u7m l _ _ _ _ _ d hk'
   ·by_cases h1:opk op=1
    ·rw[h1]at h
     obtain⟨a,c,d⟩:=h
     obtain⟨h2,h3⟩:=(u5A op).2 h1
     refine u5l ⟨_,b+k,G,aop P gl G op fr (look st) (b+k),[]⟩ rfl rfl ⟨c,g2.symm▸trivial,g1.symm,⟨u9H,fun _ h=>(by cases h)⟩,fun(hG:G=true)=>.inl ⟨h2,by subst hG;rfl,a hG,fun hn=>hk k (Nat.le_refl _) ?_,rfl⟩,fun _=>h3⟩ (fun _ hc=>absurd h2 hc) hk ?_
     ·simp only[u4H,h3,cond_true];omega
     ·rw[h3]
      exact fun hk'=>u7m l _ _ _ _ _ d hk'
    ·obtain⟨f,args,ats,rfl⟩:=u5B h0 h1
     simp only[opk,x2q,w8n]at h
     cases hf:ev1 gl fr f<;>rw[hf]at h<;>first|exact h.elim|skip
     obtain⟨a,⟨c,d⟩,r,rd,ups,hp,hu,hrd,htr,hgf,e⟩:=h
     refine u5l ⟨_,b+k,G,⟨r,True,rd,none,none⟩,ups⟩ rfl rfl ⟨a,g2.symm▸trivial,g1.symm,⟨r7M rfl,hu⟩,fun(hG:G=true)=>.inr ⟨f,args.toList,_,_,_,r,rd,rfl,by subst hG;exact c,by subst hG;exact d,hf,hp hG,rfl,fun o ho=>⟨(hrd o ho).1,let ⟨ob,h1,h2⟩:=(hrd o ho).2;⟨ob,u4G.1 h1,h2⟩⟩⟩,fun hn=>absurd rfl hn⟩ (fun ht _=>htr ht) hk ?_
     have es:(bif G then puts ((LR.mk r True rd none none).app (b+k) st) ups else st)=puts st ups:=by
      cases G with
      |true=>rfl
      |false=>exact(hgf rfl).symm
     intro hk'
     simp only[Row.ap,Row.st,Row.fr,Row.d,es]at hk'⊢
     exact u7m l _ _ _ _ _ e hk'
theorem w9J:∀(l:List Row) (q:Nat),qOk q l→∀j (h:j<l.length),q≤(l[j]).q∧(needs (l[j]).o.op=true→(l[j]).q<q+u4H (l.map (·.o)))
 |x::l,q,h,0,_=>by
  refine⟨Nat.le_of_eq h.1.symm,fun hn=>?_⟩
  simp only[List.getElem_cons_zero]at hn⊢
  rw[h.1]
  simp only[List.map_cons,u4H,hn,cond_true];omega
 |x::l,q,h,j+1,hj=>by
  have:=w9J l _ h.2 j (by simpa using hj)
  simp only[List.getElem_cons_succ,List.map_cons,u4H]
  cases hn:needs x.o.op<;>simp only[hn,cond_true,cond_false]at this⊢
  ·exact⟨this.1,fun h=>by have:=this.2 h;omega⟩
  ·exact⟨by omega,fun h=>by have:=this.2 h;omega⟩
theorem w9K:∀(l:List Row) (q:Nat),qOk q l→∀i j (hi:i<l.length) (hj:j<l.length),i<j→needs (l[i]).o.op=true→(l[i]).q<(l[j]).q
 |x::l,q,h,0,j+1,_,hj,_,hn=>by
  simp only[List.getElem_cons_zero,List.getElem_cons_succ]at hn⊢
  have:=(w9J l _ h.2 j (by simpa using hj)).1
  rw[hn,cond_true]at this
  rw[h.1];omega
 |x::l,q,h,i+1,j+1,hi,hj,hij,hn=>by
  simp only[List.getElem_cons_succ]at hn⊢
  exact w9K l _ h.2 i j (by simpa using hi) (by simpa using hj) (by omega) hn
theorem w9L{rd up:List Nat}:∀ {lg:Log},x9H rd up lg→∀y∈lg,(∀o∈up,o∉y.1)∧∀o∈y.2,o∉rd
 |(rd',up')::l,h,y,hy=>by
  rcases List.mem_cons.1 hy with e|e
  ·subst e
   exact⟨h.1,h.2.1⟩
  ·exact w9L h.2.2 y e
theorem w4l{trk:List Nat}:∀(l:List Row) (i j:Nat) (h:j<l.length),trk.contains (i+j)=true→((l[j]).r.rd,upL (l[j]).r++(l[j]).ups.map (·.1))∈u7N trk i l
 |x::l,i,0,_,ht=>by simp only[u7N,Nat.add_zero]at ht ⊢; rw[ht];simp
 |x::l,i,j+1,hj,ht=>by
  have:=w4l l (i+1) j (by simpa using hj) (by rw[←ht];congr 1;omega)
  simp only[u7N,List.getElem_cons_succ]
  cases trk.contains i with
  |true=>exact List.mem_cons_of_mem _ this
  |false=>exact this
theorem x7g{x:Row}{o:Nat}(h:o∈x.wr):o∈upL x.r++x.ups.map (·.1):=by
 unfold Row.wr at h
 cases hG:x.G<;>rw[hG]at h<;>simp only[cond_true,cond_false]at h
 ·cases h
 ·exact h
theorem x7h{x:Row}{o:Nat}(h:o∈x.rd):o∈x.r.rd:=by
 unfold Row.rd at h
 cases hG:x.G<;>rw[hG]at h
 ·cases h
 ·exact h
theorem w9M{trk:List Nat}:∀(l:List Row) (i:Nat),x3B (u7N trk i l)→∀j m (hj:j<l.length) (hm:m<l.length),j<m→trk.contains (i+j)=true→trk.contains (i+m)=true→
 (∀o∈(l[j]).wr,o∉ (l[m]).rd)∧∀o∈(l[m]).wr,o∉ (l[j]).rd
 |x::l,i,h,0,m+1,_,hm,_,t1,t2=>by
  simp only[u7N,Nat.add_zero]at h t1
  rw[t1]at h
  have:=w9L h.1 _ (w4l l (i+1) m (by simpa using hm) (by rw[←t2];congr 1;omega))
  simp only[List.getElem_cons_zero,List.getElem_cons_succ]
  exact⟨fun o ho ho'=>this.1 o (x7g ho) (x7h ho'),fun o ho ho'=>this.2 o (x7g ho) (x7h ho')⟩
 |x::l,i,h,j+1,m+1,hj,hm,hjm,t1,t2=>by
  have h':x3B (u7N trk (i+1) l):=by
   simp only[u7N]at h
   cases ht:trk.contains i with
   |true=>rw[ht]at h;exact h.2
   |false=>rw[ht]at h;exact h
  simp only[List.getElem_cons_succ]
  exact w9M l (i+1) h' j m (by simpa using hj) (by simpa using hm) (by omega) (by rw[←t1];congr 1;omega) (by rw[←t2];congr 1;omega)
theorem w2h{rows:List Row}{s:Fr×St}(h:Trace P gl N ops b rows s)(j:Nat)(hj:j<rows.length):∃s':Fr×St,Fits P gl N ops b (rows[j]) s'.1 s'.2:=by
 have e:rows=rows.take j++rows[j]::rows.drop (j+1):=by rw[List.getElem_cons_drop,List.take_append_drop]
 rw[e]at h
 exact⟨_,u7M _ h⟩
theorem w6R{fr:Fr}{a:Act}{w:World}:∀(n:Nat) {st:St} {μ:Mu},u7v gl N w0 μ0 st0 fr st a w μ→∃μ',u7v gl N w0 μ0 st0 fr (st++List.replicate n (some .resv)) a w μ'
 |0,st,μ,h=>⟨μ,by simpa using h⟩
 |n+1,st,μ,h=>by
  obtain⟨k1,k2⟩:=u9D h.sim
  obtain⟨μ',h'⟩:=w6R n (st:=st++[some .resv]) ⟨k1,h.glob.step k2,h.fr.step k2,h.size,h.defers,h.step.trans k2⟩
  exact⟨μ',by simpa[List.replicate_succ,List.append_assoc]using h'⟩
theorem w8p{fr:Fr}{a:Act}{w:World}{st:St}{μ:Mu}(h:u7v gl N w0 μ0 st0 fr st a w μ):u7v gl N w0 μ0 st0 fr st a { w with drawn:=w.drawn+1 } μ:=by
 have step:Step w μ st { w with drawn:=w.drawn+1 } μ st:=⟨Nat.le_refl _,rfl,rfl,⟨rfl,Nat.le_succ _⟩,fun _ _ _=>rfl,fun _ h=>.inl h,Nat.le_refl _,fun _ ob' _ h=>⟨ob',h,by
  cases ob' with
  |arr g n b es=>exact⟨Nat.le_refl _,fun _=>⟨rfl,rfl,rfl,rfl,fun blk base c ty _ hh=>⟨c,hh,rfl⟩⟩⟩
  |mps=>exact⟨rfl,rfl⟩
  |mpi=>exact⟨rfl,rfl,rfl⟩
  |sit=>rfl
  |resv=>trivial⟩⟩
 exact⟨⟨fun o ob ho=>(h.sim.obj o ob ho).step step (fun _ _ _=>rfl),h.sim.inj⟩,h.glob.step step,h.fr.step step,h.size,h.defers,h.step.trans step⟩
variable {n0:Nat} {keep:List Nat} {AQ':AQ} {fr:Fr} {st:St}
theorem w9N{l:List Oper}{K:Fr→St→Prop}{Q:Exit→Act→World→Prop}{a:Act}{w:World}{μ:Mu}(trk:List Nat)(n:Nat)(ho:w0y l.toArray trk=true)(hn:u4H l=n)
 (h:EvD P gl N l.toArray st.length trk K l 0 0 [] fr (st++List.replicate n (some .resv))) (hc:u7v gl N w0 μ0 st0 fr st a w μ) (hQ:∀fr st a w μ,K fr st→u7v gl N w0 μ0 st0 fr st a w μ→Q .normal a w):
 wpAny P .any l.toArray Q l.toArray.size (Array.replicate l.toArray.size false) a { w with drawn:=w.drawn+1 }:=by
 obtain⟨μ1,hc1⟩:=w6R n (w8p hc)
 have hget:∀m,m<n→(st++List.replicate n (some Ob.resv))[st.length+m]? =some (some .resv):=fun m hm=>by
  rw[List.getElem?_append_right (by omega),Nat.add_sub_cancel_left]
  simp[hm]
 obtain⟨rows,h1,h2,h3,h4,h5,h6⟩:=u7m l 0 0 [] fr _ h fun m _ hm=>hget m (by omega)
 have hlen:rows.length=l.length:=by rw[←h1];simp
 have hop:∀i (hi:i<rows.length),l.toArray[i]? =some (rows[i]).o:=fun i hi=>by
  have:l[i]? =(rows.map (·.o))[i]? :=by rw[h1]
  simpa[hi]using this
 have x8S:=ho
 unfold w0y at x8S
 simp only[List.all_eq_true,List.mem_range,Bool.and_eq_true]at x8S
 have x9I:Good P gl N l.toArray st.length rows (fr,st++List.replicate n (some .resv)):=by
  refine⟨by simpa using h1.symm,h3,fun i j hi hj hne hni hnj=>?_,fun x hx hnx=>?_,fun i o hio e he hb=>?_,fun i j hi hj hij=>?_⟩
  ·rcases Nat.lt_or_gt_of_ne hne with hlt|hlt
   ·exact Nat.ne_of_lt (w9K rows _ h2 i j hi hj hlt hni)
   ·exact Nat.ne_of_gt (w9K rows _ h2 j i hj hi hlt hnj)
  ·obtain⟨j,hj,e⟩:=List.getElem_of_mem hx
   have:=w9J rows _ h2 j hj
   rw[e,h1,hn]at this
   obtain⟨q1,q2⟩:=this
   have q3:=q2 hnx
   have:=hget (x.q-st.length) (by omega)
   rw[show st.length+(x.q-st.length)=x.q by omega]at this
   exact⟨this,by omega⟩
  ·have hil:i<l.length:=by
    rcases Nat.lt_or_ge i l.length with h'|h'
    ·exact h'
    ·rw[Array.getElem?_eq_none (by simpa using h')]at hio;cases hio
   have:=(x8S i (by simpa using hil)).1
   rw[hio]at this
   simp only[List.all_eq_true]at this
   have:=this e (by simpa using he)
   rw[hb]at this
   simp only[Bool.not_true,Bool.false_or]at this
   exact Nat.lt_of_lt_of_le (Nat.lt_succ_self _) (Nat.le_of_ble_eq_true this)
  ·have hp:=(x8S j (by simpa[←hlen]using hj)).2 i hij
   unfold x3D at hp
   rw[hop i hi,hop j hj]at hp
   simp only[Bool.or_eq_true]at hp
   rcases hp with hp|hp
   ·exact .inl (w4k l.toArray.toList [] rfl (fun j hj=>absurd hj (Nat.not_lt_zero _)) j i hp)
   ·right
    simp only[Bool.and_eq_true,Bool.or_eq_true]at hp
    obtain⟨hp1,hp2⟩:=hp
    refine⟨hp1,?_⟩
    obtain⟨s1,f1⟩:=w2h h3 i hi
    obtain⟨s2,f2⟩:=w2h h3 j hj
    rcases hp2 with⟨hp2,hp3⟩|⟨t1,t2⟩
    ·have hcc:∀k (hk:k<rows.length),w1I trk k (rows[k]).o.op=false→u2i (rows[k]).o.op≠none→(rows[k]).r.rd=[]:=fun k hk hc hne=>by
      refine x3E rows 0 k hk h6 ?_ hne
      unfold w1I at hc
      have:(u2i (rows[k]).o.op).isSome=true:=by cases h:u2i (rows[k]).o.op with
       |none=>exact absurd h hne
       |some=>rfl
      rw[this,Bool.true_and]at hc
      rw[Nat.zero_add];exact hc
     refine⟨fun o a1 a2=>?_,fun o a1 a2=>?_⟩
     ·cases hw:(wrs (rows[i]).o.op||w1I trk i (rows[i]).o.op)with
      |false=>
       rw[Bool.or_eq_false_iff]at hw
       rw[w6Q f1 hw.1 (hcc i hi hw.2)]at a1;cases a1
      |true=>cases hr:(rds (rows[j]).o.op||w1I trk j (rows[j]).o.op)with
       |false=>
        rw[Bool.or_eq_false_iff]at hr
        rw[u9K f2 hr.1 (hcc j hj hr.2)]at a2;cases a2
       |true=>rw[hw,hr]at hp2;cases hp2
     ·cases hw:(wrs (rows[j]).o.op||w1I trk j (rows[j]).o.op)with
      |false=>
       rw[Bool.or_eq_false_iff]at hw
       rw[w6Q f2 hw.1 (hcc j hj hw.2)]at a1;cases a1
      |true=>cases hr:(rds (rows[i]).o.op||w1I trk i (rows[i]).o.op)with
       |false=>
        rw[Bool.or_eq_false_iff]at hr
        rw[u9K f1 hr.1 (hcc i hi hr.2)]at a2;cases a2
       |true=>rw[hw,hr]at hp3;cases hp3
    ·exact w9M rows 0 (by simpa using h5) i j hi hj hij (by simpa using t1) (by simpa using t2)
 have hl0:∀i,lst (Array.replicate l.toArray.size false) i=false:=fun i=>by
  unfold lst
  rw[Array.getD_eq_getD_getElem?]
  by_cases hi:i<l.length
  ·simp[hi]
  ·simp[hi]
 refine w9C x9I (fun a w μ hc=>hQ _ _ a w μ h4 hc) _ _ _ _ μ1 (by simp[hlen]) ?_ ?_ ?_ ?_
 ·have:∀n,cnt (lst (Array.replicate l.toArray.size false)) n≤n:=fun n=>by
   induction n with
   |zero=>exact Nat.le_refl _
   |succ n ih=>simp only[cnt,hl0,cond_false];omega
  have:=this rows.length
  simpa[hlen]using this
 ·intro k o hk;rw[hl0]at hk;cases hk
 ·intro i j hi hj hj';rw[hl0]at hj';cases hj'
 ·rw[w6I rows 0 _ fun k _ _=>hl0 k]
  exact hc1
theorem y0V{id:Nat}{l:List Oper}(trk:List Nat)(n:Nat)(hm:P.follows .mixedOrders=true)(ho:w0y l.toArray trk=true)(hn:u4H l=n)
 (h:EvD P gl N l.toArray st.length trk (fun fr st=>AQ' .normal (Fr.only keep fr) st) l 0 0 [] fr (st++List.replicate n (some .resv))):
 AWp P gl N n0 keep (.region id l.toArray true) AQ' fr st:=by
 intro w0 μ0 st0 hl a w ⟨μ,hc⟩
 exact wp_region_any hm (w9N trk n ho hn h hc fun fr st a w μ hk hc=>⟨_,_,hk,μ,hc.sim,hc.glob,hc.fr.only keep,hc.size,hc.defers,hc.step⟩)
end
section
variable {P:Program} {gl:Gl} {N n0:Nat} {ops:Array Oper} {keep:List Nat} {Q:AQ} {fr:Fr} {st:St} {lg:Log} {b q:Nat} {trk:List Nat} {K:Fr→St→Prop}
 {dst:Option Nat} {op:Op} {l:List Oper} {i k:Nat} {tr:Bool} {kk k1:Log→Fr→St→Prop} {d:D} {p:Prop} {rd:List Nat} {o:Nat} {ob:Ob} {G:Bool}
@[congr] theorem x7i{fr':Fr}{st':St}{lg':Log}{i' k':Nat}(h0:i=i')(h1:k=k')(h2:lg=lg')(h:fr=fr')(h3:st=st'):EvD P gl N ops b trk K l i k lg fr st=EvD P gl N ops b trk K l i' k' lg' fr' st':=by rw[h0,h1,h2,h,h3]
@[congr] theorem x5Z{r r':LR}(h:r=r'):x2p N q tr dst lg fr st kk r=x2p N q tr dst lg fr st kk r':=by rw[h]
@[congr] theorem x4B{r r':LR}(h:r=r'):w5Q N q G tr dst lg fr st kk r=w5Q N q G tr dst lg fr st kk r':=by rw[h]
@[congr] theorem x6a{n n':Nat}{q':Nat}{tr':Bool}(h1:q=q')(h2:tr=tr')(h:n=n'):x3C P gl N b q tr kk k1 dst op lg fr st n=x3C P gl N b q' tr' kk k1 dst op lg fr st n':=by rw[h,h1,h2]
@[congr] theorem x6b{n n':Nat}{g g':Option Bool}{q':Nat}{tr':Bool}(h1:q=q')(h2:tr=tr')(h:n=n')(h3:g=g'):x2q P gl N b q tr kk k1 dst op lg fr st n g=x2q P gl N b q' tr' kk k1 dst op lg fr st n' g':=by rw[h,h1,h2,h3]
@[congr] theorem x6c{a a':Prop}{f f':D}{args args':List D}(h:a=a')(h2:f=f')(h3:args=args'):x5Y P gl N b tr dst lg fr st kk a f args=x5Y P gl N b tr dst lg fr st kk a' f' args':=by rw[h,h2,h3]
@[congr] theorem x4C{a a':Prop}{f f':D}{args args':List D}(h:a=a')(h2:f=f')(h3:args=args'):w8n P gl N b G tr dst lg fr st kk a f args=w8n P gl N b G tr dst lg fr st kk a' f' args':=by rw[h,h2,h3]
@[congr] theorem x4D{f:FuncId}{args args':List D}(h:args=args'):w8m P gl b tr dst lg fr st kk f args=w8m P gl b tr dst lg fr st kk f args':=by rw[h]
@[congr] theorem x3F{f:FuncId}{args args':List D}(h:args=args'):w4j P gl b G tr dst lg fr st kk f args=w4j P gl b G tr dst lg fr st kk f args':=by rw[h]
theorem x9J:EvD P gl N ops b trk K [] i k lg fr st=(x3B lg∧K fr st):=rfl
theorem x9K{o:Oper}{l':List Oper}:EvD P gl N ops b trk K (List.append (o::l) l') i k lg fr st=EvD P gl N ops b trk K (o::List.append l l') i k lg fr st:=rfl
theorem x8T{l':List Oper}:EvD P gl N ops b trk K (List.append [] l') i k lg fr st=EvD P gl N ops b trk K l' i k lg fr st:=rfl
theorem x8U{ty:TypeId}{pos:String}{af:Array Edge}:EvD P gl N ops b trk K (⟨dst,op,ty,pos,af,none⟩::l) i k lg fr st=
 x3C P gl N b (b+k) (trk.contains i) (EvD P gl N ops b trk K l (i+1) k) (EvD P gl N ops b trk K l (i+1) (k+1)) dst op lg fr st (opk op):=rfl
theorem x7j{ty:TypeId}{pos:String}{af:Array Edge}{j:Nat}{want:Bool}:EvD P gl N ops b trk K (⟨dst,op,ty,pos,af,some (j,want)⟩::l) i k lg fr st=
 x2q P gl N b (b+k) (trk.contains i) (EvD P gl N ops b trk K l (i+1) k) (EvD P gl N ops b trk K l (i+1) (k+1)) dst op lg fr st (opk op) (x1Z fr want (gslot ops j)):=rfl
theorem y0W:x3C P gl N b q tr kk k1 dst op lg fr st 0=x2p N q tr dst lg fr st kk (aop P gl true op fr (look st) q):=rfl
theorem y0X:x3C P gl N b q tr kk k1 dst op lg fr st 1=x2p N q tr dst lg fr st k1 (aop P gl true op fr (look st) q):=rfl
theorem y0Y{f:Operand}{args:Array Operand}{ats:Array TypeId}:x3C P gl N b q tr kk k1 dst (.call ⟨.value f,args,ats⟩) lg fr st 2=x5Y P gl N b tr dst lg fr st kk (eok gl true fr f∧(∀x∈args.toList,eok gl true fr x)) (ev1 gl fr f) (args.toList.map (ev1 gl fr)):=rfl
theorem y0Z:x2q P gl N b q tr kk k1 dst op lg fr st 0 (some G)=w5Q N q G tr dst lg fr st kk (aop P gl G op fr (look st) q):=rfl
theorem y1a:x2q P gl N b q tr kk k1 dst op lg fr st 1 (some G)=w5Q N q G tr dst lg fr st k1 (aop P gl G op fr (look st) q):=rfl
theorem y1b{f:Operand}{args:Array Operand}{ats:Array TypeId}:x2q P gl N b q tr kk k1 dst (.call ⟨.value f,args,ats⟩) lg fr st 2 (some G)=w8n P gl N b G tr dst lg fr st kk (eok gl G fr f∧(∀x∈args.toList,eok gl G fr x)) (ev1 gl fr f) (args.toList.map (ev1 gl fr)):=rfl
theorem y1c:x2p N q tr dst lg fr st kk ⟨d,p,rd,none,none⟩=(p∧dlt N dst∧kk (u6o tr lg ⟨d,p,rd,none,none⟩ []) (fr.u5c dst d) st):=rfl
theorem y1d:x2p N q tr dst lg fr st kk ⟨d,p,rd,some (o,ob),none⟩=(p∧dlt N dst∧kk (u6o tr lg ⟨d,p,rd,some (o,ob),none⟩ []) (fr.u5c dst d) (st.set o (some ob))):=rfl
theorem y1e:x2p N q tr dst lg fr st kk ⟨d,p,rd,none,some ob⟩=(p∧dlt N dst∧kk (u6o tr lg ⟨d,p,rd,none,some ob⟩ []) (fr.u5c dst d) (st.set q (some ob))):=rfl
theorem x9L:w5Q N q G tr dst lg fr st kk ⟨d,p,rd,none,none⟩=(u5Z G p∧dlt N dst∧kk (u6o tr lg ⟨d,p,rd,none,none⟩ []) (fr.u5c dst (.cond G d)) st):=by cases G<;>rfl
theorem x9M{g:FuncId}{first cap args:List D}:x5Y P gl N b tr dst lg fr st kk p (.fn g first cap) args=(dlt N dst∧p∧w8m P gl b tr dst lg fr st kk g (first++args++cap)):=rfl
theorem x8V{g:FuncId}{first cap args:List D}:w8n P gl N b G tr dst lg fr st kk p (.fn g first cap) args=(dlt N dst∧p∧w4j P gl b G tr dst lg fr st kk g (first++args++cap)):=rfl
theorem x9N{r:LR}{ups:List (Nat×Ob)}:u6o false lg r ups=lg:=rfl
theorem r8U{f:FuncId}{args:List D}{r:D}(h:Pure P gl f args r)(hk:kk (u6o tr lg ⟨r,True,[],none,none⟩ []) (fr.u5c dst r) st):
 w8m P gl b tr dst lg fr st kk f args:=
 ⟨r,[],[],h.loc,fun _ h=>(by cases h),fun _ h=>(by cases h),fun _=>rfl,hk⟩
theorem w2R{f:FuncId}{args:List D}{r:D}(h:G=true→Pure P gl f args r)(hk:kk (u6o tr lg ⟨r,True,[],none,none⟩ []) (fr.u5c dst (.cond G r)) st):
 w4j P gl b G tr dst lg fr st kk f args:=
 ⟨r,[],[],fun e=>(h e).loc,fun _ h=>(by cases h),fun _ h=>(by cases h),fun _=>rfl,fun _=>rfl,hk⟩
theorem x9O{ups:List (Nat×Ob)}:u6o true lg ⟨d,p,rd,none,some ob⟩ ups=lg++[(rd,ups.map (·.1))]:=rfl
theorem x8W{ups:List (Nat×Ob)}:u6o true lg ⟨d,p,rd,none,none⟩ ups=lg++[(rd,ups.map (·.1))]:=rfl
theorem x8X{ups:List (Nat×Ob)}:u6o true lg ⟨d,p,rd,some (o,ob),none⟩ ups=lg++[(rd,o::ups.map (·.1))]:=rfl
theorem y2e{b:Bool}:(b==true)=b:=by cases b<;>rfl
theorem y2f{b:Bool}:(b==false)= !b:=by cases b<;>rfl
theorem x6d{l:List Oper}{j:Nat}:gslot l.toArray j=(l[j]?).bind (·.dst):=by simp[gslot]
theorem x8Y{e:Nat}:(∃t,TK.slice e=TK.slice t)=True:=eq_true ⟨e,rfl⟩
theorem y1f{a c:Nat}:(∃t u,TK.map a c=TK.map t u)=True:=eq_true ⟨a,c,rfl⟩
end
attribute [go_sem] y2e y2f x6d Option.bind_some x8Y y1f x1K u6W Int.toNat_natCast imp_self false_implies x9K x8T x9J x8U x7j y0W y0X y0Y y0Z y1a y1b y1c y1d y1e x9L x9M x8V x9N x9O x8W x8X x9H x3B Nat.add_zero
section
variable {P:Program} {gl:Gl} {N n0:Nat} {keep:List Nat} {Q:AQ} {fr:Fr} {st:St} {c:Code}
theorem x9P{t n b:Nat}{full:Bool}{es:List (List D)}(hg:fr.get t= .sl full n b es)(h:es.length*b≤top→AWp P gl N n0 keep c Q fr st):AWp P gl N n0 keep c Q fr st:=
 x4o (p:=es.length*b≤top) (fun w μ tmps _ hf=>by
  have:=hf t
  rw[hg]at this
  generalize tmps.getD t undef=v at this
  cases this with
  |tr h=>cases h;assumption) h
end
def x7k(n:Nat)(rows:List (List D)):Prop:=∀r∈rows,r.length=n∧r.all D.one=true
theorem x2s{α:Type}{l:List α}{k:Nat}{d:α}(h:k<l.length):l.getD k d∈l:=by
 rw[List.getD_eq_getElem?_getD,List.getElem?_eq_getElem h];exact List.getElem_mem h
theorem x7k.at{n:Nat}{rows:List (List D)}(h:x7k n rows){k:Nat}(hk:k<rows.length):∃r,rows.getD k []=r∧r.length=n∧r.take n=r∧r.all D.one=true∧r∈rows:=by
 have hm:=x2s (d:=[]) hk
 obtain⟨h1,h2⟩:=h _ hm
 exact⟨_,rfl,h1,List.take_of_length_le (by omega),h2,hm⟩
def x7l:Ob→Ob→Prop
 | .arr g n b es,.arr g' n' b' es'=>g'=g∧n'=n∧b'=b∧es'.length=es.length
 | .mps ag _,.mps ag' _=>ag'=ag
 | .mpi ag k _,.mpi ag' k' _=>ag'=ag∧k'=k
 | .sit s p,.sit s' p'=>s'=s∧p'=p
 | .resv,.resv=>True
 | _,_=>False
structure w8L(st T:St):Prop where
 len:T.length≤st.length
 sh:∀(o:Nat) (ob':Ob),T[o]? =some (some ob')→∃ob,st[o]? =some (some ob)∧x7l ob ob'
section
variable {w:World} {μ:Mu} {st T:St}
theorem w8L.own(hk:w8L st T){blk:Nat}(h:own μ T blk):own μ st blk:=by
 obtain⟨o,ob,base,h1,h2⟩:=h
 obtain⟨ob',h3,_⟩:=hk.sh o ob h1
 exact⟨o,ob',base,h3,h2⟩
theorem TR.kill(hk:w8L st T){v:Value}{d:D}(h:TR w (Am.own μ st) v d):TR w (Am.own μ T) v d:=
 h.mono (fun _ _ hn=>⟨rfl,fun h=>hn (hk.own h)⟩) (Nat.le_refl _)
theorem w8L.resv(hk:w8L st T){o:Nat}(h:st[o]? ≠some (some .resv)):T[o]? ≠some (some .resv):=fun e=>by
 obtain⟨ob,h1,h2⟩:=hk.sh o _ e
 cases ob<;>first|exact h2.elim|exact h h1
theorem VR.kill(hk:w8L st T){v:Value}{d:D}(h:VR w μ st v d)(hd:D.sc T.length d):VR w μ T v d:=by
 induction h with
 |any v=>exact .any v
 |tr h=>exact .tr (h.kill hk)
 |agg vs cs hs hc ih=>exact .agg vs cs hs (fun j hj=>ih j hj (u0B hd j hj))
 |tup vs cs hs hc ih=>exact .tup vs cs hs (fun j hj=>ih j hj (u0B hd j hj))
 |fn f vf vc first cap hf hc hfc hcc ih1 ih2=>exact .fn f vf vc first cap hf hc (fun j hj=>ih1 j hj (u0B hd.1 j hj)) (fun j hj=>ih2 j hj (u0B hd.2 j hj))
 |ref v full o g off len hv ho hr hg h=>
  refine .ref v full o g off len hv hd (hk.resv hr) (fun g' n b es e=>?_) (fun n b es e=>?_)
  ·obtain⟨ob,h1,h2⟩:=hk.sh o _ e
   cases ob<;>first|exact h2.elim|skip
   have:=hg _ _ _ _ h1
   rw[h2.1];exact this
  ·obtain⟨ob,h1,h2⟩:=hk.sh o _ e
   cases ob<;>first|exact h2.elim|skip
   obtain⟨rfl,rfl,rfl,e4⟩:=h2
   have:=h _ _ _ h1
   unfold u6D at this⊢
   rw[e4];exact this
 |ptr v o g i c hv ho hr hg h=>
  refine .ptr v o g i c hv hd (hk.resv hr) (fun g' n b es e=>?_) (fun n b es e=>?_)
  ·obtain⟨ob,h1,h2⟩:=hk.sh o _ e
   cases ob<;>first|exact h2.elim|skip
   have:=hg _ _ _ _ h1
   rw[h2.1];exact this
  ·obtain⟨ob,h1,h2⟩:=hk.sh o _ e
   cases ob<;>first|exact h2.elim|skip
   obtain⟨rfl,rfl,rfl,e4⟩:=h2
   exact h _ _ _ h1
 |mp v o hv ho hr h1 h2=>
  refine .mp v o hv hd (hk.resv hr) (fun ag es e=>?_) (fun ag k es e=>?_)
  ·obtain⟨ob,h3,h4⟩:=hk.sh o _ e
   cases ob<;>first|exact h4.elim|skip
   exact h1 _ _ h3
  ·obtain⟨ob,h3,h4⟩:=hk.sh o _ e
   cases ob<;>first|exact h4.elim|skip
   exact h2 _ _ _ h3
 |it v o hv ho hr h=>
  refine .it v o hv hd (hk.resv hr) (fun s p e=>?_)
  obtain⟨ob,h3,h4⟩:=hk.sh o _ e
  cases ob<;>first|exact h4.elim|skip
  exact h _ _ h3
 |cond v g d h h0 ih=>exact .cond v g d (fun e=>ih e (hd e)) h0
end
def D.imm:D→Bool
 | .agg _| .tup _| .fn _ _ _| .ref _ _ _ _ _| .ptr _ _ _ _| .mp _| .it _| .cond _ _=>false
 | _=>true
def Imm(rows:List (List D)):Prop:=∀e∈rows,e.all D.imm=true
mutual
inductive Up(st T:St):D→D→Prop
 |any (d:D):Up st T d .any
 |same (d:D):Up st T d d
 |r5g (full:Bool) (n b:Nat) (hb:1≤b):Up st T .r5g (.sl full n b [])
 |nref (full:Bool) (o g n b:Nat) (es:List (List D)) (h:T[o]? =some (some (.arr g n b es))):Up st T .r5g (.ref full o g 0 0)
 |full (f:Bool) (n b:Nat) (es:List (List D)):Up st T (.sl true n b es) (.sl f n b es)
 |ref (full:Bool) (o g off len n b:Nat) (es:List (List D)) (rows:List (List D)) (h:st[o]? =some (some (.arr g n b es))) (hT:look T o=none) (hb:1≤b) (hi:Imm es)
  (hr:rows=(es.drop off).take len):Up st T (.ref full o g off len) (.sl false n b rows)
 |w4m (o g off len:Nat):Up st T (.ref true o g off len) (.ref false o g off len)
 |agg (cs cs':List D) (h:Ups st T cs cs'):Up st T (.agg cs) (.agg cs')
 |tup (cs cs':List D) (h:Ups st T cs cs') (hl:cs.all D.live=true):Up st T (.tup cs) (.tup cs')
 |cond (g:Bool) (d d':D) (h:Up st T d d'):Up st T (.cond g d) (.cond g d')
inductive Ups(st T:St):List D→List D→Prop
 |nil:Ups st T [] []
 |cons (d d':D) (l l':List D) (h:Up st T d d') (hl:Ups st T l l'):Ups st T (d::l) (d'::l')
end
theorem Ups.len{st T:St}:∀ {l l':List D},Ups st T l l'→l'.length=l.length
 | _,_,.nil=>rfl
 | _,_,.cons _ _ _ _ _ h=>by simp[h.len]
theorem Ups.get{st T:St}:∀ {l l':List D},Ups st T l l'→∀(j:Nat) (h:j<l.length) (h':j<l'.length),Up st T (l[j]) (l'[j])
 | _,_,.cons _ _ _ _ h _,0,_,_=>h
 | _,_,.cons _ _ _ _ _ h,j+1,hj,hj'=>h.get j (by simpa using hj) (by simpa using hj')
theorem Ups.refl{st T:St}:∀(l:List D),Ups st T l l
 | []=>.nil
 |d::l=>.cons d d l l (.same d) (Ups.refl l)
inductive u7d(st T:St):List (List D)→List (List D)→Prop
 |same (l:List (List D)):u7d st T l l
 |nil:u7d st T [] []
 |cons (e e':List D) (l l':List (List D)) (h:Ups st T e e') (hl:u7d st T l l'):u7d st T (e::l) (e'::l')
 |snoc (e e':List D) (l l':List (List D)) (hl:u7d st T l l') (h:Ups st T e e'):u7d st T (l++[e]) (l'++[e'])
theorem u7d.spec{st T:St}{l l':List (List D)}(h:u7d st T l l'):l'.length=l.length∧∀(j:Nat) (h:j<l.length) (h':j<l'.length),Ups st T (l[j]) (l'[j]):=by
 induction h with
 |same l=>exact⟨rfl,fun j _ _=>Ups.refl _⟩
 |nil=>exact⟨rfl,fun j h _=>absurd h (Nat.not_lt_zero _)⟩
 |cons e e' l l' h hl ih=>
  refine⟨by simp[ih.1],fun j hj hj'=>?_⟩
  cases j with
  |zero=>exact h
  |succ j=>exact ih.2 j (by simpa using hj) (by simpa using hj')
 |snoc e e' l l' hl h ih=>
  refine⟨by simp[ih.1],fun j hj hj'=>?_⟩
  by_cases hjl:j<l.length
  ·rw[List.getElem_append_left hjl,List.getElem_append_left (by rw[ih.1];exact hjl)]
   exact ih.2 j hjl _
  ·have:j=l.length:=by simp at hj;omega
   subst this
   have e1:(l++[e])[l.length]=e:=by simp
   have e2:(l'++[e'])[l.length]'hj'=e':=by rw[List.getElem_append_right (by omega)];simp
   rw[e1,e2];exact h
inductive w9O(st T:St):List (Bs×List D)→List (Bs×List D)→Prop
 |nil:w9O st T [] []
 |cons (k:Bs) (d d':D) (l l':List (Bs×List D)) (h:Up st T d d') (hl:w9O st T l l'):w9O st T ((k,[d])::l) ((k,[d'])::l')
theorem w9O.keys{st T:St}{l l':List (Bs×List D)}(h:w9O st T l l'):l'.map (·.1)=l.map (·.1):=by
 induction h with
 |nil=>rfl
 |cons k d d' l l' _ _ ih=>simp[ih]
def enm(es':List (Bs×List D))(p:Bs×List D):Bs×List D:=(p.1,(assoc p.1 es').getD p.2)
theorem x2t{l:List (Bs×List D)}{x:Bs}{c:List D}{es':List (Bs×List D)}(h:x∉l.map (·.1)):l.map (enm ((x,c)::es'))=l.map (enm es'):=
 List.map_congr_left fun p hp=>by
  have:p.1≠x:=fun e=>h (e▸List.mem_map.2 ⟨p,hp,rfl⟩)
  unfold enm
  rw[show assoc p.1 ((x,c)::es')=assoc p.1 es' by simp only[assoc];rw[if_neg fun e=>this (by first|exact e|exact e.symm)]]
theorem w9O.map{st T:St}{l l':List (Bs×List D)}(h:w9O st T l l')(hn:(l.map (·.1)).Nodup):l.map (enm l')=l':=by
 induction h with
 |nil=>rfl
 |cons k d d' l l' _ _ ih=>
  rw[List.map_cons,List.nodup_cons]at hn
  rw[List.map_cons,x2t hn.1,ih hn.2]
  unfold enm
  simp[assoc]
theorem w9O.ent{st T:St}{l l':List (Bs×List D)}(h:w9O st T l l')(hn:(l.map (·.1)).Nodup){p:Bs×List D}(hp:p∈l):∃d d',p.2=[d]∧(enm l' p).2=[d']∧Up st T d d':=by
 induction h with
 |nil=>cases hp
 |cons k d d' l l' h _ ih=>
  rw[List.map_cons,List.nodup_cons]at hn
  rcases List.mem_cons.1 hp with rfl|hp
  ·exact⟨d,d',rfl,by unfold enm;simp[assoc],h⟩
  ·obtain⟨a,b,h1,h2,h3⟩:=ih hn.2 hp
   refine⟨a,b,h1,?_,h3⟩
   have:p.1≠k:=fun e=>hn.1 (e▸List.mem_map.2 ⟨p,hp,rfl⟩)
   rw[←h2]
   unfold enm
   rw[show assoc p.1 ((k,[d'])::l')=assoc p.1 l' by simp only[assoc];rw[if_neg fun e=>this (by first|exact e|exact e.symm)]]
inductive w8M(st T:St):Ob→Ob→Prop
 |same (ob:Ob):w8M st T ob ob
 |arr (g n b:Nat) (es es':List (List D)) (h:u7d st T es es'):w8M st T (.arr g n b es) (.arr g n b es')
 |mps (es es':List (Bs×List D)) (h:w9O st T es es'):w8M st T (.mps false es) (.mps false es')
theorem w8M.sh{st T:St}{ob ob':Ob}(h:w8M st T ob ob'):x7l ob ob':=by
 cases h with
 |same=>cases ob<;>simp[x7l]
 |arr g n b es es' h=>exact⟨rfl,rfl,rfl,h.spec.1⟩
 |mps es es' h=>exact rfl
structure w8q(st T:St):Prop where
 len:T.length≤st.length
 obs:∀(o:Nat) (ob':Ob),T[o]? =some (some ob')→∃ob,st[o]? =some (some ob)∧w8M st T ob ob'
 sc:u4w T.length T
theorem w8q.kill{st T:St}(h:w8q st T):w8L st T:=⟨h.len,fun o ob' e=>let ⟨ob,h1,h2⟩:=h.obs o ob' e;⟨ob,h1,h2.sh⟩⟩
section
variable {w:World} {μ:Mu} {st T:St}
theorem x7m{v:Value}{d:D}(h:VR w μ st v d)(hi:d.imm=true)(h1:v.oneCell'=true):TR w (own μ st) v d:=by
 cases h with
 |any=>exact .any _ h1
 |tr h=>exact h
 | _=>cases hi
theorem VR.up(hs:Sim w μ st)(hk:w8L st T){v:Value}{d d':D}(hu:Up st T d d')(h:VR w μ st v d)(hd:D.sc T.length d'):VR w μ T v d':=by
 induction h generalizing d' with
 |any v=>cases hu with
  |any=>exact .any _
  |same=>exact .any _
 |tr h=>
  cases hu with
  |any=>exact .any _
  |same=>exact .tr (h.kill hk)
  |r5g full n b hb=>cases h;exact .tr (.sl full n b [] none 0 0 (fun _ _=>undef) rfl (Nat.le_refl _) (fun _=>rfl) (by simp[top]) hb (fun e he=>by cases he) (.inl rfl) (fun i j hi=>absurd hi (Nat.not_lt_zero _)))
  |nref full o g n b es hT=>
   cases h
   refine .ref _ full o g 0 0 ⟨none,0,0,rfl⟩ (List.getElem?_eq_some_iff.1 hT).1 (by rw[hT];simp) (fun g' n' b' es' e=>?_) (fun n' b' es' e=>?_)
   ·rw[hT]at e;cases e;exact Nat.le_refl _
   ·exact⟨none,0,rfl,Nat.le_refl _,by omega,fun _=>rfl,.inl rfl⟩
  |full f n b es=>
   cases h.kill hk with
   |sl _ _ _ _ a len cap cv hlen hcap u9j hb hb1 hn ha hc=>exact .tr (.sl f n b es a len cap cv hlen hcap (fun _=>u9j rfl) hb hb1 hn ha hc)
  |ref=>cases h
  |w4m=>cases h
  |agg=>cases h
  |tup=>cases h
  |cond=>cases h
 |agg vs cs hs' hc ih=>
  cases hu with
  |any=>exact .any _
  |same=>exact VR.kill hk (.agg vs cs hs' hc) hd
  |agg _ cs' hu=>exact .agg vs cs' (by rw[hu.len];exact hs') fun j hj=>ih j (by rw[←hu.len];exact hj) (hu.get j _ hj) (u0B hd j hj)
 |tup vs cs hs' hc ih=>
  cases hu with
  |any=>exact .any _
  |same=>exact VR.kill hk (.tup vs cs hs' hc) hd
  |tup _ cs' hu hl=>
   exact .tup vs cs' (fun j hj _=>hs' j (by rw[←hu.len];exact hj) (List.all_eq_true.1 hl _ (List.getElem_mem _))) fun j hj=>ih j (by rw[←hu.len];exact hj) (hu.get j _ hj) (u0B hd j hj)
 |fn f vf vc first cap hf hc hfc hcc ih1 ih2=>
  cases hu with
  |any=>exact .any _
  |same=>exact VR.kill hk (.fn f vf vc first cap hf hc hfc hcc) hd
 |ref v full o g off len hv ho hr hg h=>
  cases hu with
  |any=>exact .any _
  |same=>exact VR.kill hk (.ref v full o g off len hv ho hr hg h) hd
  |w4m=>exact VR.kill hk (.ref v false o g off len hv ho hr hg fun n b es e=>by
   obtain⟨a,cap,h1,h2,h3,h4,h5⟩:=h n b es e
   exact⟨a,cap,h1,h2,h3,(fun hf=>by cases hf),h5⟩) hd
  |ref _ _ _ _ _ n b es rows hst hT hb hi u7i=>
   subst u7i
   obtain⟨a,cap,e1,e2,e3,e4,e5⟩:=h n b es hst
   subst e1
   have hA:u6V w μ st (μ o) n b es:=hs.obj o _ hst
   have hlen:((es.drop off).take len).length=len:=by simp;omega
   have hrow:∀i (hi:i<((es.drop off).take len).length),((es.drop off).take len)[i]=es[off+i]'(by rw[hlen]at hi;omega):=fun i hi=>by simp
   rcases hA.loc with⟨m0,e0⟩|⟨blk,base,c,ty,em,hh,hsz,hcell⟩
   ·subst e0
    have h0:len=0:=by simp at e3;omega
    subst h0
    refine .tr (.sl false n b _ a 0 cap (fun _ _=>undef) (by simp) e2 (fun hf=>by cases hf) (by simp) hb (fun e he=>by simp at he) (.inl (by simp)) (fun i j hi=>by simp at hi))
   ·have hcv:∀i j,∃u,∀(hi:i<len) (hj:j<n),c[base+((off+i)*n+j)]? =some u∧TR w (own μ T) u ((es[off+i]'(by omega))[j]'(by rw[hA.hn _ (List.getElem_mem _)];exact hj)):=fun i j=>by
     by_cases hc:i<len∧j<n
     ·obtain⟨u,h1,h2,h3⟩:=hcell (off+i) j (by omega) (by rw[hA.hn _ (List.getElem_mem _)];exact hc.2)
      refine⟨u,fun _ _=>⟨h1,?_⟩⟩
      have y1g:=hi (es[off+i]'(by omega)) (List.getElem_mem _)
      rw[List.all_eq_true]at y1g
      exact(x7m h2 (y1g _ (List.getElem_mem _)) h3).kill hk
     ·exact⟨undef,fun hi hj=>absurd ⟨hi,hj⟩ hc⟩
    have y2g:∃cv:Nat→Nat→Value,∀i j (hi:i<len) (hj:j<n),c[base+((off+i)*n+j)]? =some (cv i j)∧TR w (own μ T) (cv i j) ((es[off+i]'(by omega))[j]'(by rw[hA.hn _ (List.getElem_mem _)];exact hj)):=
     ⟨fun i j=>Classical.choose (hcv i j),fun i j hi hj=>Classical.choose_spec (hcv i j) hi hj⟩
    obtain⟨cv,hcv⟩:=y2g
    have hlb:((es.drop off).take len).length*b≤top:=by
     rw[hlen]
     exact Nat.le_trans (Nat.mul_le_mul_right b (show len≤es.length by omega)) hA.x9r
    have hno:¬own μ T blk:=by
     rintro⟨o',ob',base',h1,h2⟩
     obtain⟨ob,h3,_⟩:=hk.sh o' ob' h1
     have:=hs.inj o o' _ _ blk base base' hst h3 em h2
     subst this
     rw[u4G.2 h1]at hT;cases hT
    refine .tr (.sl false n b _ a len cap cv hlen.symm e2 (fun hf=>by cases hf) hlb hb ?_ ?_ ?_)
    ·intro e he
     obtain⟨i,hi',e'⟩:=List.getElem_of_mem he
     rw[hrow i hi']at e'
     rw[←e'];exact hA.hn _ (List.getElem_mem _)
    ·by_cases h0:len=0
     ·subst h0;left;simp
     ·right
      rcases e5 with e5|⟨u8k,base',em',ea,c',ty',hh',hsz'⟩
      ·omega
      ·rw[em]at em';cases em'
       have hlt:blk<w.heap.size:=by
        rcases Nat.lt_or_ge blk w.heap.size with h|h
        ·exact h
        ·rw[Array.getElem?_eq_none h]at hh;cases hh
       refine⟨blk,base+off*n,ea,hlt,hno,fun i j hi' hj=>?_⟩
       rw[hlen]at hi'
       have:=(hcv i j hi' hj).1
       simp only[World.cell?, hh]
       rw[show base+off*n+(i*n+j)=base+((off+i)*n+j)by rw[Nat.add_mul];omega]
       simpa using this
    ·intro i j hi' hj
     have hi2:i<len:=by rw[hlen]at hi';exact hi'
     have hn2:(((es.drop off).take len)[i]).length=n:=by rw[hrow i hi'];exact hA.hn _ (List.getElem_mem _)
     have:=(hcv i j hi2 (by omega)).2
     have e:(((es.drop off).take len)[i])[j]=(es[off+i]'(by omega))[j]'(by rw[hA.hn _ (List.getElem_mem _)];omega):=by
      have:=hrow i hi'
      congr 1
     rw[e];exact this
 |ptr v o g i c hv ho hr hg h=>
  cases hu with
  |any=>exact .any _
  |same=>exact VR.kill hk (.ptr v o g i c hv ho hr hg h) hd
 |mp v o hv ho hr h1 h2=>
  cases hu with
  |any=>exact .any _
  |same=>exact VR.kill hk (.mp v o hv ho hr h1 h2) hd
 |it v o hv ho hr h=>
  cases hu with
  |any=>exact .any _
  |same=>exact VR.kill hk (.it v o hv ho hr h) hd
 |cond v g d h h0 ih=>
  cases hu with
  |any=>exact .any _
  |same=>exact VR.kill hk (.cond v g d h h0) hd
  |cond _ _ d' hu=>exact .cond v g d' (fun e=>ih e hu (hd e)) h0
end
section
variable {P:Program} {gl:Gl} {N n0:Nat} {keep:List Nat} {Q:AQ} {fr:Fr} {st:St} {c:Code} {w:World} {μ:Mu} {T:St}
theorem Sim.wk(hs:Sim w μ st)(hw:w8q st T):Sim w μ T:=by
 have hk:=hw.kill
 refine⟨fun o ob' h=>?_,fun o1 o2 ob1 ob2 blk b1 b2 h1 h2 m1 m2=>?_⟩
 ·obtain⟨ob,h1,h2⟩:=hw.obs o ob' h
  have hob:=hs.obj o ob h1
  have hsc:=hw.sc o ob' h
  cases h2 with
  |same=>
   cases ob' with
   |arr g n b es=>
    obtain⟨a1,a2,a3⟩:=(hob:u6V w μ st (μ o) n b es)
    refine(⟨a1,a2,?_⟩:u6V w μ T (μ o) n b es)
    rcases a3 with a3|⟨blk,base,cc,ty,em,hh,hsz,hc⟩
    ·exact .inl a3
    ·exact .inr ⟨blk,base,cc,ty,em,hh,hsz,fun i j hi hj=>let ⟨v,e,hv,h1⟩:=hc i j hi hj;⟨v,e,hv.kill hk (u0B (hsc _ (List.getElem_mem hi)) j hj),h1⟩⟩
   |mps ag es=>
    obtain⟨blk,ents,clock,ez,em,hh,hsz,hc,hx⟩:=(hob:u6c _ ag w μ _ (μ o) es).loc
    refine(⟨⟨blk,ents,clock,ez,em,hh,hsz,fun i hi=>?_,hx⟩⟩:u6c _ ag w μ T (μ o) es)
    obtain⟨e,e1,e2,e3⟩:=hc i hi
    refine⟨e,e1,e2,?_⟩
    have w1r:=hsc _ (hx.perm.mem_iff.1 (List.getElem_mem hi))
    cases ag with
    |true=>exact VR.kill hk e3 w1r
    |false=>obtain⟨d,a,b⟩:=e3;rw[a]at w1r;exact⟨d,a,b.kill hk w1r.1⟩
   |mpi ag k es=>
    obtain⟨blk,ents,clock,ez,em,hh,hsz,hc,hx⟩:=(hob:u6c _ ag w μ _ (μ o) es).loc
    refine(⟨⟨blk,ents,clock,ez,em,hh,hsz,fun i hi=>?_,hx⟩⟩:u6c _ ag w μ T (μ o) es)
    obtain⟨e,e1,e2,e3⟩:=hc i hi
    refine⟨e,e1,e2,?_⟩
    have w1r:=hsc _ (hx.perm.mem_iff.1 (List.getElem_mem hi))
    cases ag with
    |true=>exact VR.kill hk e3 w1r
    |false=>obtain⟨d,a,b⟩:=e3;rw[a]at w1r;exact⟨d,a,b.kill hk w1r.1⟩
   |sit=>exact hob
   |resv=>exact hob
  |arr g n b es es' hu=>
   obtain⟨u1,u2⟩:=hu.spec
   obtain⟨a1,a2,a3⟩:=(hob:u6V w μ st (μ o) n b es)
   refine(⟨by rw[u1];exact a1,fun e he=>?_,?_⟩:u6V w μ T (μ o) n b es')
   ·obtain⟨i,hi,e1⟩:=List.getElem_of_mem he
    rw[←e1,(u2 i (by omega) hi).len]
    exact a2 _ (List.getElem_mem _)
   ·rcases a3 with⟨a3,a4⟩|⟨blk,base,cc,ty,em,hh,hsz,hc⟩
    ·subst a4;left;exact⟨a3,List.eq_nil_of_length_eq_zero (by simpa using u1)⟩
    ·refine .inr ⟨blk,base,cc,ty,em,hh,by rw[u1];exact hsz,fun i j hi hj=>?_⟩
     have hu':=u2 i (by omega) hi
     obtain⟨v,e,hv,h1⟩:=hc i j (by omega) (by rw[←hu'.len];exact hj)
     exact⟨v,e,VR.up hs hk (hu'.get j _ hj) hv (u0B (hsc _ (List.getElem_mem hi)) j hj),h1⟩
  |mps es es' hu=>
   obtain⟨blk,ents,clock,ez,em,hh,hsz,hc,hx⟩:=(hob:u6c _ false w μ _ (μ o) es).loc
   have hmap:=hu.map hx.nd
   have hperm:(ez.map (enm es')).Perm es':=by
    have:=hx.perm.map (enm es')
    rw[hmap]at this
    exact this
   refine(⟨⟨blk,ents,clock,ez.map (enm es'),em,hh,by rw[List.length_map];exact hsz,fun i hi=>?_,⟨hperm,by rw[hu.keys];exact hx.nd,hx.clk,hx.born⟩⟩⟩:u6c _ false w μ T (μ o) es')
   have hi':i<ez.length:=by simpa using hi
   obtain⟨e,e1,e2,e3⟩:=hc i hi'
   have eg:(ez.map (enm es'))[i]=enm es' ez[i]:=by simp
   obtain⟨d,d',p1,p2,p3⟩:=hu.ent hx.nd (hx.perm.mem_iff.1 (List.getElem_mem hi'))
   obtain⟨d0,q1,q2⟩:=(e3:∃d,ez[i].2=[d]∧VR w μ st e.val d)
   rw[p1]at q1
   cases q1
   have w1r:=hsc _ (hperm.mem_iff.1 (List.getElem_mem hi))
   rw[eg,p2]at w1r
   refine⟨e,e1,by rw[eg];exact e2,?_⟩
   rw[eg]
   exact⟨d',p2,VR.up hs hk p3 q2 w1r.1⟩
 ·obtain⟨y3Z,e1,_⟩:=hw.obs o1 ob1 h1
  obtain⟨y4a,e2,_⟩:=hw.obs o2 ob2 h2
  exact hs.inj o1 o2 _ _ blk b1 b2 e1 e2 m1 m2
theorem u1k.sh{w':World}{m m':Option (Nat×Nat)}{a ob ob':Ob}(h:u1k w w' m m' a ob)(hs:x7l ob ob'):u1k w w' m m' a ob':=by
 cases ob<;>cases ob'<;>first|exact hs.elim|skip
 ·obtain⟨rfl,rfl,rfl,e⟩:=hs
  cases a<;>first|exact h|skip
  refine⟨h.1,fun hg=>?_⟩
  obtain⟨a1,a2,a3,a4,a5⟩:=h.2 hg
  exact⟨a1,a2,by rw[e];exact a3,a4,a5⟩
 ·cases a<;>first|exact h|skip
  exact⟨h.1.trans (Eq.symm hs),h.2⟩
 ·cases a<;>first|exact h|skip
  exact⟨h.1.trans hs.1.symm,h.2.1.trans hs.2.symm,h.2.2⟩
 ·cases a<;>exact h
 ·exact h
theorem Step.wk{w0:World}{μ0:Mu}{st0:St}(hl:st0.length≤T.length)(hw:w8q st T)(h:Step w0 μ0 st0 w μ st):Step w0 μ0 st0 w μ T where
 size:=h.size
 os:=h.os
 output:=h.output
 tape:=h.tape
 imm:=h.imm
 own:=fun blk hb=>h.own blk (hw.kill.own hb)
 len:=hl
 keep:=fun o ob' ho h1=>by
  obtain⟨ob,e1,e2⟩:=hw.obs o ob' h1
  obtain⟨a,a1,a2⟩:=h.keep o ob ho e1
  exact⟨a,a1,a2.sh e2.sh⟩
def w3N(st T:St)(fr:Fr):Fr→Prop
 | []=>True
 |(t,d)::r=>Up st T (fr.get t) d∧w3N st T fr r
theorem w3N.get:∀ {F:Fr},w3N st T fr F→∀t,Up st T (fr.get t) (F.get t)
 | [],_,_=>.any _
 |(k,d)::r,h,t=>by
  simp only[Fr.get]
  split
  ·rename_i e;subst e;exact h.1
  ·exact h.2.get t
structure Bk(n0:Nat)(F:Fr)(T:St)(fr:Fr)(st:St):Prop where
 len:n0≤T.length
 wk:w8q st T
 up:w3N st T fr F
 sc:Fr.sc T.length F
theorem x7n{F:Fr}(hb:Bk n0 F T fr st)(h:AWp P gl N n0 keep c Q F T):AWp P gl N n0 keep c Q fr st:=
 fun w0 μ0 st0 hl0 a w ⟨μ,hc⟩=>h w0 μ0 st0 hl0 a w ⟨μ,hc.sim.wk hb.wk,w0u hc.glob (fun _ h=>hb.wk.kill.own h),
  fun t=>VR.up hc.sim hb.wk.kill (hb.up.get t) (hc.fr t) (Fr.w9n F hb.sc t),hc.size,hc.defers,Step.wk (by rw[hl0];exact hb.len) hb.wk hc.step⟩
def fin(n0:Nat)(R:D→St→Prop)(d:D)(st:St):Prop:=∃T d',n0≤T.length∧w8q st T∧Up st T d d'∧D.sc T.length d'∧R d' T
@[congr] theorem x7o{n:Nat}{st st':St}{R:D→St→Prop}{d d':D}(h:d=d')(h2:st=st'):fin n R d st=fin n R d' st':=by rw[h,h2]
def x8Z(P:Program)(rs:List ResultVar)(n0:Nat)(R:D→St→Prop):AQ
 | .exit _,_,_=>False
 | _,fr,st=>x5W P fr st rs∧fin n0 R (rsD P fr st rs) st
theorem x4E{f:FuncId}{fn:Func}{c:Code}{args:List D}{R:D→St→Prop}{rs:List ResultVar}(keep:List Nat)(hf:P.funcs[f]? =some fn)(hb:fn.body=some c)(hN:fn.ntmps=N)(hr:fn.results.toList=rs)
 (hname:(fn.name != "runtime.NumGoroutine")=true) (hlen:Nat.ble args.length N=true)
 (h:u4w st.length st→AWp P gl N st.length keep c (x8Z P rs st.length R) (w2K 0 args) st):Spec P gl f args st R:=by
 subst hN hr
 have hlen:=Nat.le_of_ble_eq_true hlen
 refine⟨trivial,fun w μ vs hs hg hsz hvs=>.inl ⟨by unfold u3o;rw[hf];simp[hb,hname],?_⟩⟩
 refine calls_of_wp hf hb ?_
 have hc:u7v gl fn.ntmps w μ st (w2K 0 args) st { tmps:=vs++Array.replicate (fn.ntmps-vs.size) undef,defers:=[] } w μ:=by
  refine⟨hs,hg,fun t=>?_,by simp;omega,rfl,Step.refl _ _ _⟩
  rw[w4e]
  split
  ·rename_i ht
   have hts:t<vs.size:=by rw[hsz];omega
   have:=hvs t (by omega)
   rw[Array.getD_eq_getD_getElem?, Array.getElem?_append_left hts, ←Array.getD_eq_getD_getElem?]
   simpa using this
  ·exact .any _
 refine wp_mono (h hs.sc w μ st rfl _ w ⟨μ,hc⟩) fun e a' w' hq=>?_
 have fin:∀fr' st',x8Z P fn.results.toList st.length R .ret fr' st'→w4b gl fn.ntmps w μ st fr' st' a' w'→a'.defers=[]∧∃v,(results fn a'.tmps).run P w'= .ok v w'∧
  ∃v' d w8P μ',Ending.returned v= .returned v'∧R d w8P∧Sim w' μ' w8P∧Step w μ st w' μ' w8P∧VR w' μ' w8P v' d:=by
  rintro fr' st' ⟨y2h,T,d',hle,hw,hu,hsc,hR⟩ ⟨μ',hc'⟩
  obtain⟨v,h1,h2⟩:=w9o hc'.sim hc'.fr (w6B _ y2h)
  exact⟨hc'.defers,v,h1,v,d',T,μ',rfl,hR,hc'.sim.wk hw,Step.wk hle hw hc'.step,VR.up hc'.sim hw.kill hu h2 hsc⟩
 cases e with
 |normal=>obtain⟨fr',st',h1,h2⟩:=hq;exact fin fr' st' h1 h2
 |ret=>obtain⟨fr',st',h1,h2⟩:=hq;exact fin fr' st' h1 h2
 |exit id=>obtain⟨fr',st',h1,h2⟩:=hq;exact h1.elim
 |goto=>exact hq.elim
 |panic=>exact hq.elim
 |outgrown=>exact hq.elim
inductive UpL(st T:St):St→St→Prop
 |nil (l:St):UpL st T l []
 |dead (x:Option Ob) (l l':St) (h:UpL st T l l'):UpL st T (x::l) (none::l')
 |live (ob ob':Ob) (l l':St) (h:w8M st T ob ob') (hl:UpL st T l l'):UpL st T (some ob::l) (some ob'::l')
theorem UpL.lv{ob:Ob}{l l2:St}(h:UpL st T l l2):UpL st T (some ob::l) (some ob::l2):=.live _ _ _ _ (.same _) h
theorem w8M.s{ob:Ob}:w8M st T ob ob:=.same _
theorem Up.s{d:D}:Up st T d d:=.same _
theorem UpL.len:∀ {l l':St},UpL st T l l'→l'.length≤l.length
 | _,_,.nil _=>Nat.zero_le _
 | _,_,.dead _ _ _ h=>by simp[h.len]
 | _,_,.live _ _ _ _ _ h=>by simp[h.len]
theorem UpL.get:∀ {l l':St},UpL st T l l'→∀(j:Nat) (ob':Ob),l'[j]? =some (some ob')→∃ob,l[j]? =some (some ob)∧w8M st T ob ob'
 | _,_,.nil _,j,ob',h=>by simp at h
 | _,_,.dead _ _ _ h,0,ob',e=>by simp at e
 | _,_,.dead _ _ _ h,j+1,ob',e=>by simpa using h.get j ob' (by simpa using e)
 | _,_,.live ob ob2 _ _ h _,0,ob',e=>by simp at e;subst e;exact⟨ob,rfl,h⟩
 | _,_,.live _ _ _ _ _ h,j+1,ob',e=>by simpa using h.get j ob' (by simpa using e)
def ScL(n:Nat):St→Prop
 | []=>True
 |none::l=>ScL n l
 |some ob::l=>ob.sc n∧ScL n l
theorem ScL.get{n:Nat}:∀ {l:St},ScL n l→∀(j:Nat) (ob:Ob),l[j]? =some (some ob)→ob.sc n
 |none::l,h,0,ob,e=>by simp at e
 |some a::l,h,0,ob,e=>by simp at e;subst e;exact h.1
 |none::l,h,j+1,ob,e=>ScL.get (l:=l) h j ob (by simpa using e)
 |some a::l,h,j+1,ob,e=>ScL.get (l:=l) h.2 j ob (by simpa using e)
end
mutual
theorem D.w8r{n m:Nat}(h:n≤m):∀(d:D),D.sc n d→D.sc m d
 | .agg cs,hd=>D.u8Y h cs hd
 | .tup cs,hd=>D.u8Y h cs hd
 | .fn _ a b,hd=>⟨D.u8Y h a hd.1,D.u8Y h b hd.2⟩
 | .ref _ o _ _ _,hd=>(Nat.lt_of_lt_of_le hd h:o<m)
 | .ptr o _ _ _,hd=>(Nat.lt_of_lt_of_le hd h:o<m)
 | .mp o,hd=>(Nat.lt_of_lt_of_le hd h:o<m)
 | .it o,hd=>(Nat.lt_of_lt_of_le hd h:o<m)
 | .cond _ d,hd=>fun e=>D.w8r h d (hd e)
 | .any,_=>trivial
 | .bool _,_=>trivial
 | .int _ _,_=>trivial
 | .str _,_=>trivial
 | .u6b,_=>trivial
 | .r5g,_=>trivial
 | .u3I,_=>trivial
 | .u4v,_=>trivial
 | .sl _ _ _ _,_=>trivial
 | .u8j _,_=>trivial
theorem D.u8Y{n m:Nat}(h:n≤m):∀(l:List D),D.scs n l→D.scs m l
 | [],_=>trivial
 |d::l,hd=>⟨D.w8r h d hd.1,D.u8Y h l hd.2⟩
end
theorem Ob.w8r{n m:Nat}(h:n≤m){ob:Ob}(hs:ob.sc n):ob.sc m:=by
 cases ob with
 |arr=>exact fun e he=>D.u8Y h _ (hs e he)
 |mps=>exact fun e he=>D.u8Y h _ (hs e he)
 |mpi=>exact fun e he=>D.u8Y h _ (hs e he)
 |sit=>trivial
 |resv=>trivial
theorem w9P{d:D}(h:d.imm=true)(n:Nat):D.sc n d:=by cases d<;>first|trivial|cases h
theorem Imm.sc{rows:List (List D)}(h:Imm rows)(n:Nat):∀e∈rows,D.scs n e:=fun e he=>
 u7I fun j hj=>w9P (List.all_eq_true.1 (h e he) _ (List.getElem_mem _)) n
theorem w2S{s l l':St}(hs:u4w s.length s)(hu:UpL (s++l) (s++l') l l')(hl:ScL (s++l').length l'):w8q (s++l) (s++l'):=by
 refine⟨by simp;exact hu.len,fun o ob' h=>?_,fun o ob' h=>?_⟩
 ·rcases Nat.lt_or_ge o s.length with ho|ho
  ·rw[List.getElem?_append_left ho]at h
   exact⟨ob',by rw[List.getElem?_append_left ho];exact h,.same _⟩
  ·rw[List.getElem?_append_right ho]at h
   obtain⟨ob,h1,h2⟩:=hu.get _ _ h
   exact⟨ob,by rw[List.getElem?_append_right ho];exact h1,h2⟩
 ·rcases Nat.lt_or_ge o s.length with ho|ho
  ·rw[List.getElem?_append_left ho]at h
   exact Ob.w8r (by simp) (hs o ob' h)
  ·rw[List.getElem?_append_right ho]at h
   exact hl.get _ _ h
theorem u8Z{s l:St}(hs:u4w s.length s):w8q (s++l) s:=by
 have:=w2S (l:=l) (l':=[]) hs (.nil l) trivial
 rwa[List.append_nil]at this
theorem w2T{s:St}(hs:u4w s.length s):w8q s s:=by
 have:=u8Z (l:=[]) hs
 rwa[List.append_nil]at this
section
variable {P:Program} {gl:Gl} {N n0:Nat} {keep:List Nat} {Q:AQ} {fr:Fr} {st:St} {c:Code} {w:World} {μ:Mu} {T:St}
theorem w8L.refl(st:St):w8L st st:=⟨Nat.le_refl _,fun o ob h=>⟨ob,h,by cases ob<;>simp[x7l]⟩⟩
theorem Spec.up{f:FuncId}{args args':List D}{R:D→St→Prop}(h:Spec P gl f args' st R)(hu:Ups st st args args')(hsc:D.scs st.length args'):Spec P gl f args st R:=
 ⟨h.1,fun w μ vs h1 h2 h3 h4=>h.2 w μ vs h1 h2 (h3.trans hu.len.symm) fun j hj=>VR.up h1 (w8L.refl st) (hu.get j (by rw[←hu.len];exact hj) hj) (h4 j (by rw[←hu.len];exact hj)) (u0B hsc j hj)⟩
theorem Pure.up{f:FuncId}{args args':List D}{r:D}(h:Pure P gl f args' r)(hu:∀st,Ups st st args args')(hi:args'.all D.imm=true∨∀n,D.scs n args'):Pure P gl f args r:=fun st=>
 (h st).up (hu st) (hi.elim (fun hi=>u7I fun j _=>w9P (List.all_eq_true.1 hi _ (List.getElem_mem _)) _) (fun h=>h _))
theorem x7p(hs:Sim w μ st)(n b:Nat):
 Sim w (upd μ st.length none) (st++[some (.arr 0 n b [])])∧Step w μ st w (upd μ st.length none) (st++[some (.arr 0 n b [])]):=by
 have look:∀o ob,(st++[some (Ob.arr 0 n b [])])[o]? =some (some ob)→(o<st.length∧st[o]? =some (some ob))∨(o=st.length∧ob= .arr 0 n b []):=by
  intro o ob h
  rcases Nat.lt_or_ge o st.length with hl|hl
  ·rw[List.getElem?_append_left hl]at h;exact .inl ⟨hl,h⟩
  ·rw[List.getElem?_append_right hl]at h
   have:o-st.length=0:=by
    rcases Nat.eq_zero_or_pos (o-st.length)with h0|h0
    ·exact h0
    ·rw[List.getElem?_eq_none (by simp;omega)]at h;cases h
   rw[this]at h
   simp at h
   exact .inr ⟨by omega,h.symm⟩
 have step:Step w μ st w (upd μ st.length none) (st++[some (.arr 0 n b [])]):=by
  refine⟨Nat.le_refl _,rfl,rfl,⟨rfl,Nat.le_refl _⟩,fun _ _ _=>rfl,fun blk hw=>?_,by simp,fun o ob hl h=>?_⟩
  ·obtain⟨o,ob,base,h,hm⟩:=hw
   rcases look o ob h with⟨hl,h⟩|⟨e,_⟩
   ·rw[r8S μ _ _ (by omega)]at hm;exact .inl ⟨o,ob,base,h,hm⟩
   ·subst e;rw[r5Z]at hm;cases hm
  ·rw[List.getElem?_append_left hl]at h
   refine⟨ob,h,?_⟩
   rw[r8S μ _ _ (by omega)]
   exact u1k.refl _ _ _
 refine⟨⟨fun o ob h=>?_,fun o1 o2 ob1 ob2 blk b1 b2 h1 h2 m1 m2=>?_⟩,step⟩
 ·rcases look o ob h with⟨hl,h⟩|⟨e,e2⟩
  ·rw[r8S μ _ _ (by omega)]
   exact(hs.obj o ob h).step step (fun _ _ _=>rfl)
  ·subst e;subst e2
   exact(⟨by simp[top],fun e he=>(by cases he),.inl ⟨r5Z _ _ _,rfl⟩⟩:u6V w _ _ _ n b [])
 ·rcases look o1 ob1 h1 with⟨l1,h1⟩|⟨e,_⟩
  ·rcases look o2 ob2 h2 with⟨l2,h2⟩|⟨e,_⟩
   ·rw[r8S μ _ _ (by omega)]at m1 m2
    exact hs.inj _ _ _ _ _ _ _ h1 h2 m1 m2
   ·subst e;rw[r5Z]at m2;cases m2
  ·subst e;rw[r5Z]at m1;cases m1
theorem r9q(n b:Nat)(h:AWp P gl N n0 keep c Q fr (st++[some (.arr 0 n b [])])):AWp P gl N n0 keep c Q fr st:=
 fun w0 μ0 st0 hl0 a w ⟨_,hc⟩=>h w0 μ0 st0 hl0 a w (let ⟨k1,k2⟩:=x7p hc.sim n b;⟨_,k1,hc.glob.step k2,hc.fr.step k2,hc.size,hc.defers,hc.step.trans k2⟩)
theorem w2U{s l:St}{d d':D}{R:D→St→Prop}(hsc:u4w s.length s)(hu:Up (s++l) s d d')(hd:D.sc s.length d')(h:R d' s):fin s.length R d (s++l):=
 ⟨s,d',Nat.le_refl _,u8Z hsc,hu,hd,h⟩
end
theorem w0z{s t:St}{k:Nat}:(s++t)[s.length+k]? =t[k]? :=by
 rw[List.getElem?_append_right (by omega)];congr 1;omega
theorem x1H{s:St}{k:Nat}:look s (s.length+k)=none:=by
 unfold look;rw[List.getElem?_eq_none (by omega)];rfl
attribute [go_sem] x8Z
section
variable {P:Program} {gl:Gl} {N n0:Nat} {keep:List Nat} {Q:AQ} {fr:Fr} {st:St}
theorem w9Q{w:World}{t e:TypeId}(hu:P.underlying t=some (.slice e))(a:Option Addr)(l c:Nat)(ox oy:Operand):
 (do eqGuard .eql t ox oy (.slice a l c) (.slice none 0 0);binOp .eql t (.slice a l c) (.slice none 0 0):Sem Value).run P w= .ok (.bool a.isNone) w:=by
 have h1:(eqGuard .eql t ox oy (.slice a l c) (.slice none 0 0)).run P w= .ok () w:=by unfold eqGuard;simp
 have h2':∀d,(Op.equalIn (d+1) t (.slice a l c) (.slice none 0 0)).run P w= .ok a.isNone w:=fun d=>by
  cases a<;>simp[Op.equalIn,run_underlying hu]
 have h2:(Op.equalIn 10000 t (.slice a l c) (.slice none 0 0)).run P w= .ok a.isNone w:=h2' 9999
 simp only[Sem.run_bind,h1,Result.andThen_ok,binOp,Op.equal,Op.maxDepth,h2]
 rfl
theorem w4n{id:Nat}{x a b:Nat}{t:TypeId}{ty1 ty2 ty3:TypeId}{p1 p2:String}{e1 e2:Array Edge}{f:Bool}{n bb:Nat}{es:List (List D)}
 (hx:fr.get x= .sl f n bb es) (hk:∃e,(r5c P t).k= .slice e) (ha:a<N) (hb:b<N)
 (h:∀c:Bool,(c=true→es=[])→Q .normal (Fr.only keep ((fr.put a (.sl f n bb es)).put b (.bool c))) st):
 AWp P gl N n0 keep (.region id #[⟨some a,.move (.tmp x),ty1,p1,e1,none⟩,⟨some b,.binOp .eql t (.tmp a) (.const (.slice none 0 0)) ty3,ty2,p2,e2,none⟩] false) Q fr st:=by
 intro w0 μ0 st0 hl act w ⟨μ,hc⟩
 obtain⟨e,hk⟩:=hk
 have hu:=u0K hk
 refine wp_region ?_
 have hr:List.range 2=[0,1]:=rfl
 show wpOps P _ _ (List.range 2) act w
 rw[hr,wpOps_cons]
 obtain⟨nx,v,w',μ',h1,h2,h3⟩:=w6H (P:=P) (q:=0) (o:=⟨some a,.move (.tmp x),ty1,p1,e1,none⟩) hc (by simp only[aop,eok,ev,hx,w2J]) ha (fun h=>by cases h)
 have hd:(aop P gl true (.move (.tmp x)) fr (look st) 0).d= .sl f n bb es:=by simp only[aop,ev1,ev,hx,strip]
 have hst:(aop P gl true (.move (.tmp x)) fr (look st) 0).app 0 st=st:=rfl
 simp only[hst,hd]at h3
 have second:wpOps P #[⟨some a,.move (.tmp x),ty1,p1,e1,none⟩,⟨some b,.binOp .eql t (.tmp a) (.const (.slice none 0 0)) ty3,ty2,p2,e2,none⟩] (cq gl N w0 μ0 st0 Q) [1] (act.put (some a) v) w':=by
  rw[wpOps_cons]
  have hva:=h3.fr a
  simp only[Fr.u5c,Fr.w0m,if_pos]at hva
  have hv:∃ad l c,(act.put (some a) v).tmps.getD a undef= .slice ad l c∧(ad=none→es=[]):=by
   generalize (act.put (some a) v).tmps.getD a undef=u at hva
   cases hva with
   |tr h=>cases h with
    |sl _ _ _ _ ad len cap cv _ _ _ _ _ _ ha' _=>
     refine⟨ad,len,cap,rfl,fun e=>?_⟩
     rcases ha' with h|⟨_,_,h,_⟩
     ·exact h
     ·rw[e]at h;cases h
  obtain⟨ad,l,c,hv1,hv2⟩:=hv
  have hrun:=w9Q (w:=w') hu ad l c (.tmp a) (.const (.slice none 0 0))
  have hex:(execOp (act.put (some a) v).eval ⟨some b,.binOp .eql t (.tmp a) (.const (.slice none 0 0)) ty3,ty2,p2,e2,none⟩).run P w'= .ok (.value (.bool ad.isNone)) w':=by
   have e1:(act.put (some a) v).eval (.tmp a)= .slice ad l c:=hv1
   have:execOp (act.put (some a) v).eval ⟨some b,.binOp .eql t (.tmp a) (.const (.slice none 0 0)) ty3,ty2,p2,e2,none⟩=
    (do pure (.value (←(do eqGuard .eql t (.tmp a) (.const (.slice none 0 0)) ((act.put (some a) v).eval (.tmp a)) (.slice none 0 0);binOp .eql t ((act.put (some a) v).eval (.tmp a)) (.slice none 0 0):Sem Value)))):=rfl
   rw[this,e1,Sem.run_bind,hrun];rfl
  have w8s:u7v gl N w0 μ0 st0 ((fr.put a (.sl f n bb es)).u5c (some b) (.bool ad.isNone)) st ((act.put (some a) v).put (some b) (.bool ad.isNone)) w' μ':=
   ⟨h3.sim,h3.glob,h3.fr.put (r8T _ _ _ _) (by rw[h3.size];exact hb),by simp[Act.put,h3.size];exact hc.size,by simpa[Act.put]using h3.defers,h3.step⟩
  simp only[wpOp,List.getElem?_toArray,List.getElem?_cons_succ,List.getElem?_cons_zero,Region.wanted,if_true]
  left
  unfold Oper.wp
  rw[hex]
  exact⟨_,_,h ad.isNone (fun e=>hv2 (by simpa using e)),μ',w8s.sim,w8s.glob,w8s.fr.only keep,w8s.size,w8s.defers,w8s.step⟩
 simp only[wpOp,List.getElem?_toArray,List.getElem?_cons_succ,List.getElem?_cons_zero,Region.wanted,if_true]
 left
 unfold Oper.wp
 rw[h1]
 rcases h2 with rfl|⟨rfl,rfl⟩<;>exact second
end
def wr(k:IntKind)(n:Int):Int:=k.wrap n
def get{α:Type}[Inhabited α](l:List α)(k:Nat):α:=l.getD k default
def chk{α:Type}(p:Prop)[Decidable p](x:Option α):Option α:=if p then x else none
def r9F{α β:Type}(a:α)(f:α→Option β):Option β:=f a
def gd{α:Type}(G:Bool)(x:Option α)(d:α):Option α:=bif G then x else some d
inductive Ctl(ρ σ τ:Type) where
 |nxt (s:σ)
 |brk (t:τ)
 |ret (x:ρ)
inductive Ex(ρ τ:Type) where
 |nxt (t:τ)
 |ret (x:ρ)
def r5r{ρ τ:Type}(x:Option (Ex ρ τ))(k:τ→Option ρ):Option ρ:=
 match x with
 |none=>none
 |some (.nxt t)=>k t
 |some (.ret r)=>some r
def r6G{ρ σ τ:Type}(body:σ→Option (Ctl ρ σ τ)):Nat→σ→Option (Ex ρ τ)
 |0,_=>none
 |n+1,s=>match body s with
  |none=>none
  |some (.nxt s')=>r6G body n s'
  |some (.brk t)=>some (.nxt t)
  |some (.ret x)=>some (.ret x)
def r9w{ρ σ:Type}(body:Nat→σ→Option (Ctl ρ σ σ)):Nat→Nat→σ→Option (Ex ρ σ)
 |0,_,s=>some (.nxt s)
 |m+1,k,s=>match body k s with
  |none=>none
  |some (.nxt s')=>r9w body m (k+1) s'
  |some (.brk s')=>some (.nxt s')
  |some (.ret x)=>some (.ret x)
def r5J{ρ σ:Type}(body:Nat→σ→Option (Ctl ρ σ σ))(n:Nat)(s:σ):Option (Ex ρ σ):=r9w body n 0 s
section
variable {α β ρ σ τ:Type}
theorem x1I{p:Prop}[Decidable p]{x:Option α}{e:α}(h:chk p x=some e):p∧x=some e:=by
 unfold chk at h
 split at h
 ·rename_i hp;exact⟨hp,h⟩
 ·cases h
theorem x4F{p:Prop}[Decidable p]{x:Option α}(hp:p):chk p x=x:=if_pos hp
theorem u2v{a:α}{f:α→Option β}{e:β}(h:r9F a f=some e):∃y,y=a∧f y=some e:=⟨a,rfl,h⟩
theorem r7G{x:Option α}{f:α→Option β}{e:β}(h:x.bind f=some e):∃v,x=some v∧f v=some e:=Option.bind_eq_some_iff.1 h
theorem x7q{c:Bool}{a b:Option α}{e:α}(h:(bif c then a else b)=some e)(hc:c=true):a=some e:=by subst hc;exact h
theorem x7r{c:Bool}{a b:Option α}{e:α}(h:(bif c then a else b)=some e)(hc:c=false):b=some e:=by subst hc;exact h
theorem w1s{G:Bool}{x:Option α}{d v:α}(h:gd G x d=some v)(hG:G=true):x=some v:=by subst hG;exact h
theorem y2i{G:Bool}{x:Option α}{d v:α}(h:gd G x d=some v)(hG:G=false):v=d:=by subst hG;cases h;rfl
end
def rows{α:Type}(E:α→List D)(l:List α):List (List D):=l.map E
class u4x{α:Type}(E:α→List D)(n:outParam Nat):Prop where
 len:∀x,(E x).length=n
 one:∀x,(E x).all D.one=true
 imm:∀x,(E x).all D.imm=true
def bytesOf(s:Bs):List Int:=s.map fun c=>(c.toNat:Int)
def u0I(x:Int):List D:=[.int .i64 x]
def x9a(x:Int):List D:=[.int .u64 x]
def x9b(x:Int):List D:=[.int .i32 x]
def u8c(x:Int):List D:=[.int .u8 x]
def u2l(x:Bool):List D:=[.bool x]
def r4X(x:Bs):List D:=[.str x]
def slc{α:Type}(n b:Nat)(E:α→List D)(x:List α):List D:=[.sl false n b (rows E x)]
instance:u4x u0I 1:=⟨fun _=>rfl,fun _=>rfl,fun _=>rfl⟩
instance:u4x x9a 1:=⟨fun _=>rfl,fun _=>rfl,fun _=>rfl⟩
instance:u4x x9b 1:=⟨fun _=>rfl,fun _=>rfl,fun _=>rfl⟩
instance:u4x u8c 1:=⟨fun _=>rfl,fun _=>rfl,fun _=>rfl⟩
instance:u4x u2l 1:=⟨fun _=>rfl,fun _=>rfl,fun _=>rfl⟩
instance:u4x r4X 1:=⟨fun _=>rfl,fun _=>rfl,fun _=>rfl⟩
instance{α:Type}{n b:Nat}{E:α→List D}:u4x (slc n b E) 1:=⟨fun _=>rfl,fun _=>rfl,fun _=>rfl⟩
section
variable {α:Type} {E:α→List D} {n:Nat}
theorem u6P(l:List α):(rows E l).length=l.length:=by simp[rows]
theorem x4G(x:α)(l:List α):rows E (x::l)=E x::rows E l:=rfl
theorem r5y(l m:List α):rows E l++rows E m=rows E (l++m):=by simp[rows]
theorem w9R(l:List α)(k:Nat):(rows E l).take k=rows E (l.take k):=by simp[rows,List.map_take]
theorem x7s(l:List α)(k:Nat):(rows E l).drop k=rows E (l.drop k):=by simp[rows,List.map_drop]
theorem y1h(l:List α)(k:Nat)(x:α):(rows E l).set k (E x)=rows E (l.set k x):=by simp[rows]
theorem x7t(l:List α):l.take l.length=l:=List.take_length
theorem r8h[Inhabited α](l:List α)(k:Nat):(rows E l).getD k (E default)=E (get l k):=by
 simp only[rows,List.getD_eq_getElem?_getD,get,List.getElem?_map]
 cases l[k]? <;>rfl
theorem w9S[Inhabited α]{l:List α}{k:Nat}{d:List D}(h:k<l.length):(rows E l).getD k d=E (get l k):=by
 simp[rows,get,h]
theorem u4I[h:u4x E n](l:List α):Imm (rows E l):=by
 intro e he
 obtain⟨s,_,rfl⟩:=List.mem_map.1 he
 exact h.imm s
theorem x9c[h:u4x E n](l:List α)(m:Nat):(∀e∈rows E l,D.scs m e)=True:=eq_true (Imm.sc (u4I l) m)
theorem x9Q(x:Int):u0I x=[.int .i64 x]:=rfl
theorem x9R(x:Int):x9a x=[.int .u64 x]:=rfl
theorem x9S(x:Int):x9b x=[.int .i32 x]:=rfl
theorem y1i(x:Int):u8c x=[.int .u8 x]:=rfl
theorem x9d(x:Bool):u2l x=[.bool x]:=rfl
theorem x9T(x:Bs):r4X x=[.str x]:=rfl
theorem y1j{a b:Nat}(x:List α):slc a b E x=[.sl false a b (rows E x)]:=rfl
theorem x4H(l:List Int)(k:Nat):(rows u0I l).getD k [.int .i64 0]=[.int .i64 (get l k)]:=r8h (E:=u0I) l k
theorem x9U(l:List Int)(k:Nat):(rows x9a l).getD k [.int .u64 0]=[.int .u64 (get l k)]:=r8h (E:=x9a) l k
theorem x9V(l:List Int)(k:Nat):(rows x9b l).getD k [.int .i32 0]=[.int .i32 (get l k)]:=r8h (E:=x9b) l k
theorem y1k(l:List Int)(k:Nat):(rows u8c l).getD k [.int .u8 0]=[.int .u8 (get l k)]:=r8h (E:=u8c) l k
theorem x9e(l:List Bool)(k:Nat):(rows u2l l).getD k [.bool false]=[.bool (get l k)]:=r8h (E:=u2l) l k
theorem x9W(l:List Bs)(k:Nat):(rows r4X l).getD k [.str []]=[.str (get l k)]:=r8h (E:=r4X) l k
theorem y1l{a b:Nat}(l:List (List α))(k:Nat):(rows (slc a b E) l).getD k [.sl false a b []]=[.sl false a b (rows E (get l k))]:=r8h (E:=slc a b E) l k
end
theorem x3G(s:Bs):u2s s=rows u8c (bytesOf s):=by simp[u2s,rows,bytesOf,u8c]
def mrw{κ α:Type}(E:α→List D)(m:List (κ×α)):List (κ×List D):=m.map fun p=>(p.1,E p.2)
theorem x9X{κ α:Type}{E:α→List D}(m:List (κ×α)):(mrw E m).length=m.length:=by simp[mrw]
theorem x7u{κ α:Type}[DecidableEq κ]{E:α→List D}(k:κ)(m:List (κ×α)):assoc k (mrw E m)=(assoc k m).map E:=by
 induction m with
 |nil=>rfl
 |cons p m ih=>
  obtain⟨a,v⟩:=p
  simp only[mrw,List.map_cons,assoc]at ih⊢
  split
  ·rfl
  ·exact ih
theorem u4W{κ α:Type}[DecidableEq κ]{E:α→List D}(k:κ)(v:α)(m:List (κ×α)):r5j k (E v) (mrw E m)=mrw E (r5j k v m):=by
 induction m with
 |nil=>rfl
 |cons p m ih=>
  obtain⟨a,u⟩:=p
  simp only[mrw,List.map_cons,r5j]at ih⊢
  split
  ·rfl
  ·simp only[List.map_cons];rw[ih]
theorem x4I{a b:Nat}{z dd:List D}{o:Option Int}:u1m ⟨a,b,z,dd,some (.int .i64 0),.int .i64⟩ (o.map u0I)= .int .i64 (o.getD default):=by cases o<;>rfl
theorem x3H{a b:Nat}{z dd:List D}{o:Option Bool}:u1m ⟨a,b,z,dd,some (.bool false),.bool⟩ (o.map u2l)= .bool (o.getD default):=by cases o<;>rfl
theorem x4J{a b:Nat}{z dd:List D}{o:Option Bs}:u1m ⟨a,b,z,dd,some (.str []),.str⟩ (o.map r4X)= .str (o.getD default):=by cases o<;>rfl
theorem x9Y{κ α:Type}{E:α→List D}{n:Nat}[h:u4x E n](l:List (κ×α))(m:Nat):(∀(a:κ) (b:List D),(a,b)∈mrw E l→D.scs m b)=True:=by
 refine eq_true fun a b hb=>?_
 obtain⟨⟨x,y⟩,h1,h2⟩:=List.mem_map.1 hb
 cases h2
 exact u7I fun j hj=>w9P (List.all_eq_true.1 (h.imm y) _ (List.getElem_mem _)) m
section
variable {P:Program} {gl:Gl} {N n0:Nat} {keep:List Nat} {Q:AQ} {fr:Fr} {st:St}
theorem u3q{c:Code}(h:AWp P gl N n0 keep c Q fr st):AWp P gl N n0 keep (.scope c) Q fr st:=
 fun w0 μ0 st0 hl a w hc=>wp_scope_straight (wp_mono (h w0 μ0 st0 hl a w hc) fun e a' w' hq=>by
  cases e<;>exact hq)
theorem u3r{l:Nat}(h:Q .normal fr st):AWp P gl N n0 keep (.label l) Q fr st:=
 fun w0 μ0 st0 hl a w hc=>wp_label ⟨fr,st,h,hc⟩
end
def w2i{α:Type}(E:α→List D)(l:List α):List D:=(rows E l).flatten
theorem w4o{α:Type}[Inhabited α]{E:α→List D}{l:List α}{k n:Nat}(hn:∀a,(E a).length=n)(hk:k<l.length):rowAt (w2i E l) k n=E (get l k):=by
 induction l generalizing k with
 |nil=>cases hk
 |cons a l ih=>
  have e:w2i E (a::l)=E a++w2i E l:=by simp[w2i,rows]
  rw[e]
  cases k with
  |zero=>simp only[rowAt,Nat.zero_mul,List.drop_zero];rw[←hn a,List.take_left];rfl
  |succ k=>
   have h2:rowAt (E a++w2i E l) (k+1) n=rowAt (w2i E l) k n:=by
    simp only[rowAt]
    rw[show(k+1)*n=(E a).length+k*n by rw[hn a,Nat.succ_mul,Nat.add_comm], ←List.drop_drop,List.drop_left]
   rw[h2];exact ih (by simpa using hk)
theorem x2u{α:Type}(l:List α)(k:Nat):(l.drop k).take (l.length-k)=l.drop k:=List.take_of_length_le (by rw[List.length_drop];exact Nat.le_refl _)
theorem x7v{st:St}(a b:Nat):st.length+a+b=st.length+(a+b):=Nat.add_assoc _ _ _
theorem x7w{G:Bool}:u5Z G True=True:=by simp[u5Z]
theorem x9f{G:Bool}{p q:Prop}:u5Z G (p∧q)=(u5Z G p∧u5Z G q):=by unfold u5Z;exact propext ⟨fun h=>⟨fun e=>(h e).1,fun e=>(h e).2⟩,fun h e=>⟨h.1 e,h.2 e⟩⟩
instance{G:Bool}{p:Prop}[Decidable p]:Decidable (u5Z G p):=by unfold u5Z;exact inferInstance
instance{k:IntKind}{n:Int}:Decidable (InK k n):=by unfold InK;exact inferInstance
theorem x9g(k:IntKind)(n:Int):arith k n=⟨.int k (wr k n),True,[],none,none⟩:=rfl
theorem x9Z(k:IntKind)(n:Int):k.wrap n=wr k n:=rfl
theorem u0Y{n:Int}(h1: -9223372036854775808≤n)(h2:n≤9223372036854775807):wr .i64 n=n:=by
 unfold wr
 exact w5v (k:=.i64) ⟨h1,h2⟩
theorem w8t{k n:Nat}(hk:k<n)(h:n≤9223372036854775807):wr .i64 ((k:Int)+1)=((k+1:Nat):Int):=by
 rw[u0Y (by omega) (by omega)];omega
section
variable {P:Program} {gl:Gl} {N n0:Nat} {keep:List Nat} {Q:AQ} {fr:Fr} {st:St} {c x:Code} {id:Nat}
inductive BkS(n0:Nat)(F:Fr)(T:St):Fr→St→Prop
 |nil:BkS n0 F T F T
 |cons {F' fr:Fr} {T' st:St} (h:Bk n0 F' T' fr st) (ht:BkS n0 F T F' T'):BkS n0 F T fr st
theorem BkS.one{F:Fr}{T:St}(h:Bk n0 F T fr st):BkS n0 F T fr st:=.cons h .nil
theorem BkS.trans{F F':Fr}{T T':St}(h:BkS n0 F' T' fr st)(h2:BkS n0 F T F' T'):BkS n0 F T fr st:=by
 induction h with
 |nil=>exact h2
 |cons h _ ih=>exact .cons h ih
theorem r6O{F:Fr}{T:St}(hb:BkS n0 F T fr st)(h:AWp P gl N n0 keep c Q F T):AWp P gl N n0 keep c Q fr st:=by
 induction hb with
 |nil=>exact h
 |cons hb _ ih=>exact x7n hb ih
theorem w5R{s l l':St}{F:Fr}(hsc:u4w s.length s)(hu:UpL (s++l) (s++l') l l')(hl:ScL (s++l').length l')(hf:w3N (s++l) (s++l') fr F)(hs:Fr.sc (s++l').length F):
 BkS s.length F (s++l') fr (s++l):=.one ⟨by simp,w2S hsc hu hl,hf,hs⟩
theorem w9T{s l:St}{F:Fr}(hsc:u4w s.length s)(hf:w3N (s++l) s fr F)(hs:Fr.sc s.length F):BkS s.length F s fr (s++l):=.one ⟨Nat.le_refl _,u8Z hsc,hf,hs⟩
theorem x2v{s:St}{F:Fr}(hsc:u4w s.length s)(hf:w3N s s fr F)(hs:Fr.sc s.length F):BkS s.length F s fr s:=.one ⟨Nat.le_refl _,w2T hsc,hf,hs⟩
theorem w2V{s t:St}:(s++t)[s.length]? =t[0]? :=w0z (k:=0)
theorem w4p{s:St}:look s s.length=none:=x1H (k:=0)
theorem w0A{s t:St}{k:Nat}(h:t.length≤k):look (s++t) (s.length+k)=none:=by
 unfold look;rw[List.getElem?_eq_none (by simp;omega)];rfl
theorem u7O{s:St}{d d':D}{R:D→St→Prop}(hsc:u4w s.length s)(hu:Up s s d d')(hd:D.sc s.length d')(h:R d' s):fin s.length R d s:=
 ⟨s,d',Nat.le_refl _,w2T hsc,hu,hd,h⟩
def x6e(P:Program)(rs:List ResultVar)(n0:Nat)(R:D→St→Prop):AQ
 | .exit _,_,_=>False
 | _,fr,st=>∃F T,BkS n0 F T fr st∧x5W P F T rs∧fin n0 R (rsD P F T rs) T
theorem x6f{rs:List ResultVar}{R:D→St→Prop}(h:x8Z P rs n0 R .ret fr st):x6e P rs n0 R .ret fr st:=⟨fr,st,.nil,h.1,h.2⟩
theorem w6S{rs:List ResultVar}{R:D→St→Prop}(h:x8Z P rs n0 R .ret fr st):x6e P rs n0 R .normal fr st:=⟨fr,st,.nil,h.1,h.2⟩
theorem u9L{rs:List ResultVar}{R:D→St→Prop}{F:Fr}{T:St}(hb:BkS n0 F T fr st)(h:x6e P rs n0 R .normal F T):x6e P rs n0 R .normal fr st:=by
 obtain⟨F',T',h1,h2⟩:=h
 exact⟨F',T',hb.trans h1,h2⟩
theorem w4b.bks{w0:World}{μ0:Mu}{st0:St}{a:Act}{w:World}{F:Fr}{T:St}(hl0:st0.length=n0)(hb:BkS n0 F T fr st)(h:w4b gl N w0 μ0 st0 fr st a w):w4b gl N w0 μ0 st0 F T a w:=by
 induction hb with
 |nil=>exact h
 |cons hb _ ih=>
  obtain⟨μ,hc⟩:=h
  exact ih ⟨μ,hc.sim.wk hb.wk,w0u hc.glob (fun _ h=>hb.wk.kill.own h),
   fun t=>VR.up hc.sim hb.wk.kill (hb.up.get t) (hc.fr t) (Fr.w9n _ hb.sc t),hc.size,hc.defers,Step.wk (by rw[hl0];exact hb.len) hb.wk hc.step⟩
theorem y0a{f:FuncId}{fn:Func}{c:Code}{args:List D}{R:D→St→Prop}{rs:List ResultVar}(keep:List Nat)(hf:P.funcs[f]? =some fn)(hb:fn.body=some c)(hN:fn.ntmps=N)(hr:fn.results.toList=rs)
 (hname:(fn.name != "runtime.NumGoroutine")=true) (hlen:Nat.ble args.length N=true)
 (h:u4w st.length st→AWp P gl N st.length keep c (x6e P rs st.length R) (w2K 0 args) st):Spec P gl f args st R:=by
 refine x4E keep hf hb hN hr hname hlen fun hsc=>?_
 intro w0 μ0 st0 hl a w hc
 refine wp_mono (h hsc w0 μ0 st0 hl a w hc) fun e a' w' hq=>?_
 cases e with
 |normal=>
  obtain⟨fr',st',⟨F,T,h1,h2,h3⟩,h4⟩:=hq
  exact⟨F,T,⟨h2,h3⟩,h4.bks hl h1⟩
 |ret=>
  obtain⟨fr',st',⟨F,T,h1,h2,h3⟩,h4⟩:=hq
  exact⟨F,T,⟨h2,h3⟩,h4.bks hl h1⟩
 |exit id=>obtain⟨fr',st',h1,h2⟩:=hq;exact h1.elim
 |goto=>exact hq.elim
 |panic=>exact hq.elim
 |outgrown=>exact hq.elim
theorem r9E{σ Γ ρ:Type}(K:σ→Option ρ)(e:ρ)(F:Γ→σ→Fr)(T:Γ→σ→St)(hk:∀γ s fr st,K s=some e→BkS n0 (F γ s) (T γ s) fr st→Q .normal fr st)
 (hx:(∀γ s fr st,K s=some e→BkS n0 (F γ s) (T γ s) fr st→Q .normal fr st)→AWp P gl N n0 keep x Q fr st):AWp P gl N n0 keep x Q fr st:=hx hk
def PBr{Γ ρ σ:Type}(n0 id:Nat)(F:Γ→Nat→σ→Fr)(T:Γ→Nat→σ→St)(Fb:Γ→σ→Fr)(Tb:Γ→σ→St)(Q:AQ)(k:Nat):Ctl ρ σ σ→AQ
 | .nxt s=>fun ex fr st=>ex= .normal∧∃γ,BkS n0 (F γ (k+1) s) (T γ (k+1) s) fr st
 | .brk s=>fun ex fr st=>ex= .exit id∧∃γ,BkS n0 (Fb γ s) (Tb γ s) fr st
 | .ret _=>fun ex fr st=>ex≠ .normal∧AQ.block id Q ex fr st
theorem arg_{Γ ρ σ:Type}{body:Nat→σ→Option (Ctl ρ σ σ)}{n:Nat}{s0:σ}{kk:σ→Option ρ}{e:ρ}(F:Γ→Nat→σ→Fr)(T:Γ→Nat→σ→St)(Fb:Γ→σ→Fr)(Tb:Γ→σ→St)(γ0:Γ)
 (h:r5r (r5J body n s0) kk=some e)
 (h0:BkS n0 (F γ0 0 s0) (T γ0 0 s0) fr st)
 (hs:∀γ k s b,k<n→body k s=some b→(∀x,b= .ret x→x=e)→AWp P gl N n0 keep c (PBr n0 id F T Fb Tb Q k b) (F γ k s) (T γ k s))
 (he:∀γ s,AWp P gl N n0 keep c (fun ex fr st=>ex= .exit id∧∃γ',BkS n0 (Fb γ' s) (Tb γ' s) fr st) (F γ n s) (T γ n s))
 (hk:∀γ s fr st,kk s=some e→BkS n0 (Fb γ s) (Tb γ s) fr st→Q .normal fr st):
 AWp P gl N n0 keep (.block id (.loop c)) Q fr st:=by
 refine x1Y (r6O h0 ?_)
 unfold r5J at h
 have key:∀m k s γ,k+m=n→r5r (r9w body m k s) kk=some e→AWp P gl N n0 keep (.loop c) (AQ.block id Q) (F γ k s) (T γ k s):=by
  intro m
  induction m with
  |zero=>
   intro k s γ hk' h1
   have:k=n:=by omega
   subst this
   refine u5x (u5y (he γ s) fun ex fr st hq=>?_)
   obtain⟨rfl,γ',hb⟩:=hq
   show AQ.block id Q (.exit id) fr st
   simp only[AQ.block,if_true]
   exact hk γ' s fr st h1 hb
  |succ m ih=>
   intro k s γ hk' h
   simp only[r9w]at h
   cases hb:body k s with
   |none=>rw[hb]at h;cases h
   |some b=>
    rw[hb]at h
    refine u5x (u5y (hs γ k s b (by omega) hb ?_) fun ex fr st hq=>?_)
    ·intro x hx
     subst hx
     cases h;rfl
    ·cases b with
     |nxt s'=>
      obtain⟨rfl,γ',hb'⟩:=hq
      exact r6O hb' (ih (k+1) s' γ' (by omega) h)
     |brk s'=>
      obtain⟨rfl,γ',hb'⟩:=hq
      show AQ.block id Q (.exit id) fr st
      simp only[AQ.block,if_true]
      exact hk γ' s' fr st h hb'
     |ret x=>
      obtain⟨h1,h2⟩:=hq
      cases ex with
      |normal=>exact absurd rfl h1
      | _=>exact h2
 exact key n 0 s0 γ0 (by omega) h
def PBw{Γ Δ ρ σ τ:Type}(n0 id:Nat)(F:Γ→σ→Fr)(T:Γ→σ→St)(Fb:Δ→τ→Fr)(Tb:Δ→τ→St)(Q:AQ):Ctl ρ σ τ→AQ
 | .nxt s=>fun ex fr st=>ex= .normal∧∃γ,BkS n0 (F γ s) (T γ s) fr st
 | .brk s=>fun ex fr st=>ex= .exit id∧∃γ,BkS n0 (Fb γ s) (Tb γ s) fr st
 | .ret _=>fun ex fr st=>ex≠ .normal∧AQ.block id Q ex fr st
theorem r5M{Γ Δ ρ σ τ:Type}{body:σ→Option (Ctl ρ σ τ)}{n:Nat}{s0:σ}{kk:τ→Option ρ}{e:ρ}(F:Γ→σ→Fr)(T:Γ→σ→St)(Fb:Δ→τ→Fr)(Tb:Δ→τ→St)(γ0:Γ)
 (h:r5r (r6G body n s0) kk=some e)
 (h0:BkS n0 (F γ0 s0) (T γ0 s0) fr st)
 (hs:∀γ s b,body s=some b→(∀x,b= .ret x→x=e)→AWp P gl N n0 keep c (PBw n0 id F T Fb Tb Q b) (F γ s) (T γ s))
 (hk:∀γ s fr st,kk s=some e→BkS n0 (Fb γ s) (Tb γ s) fr st→Q .normal fr st):
 AWp P gl N n0 keep (.block id (.loop c)) Q fr st:=by
 refine x1Y (r6O h0 ?_)
 have key:∀m s γ,r5r (r6G body m s) kk=some e→AWp P gl N n0 keep (.loop c) (AQ.block id Q) (F γ s) (T γ s):=by
  intro m
  induction m with
  |zero=>intro s γ h;cases h
  |succ m ih=>
   intro s γ h
   simp only[r6G]at h
   cases hb:body s with
   |none=>rw[hb]at h;cases h
   |some b=>
    rw[hb]at h
    refine u5x (u5y (hs γ s b hb ?_) fun ex fr st hq=>?_)
    ·intro x hx
     subst hx
     cases h;rfl
    ·cases b with
     |nxt s'=>
      obtain⟨rfl,γ',hb'⟩:=hq
      exact r6O hb' (ih s' γ' h)
     |brk s'=>
      obtain⟨rfl,γ',hb'⟩:=hq
      show AQ.block id Q (.exit id) fr st
      simp only[AQ.block,if_true]
      exact hk γ' s' fr st h hb'
     |ret x=>
      obtain⟨h1,h2⟩:=hq
      cases ex with
      |normal=>exact absurd rfl h1
      | _=>exact h2
 exact key n s0 γ0 h
section
variable {Γ Δ ρ σ τ:Type} {F:Γ→σ→Fr} {T:Γ→σ→St} {Fb:Δ→τ→Fr} {Tb:Δ→τ→St} {Fk:Γ→Nat→σ→Fr} {Tk:Γ→Nat→σ→St} {Fc:Γ→σ→Fr} {Tc:Γ→σ→St} {k:Nat} {ex:x1X}
theorem u2o{s:σ}(γ:Γ)(h:BkS n0 (Fk γ (k+1) s) (Tk γ (k+1) s) fr st):PBr (ρ:=ρ) n0 id Fk Tk Fc Tc Q k (.nxt s) .normal fr st:=⟨rfl,γ,h⟩
theorem r7h{x:ρ}(h:AQ.block id Q .ret fr st):PBr n0 id Fk Tk Fc Tc Q k (.ret x) .ret fr st:=⟨x1X.noConfusion,h⟩
theorem r6h{s:σ}(γ:Γ)(h:BkS n0 (F γ s) (T γ s) fr st):PBw (ρ:=ρ) n0 id F T Fb Tb Q (.nxt s) .normal fr st:=⟨rfl,γ,h⟩
theorem r7i{s:τ}(γ:Δ)(h:BkS n0 (Fb γ s) (Tb γ s) fr st):PBw (ρ:=ρ) n0 id F T Fb Tb Q (.brk s) (.exit id) fr st:=⟨rfl,γ,h⟩
theorem u0d{x:ρ}(h:AQ.block id Q .ret fr st):PBw n0 id F T Fb Tb Q (.ret x) .ret fr st:=⟨x1X.noConfusion,h⟩
end
end
attribute [simp] x9Y ScL Ob.sc D.sc D.scs Fr.sc x9c
attribute [go_sem] x3G or_true Int.cast_ofNat_Int x9Q x9R x9S y1i x9d x9T y1j Int.reduceEq Int.reduceNe Nat.zero_le true_or List.length_replicate Option.mem_def Option.map_some Option.map_none false_implies forall_eq' Option.isSome_none Option.some.injEq x7v Int.le_refl decide_true decide_false x9X x7u x4I x3H x4J w9R x7s x2u x9Z IntKind.bits Option.isSome_map List.drop_zero Int.toNat_zero Int.reduceToNat Int.reduceNeg Int.reduceLT Int.reduceLE Nat.reducePow x9g x7w x9f Option.isSome_some u6P x7t x4H x9U x9V y1k x9e x9W y1l Int.toNat_natCast Nat.zero_add Nat.sub_zero Nat.le_refl Int.natCast_nonneg Int.ofNat_lt reduceCtorEq
 Nat.reduceAdd Nat.reduceEqDiff Nat.reduceLT Nat.reduceLeDiff Nat.reduceMul Nat.reduceSub Nat.reduceBEq Nat.reduceBNe reduceIte
def r5k(st:St):List (Nat×Ob)→St
 | []=>st
 |(o,x)::m=>(r5k st m).set o (some x)
def w2W:List (Nat×Ob)→Nat→Option Ob→Option Ob
 | [],_,d=>d
 |(a,x)::m,o,d=>if o=a then some x else w2W m o d
def x2w:List (Nat×Ob)→Nat→Ob→List (Nat×Ob)
 | [],o,x=>[(o,x)]
 |(a,y)::m,o,x=>if o=a then(a,x)::m else(a,y)::x2w m o x
theorem u3i(st:St):∀m:List (Nat×Ob),(r5k st m).length=st.length
 | []=>rfl
 |(o,x)::m=>by simp[r5k,u3i st m]
theorem w1J{st l:St}{o:Nat}(ho:o<st.length):∀m:List (Nat×Ob),look (r5k st m++l) o=w2W m o (look st o)
 | []=>by
  simp only[r5k,w2W]
  unfold look
  rw[List.getElem?_append_left ho]
 |(a,x)::m=>by
  have ih:=w1J (l:=l) ho m
  have hl:=u3i st m
  simp only[r5k,w2W]
  unfold look at ih⊢
  rw[List.getElem?_append_left (by simp[hl];exact ho)]
  rw[List.getElem?_append_left (by rw[hl];exact ho)]at ih
  rw[List.getElem?_set]
  by_cases e:o=a
  ·subst e;rw[if_pos rfl,if_pos (by rw[hl];exact ho),if_pos rfl];rfl
  ·rw[if_neg (fun h=>e h.symm),if_neg e];exact ih
theorem u5C{st:St}{o:Nat}(ho:o<st.length)(m:List (Nat×Ob)):look (r5k st m) o=w2W m o (look st o):=by
 have:=w1J (l:=[]) ho m
 rwa[List.append_nil]at this
theorem r5x{st l:St}{m:List (Nat×Ob)}{k:Nat}:look (r5k st m++l) (st.length+k)=look l k:=by
 rw[←u3i st m];exact u4b
theorem w5S{st l:St}{m:List (Nat×Ob)}:look (r5k st m++l) st.length=look l 0:=r5x (k:=0)
theorem w1K{st l:St}{o:Nat}{x:Ob}(ho:o<st.length):∀m:List (Nat×Ob),(r5k st m++l).set o (some x)=r5k st (x2w m o x)++l
 | []=>by simp only[x2w,r5k];rw[List.set_append_left _ _ ho]
 |(a,y)::m=>by
  have ih:=w1K (l:=l) (x:=x) ho m
  have hl:=u3i st m
  simp only[r5k,x2w]
  rw[List.set_append_left _ _ (by simp[hl];exact ho)]
  rw[List.set_append_left _ _ (by rw[hl];exact ho)]at ih
  have ih':=List.append_cancel_right ih
  split
  ·rename_i e;subst e
   simp[r5k,List.set_set]
  ·rename_i e
   simp only[r5k]
   rw[List.set_comm _ _ (fun h=>e h.symm),ih']
theorem u5D{st:St}{o:Nat}{x:Ob}(ho:o<st.length)(m:List (Nat×Ob)):(r5k st m).set o (some x)=r5k st (x2w m o x):=by
 have:=w1K (l:=[]) (x:=x) ho m
 rwa[List.append_nil,List.append_nil]at this
theorem w9U{st l:St}{m:List (Nat×Ob)}{k:Nat}{x:Option Ob}:(r5k st m++l).set (st.length+k) x=r5k st m++l.set k x:=by
 rw[←u3i st m];exact w9t
theorem x6g{st l:St}{m:List (Nat×Ob)}{x:Option Ob}:(r5k st m++l).set st.length x=r5k st m++l.set 0 x:=w9U (k:=0)
theorem r5u{st l:St}{m:List (Nat×Ob)}{k:Nat}:(r5k st m++l)[st.length+k]? =l[k]? :=by
 rw[←u3i st m];exact w0z
theorem x7x{st l:St}{m:List (Nat×Ob)}:(r5k st m++l).length=st.length+l.length:=by rw[List.length_append,u3i]
theorem r5p{st:St}:∀ {m:List (Nat×Ob)},(∀p∈m,look st p.1=some p.2)→r5k st m=st
 | [],_=>rfl
 |(o,x)::m,h=>by
  simp only[r5k]
  rw[r5p (fun p hp=>h p (List.mem_cons_of_mem _ hp))]
  have:=r5w (h (o,x) (List.mem_cons_self ..))
  apply List.ext_getElem?
  intro i
  rw[List.getElem?_set]
  split
  ·rename_i e;subst e
   have hl:=(List.getElem?_eq_some_iff.1 this).1
   rw[if_pos hl,this]
  ·rfl
theorem r5h{st:St}{o:Nat}{x:Ob}(h:look st o=some x):o<st.length:=(List.getElem?_eq_some_iff.1 (r5w h)).1
def scM(n:Nat):List (Nat×Ob)→Prop
 | []=>True
 |(_,x)::m=>x.sc n∧scM n m
theorem r7P{st:St}(h:u4w st.length st):∀ {m:List (Nat×Ob)},scM st.length m→u4w (r5k st m).length (r5k st m)
 | [],_=>h
 |(o,x)::m,hm=>by
  have ih:=r7P h hm.2
  intro o' ob e
  simp only[r5k]at e⊢
  rw[List.length_set]
  rw[List.getElem?_set]at e
  split at e
  ·split at e
   ·cases e;rw[u3i];exact hm.1
   ·cases e
  ·exact ih o' ob e
section
variable {P:Program} {gl:Gl} {N n0:Nat} {keep:List Nat} {Q:AQ} {fr:Fr} {st:St} {c:Code}
theorem r8l{s s':St}(e:s'=s)(h:AWp P gl N n0 keep c Q fr s'):AWp P gl N n0 keep c Q fr s:=e▸h
theorem u0G{s l l':St}{F:Fr}(hn:n0≤s.length)(hsc:u4w s.length s)(hu:UpL (s++l) (s++l') l l')(hl:ScL (s++l').length l')(hf:w3N (s++l) (s++l') fr F)(hs:Fr.sc (s++l').length F):
 BkS n0 F (s++l') fr (s++l):=.one ⟨by simp;omega,w2S hsc hu hl,hf,hs⟩
theorem w9V{s l:St}{F:Fr}(hn:n0≤s.length)(hsc:u4w s.length s)(hf:w3N (s++l) s fr F)(hs:Fr.sc s.length F):BkS n0 F s fr (s++l):=.one ⟨hn,u8Z hsc,hf,hs⟩
theorem x2x{s:St}{F:Fr}(hn:n0≤s.length)(hsc:u4w s.length s)(hf:w3N s s fr F)(hs:Fr.sc s.length F):BkS n0 F s fr s:=.one ⟨hn,w2T hsc,hf,hs⟩
theorem x2y{s l:St}{d d':D}{R:D→St→Prop}(hn:n0≤s.length)(hsc:u4w s.length s)(hu:Up (s++l) s d d')(hd:D.sc s.length d')(h:R d' s):fin n0 R d (s++l):=
 ⟨s,d',hn,u8Z hsc,hu,hd,h⟩
theorem w9W{s:St}{d d':D}{R:D→St→Prop}(hn:n0≤s.length)(hsc:u4w s.length s)(hu:Up s s d d')(hd:D.sc s.length d')(h:R d' s):fin n0 R d s:=
 ⟨s,d',hn,w2T hsc,hu,hd,h⟩
mutual
def D.flat:D→Bool
 | .bool _=>true
 | .int _ _=>true
 | .str _=>true
 | .agg cs=>D.w8u cs
 | .tup cs=>D.w8u cs
 | _=>false
def D.w8u:List D→Bool
 | []=>true
 |d::l=>d.flat&&D.w8u l
end
theorem w0B:∀ {l:List D},D.w8u l=true→∀j (h:j<l.length),(l[j]).flat=true
 |d::l,h,0,_=>by simp only[D.w8u,Bool.and_eq_true]at h;exact h.1
 |d::l,h,j+1,hj=>by
  simp only[D.w8u,Bool.and_eq_true]at h
  exact w0B (l:=l) h.2 j (by simpa using hj)
theorem VR.flat{w w':World}{μ μ':Mu}{s s':St}{v:Value}{d:D}(h:VR w μ s v d)(hf:d.flat=true):VR w' μ' s' v d:=by
 induction h with
 |any=>cases hf
 |tr h=>
  cases h with
  |bool b=>exact .tr (.bool b)
  |int k n=>exact .tr (.int k n)
  |str x=>exact .tr (.str x)
  | _=>cases hf
 |agg vs cs hs hc ih=>exact .agg vs cs hs fun j hj=>ih j hj (w0B hf j hj)
 |tup vs cs hs hc ih=>exact .tup vs cs hs fun j hj=>ih j hj (w0B hf j hj)
 |fn=>cases hf
 |ref=>cases hf
 |ptr=>cases hf
 |mp=>cases hf
 |it=>cases hf
 |cond=>cases hf
def dead(st:St):St:=List.replicate st.length none
theorem u7P{st:St}{o:Nat}{ob:Ob}:¬(dead st)[o]? =some (some ob):=by
 unfold dead
 rw[List.getElem?_replicate]
 split<;>simp
theorem w4q{st:St}{o:Nat}:look (dead st) o=none:=by
 cases h:look (dead st) o with
 |none=>rfl
 |some x=>exact absurd (r5w h) u7P
theorem w6T{μ:Mu}{st:St}{blk:Nat}:¬own μ (dead st) blk:=fun⟨_,_,_,h,_⟩=>u7P h
theorem w9X{st:St}:w8L st (dead st):=⟨by simp[dead],fun _ _ h=>absurd h u7P⟩
theorem Pure.borrow{f:FuncId}{args args':List D}{r:D}(h:Pure P gl f args' r)(hu:Ups st (dead st) args args')(hsc:D.scs (dead st).length args')(hr:r.flat=true){R:D→St→Prop}(hR:R r st):Spec P gl f args st R:=by
 refine⟨(h st).1,fun w μ vs hs hg hsz hvs=>?_⟩
 have hs0:Sim w μ (dead st):=⟨fun o ob e=>absurd e u7P,fun o _ _ _ _ _ _ e=>absurd e u7P⟩
 have hg0:Glob gl w μ (dead st):=w0u hg (fun blk hb=>absurd hb w6T)
 have hv0:∀j (hj:j<args'.length),VR w μ (dead st) (vs.getD j undef) (args'[j]):=fun j hj=>by
  have hj':j<args.length:=by rw[←hu.len];exact hj
  exact VR.up hs w9X (hu.get j hj' hj) (hvs j hj') (u0B hsc j hj)
 refine((h (dead st)).2 w μ vs hs0 hg0 (by rw[hsz,hu.len]) hv0).mono fun e w' ⟨v,d,st',μ',he,⟨hd,hst⟩,hs',hstep,hv⟩=>?_
 subst hd;subst hst
 have hblk:∀blk,blk<w.heap.size→w'.heap[blk]? =w.heap[blk]? :=fun blk hb=>hstep.imm blk hb w6T
 have hlt:∀ {blk:Nat},(w.heap[blk]?).isSome=true→blk<w.heap.size:=fun {blk} e=>by
  rcases Nat.lt_or_ge blk w.heap.size with h|h
  ·exact h
  ·rw[Array.getElem?_eq_none h]at e;cases e
 have step:Step w μ st w' μ st:={
  size:=hstep.size,os:=hstep.os,output:=hstep.output,tape:=hstep.tape
  imm:=fun blk hb _=>hblk blk hb
  own:=fun blk hb=>.inl hb
  len:=Nat.le_refl _
  keep:=fun o ob ho e=>⟨ob,e,by
   cases ob with
   |arr g n b es=>exact⟨Nat.le_refl _,fun _=>⟨rfl,rfl,rfl,rfl,fun blk base c ty _ hh=>⟨c,by rw[hblk blk (hlt (by rw[hh];rfl))];exact hh,rfl⟩⟩⟩
   |mps=>exact⟨rfl,rfl⟩
   |mpi=>exact⟨rfl,rfl,rfl⟩
   |sit=>exact rfl
   |resv=>exact trivial⟩ }
 refine⟨v,d,st,μ,he,hR,⟨fun o ob e=>?_,hs.inj⟩,step,hv.flat hr⟩
 have hob:=hs.obj o ob e
 refine hob.step step fun blk base em=>?_
 cases ob with
 |arr g n b es=>
  obtain⟨_,_,h3⟩:=(hob:u6V w μ st (μ o) n b es)
  rcases h3 with⟨h3,_⟩|⟨u8k,base',c,ty,em',hh,_⟩
  ·rw[em]at h3;cases h3
  ·rw[em]at em';cases em';exact hblk _ (hlt (by rw[hh];rfl))
 |mps ag es=>
  obtain⟨u8k,ents,clock,_,em',hh,_⟩:=(hob:u6c _ ag w μ _ (μ o) es).loc
  rw[em]at em';cases em';exact hblk _ (hlt (by rw[hh];rfl))
 |mpi ag k es=>
  obtain⟨u8k,ents,clock,_,em',hh,_⟩:=(hob:u6c _ ag w μ _ (μ o) es).loc
  rw[em]at em';cases em';exact hblk _ (hlt (by rw[hh];rfl))
 |sit s p=>
  obtain⟨u8k,em',hh⟩:=hob
  rw[em]at em';cases em';exact hblk _ (hlt (by rw[hh];rfl))
 |resv=>
  have:μ o=none:=hob
  rw[em]at this;cases this
end
section
variable {P:Program} {gl:Gl} {st:St}
theorem Pure.freeze{f:FuncId}{args args':List D}{r:D}{T:St}(h:Pure P gl f args' r)(hw:w8q st T)(hl:st.length≤T.length)(hu:Ups st T args args')(hsc:D.scs T.length args'){R:D→St→Prop}(hR:R r T):Spec P gl f args st R:=by
 refine⟨(h T).1,fun w μ vs hs hg hsz hvs=>?_⟩
 have hv0:∀j (hj:j<args'.length),VR w μ T (vs.getD j undef) (args'[j]):=fun j hj=>by
  have hj':j<args.length:=by rw[←hu.len];exact hj
  exact VR.up hs hw.kill (hu.get j hj' hj) (hvs j hj') (u0B hsc j hj)
 refine((h T).2 w μ vs (hs.wk hw) (w0u hg (fun _ h=>hw.kill.own h)) (by rw[hsz,hu.len]) hv0).mono fun e w' ⟨v,d,st',μ',he,⟨hd,hst⟩,hs',hstep,hv⟩=>?_
 subst hd;subst hst
 exact⟨v,d,st',μ',he,hR,hs',(Step.wk hl hw (Step.refl w μ st)).trans hstep,hv⟩
end
attribute [simp] scM u3i
attribute [go_sem] w2W x2w r5x w5S w9U x6g x7x u3i
theorem r9r{st:St}{m:List (Nat×Ob)}{k:Nat}:look (r5k st m) (st.length+k)=none:=by rw[←u3i st m];exact x1H
theorem u0Z{st t:St}{m:List (Nat×Ob)}{k:Nat}(h:t.length≤k):look (r5k st m++t) (st.length+k)=none:=by rw[←u3i st m];exact w0A h
attribute [go_sem] x8M x6B
section
variable {P:Program} {gl:Gl} {N b:Nat} {fr:Fr} {st:St} {dst:Option Nat} {f:FuncId} {args:List D} {r:D} {lg:Log} {tr G:Bool} {kk:Log→Fr→St→Prop} {k:Fr→St→Prop}
theorem u2j(rd:List Nat){ups:List (Nat×Ob)}(h:∀st2,(∀o∈rd,look st2 o=look st o)→Spec P gl f args st2 fun d st'=>d=r∧st'=puts st2 ups)(hu:∀p∈ups,p.1∈rd)
 (hrd:∀o∈rd,o<b∧∃ob,look st o=some ob∧ob≠ .resv) (ht:tr=false→rd=[]) (hk:kk (u6o tr lg ⟨r,True,rd,none,none⟩ ups) (fr.u5c dst r) (puts st ups)):
 w8m P gl b tr dst lg fr st kk f args:=
 ⟨r,rd,ups,h,hu,fun o ho=>⟨.inl (hrd o ho).1,(hrd o ho).2⟩,ht,hk⟩
theorem x7y{ups:List (Nat×Ob)}(h:G=true→Spec P gl f args st fun d st'=>d=r∧st'=puts st ups)(hf:G=false→puts st ups=st)(hk:k (fr.u5c dst (.cond G r)) (puts st ups)):
 w8i P gl G dst fr st k f args:=⟨r,ups,h,hf,hk⟩
end
section
variable {P:Program} {gl:Gl} {N:Nat} {w0:World} {μ0:Mu} {st0:St}
variable {n0:Nat} {keep:List Nat} {AQ':AQ} {fr:Fr} {st:St}
end
section
variable {P:Program} {gl:Gl} {N n0:Nat} {keep:List Nat} {Q:AQ} {fr:Fr} {st:St} {x y:Code} {o:Operand} {i:Nat}
theorem u6p(h:AWp P gl N n0 keep (.seq x y) (AQ.block i Q) fr st):AWp P gl N n0 keep (.block i (.seq x y)) Q fr st:=x1Y h
theorem u4J(h:AWp P gl N n0 keep (.cond o x y) (AQ.block i Q) fr st):AWp P gl N n0 keep (.block i (.cond o x y)) Q fr st:=x1Y h
theorem u6q{k:Nat}{l:Array Oper}{b:Bool}(h:AWp P gl N n0 keep (.region k l b) (AQ.block i Q) fr st):AWp P gl N n0 keep (.block i (.region k l b)) Q fr st:=x1Y h
theorem u6r{k:Nat}(h:AWp P gl N n0 keep (.block k x) (AQ.block i Q) fr st):AWp P gl N n0 keep (.block i (.block k x)) Q fr st:=x1Y h
theorem u3s(h:AWp P gl N n0 keep (.scope x) (AQ.block i Q) fr st):AWp P gl N n0 keep (.block i (.scope x)) Q fr st:=x1Y h
theorem rn{A B:Prop}(b:B)(e:B→A:=by
 intro hb;(try simp only[go_sem,fx]);(repeat (first|apply sq_|(apply er_;simp only[go_sem,fx])|(apply x1G;(try simp only[go_sem,fx]))|(apply u2n;(try simp only[go_sem,fx]))|apply u6p|apply u4J|apply u6q|apply u6r|apply u3s|apply u3q|(apply u3r;(try simp only[go_sem,fx]))));exact hb):A:=e b
theorem r0{A B:Prop}(b:B)(e:B→A:=by
 intro hb;(try simp only[go_sem,fx]);(repeat apply sq_);(first|(apply er_;simp only[go_sem,fx])|(apply x1G;(try simp only[go_sem,fx]))|(apply u2n;(try simp only[go_sem,fx]))|apply u6p|apply u4J|apply u6q|apply u6r|apply u3s|apply u3q|(apply u3r;(try simp only[go_sem,fx])));exact hb):A:=e b
theorem r1{A B:Prop}(b:B)(e:B→A:=by
 intro hb;(try simp only[go_sem,fx]);(repeat apply sq_);apply er_;simp only[go_sem,fx,fy];exact hb):A:=e b
theorem rs{A B:Prop}(b:B)(e:B→A:=by
 intro hb;(try simp only[go_sem,fx]);(repeat apply sq_);exact hb):A:=e b
theorem cd{α:Type}{c t:Bool}{a b:Option α}{r:α}{W:Prop}(h:(bif c then a else b)=some r)
 (k1:c=true→a=some r→AWp P gl N n0 keep x Q fr st) (k0:c=false→b=some r→AWp P gl N n0 keep y Q fr st)
 (e:AWp P gl N n0 keep (.cond o x y) Q fr st→W:=by
  intro hb;(try simp only[go_sem,fx]);(repeat (first|apply sq_|(apply er_;simp only[go_sem,fx])|(apply x1G;(try simp only[go_sem,fx]))|(apply u2n;(try simp only[go_sem,fx]))|apply u6p|apply u4J|apply u6q|apply u6r|apply u3s|apply u3q|(apply u3r;(try simp only[go_sem,fx]))));exact hb)
 (ho:ev gl fr o= .bool t:=by rfl) (hc:t=c:=by first|rfl|simp):W:=
 e (x5R ho (fun ht=>k1 (hc▸ht) (x7q h (hc▸ht))) fun ht=>k0 (hc▸ht) (x7r h (hc▸ht)))
theorem ct{t:Bool}{W:Prop}(k:AWp P gl N n0 keep x Q fr st)
 (e:AWp P gl N n0 keep (.cond o x y) Q fr st→W:=by
  intro hb;(try simp only[go_sem,fx]);(repeat (first|apply sq_|(apply er_;simp only[go_sem,fx])));exact hb)
 (ho:ev gl fr o= .bool t:=by rfl) (ht:t=true:=by first|rfl|exact decide_eq_true (by omega)|(simp;done)|(simp;omega)):W:=
 e (x5R ho (fun _=>k) fun h=>by rw[ht]at h;cases h)
theorem cf{t:Bool}{W:Prop}(k:AWp P gl N n0 keep y Q fr st)
 (e:AWp P gl N n0 keep (.cond o x y) Q fr st→W:=by
  intro hb;(try simp only[go_sem,fx]);(repeat (first|apply sq_|(apply er_;simp only[go_sem,fx])));exact hb)
 (ho:ev gl fr o= .bool t:=by rfl) (ht:t=false:=by first|rfl|exact decide_eq_false (by omega)|(simp;done)|(simp;omega)):W:=
 e (x5R ho (fun h=>by rw[ht]at h;cases h) fun _=>k)
theorem ck{φ p:Prop}[Decidable p]{β:Type}{x:Option β}{e:β}(f:φ)(h:chk p x=some e):(φ∧p)∧x=some e:=
 let ⟨a,b⟩:=x1I h;⟨⟨f,a⟩,b⟩
theorem cl{α β:Type}{x:Option α}{k:α→Option β}{r:β}{d:α→D}{f:FuncId}{args:List D}{R:D→St→Prop}{W:Prop}
 (h:x.bind k=some r) (p:∀v,x=some v→Pure P gl f args (d v)) (b:∀v,k v=some r→R (d v) st)
 (e:Spec P gl f args st R→W:=by
  intro hb;(try simp only[go_sem,fx]);(repeat (first|apply sq_|(apply er_;simp only[go_sem,fx])|(apply x1G;(try simp only[go_sem,fx]))|(apply u2n;(try simp only[go_sem,fx]))|apply u6p|apply u4J|apply u6q|apply u6r|apply u3s|apply u3q|(apply u3r;(try simp only[go_sem,fx]))));exact hb):W:=by
 obtain⟨v,hv,h⟩:=r7G h
 exact e ((p v hv).to (b v h))
theorem up{α:Type}{x:Option α}{f:FuncId}{args args':List D}{d:α→D}(p:∀v,x=some v→Pure P gl f args' (d v))(u:∀st,Ups st st args args')(s:∀n,D.scs n args':=by intro n;simp):∀v,x=some v→Pure P gl f args (d v):=
 fun v hv=>(p v hv).up u (.inr s)
theorem c0{α β:Type}{x:Option α}{k:α→Option β}{r:β}{W:Prop}(h:x.bind k=some r)(b:∀v,x=some v→k v=some r→W):W:=by
 obtain⟨v,hv,h⟩:=r7G h
 exact b v hv h
theorem l0{α β:Type}{a:α}{f:α→Option β}{e:β}{W:Prop}(h:r9F a f=some e)(b:∀y,y=a→f y=some e→W):W:=b a rfl h
theorem fa{p q:Prop}(a:p)(b:q):p∧q:=⟨a,b⟩
theorem rt{W:Prop}(e:W:=by
 (try simp only[go_sem,fx]);(repeat (first|apply sq_|(apply er_;simp only[go_sem,fx])|(apply x1G;(try simp only[go_sem,fx]))|(apply u2n;(try simp only[go_sem,fx]))|apply u6p|apply u4J|apply u6q|apply u6r|apply u3s|apply u3q|(apply u3r;(try simp only[go_sem,fx]))));(try (apply x4n;(try simp only[go_sem,fx])));(first|apply x6f|apply w6S);simp only[go_sem,fx];
 first|exact u7O hsc (.same _) (by simp) ⟨by cases h;rfl,rfl⟩|exact w2U hsc (.same _) (by simp) ⟨by cases h;rfl,rfl⟩):W:=e
theorem rr{A B:Prop}(b:B)(e:B→A:=by
 intro hb;(try simp only[go_sem,fx]);(repeat (first|apply sq_|(apply er_;simp only[go_sem,fx])|(apply x1G;(try simp only[go_sem,fx]))|(apply u2n;(try simp only[go_sem,fx]))|apply u6p|apply u4J|apply u6q|apply u6r|apply u3s|apply u3q|(apply u3r;(try simp only[go_sem,fx]))));(try (apply x4n;(try simp only[go_sem,fx])));(first|apply x6f|apply w6S);simp only[go_sem,fx];exact hb):A:=e b
theorem ra{A B:Prop}(b:B)(e:B→A:=by
 intro hb;(try simp only[go_sem,fx]);(repeat (first|apply sq_|(apply er_;simp only[go_sem,fx])|(apply x1G;(try simp only[go_sem,fx]))|(apply u2n;(try simp only[go_sem,fx]))|apply u6p|apply u4J|apply u6q|apply u6r|apply u3s|apply u3q|(apply u3r;(try simp only[go_sem,fx]))));apply x4n;(try simp only[go_sem,fx]);exact hb):A:=e b
theorem fo{α:Type}{e r:α}{s l:St}{d:D}(d':D){R:D→St→Prop}(hu:Up (s++l) s d d')(h:some e=some r)(hsc:u4w s.length s)(hd:D.sc s.length d':=by simp)(hr:e=r→R d' s:=by rintro rfl;exact⟨rfl,rfl⟩):fin s.length R d (s++l):=
 w2U hsc hu hd (hr (Option.some.inj h))
theorem fs{α:Type}{e r:α}{s:St}{d:D}(d':D){R:D→St→Prop}(hu:Up s s d d')(h:some e=some r)(hsc:u4w s.length s)(hd:D.sc s.length d':=by simp)(hr:e=r→R d' s:=by rintro rfl;exact⟨rfl,rfl⟩):fin s.length R d s:=
 u7O hsc hu hd (hr (Option.some.inj h))
theorem bm{s l l':St}{F:Fr}(hsc:u4w s.length s)(hu:UpL (s++l) (s++l') l l':=by(repeat (first|exact .nil _|refine .live _ _ _ _ (.same _) ?_|refine .dead _ _ _ ?_)))(hf:w3N (s++l) (s++l') fr F:=by(repeat (first|exact trivial|refine⟨.same _,?_⟩|refine⟨.w4m _ _ _ _,?_⟩|refine⟨.full _ _ _ _,?_⟩|refine⟨.r5g _ _ _ (by decide),?_⟩|refine⟨.any _,?_⟩)))(hl:ScL (s++l').length l':=by simp)(hs:Fr.sc (s++l').length F:=by simp):BkS s.length F (s++l') fr (s++l):=w5R hsc hu hl hf hs
theorem bm0{s l:St}{F:Fr}(hsc:u4w s.length s)(hf:w3N (s++l) s fr F:=by(repeat (first|exact trivial|refine⟨.same _,?_⟩|refine⟨.w4m _ _ _ _,?_⟩|refine⟨.full _ _ _ _,?_⟩|refine⟨.r5g _ _ _ (by decide),?_⟩|refine⟨.any _,?_⟩)))(hs:Fr.sc s.length F:=by simp):BkS s.length F s fr (s++l):=w9T hsc hf hs
theorem u6s{s:St}{F:Fr}(hsc:u4w s.length s)(hf:w3N s s fr F:=by(repeat (first|exact trivial|refine⟨.same _,?_⟩|refine⟨.w4m _ _ _ _,?_⟩|refine⟨.full _ _ _ _,?_⟩|refine⟨.r5g _ _ _ (by decide),?_⟩|refine⟨.any _,?_⟩)))(hs:Fr.sc s.length F:=by simp):BkS s.length F s fr s:=x2v hsc hf hs
theorem bu{s:St}{m:List (Nat×Ob)}{l l':St}{F:Fr}(hsc:u4w s.length s)(hu:UpL (r5k s m++l) (r5k s m++l') l l':=by(repeat (first|exact .nil _|refine .live _ _ _ _ (.same _) ?_|refine .dead _ _ _ ?_)))(hf:w3N (r5k s m++l) (r5k s m++l') fr F:=by(repeat (first|exact trivial|refine⟨.same _,?_⟩|refine⟨.w4m _ _ _ _,?_⟩|refine⟨.full _ _ _ _,?_⟩|refine⟨.r5g _ _ _ (by decide),?_⟩|refine⟨.any _,?_⟩)))(hm:scM s.length m:=by simp<;>omega)(hl:ScL (r5k s m++l').length l':=by simp<;>omega)(hs:Fr.sc (r5k s m++l').length F:=by simp<;>omega):BkS s.length F (r5k s m++l') fr (r5k s m++l):=u0G (by simp) (r7P hsc hm) hu hl hf hs
theorem bu0{s:St}{m:List (Nat×Ob)}{l:St}{F:Fr}(hsc:u4w s.length s)(hf:w3N (r5k s m++l) (r5k s m) fr F:=by(repeat (first|exact trivial|refine⟨.same _,?_⟩|refine⟨.w4m _ _ _ _,?_⟩|refine⟨.full _ _ _ _,?_⟩|refine⟨.r5g _ _ _ (by decide),?_⟩|refine⟨.any _,?_⟩)))(hm:scM s.length m:=by simp<;>omega)(hs:Fr.sc (r5k s m).length F:=by simp<;>omega):BkS s.length F (r5k s m) fr (r5k s m++l):=w9V (by simp) (r7P hsc hm) hf hs
theorem w6U{s:St}{m:List (Nat×Ob)}{F:Fr}(hsc:u4w s.length s)(hf:w3N (r5k s m) (r5k s m) fr F:=by(repeat (first|exact trivial|refine⟨.same _,?_⟩|refine⟨.w4m _ _ _ _,?_⟩|refine⟨.full _ _ _ _,?_⟩|refine⟨.r5g _ _ _ (by decide),?_⟩|refine⟨.any _,?_⟩)))(hm:scM s.length m:=by simp<;>omega)(hs:Fr.sc (r5k s m).length F:=by simp<;>omega):BkS s.length F (r5k s m) fr (r5k s m):=x2x (by simp) (r7P hsc hm) hf hs
theorem rng{φ:Prop}{Γ ρ σ:Type}{c:Code}{id n:Nat}{body:Nat→σ→Option (Ctl ρ σ σ)}{s0:σ}{kk:σ→Option ρ}{e:ρ}(F:Γ→Nat→σ→Fr)(T:Γ→Nat→σ→St)(Fb:Γ→σ→Fr)(Tb:Γ→σ→St)(γ0:Γ)(fx:φ)(hl:n≤9223372036854775807)
 (h:r5r (r5J body n s0) kk=some e)
 (h0:BkS n0 (F γ0 0 s0) (T γ0 0 s0) fr st)
 (hs:∀γ k s b,φ∧k<n∧wr .i64 ((k:Int)+1)=((k+1:Nat):Int)→body k s=some b→(∀x,b= .ret x→x=e)→AWp P gl N n0 keep c (PBr n0 id F T Fb Tb Q k b) (F γ k s) (T γ k s))
 (he:∀γ s,AWp P gl N n0 keep c (fun ex fr st=>ex= .exit id∧∃γ',BkS n0 (Fb γ' s) (Tb γ' s) fr st) (F γ n s) (T γ n s))
 (hk:∀γ s fr st,kk s=some e→BkS n0 (Fb γ s) (Tb γ s) fr st→Q .normal fr st):
 AWp P gl N n0 keep (.block id (.loop c)) Q fr st:=
 arg_ F T Fb Tb γ0 h h0 (fun γ k s b hk=>hs γ k s b ⟨fx,hk,w8t hk hl⟩) he hk
theorem aln{W:Prop}{n b:Nat}{full:Bool}{α:Type}{E:α→List D}{l:List α}{c:Code}(t:Nat)(k:l.length≤9223372036854775807→AWp P gl N n0 keep c Q fr st)
 (e:AWp P gl N n0 keep c Q fr st→W:=by
  intro hb;(try simp only[go_sem,fx]);(repeat (first|apply sq_|(apply er_;simp only[go_sem,fx])|(apply x1G;(try simp only[go_sem,fx]))|(apply u2n;(try simp only[go_sem,fx]))|apply u6p|apply u4J|apply u6q|apply u6r|apply u3s|apply u3q|(apply u3r;(try simp only[go_sem,fx]))));exact hb)
 (hg:fr.get t= .sl full n b (rows E l):=by rfl) (hb:1≤b:=by decide):W:=
 e (x9P hg fun h=>k (by
  rw[u6P]at h
  have h1:l.length*1≤l.length*b:=Nat.mul_le_mul_left _ hb
  unfold top at h;omega))
theorem fb{f:FuncId}{fn:Func}{c:Code}{args:List D}{R:D→St→Prop}(N:Nat)(rs:List ResultVar)(keep:List Nat)(hf:P.funcs[f]? =some fn)(h:u4w st.length st→AWp P gl N st.length keep c (x6e P rs st.length R) (w2K 0 args) st)
 (hb:fn.body=some c:=by rfl) (hN:fn.ntmps=N:=by rfl) (hr:fn.results.toList=rs:=by rfl) (hname:(fn.name != "runtime.NumGoroutine")=true:=by kernel_rfl) (hlen:Nat.ble args.length N=true:=by rfl):Spec P gl f args st R:=
 y0a keep hf hb hN hr hname hlen h
theorem idf{o:Nat}(ho:o<st.length):(∀(l:St) (x:Ob) (m:List (Nat×Ob)),(r5k st m++l).set o (some x)=r5k st (x2w m o x)++l)∧(∀(x:Ob) (m:List (Nat×Ob)),(r5k st m).set o (some x)=r5k st (x2w m o x))∧(∀(l:St) (m:List (Nat×Ob)),look (r5k st m++l) o=w2W m o (look st o))∧∀m:List (Nat×Ob),look (r5k st m) o=w2W m o (look st o):=
 ⟨fun _ _ m=>w1K ho m,fun _ m=>u5D ho m,fun _ m=>w1J ho m,fun m=>u5C ho m⟩
theorem nd2{a b:Nat}(h: [a,b].Nodup):((a=b)=False)∧((b=a)=False):=by
 simp at h;exact⟨eq_false h,eq_false fun e=>h e.symm⟩
theorem nd3{a b c:Nat}(h: [a,b,c].Nodup):(((a=b)=False)∧((b=a)=False))∧(((a=c)=False)∧((c=a)=False))∧((b=c)=False)∧((c=b)=False):=by
 simp at h
 exact⟨nd2 (by simp[h]),nd2 (by simp[h]),nd2 (by simp[h])⟩
theorem nd4{a b c d:Nat}(h: [a,b,c,d].Nodup):(((a=b)=False)∧((b=a)=False))∧(((a=c)=False)∧((c=a)=False))∧(((a=d)=False)∧((d=a)=False))∧(((b=c)=False)∧((c=b)=False))∧(((b=d)=False)∧((d=b)=False))∧((c=d)=False)∧((d=c)=False):=by
 simp at h
 exact⟨nd2 (by simp[h]),nd2 (by simp[h]),nd2 (by simp[h]),nd2 (by simp[h]),nd2 (by simp[h]),nd2 (by simp[h])⟩
theorem nd5{a b c d e:Nat}(h: [a,b,c,d,e].Nodup):(((a=b)=False)∧((b=a)=False))∧(((a=c)=False)∧((c=a)=False))∧(((a=d)=False)∧((d=a)=False))∧(((a=e)=False)∧((e=a)=False))∧(((b=c)=False)∧((c=b)=False))∧(((b=d)=False)∧((d=b)=False))∧(((b=e)=False)∧((e=b)=False))∧(((c=d)=False)∧((d=c)=False))∧(((c=e)=False)∧((e=c)=False))∧((d=e)=False)∧((e=d)=False):=by
 simp at h
 exact⟨nd2 (by simp[h]),nd2 (by simp[h]),nd2 (by simp[h]),nd2 (by simp[h]),nd2 (by simp[h]),nd2 (by simp[h]),nd2 (by simp[h]),nd2 (by simp[h]),nd2 (by simp[h]),nd2 (by simp[h])⟩
theorem fuo{α:Type}{e r:α}{s l:St}{m:List (Nat×Ob)}{d:D}(d':D){R:D→St→Prop}(hu:Up (r5k s m++l) (r5k s m) d d')(h:some e=some r)(hsc:u4w s.length s)(hr:e=r→R d' (r5k s m):=by rintro rfl;exact⟨rfl,rfl⟩)(hm:scM s.length m:=by simp<;>omega)(hd:D.sc (r5k s m).length d':=by simp<;>omega):fin s.length R d (r5k s m++l):=
 x2y (by simp) (r7P hsc hm) hu hd (hr (Option.some.inj h))
theorem fus{α:Type}{e r:α}{s:St}{m:List (Nat×Ob)}{d:D}(d':D){R:D→St→Prop}(hu:Up (r5k s m) (r5k s m) d d')(h:some e=some r)(hsc:u4w s.length s)(hr:e=r→R d' (r5k s m):=by rintro rfl;exact⟨rfl,rfl⟩)(hm:scM s.length m:=by simp<;>omega)(hd:D.sc (r5k s m).length d':=by simp<;>omega):fin s.length R d (r5k s m):=
 w9W (by simp) (r7P hsc hm) hu hd (hr (Option.some.inj h))
theorem dw{B:Prop}{i:Nat}{l:List Oper}(trk:List Nat)(n:Nat)(b:B)
 (e:B→EvD P gl N l.toArray st.length trk (fun fr st=>Q .normal (Fr.only keep fr) st) l 0 0 [] fr (st++List.replicate n (some .resv)):=by intro hb;simp only[go_sem,List.replicate_succ,List.replicate_zero,fx];exact hb)
 (hm:P.follows .mixedOrders=true:=by exact follows) (ho:w0y l.toArray trk=true:=by kernel_rfl) (hn:u4H l=n:=by rfl):AWp P gl N n0 keep (.region i l.toArray true) Q fr st:=y0V trk n hm ho hn (e b)
theorem dwy{B:Prop}{i:Nat}{l:List Oper}(trk:List Nat)(n:Nat)(b:B)
 (e:B→EvD P gl N l.toArray st.length trk (fun fr st=>Q .normal (Fr.only keep fr) st) l 0 0 [] fr (st++List.replicate n (some .resv)):=by intro hb;simp only[go_sem,List.replicate_succ,List.replicate_zero,fx,fy];exact hb)
 (hm:P.follows .mixedOrders=true:=by exact follows) (ho:w0y l.toArray trk=true:=by kernel_rfl) (hn:u4H l=n:=by rfl):AWp P gl N n0 keep (.region i l.toArray true) Q fr st:=y0V trk n hm ho hn (e b)
theorem x6h{k:Nat}(h:k≤140737488355328):(k≤top)=True:=eq_true (by unfold top;exact h)
section
variable {α:Type} {E:α→List D}
theorem rg[Inhabited α](E:α→List D)(l:List α)(k:Nat)(h:k<l.length:=by first|omega|(simp;omega)):(rows E l).getD k []=E (get l k)∧k<l.length:=⟨w9S h,h⟩
end
end
attribute [go_sem] x6h
def inn(r:List Int):Option Ob:=some (.arr 0 1 8 (rows u0I r))
section
variable {q m n k i:Nat} {M:List (List Int)} {R:List Int}
def zs(k:Nat)(r:List Int):List (List Int):=List.replicate k r
section
variable {α:Type} {same:α→α→Bool} {a b:List α}
end
theorem u7Q{σ:Type}(n:Nat)(s:σ):r5r (ρ:=σ) (r5J (fun _ s=>some (.nxt s)) n s) (fun s=>some s)=some s:=by
 unfold r5J
 generalize 0=k
 induction n generalizing k with
 |zero=>rfl
 |succ n ih=>simp only[r9w];exact ih _
end
end Go.Am
