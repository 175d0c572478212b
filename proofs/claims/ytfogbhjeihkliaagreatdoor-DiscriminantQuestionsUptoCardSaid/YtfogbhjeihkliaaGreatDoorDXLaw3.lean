import Derived.Test.YtfogbhjeihkliaaGreatDoorDXLaw2
set_option linter.unusedVariables false
set_option linter.unusedSimpArgs false
namespace Go.Proofs.YtfogbhjeihkliaaGreatDoor
open Go Go.Am
theorem Ar(a b:DD):Evt (fun _=>T4 a b) (fun r=>r=jr a b):=by
 have h1:∀x y:Int,Evt (fun _=>T7 x y) (fun r=>r=Cb x y):=fun x y=>(uj x y).mono fun r hr=>hr
 unfold T4
 refine Evt.bind (h1 _ _) fun v1 e1=>Evt.bind (h1 _ _) fun v2 e2=>Evt.bind (h1 _ _) fun v3 e3=>Evt.bind (h1 _ _) fun v4 e4=>Evt.bind (h1 _ _) fun v5 e5=>?_
 refine Evt.bind (P:=fun r=>r=jr a b) ?_ fun v hv=>Evt.pure hv
 have e:qz [v1,v2,v3,v4,v5]=some (if v1≠0 then v1 else if v2≠0 then v2 else if v3≠0 then v3 else if v4≠0 then v4 else v5):=by
  unfold qz F2
  by_cases c1:v1=0<;>by_cases c2:v2=0<;>by_cases c3:v3=0<;>by_cases c4:v4=0<;>by_cases c5:v5=0<;>simp[cX,nW,nX,B5,Am.get,c1,c2,c3,c4,c5]
 refine Evt.of e ?_
 subst e1 e2 e3 e4 e5
 rfl
abbrev LU(l:List DD):Prop:=Am.Asc jr l
theorem yP{l:List DD}(h:LU l){i j:Nat}(hi:i<j)(hj:j<l.length):¬jr (Am.get l j) (Am.get l i)<0:=by
 have:=List.pairwise_iff_getElem.1 h i j (by omega) hj hi
 simpa[Am.get,show i<l.length by omega,hj]using this
theorem Hi{l:List DD}(hl:l.length≤100000)(ha:LU l)(a:DD):Evt (fun n=>C8 n l a) (fun r=>r.2=true↔a∈l):=by
 unfold C8
 refine Evt.B5 (P:=ExP (fun t:Int=>0≤t∧t≤l.length∧(∀j:Nat,(j:Int)<t→jr (Am.get l j) a<0)∧(∀j:Nat,t≤(j:Int)→j<l.length→¬jr (Am.get l j) a<0)) (fun _:Int×Bool=>False))
  (Evt.loop (body:=fun _=>B7 l a) (fun s:Int×Int=>(s.1-s.2).toNat) (fun s=>(0≤s.2∧s.2≤s.1∧s.1≤l.length)∧(∀j:Nat,(j:Int)<s.2→jr (Am.get l j) a<0)∧(∀j:Nat,s.1≤(j:Int)→j<l.length→¬jr (Am.get l j) a<0))
   (fun t:Int=>0≤t∧t≤l.length∧(∀j:Nat,(j:Int)<t→jr (Am.get l j) a<0)∧(∀j:Nat,t≤(j:Int)→j<l.length→¬jr (Am.get l j) a<0)) (fun _=>False)
   ⟨⟨by show(0:Int)≤0;omega,by show(0:Int)≤(l.length:Int);omega,by show(l.length:Int)≤(l.length:Int);omega⟩,fun j hj=>by have:(j:Int)<0:=hj;omega,fun j hj hj2=>by have:(l.length:Int)≤j:=hj;omega⟩ (fun s hs=>?_)) (fun t ht=>?_) (fun _ h=>h.elim)
 ·obtain⟨hs,hlo,hhi⟩:=hs
  show Evt (fun _=>B7 l a s) _
  unfold B7
  refine Evt.cond (fun e=>?_) (fun e=>Evt.pure ?_)
  ·replace e:=bx e
   rw[half (by omega) e (by omega)]
   have hw:wr .i64 ((s.2+s.1) / 2+1)=(s.2+s.1) / 2+1:=H9 (by omega) (by omega)
   refine Evt.chk (by omega) (Evt.bind (Ar _ _) fun v hv=>Evt.cond (fun e2=>Evt.pure ?_) (fun e2=>Evt.pure ?_))
   ·replace e2:=bx e2
    rw[hv]at e2
    rw[hw]
    refine⟨⟨⟨by show(0:Int)≤_;omega,by show _≤s.1;omega,hs.2.2⟩,fun j hj=>?_,hhi⟩,by show(s.1-((s.2+s.1) / 2+1)).toNat<_;omega⟩
    have hj:(j:Int)<(s.2+s.1) / 2+1:=hj
    by_cases ej:j=((s.2+s.1) / 2).toNat
    ·rw[ej];exact e2
    ·have h1:=yP ha (i:=j) (j:=((s.2+s.1) / 2).toNat) (by omega) (by omega)
     have h2:=M8.neg (Am.get l ((s.2+s.1) / 2).toNat) (Am.get l j)
     have h3:=M8.neg (Am.get l j) a
     have h4:=M8.neg (Am.get l ((s.2+s.1) / 2).toNat) a
     have h5:=M8.neg (Am.get l j) (Am.get l ((s.2+s.1) / 2).toNat)
     have t1:=M8.tr (Am.get l j) (Am.get l ((s.2+s.1) / 2).toNat) a
     have t2:=M8.tr a (Am.get l j) (Am.get l ((s.2+s.1) / 2).toNat)
     have h6:=M8.neg a (Am.get l j)
     omega
   ·replace e2:=bx e2
    rw[hv]at e2
    have e2:=Int.not_lt.2 e2
    refine⟨⟨⟨hs.1,by show s.2≤_;omega,by show _≤(l.length:Int);omega⟩,hlo,fun j hj hj2=>?_⟩,by show((s.2+s.1) / 2-s.2).toNat<_;omega⟩
    have hj:(s.2+s.1) / 2≤(j:Int):=hj
    by_cases ej:j=((s.2+s.1) / 2).toNat
    ·rw[ej];exact e2
    ·have h1:=yP ha (i:=((s.2+s.1) / 2).toNat) (j:=j) (by omega) hj2
     exact QE M8.swo h1 e2
  ·replace e:=bx e
   exact⟨hs.1,by omega,hlo,fun j hj=>hhi j (by omega)⟩
 ·obtain⟨t0,t1,hlo,hhi⟩:=(ht:0≤t∧_)
  unfold D7
  refine Evt.chk ⟨by unfold iQ;intro _;exact t0,by unfold iQ;intro h;exact of_decide_eq_true h⟩ ?_
  refine Evt.bind (P:=fun v=>t<l.length→v=jr (Am.get l t.toNat) a) (Evt.gd (fun _=>(Ar _ _).mono fun r hr _=>hr) (fun e h=>absurd h (of_decide_eq_false e))) fun v hv=>Evt.pure ?_
  show(bif decide (t<(l.length:Int))then decide (v=0)else false)=true↔a∈l
  by_cases h:t<l.length
  ·rw[decide_eq_true h,cond_true,decide_eq_true_eq,hv h]
   constructor
   ·intro e
    rw[←tZ e]
    exact get_mem (by omega)
   ·intro hm
    obtain⟨j,hj,he⟩:=List.getElem_of_mem hm
    have he:Am.get l j=a:=by simpa[Am.get,hj]using he
    have h0:=M8.refl a
    have hj1:t≤(j:Int):=by
     rcases Int.lt_or_le (j:Int) t with c|c
     ·have:=hlo j c;rw[he]at this;omega
     ·exact c
    have h2:=hhi t.toNat (by omega) (by omega)
    by_cases ej:j=t.toNat
    ·rw[←ej,he];exact h0
    ·have h1:=yP ha (i:=t.toNat) (j:=j) (by omega) hj
     rw[he]at h1
     have h3:=M8.neg a (Am.get l t.toNat)
     have h4:=M8.neg (Am.get l t.toNat) a
     omega
  ·rw[decide_eq_false h,cond_false]
   simp only[Bool.false_eq_true,false_iff]
   intro hm
   obtain⟨j,hj,he⟩:=List.getElem_of_mem hm
   have he:Am.get l j=a:=by simpa[Am.get,hj]using he
   have:=hlo j (by omega)
   rw[he,M8.refl]at this
   omega
theorem Dh{l:List DD}(hl:l.length≤100000)(ha:LU l)(d:w7):Evt (fun n=>S0 n l d) (fun r=>r=true↔(d.what∈l↔d.yes=true)):=by
 unfold S0
 refine Evt.bind (Hi hl ha d.what) fun v hv=>Evt.pure ?_
 rw[←hv,decide_eq_true_eq]
 cases v.2<;>cases d.yes<;>simp
def kO(l:List DD)(ds:List w7):Prop:=∀d∈ds,(d.what∈l↔d.yes=true)
theorem EP{l:List DD}(hl:l.length≤100000)(ha:LU l)(ds:List w7)(hd:ds.length≤100000):Evt (fun n=>G8 n ds l) (fun r=>r=false↔kO l ds):=by
 unfold G8 M9
 refine Evt.bind (P:=fun v:Int=>(0≤v∧¬kO l ds)∨(v= -1∧kO l ds)) ?_ fun v hv=>Evt.pure ?_
 ·refine Evt.B5 (Evt.range (fun k _=>∀j,j<k→((Am.get ds j).what∈l↔(Am.get ds j).yes=true)) (fun _=>False) (fun v:Int=>(0≤v∧¬kO l ds)∨(v= -1∧kO l ds)) (fun j hj=>absurd hj (Nat.not_lt_zero _)) (fun k s hk hs=>?_)) (fun s hs=>?_) (fun r hr=>hr)
  ·unfold K8 dN
   refine Evt.bind (P:=fun v=>v=false↔((Am.get ds k).what∈l↔(Am.get ds k).yes=true)) (Evt.bind (Dh hl ha (Am.get ds k)) fun v hv=>Evt.pure (by rw[←hv];cases v<;>simp)) fun v hv=>Evt.cond (fun e=>Evt.pure ?_) (fun e=>Evt.pure fun j hj=>?_)
   ·refine .inl ⟨by omega,fun h=>?_⟩
    rw[hv.2 (h _ (get_mem hk))]at e
    cases e
   ·by_cases ej:j=k
    ·subst ej;exact hv.1 e
    ·exact hs j (by omega)
  ·have hs:=hs.elim id False.elim
   unfold K9
   refine Evt.pure (.inr ⟨rfl,fun d hd=>?_⟩)
   obtain⟨j,hj,he⟩:=List.getElem_of_mem hd
   have:=hs j hj
   have he:Am.get ds j=d:=by simpa[Am.get,hj]using he
   rw[he]at this
   exact this
 ·rcases hv with⟨h1,h2⟩|⟨h1,h2⟩
  ·rw[decide_eq_true h1]
   simp[h2]
  ·rw[h1]
   simp[h2]
open Classical in
noncomputable def idx(p:Nat→Prop)(m:Nat):List Int:=((List.range m).filter fun k=>decide (p k)).map fun(k:Nat)=>(k:Int)
theorem Gh(p:Nat→Prop):idx p 0=[]:=rfl
theorem lE{p:Nat→Prop}{m:Nat}(h:p m):idx p (m+1)=idx p m++[(m:Int)]:=by
 unfold idx
 rw[List.range_succ,List.filter_append,List.map_append]
 simp[h]
theorem pU{p:Nat→Prop}{m:Nat}(h:¬p m):idx p (m+1)=idx p m:=by
 unfold idx
 rw[List.range_succ,List.filter_append,List.map_append]
 simp[h]
theorem sX(p:Nat→Prop)(m:Nat):(idx p m).length≤m:=by
 unfold idx
 rw[List.length_map]
 exact Nat.le_trans (List.length_filter_le _ _) (by simp)
theorem rG{p q:Nat→Prop}:∀ {m:Nat},(∀k,k<m→(p k↔q k))→idx p m=idx q m
 |0,_=>rfl
 |m+1,h=>by
  have ih:=rG (p:=p) (q:=q) (m:=m) fun k hk=>h k (by omega)
  by_cases e:p m
  ·rw[lE e,lE ((h m (by omega)).1 e),ih]
  ·rw[pU e,pU (fun c=>e ((h m (by omega)).2 c)),ih]
theorem OD{p:Nat→Prop}{m:Nat}{x:Int}:x∈idx p m↔ ∃k:Nat,x=k∧k<m∧p k:=by
 unfold idx
 simp only[List.mem_map,List.mem_filter,List.mem_range,decide_eq_true_eq]
 constructor
 ·rintro⟨k,⟨h1,h2⟩,rfl⟩;exact⟨k,rfl,h1,h2⟩
 ·rintro⟨k,rfl,h1,h2⟩;exact⟨k,⟨h1,h2⟩,rfl⟩
theorem Di{ls:List (List DD)}{ds:List w7}(hn:ls.length≤1000)(hl:∀k,k<ls.length→(Am.get ls k).length≤100000∧LU (Am.get ls k))(hd:ds.length≤100000):
 Evt (fun n=>L4 n ls ds) (fun r=>r=idx (fun k=>kO (Am.get ls k) ds) ls.length):=by
 unfold L4
 refine Evt.B5 (Evt.range (fun k s=>s=idx (fun k=>kO (Am.get ls k) ds) k) (fun _=>False) (fun _=>False) (Gh _).symm (fun k s hk hs=>?_)) (fun t ht=>?_) (fun _ h=>h.elim)
 ·subst hs
  unfold aQ
  refine Evt.bind (EP (hl k hk).1 (hl k hk).2 ds hd) fun v hv=>Evt.cond (fun e=>?_) (fun e=>Evt.pure ?_)
  ·have e:v=false:=by simpa using e
   refine Evt.eE ?_
   rw[←lE (p:=fun k=>kO (Am.get ls k) ds) (hv.1 e)]
   have:=sX (fun k=>kO (Am.get ls k) ds) (k+1)
   exact Evt.chk (by rw[bO];omega) (Evt.pure rfl)
  ·have e:¬v=false:=by simpa using e
   exact(pU fun h=>e (hv.2 h)).symm
 ·have ht:t=_:=ht.elim id False.elim
  subst ht
  unfold aR
  exact Evt.pure rfl
def Passed(g:x5)(ts:List w8):Prop:=ts.length≤200∧∀k,k<ts.length→cB g (Am.get ts k)∧ndT (Am.get ts k)≤200
theorem JL{g:x5}{ts:List w8}{ds:List w7}(hp:Passed g ts)(hd:ds.length≤100000):
 Evt (fun n=>bk n ts ds) (fun r=>r=idx (fun k=>kO (mks (Am.get ts k) 0 0) ds) ts.length):=by
 have hn:=hp.1
 unfold bk
 refine Evt.B5 (P:=ExP (fun t=>t=idx (fun k=>kO (mks (Am.get ts k) 0 0) ds) ts.length) (fun _=>False)) (Evt.loop (body:=fun n=>V9 n ts ds) (fun s=>((ts.length:Int)-s.2).toNat) (fun s=>∃k:Nat,k≤ts.length∧s=(idx (fun k=>kO (mks (Am.get ts k) 0 0) ds) k,(k:Int)))
  (fun t=>t=idx (fun k=>kO (mks (Am.get ts k) 0 0) ds) ts.length) (fun _=>False) ⟨0,by omega,rfl⟩ (fun s hs=>?_)) (fun t ht=>by subst ht;exact Evt.pure rfl) (fun _ h=>h.elim)
 obtain⟨k,hk,rfl⟩:=hs
 show Evt (fun n=>V9 n ts ds (idx (fun k=>kO (mks (Am.get ts k) 0 0) ds) k,(k:Int))) _
 unfold V9
 refine Evt.cond (fun e=>?_) (fun e=>Evt.pure ?_)
 ·replace e:=bx e
  have hk2:k<ts.length:=by omega
  obtain⟨hok,hnd⟩:=hp.2 k hk2
  refine Evt.B5 (P:=ExP (fun v=>v=true↔kO (mks (Am.get ts k) 0 0) ds) (fun _=>False)) (Evt.loop (body:=fun n=>W0 n ds (idx (fun k=>kO (mks (Am.get ts k) 0 0) ds) k,(k:Int)) ts) (fun s=>((ds.length:Int)-s.2).toNat)
   (fun s=>∃j:Nat,j≤ds.length∧s.2=(j:Int)∧(s.1=true↔ ∀i,i<j→((Am.get ds i).what∈mks (Am.get ts k) 0 0↔(Am.get ds i).yes=true))) (fun v=>v=true↔kO (mks (Am.get ts k) 0 0) ds) (fun _=>False) ⟨0,by omega,rfl,by simp⟩ (fun s hs=>?_)) (fun v hv=>?_) (fun _ h=>h.elim)
  ·obtain⟨ok,j⟩:=s
   obtain⟨j,hj,rfl,hi⟩:=hs
   show Evt (fun n=>W0 n ds (idx (fun k=>kO (mks (Am.get ts k) 0 0) ds) k,(k:Int)) ts (ok,(j:Int))) _
   unfold W0
   dsimp only
   refine Evt.cond (fun e2=>?_) (fun e2=>Evt.pure ?_)
   ·replace e2:=bx e2
    have hj2:j<ds.length:=by omega
    refine Evt.chk ⟨fun _=>by omega,fun _=>by omega⟩ (Evt.chk ⟨fun _=>by omega,fun _=>by omega⟩ ?_)
    rw[Int.toNat_natCast,Int.toNat_natCast]
    refine Evt.bind (P:=fun v=>ok=true→(v=true↔(Am.get ds j).what∈mks (Am.get ts k) 0 0)) (Evt.gd (fun _=>(sj hok hnd _).mono fun r hr _=>hr) (fun e3 h=>by rw[h]at e3;cases e3)) fun v hv=>?_
    refine Evt.chk ⟨fun _=>by omega,fun _=>by omega⟩ (Evt.pure ⟨⟨j+1,by omega,?_,?_⟩,?_⟩)
    ·show wr .i64 ((j:Int)+1)=_
     rw[H9 (by omega) (by omega)];rfl
    ·show(bif ok then decide (v=(Am.get ds j).yes)else false)=true↔_
     cases ok with
     |false=>
      simp only[cond_false,Bool.false_eq_true,false_iff]
      intro h
      have:=hi.2 fun i hi2=>h i (by omega)
      cases this
     |true=>
      have hv:=hv rfl
      have hi:=hi.1 rfl
      rw[cond_true,decide_eq_true_eq]
      constructor
      ·intro e3 i hi2
       by_cases ei:i=j
       ·subst ei;rw[←hv,e3]
       ·exact hi i (by omega)
      ·intro h
       have h3:=h j (by omega)
       rw[←hv]at h3
       exact Bool.eq_iff_iff.2 h3
    ·show((ds.length:Int)-wr .i64 ((j:Int)+1)).toNat<((ds.length:Int)-(j:Int)).toNat
     rw[H9 (by omega) (by omega)];omega
   ·replace e2:=bx e2
    show ok=true↔_
    rw[hi]
    constructor
    ·intro h d hd2
     obtain⟨i,hi2,he⟩:=List.getElem_of_mem hd2
     have he:Am.get ds i=d:=by simpa[Am.get,hi2]using he
     have:=h i (by omega)
     rwa[he]at this
    ·intro h i hi2
     exact h _ (get_mem (by omega))
  ·have hv:v=true↔kO (mks (Am.get ts k) 0 0) ds:=hv
   unfold dO
   dsimp only
   have hw:wr .i64 ((k:Int)+1)=((k+1:Nat):Int):=by rw[H9 (by omega) (by omega)];rfl
   rw[hw]
   have hm:((ts.length:Int)-((k+1:Nat):Int)).toNat<((ts.length:Int)-(k:Int)).toNat:=by omega
   refine Evt.cond (fun e3=>?_) (fun e3=>Evt.pure ⟨⟨k+1,by omega,?_⟩,hm⟩)
   ·refine Evt.eE ?_
    rw[←lE (p:=fun k=>kO (mks (Am.get ts k) 0 0) ds) (hv.1 e3)]
    have:=sX (fun k=>kO (mks (Am.get ts k) 0 0) ds) (k+1)
    exact Evt.chk (by rw[bO];omega) (Evt.pure ⟨⟨k+1,by omega,rfl⟩,hm⟩)
   ·rw[pU fun h=>by rw[hv.2 h]at e3;cases e3]
 ·replace e:=bx e
  show idx _ k=_
  rw[show k=ts.length by omega]
section
variable {α:Type} [Inhabited α]
theorem wu{l m:List α}(hl:l.length=m.length)(h:∀k,k<l.length→Am.get l k=Am.get m k):l=m:=by
 refine List.ext_getElem hl fun k h1 h2=>?_
 have:=h k h1
 simpa[Am.get,h1,h2]using this
theorem JM(f:Nat→α→α→Option Bool)(l m:List α)(hl:l.length=m.length)(hf:∀k,k<l.length→Evt (fun n=>f n (Am.get l k) (Am.get m k)) (fun r=>r=true↔Am.get l k=Am.get m k)):
 Evt (fun n=>B5 (F2 (fun(k:Nat) (_:Unit)=>chk ((↑k:Int)<(↑m.length:Int)) ((f n (Am.get l k) (Am.get m k)).bind fun v=>bif (!v)then some (Ctl.ret false)else some (Ctl.nxt ()))) l.length ()) (fun _=>some true)) (fun r=>r=true↔l=m):=by
 refine Evt.B5 (Evt.range (fun k _=>∀j,j<k→Am.get l j=Am.get m j) (fun _=>False) (fun r:Bool=>r=false∧l≠m) (fun j h=>absurd h (Nat.not_lt_zero _)) (fun k u hk hj=>?_)) (fun u hu=>?_) (fun r hr=>?_)
 ·refine Evt.chk (by omega) (Evt.bind (hf k hk) fun v hv=>Evt.cond (fun e=>Evt.pure ⟨rfl,fun e2=>?_⟩) (fun e=>Evt.pure fun j hj'=>?_))
  ·rw[e2]at hv
   rw[hv.2 rfl]at e;cases e
  ·by_cases ej:j=k
   ·subst ej;exact hv.1 (by simpa using e)
   ·exact hj j (by omega)
 ·simp only[ExP,or_false]at hu
  exact Evt.pure (by simp only[true_iff];exact wu hl hu)
 ·obtain⟨rfl,h⟩:=(hr:r=false∧l≠m)
  simp[h]
theorem JN(f:Nat→α→α→Option Bool)(l m:List α)(hf:l.length=m.length→∀k,k<l.length→Evt (fun n=>f n (Am.get l k) (Am.get m k)) (fun r=>r=true↔Am.get l k=Am.get m k)):
 Evt (fun n=>bif (!decide ((↑l.length:Int)=(↑m.length:Int)))then some false else B5 (F2 (fun(k:Nat) (_:Unit)=>chk ((↑k:Int)<(↑m.length:Int)) ((f n (Am.get l k) (Am.get m k)).bind fun v=>bif (!v)then some (Ctl.ret false)else some (Ctl.nxt ()))) l.length ()) (fun _=>some true)) (fun r=>r=true↔l=m):=by
 refine Evt.cond (fun e=>Evt.pure ?_) (fun e=>?_)
 ·replace e:=bx e
  simp only[Bool.false_eq_true,false_iff]
  intro h;exact e (by rw[h])
 ·replace e:=bx e
  have hl:l.length=m.length:=by omega
  exact JM f l m hl (hf hl)
end
mutual
def wds(g:x5):w8→List Bs
 | .mk r x ks=>(if r<0 then [(Am.get g.I7 x.toNat).word]else [])++Dj g ks
def Dj(g:x5):List w8→List Bs
 | []=>[]
 |t::l=>wds g t++Dj g l
end
theorem Gi(g:x5)(t:w8):wds g t=(if t.rule<0 then [(Am.get g.I7 t.lex.toNat).word]else [])++Dj g t.kids:=by cases t;rw[wds];rfl
theorem uz(g:x5):∀(l:List w8) (t:w8),Dj g (l++[t])=Dj g l++wds g t
 | [],t=>by simp[Dj]
 |a::l,t=>by rw[List.cons_append,Dj,Dj,uz g l t,List.append_assoc]
mutual
theorem ER(g:x5):∀t:w8,(wds g t).length≤ndT t
 | .mk r x ks=>by
   rw[wds,ndT]
   have:=wY g ks
   split<;>simp<;>omega
theorem wY(g:x5):∀l:List w8,(Dj g l).length≤ndL l
 | []=>by rw[Dj];simp
 |t::l=>by
  rw[Dj,ndL,List.length_append]
  have h1:=ER g t
  have h2:=wY g l
  omega
end
theorem JO{g:x5}:∀(m:Nat) (t:w8),SizeOf.sizeOf t≤m→cB g t→∀l:List Bs,l.length+ndT t≤100000→Evt (fun n=>cS n t l g.hierarchy.types g.hierarchy.C1 g.rules g.I7 g.start.nodes) (fun r=>r=l++wds g t):=by
 intro m
 induction m with
 |zero=>intro s h;cases s;simp only[w8.mk.sizeOf_spec]at h;omega
 |succ m ih=>
  intro t ht hok l hl
  have hnd:=yO t
  refine Evt.succ ?_
  simp only[cS]
  have hj:∀(l2:List Bs),l2.length+ndL t.kids≤100000→(∀k,k<t.kids.length→cB g (Am.get t.kids k))→Evt (fun n=>fK (cS n) t g.hierarchy.types g.hierarchy.C1 g.rules g.I7 g.start.nodes l2) (fun r=>r=l2++Dj g t.kids):=fun l2 hl2 hk=>by
   unfold fK
   refine Evt.B5 (Evt.range (fun k s=>s=l2++Dj g (t.kids.take k)) (fun _=>False) (fun _=>False) (by rw[List.take_zero,Dj,List.append_nil]) (fun k s hk1 hs=>?_)) (fun s hs=>?_) (fun _ h=>h.elim)
   ·subst hs
    unfold kP
    have hsz:=mq hk1
    have ht2:=wX hk1
    have hw:=wY g (t.kids.take k)
    refine Evt.bind (ih _ (by omega) (hk k hk1) _ (by rw[List.length_append];omega)) fun v hv=>Evt.pure ?_
    subst hv
    rw[Z1 hk1,uz,List.append_assoc]
    rfl
   ·have hs:s=_:=hs.elim id False.elim
    subst hs
    rw[List.take_length]
    unfold kQ
    exact Evt.pure rfl
  refine Evt.cond (fun e=>?_) (fun e=>?_)
  ·replace e:=bx e
   cases hok with
   |node _ h=>omega
   |leaf _ h hx hk=>
    unfold oP
    refine Evt.bind (P:=fun v=>v=l++[(Am.get g.I7 t.lex.toNat).word]) (Evt.chk hx (Evt.eE (Evt.chk (by simp only[List.length_append,List.length_cons,List.length_nil,bO];omega) (Evt.pure rfl)))) fun v hv=>?_
    subst hv
    refine(hj _ (by simp only[List.length_append,List.length_cons,List.length_nil];omega) (fun k hk2=>by rw[hk]at hk2;cases hk2)).mono fun r hr=>?_
    rw[hr,Gi,if_pos (by omega),List.append_assoc]
  ·replace e:=bx e
   cases hok with
   |leaf _ h=>omega
   |node _ h hx hn hk=>
    refine(hj l (by omega) hk).mono fun r hr=>?_
    rw[hr,Gi,if_neg (by omega),List.nil_append]
theorem Au{g:x5}:∀(m:Nat) (t:w8),SizeOf.sizeOf t≤m→cB g t→ndT t≤100000→Evt (fun n=>M6 n g t) (fun r=>r=wds g t):=by
 intro m
 induction m with
 |zero=>intro s h;cases s;simp only[w8.mk.sizeOf_spec]at h;omega
 |succ m ih=>
  intro t ht hok hl
  have hnd:=yO t
  refine Evt.succ ?_
  simp only[M6]
  refine Evt.cond (fun e=>?_) (fun e=>?_)
  ·replace e:=bx e
   cases hok with
   |node _ h=>omega
   |leaf _ h hx hk=>
    refine Evt.chk hx (Evt.pure ?_)
    rw[Gi,if_pos (by omega),hk,Dj,List.append_nil]
  ·replace e:=bx e
   cases hok with
   |leaf _ h=>omega
   |node _ h hx hn hk=>
    refine Evt.B5 (Evt.range (fun k s=>s=Dj g (t.kids.take k)) (fun _=>False) (fun _=>False) (by rw[List.take_zero,Dj]) (fun k s hk1 hs=>?_)) (fun s hs=>?_) (fun _ h=>h.elim)
    ·subst hs
     unfold bA
     have hsz:=mq hk1
     have ht2:=wX hk1
     have hw:=wY g (t.kids.take k)
     have hw2:=ER g (Am.get t.kids k)
     refine Evt.bind (ih _ (by omega) (hk k hk1) (by omega)) fun v hv=>Evt.eE ?_
     subst hv
     rw[←uz, ←Z1 hk1]
     refine Evt.chk ?_ (Evt.pure rfl)
     rw[Z1 hk1,uz,List.length_append,bO]
     omega
    ·have hs:s=_:=hs.elim id False.elim
     subst hs
     rw[List.take_length]
     unfold bB
     refine Evt.pure ?_
     rw[Gi,if_neg (by omega),List.nil_append]
theorem Dk(a b:List Bs):Evt (fun _=>aF a b) (fun r=>r=true↔a=b):=by
 unfold aF
 exact JN (fun _ x y=>some (decide (x=y))) a b (fun _ k _=>Evt.pure (by simp))
def uD(m:Nat)(G:Nat→Prop)(bad:Nat→w9)(f:w9):Prop:=(f=⟨0,0⟩∧∀k,k<m→G k)∨∃i:Nat,i<m∧f=bad i∧¬G i∧∀k,k<i→G k
theorem uD.uniq{m:Nat}{G:Nat→Prop}{bad:Nat→w9}{f g:w9}(h:uD m G bad f)(k:uD m G bad g):f=g:=by
 rcases h with⟨rfl,h⟩|⟨i,hi,rfl,h1,h2⟩<;>rcases k with⟨rfl,k⟩|⟨j,hj,rfl,k1,k2⟩
 ·rfl
 ·exact absurd (h j hj) k1
 ·exact absurd (k i hi) h1
 ·rcases Nat.lt_trichotomy i j with e|e|e
  ·exact absurd (k2 i e) h1
  ·rw[e]
  ·exact absurd (h2 j e) k1
section
variable {g:x5} {ts:List w8} {ff:Nat→w9}
def JQ(ff:Nat→w9)(i:Nat):w9:=if(ff i).code=0 then⟨16,(i:Int)⟩else⟨(ff i).code,(i:Int)⟩
def yQ(g:x5)(ts:List w8)(ff:Nat→w9)(i:Nat):Prop:=(ff i).code=0∧wds g (Am.get ts i)=wds g (Am.get ts 0)
theorem BP(hv:Evt (fun n=>dr n g) (fun f=>f.code=0))(hn:ts.length≤200)(h1:∀k,k<ts.length→Evt (fun n=>kl n g (Am.get ts k)) (fun f=>f=ff k))(h2:∀k,k<ts.length→(ff k).code=0→cB g (Am.get ts k)∧ndT (Am.get ts k)≤200):
 Evt (fun n=>B5 (F2 (cC n g ts) ts.length []) (cD)) (uD ts.length (yQ g ts ff) (JQ ff)):=by
 refine Evt.B5 (Evt.range (fun k s=>(∀j,j<k→yQ g ts ff j)∧(0<k→s=wds g (Am.get ts 0))) (fun _=>False) (uD ts.length (yQ g ts ff) (JQ ff)) ⟨fun j hj=>absurd hj (Nat.not_lt_zero _),fun h=>absurd h (Nat.lt_irrefl _)⟩ (fun k s hk hs=>?_)) (fun s hs=>?_) (fun r hr=>hr)
 ·obtain⟨s1,s2⟩:=hs
  unfold cC L3
  refine Evt.bind (h1 k hk) fun v8 h8=>?_
  subst h8
  refine Evt.cond (fun e=>?_) (fun e=>?_)
  ·replace e:=bx e
   refine Evt.bind (P:=fun f=>f=⟨(ff k).code,(k:Int)⟩) (Evt.pure rfl) fun f hf=>Evt.pure (.inr ⟨k,hk,?_,fun h=>e h.1,s1⟩)
   rw[hf];unfold JQ;rw[if_neg e]
  ·replace e:=bx e
   obtain⟨hok,hnd⟩:=h2 k hk e
   refine Evt.bind (P:=fun v=>v.1=wds g (Am.get ts k)) ?_ fun v10 h10=>?_
   ·unfold qA lO
    refine Evt.bind (P:=fun f=>f.code=0) (Evt.bind hv fun f hf=>Evt.cond (fun e2=>absurd hf (bx e2)) (fun _=>Evt.bind (h1 k hk) fun f hf=>Evt.pure (by rw[hf];exact e))) fun f hf=>Evt.cond (fun e2=>absurd hf (bx e2)) (fun _=>?_)
    exact Evt.bind (JO _ _ (Nat.le_refl _) hok [] (by simp only[List.length_nil];omega)) fun v hv=>Evt.pure (by rw[hv];rfl)
   ·have hj2:∀w:List Bs,w=wds g (Am.get ts 0)→Evt (fun _=>aL v10 k w) (Lz (fun s=>(∀j,j<k+1→yQ g ts ff j)∧(0<k+1→s=wds g (Am.get ts 0))) (fun _=>False) (uD ts.length (yQ g ts ff) (JQ ff))):=fun w hw=>by
     unfold aL L3
     refine Evt.bind (Dk _ _) fun v hv=>Evt.cond (fun e2=>?_) (fun e2=>Evt.pure ⟨fun j hj=>?_,fun _=>hw⟩)
     ·refine Evt.bind (P:=fun f=>f=⟨16,(k:Int)⟩) (Evt.pure rfl) fun f hf=>Evt.pure (.inr ⟨k,hk,?_,fun h=>?_,s1⟩)
      ·rw[hf];unfold JQ;rw[if_pos e]
      ·rw[hv.2 (by rw[hw,h10,h.2])]at e2
       cases e2
     ·by_cases ej:j=k
      ·subst ej
       have:w=v10.1:=hv.1 (by simpa using e2)
       exact⟨e,by rw[←h10, ←this,hw]⟩
      ·exact s1 j (by omega)
    refine Evt.cond (fun e2=>?_) (fun e2=>?_)
    ·replace e2:=bx e2
     obtain rfl:k=0:=by omega
     exact hj2 _ h10
    ·replace e2:=bx e2
     exact hj2 _ (s2 (by omega))
 ·have hs:=hs.elim id False.elim
  unfold cD
  exact Evt.pure (.inl ⟨rfl,hs.1⟩)
theorem Dl(v w:List Bs)(hv:v.length≤100000):Evt (fun n=>P4 (ρ:=Ctl w9 (Int×Int×Int) Unit) (I9 v w) n (0,(decide ((↑v.length:Int)=(↑w.length:Int))))) (ExP (fun t=>t=true↔v=w) (fun _=>False)):=by
 refine Evt.loop (body:=fun _=>I9 v w) (fun s=>((v.length:Int)-s.1).toNat) (fun s=>∃j:Nat,j≤v.length∧s.1=(j:Int)∧(s.2=true↔v.length=w.length∧∀i,i<j→Am.get v i=Am.get w i)) (fun t=>t=true↔v=w) (fun _=>False) ⟨0,by omega,rfl,by simp;omega⟩ (fun s hs=>?_)
 obtain⟨j,ok⟩:=s
 obtain⟨j,hj,rfl,hi⟩:=hs
 show Evt (fun _=>I9 v w ((j:Int),ok)) _
 unfold I9
 dsimp only
 have hi:ok=true↔v.length=w.length∧∀i,i<j→Am.get v i=Am.get w i:=hi
 refine Evt.cond (fun e=>?_) (fun e=>Evt.pure ?_)
 ·cases ok with
  |false=>cases h:decide ((j:Int)<(v.length:Int))<;>rw[h]at e<;>cases e
  |true=>
   obtain⟨h1,h2⟩:=hi.1 rfl
   have e2:(j:Int)<v.length:=by
    cases h:decide ((j:Int)<(v.length:Int))with
    |true=>exact of_decide_eq_true h
    |false=>rw[h]at e;cases e
   rw[Int.toNat_natCast]
   refine Evt.chk (by omega) (Evt.chk (by omega) (Evt.pure ⟨⟨j+1,by omega,?_,?_⟩,?_⟩))
   ·show wr .i64 ((j:Int)+1)=_
    rw[H9 (by omega) (by omega)];rfl
   ·show decide (Am.get v j=Am.get w j)=true↔_
    rw[decide_eq_true_eq]
    refine⟨fun h=>⟨h1,fun i hi2=>?_⟩,fun h=>h.2 j (by omega)⟩
    by_cases ei:i=j
    ·subst ei;exact h
    ·exact h2 i (by omega)
   ·show((v.length:Int)-wr .i64 ((j:Int)+1)).toNat<((v.length:Int)-(j:Int)).toNat
    rw[H9 (by omega) (by omega)];omega
 ·show ok=true↔v=w
  rw[hi]
  constructor
  ·rintro⟨h1,h2⟩
   have hok:ok=true:=hi.2 ⟨h1,h2⟩
   have e2:¬(j:Int)<v.length:=fun h=>by rw[decide_eq_true h,hok]at e;cases e
   exact wu h1 fun i hi2=>h2 i (by omega)
  ·rintro rfl
   exact⟨rfl,fun _ _=>rfl⟩
theorem ES(hn:ts.length≤200)(c0 i0:Int)(h1:∀k,k<ts.length→Evt (fun n=>O1 n g (Am.get ts k)) (fun f=>f=ff k))(h2:∀k,k<ts.length→(ff k).code=0→cB g (Am.get ts k)∧ndT (Am.get ts k)≤200):
 Evt (fun n=>B5 (P4 (J0 n ts g) n (c0,i0,0)) (S1)) (uD ts.length (yQ g ts ff) (JQ ff)):=by
 refine Evt.B5 (P:=ExP (fun _=>∀k,k<ts.length→yQ g ts ff k) (uD ts.length (yQ g ts ff) (JQ ff))) (Evt.loop (body:=fun n=>J0 n ts g) (fun s=>((ts.length:Int)-s.2.2).toNat) (fun s=>∃k:Nat,k≤ts.length∧s.2.2=(k:Int)∧∀j,j<k→yQ g ts ff j) (fun _=>∀k,k<ts.length→yQ g ts ff k) (uD ts.length (yQ g ts ff) (JQ ff)) ⟨0,by omega,rfl,fun j hj=>absurd hj (Nat.not_lt_zero _)⟩ (fun s hs=>?_)) (fun _ ht=>?_) (fun r hr=>hr)
 ·obtain⟨c,ix,k⟩:=s
  obtain⟨k,hk0,rfl,s1⟩:=hs
  show Evt (fun n=>J0 n ts g (c,ix,(k:Int))) _
  unfold J0
  dsimp only
  refine Evt.cond (fun e=>?_) (fun e=>Evt.pure ?_)
  ·replace e:=bx e
   have hk:k<ts.length:=by omega
   rw[Int.toNat_natCast]
   refine Evt.chk (by omega) (Evt.bind (h1 k hk) fun v hv=>?_)
   subst hv
   refine Evt.cond (fun e2=>?_) (fun e2=>?_)
   ·replace e2:=bx e2
    exact Evt.pure (.inr ⟨k,hk,by unfold JQ;rw[if_neg e2],fun h=>e2 h.1,s1⟩)
   ·replace e2:=bx e2
    obtain⟨hok,hnd⟩:=h2 k hk e2
    have h00:(ff 0).code=0:=by
     by_cases ek:k=0
     ·subst ek;exact e2
     ·exact(s1 0 (by omega)).1
    obtain⟨Wf,XR⟩:=h2 0 (by omega) h00
    have hw0:=ER g (Am.get ts 0)
    refine Evt.chk (by omega) (Evt.bind (Au _ _ (Nat.le_refl _) Wf (by omega)) fun v15 h15=>Evt.bind (Au _ _ (Nat.le_refl _) hok (by omega)) fun v16 h16=>?_)
    subst h15;subst h16
    refine Evt.B5 (Dl _ _ (by omega)) (fun t ht=>?_) (fun _ h=>h.elim)
    have ht:t=true↔wds g (Am.get ts 0)=wds g (Am.get ts k):=ht
    unfold Y9
    dsimp only
    refine Evt.cond (fun e3=>Evt.pure (.inr ⟨k,hk,?_,fun h=>?_,s1⟩)) (fun e3=>Evt.pure ⟨⟨k+1,by omega,?_,fun j hj=>?_⟩,?_⟩)
    ·unfold JQ;rw[if_pos e2]
    ·rw[ht.2 h.2.symm]at e3;cases e3
    ·show wr .i64 ((k:Int)+1)=_
     rw[H9 (by omega) (by omega)];rfl
    ·by_cases ej:j=k
     ·subst ej;exact⟨e2,(ht.1 (by simpa using e3)).symm⟩
     ·exact s1 j (by omega)
    ·show((ts.length:Int)-wr .i64 ((k:Int)+1)).toNat<((ts.length:Int)-(k:Int)).toNat
     rw[H9 (by omega) (by omega)];omega
  ·replace e:=bx e
   exact fun j hj=>s1 j (by omega)
 ·unfold S1
  exact Evt.pure (.inl ⟨rfl,ht⟩)
end
theorem pV{g:x5}(hB:zG g)(ts:List w8):∃f:w9,Evt (fun n=>I4 n g ts) (fun r=>r=f)∧Evt (fun n=>J3 n g ts) (fun r=>r=f)∧(f.code=0→f=⟨0,0⟩∧qO g∧Passed g ts):=by
 obtain⟨f,f',⟨rfl,hf⟩,a1,a2⟩:=(sV hB.holds).split
 unfold I4 J3 L3
 by_cases h0:f.code=0
 ·obtain⟨hz,hg⟩:=hf h0
  by_cases hlen:200<ts.length
  ·refine⟨⟨2, -2⟩,?_,?_,fun h=>absurd h (by decide)⟩
   ·refine Evt.bind a1 fun v hv=>?_
    subst hv
    refine Evt.cond (fun e=>absurd h0 (bx e)) (fun _=>Evt.cond (fun _=>Evt.bind (P:=fun f=>f=⟨2, -2⟩) (Evt.pure rfl) fun f hf=>Evt.pure hf) (fun e=>?_))
    replace e:=bx e;omega
   ·refine Evt.bind a2 fun v hv=>?_
    subst hv
    refine Evt.cond (fun e=>absurd h0 (bx e)) (fun _=>Evt.cond (fun _=>Evt.pure rfl) (fun e=>?_))
    replace e:=bx e;omega
  ·have hall:∀k,∃f:w9,Evt (fun n=>kl n g (Am.get ts k)) (fun r=>r=f)∧Evt (fun n=>O1 n g (Am.get ts k)) (fun r=>r=f)∧(f.code=0→cB g (Am.get ts k)∧ndT (Am.get ts k)≤200):=fun k=>by
    obtain⟨u,u',⟨e1,hu⟩,b1,b2⟩:=(LS hg (Am.get ts k)).split
    exact⟨u,b1,by rw[e1];exact b2,hu⟩
   let ff:=fun k=>Classical.choose (hall k)
   have hff:=fun k=>Classical.choose_spec (hall k)
   obtain⟨p,hp,N,hN⟩:=BP (g:=g) (ts:=ts) (ff:=ff) (a1.mono fun r hr=>by rw[hr];exact h0) (by omega) (fun k _=>(hff k).1) (fun k _ h=>(hff k).2.2 h)
   obtain⟨q,hq,M,hM⟩:=ES (g:=g) (ts:=ts) (ff:=ff) (by omega) f.code f.index (fun k _=>(hff k).2.1) (fun k _ h=>(hff k).2.2 h)
   have e:=hp.uniq hq
   subst e
   refine⟨p,?_,?_,fun hpz=>?_⟩
   ·refine Evt.bind a1 fun v hv=>?_
    subst hv
    refine Evt.cond (fun e=>absurd h0 (bx e)) (fun _=>Evt.cond (fun e=>?_) (fun _=>⟨p,rfl,N,hN⟩))
    replace e:=bx e;omega
   ·refine Evt.bind a2 fun v hv=>?_
    subst hv
    refine Evt.cond (fun e=>absurd h0 (bx e)) (fun _=>Evt.cond (fun e=>?_) (fun _=>⟨p,rfl,M,hM⟩))
    replace e:=bx e;omega
   ·rcases hp with⟨hz2,Bn⟩|⟨i,hi,rfl,XS,_⟩
    ·exact⟨hz2,hg,by omega,fun k hk=>(hff k).2.2 (Bn k hk).1⟩
    ·unfold JQ at hpz
     split at hpz
     ·exact absurd (show(16:Int)=0 from hpz) (by decide)
     ·rename_i hne;exact absurd hpz hne
 ·refine⟨f,?_,?_,fun h=>absurd h h0⟩
  ·refine Evt.bind a1 fun v hv=>?_
   subst hv
   exact Evt.cond (fun _=>Evt.pure rfl) (fun e=>absurd (bx e) h0)
  ·refine Evt.bind a2 fun v hv=>?_
   subst hv
   exact Evt.cond (fun _=>Evt.pure rfl) (fun e=>absurd (bx e) h0)
inductive ET:w8→Prop
 |leaf (t:w8) (h:t.rule<0) (hk:t.kids=[]):ET t
 |node (t:w8) (h:0≤t.rule) (hn:0<t.kids.length) (hk:∀k,k<t.kids.length→ET (Am.get t.kids k)):ET t
theorem cB.p{g:x5}(hg:qO g):∀ {t:w8},cB g t→ET t:=by
 intro t h
 induction h with
 |leaf t h hl hk=>exact .leaf t (by omega) hk
 |node t h hl hn hk ih=>
  have:=(hg.rule t.rule.toNat (by omega)).kids
  exact .node t h.1 (by omega) ih
def SA(x:DD)(a b:Nat):Prop:=(a:Int)≤x.from_∧x.from_<x.to_∧x.to_≤(b:Int)
def Bef(x y:DD):Prop:=x.from_<y.from_∨(x.from_=y.from_∧(y.to_<x.to_∨(x.to_=y.to_∧x.level<y.level)))
theorem LV:∀(m:Nat) (t:w8),SizeOf.sizeOf t≤m→ET t→0<wid t∧∀(f:Nat) (lv:Int),(mks t f lv).Pairwise Bef∧∀x∈mks t f lv,SA x f (f+wid t)∧(x.from_=f→x.to_=((f+wid t:Nat):Int)→lv≤x.level):=by
 intro m
 induction m with
 |zero=>intro s h;cases s;simp only[w8.mk.sizeOf_spec]at h;omega
 |succ m ih=>
  intro t ht hp
  have hwe:=JJ t
  cases hp with
  |leaf _ h hk=>
   rw[if_pos h,hk,kW]at hwe
   refine⟨by omega,fun f lv=>?_⟩
   rw[wo,hk,sw]
   refine⟨by simp,fun x hx=>?_⟩
   rw[List.mem_singleton.1 hx]
   exact⟨⟨Int.le_refl _,by show(f:Int)<((f+wid t:Nat):Int);omega,Int.le_refl _⟩,fun _ _=>Int.le_refl _⟩
  |node _ h hn hk=>
   rw[if_neg (by omega),Nat.zero_add]at hwe
   have SB:∀k,k<t.kids.length→0<wid (Am.get t.kids k)∧∀(f:Nat) (lv:Int),(mks (Am.get t.kids k) f lv).Pairwise Bef∧∀x∈mks (Am.get t.kids k) f lv,SA x f (f+wid (Am.get t.kids k))∧(x.from_=f→x.to_=((f+wid (Am.get t.kids k):Nat):Int)→lv≤x.level):=fun k hk2=>ih _ (by have:=mq hk2;omega) (hk k hk2)
   have hl:∀k,k≤t.kids.length→k≤kW (t.kids.take k)∧∀(f:Nat) (nl:Int),(sw (t.kids.take k) f nl).Pairwise Bef∧∀x∈sw (t.kids.take k) f nl,∃j,j<k∧SA x (f+kW (t.kids.take j)) (f+kW (t.kids.take j)+wid (Am.get t.kids j))∧f+kW (t.kids.take j)+wid (Am.get t.kids j)≤f+kW (t.kids.take k)∧(x.from_=((f+kW (t.kids.take j):Nat):Int)→x.to_=((f+kW (t.kids.take j)+wid (Am.get t.kids j):Nat):Int)→nl≤x.level):=by
    intro k
    induction k with
    |zero=>exact fun _=>⟨by omega,fun f nl=>⟨by rw[List.take_zero,sw];exact .nil,fun x hx=>by rw[List.take_zero,sw]at hx;cases hx⟩⟩
    |succ k ihk=>
     intro hk1
     have hk2:k<t.kids.length:=by omega
     obtain⟨w1,g1⟩:=ihk (by omega)
     obtain⟨w2,g2⟩:=SB k hk2
     rw[Z1 hk2,nV]
     refine⟨by omega,fun f nl=>?_⟩
     rw[uy]
     obtain⟨n1,p1⟩:=g1 f nl
     obtain⟨n2,p2⟩:=g2 (f+kW (t.kids.take k)) nl
     refine⟨List.pairwise_append.2 ⟨n1,n2,fun x hx y hy=>?_⟩,fun x hx=>?_⟩
     ·obtain⟨j,hj,⟨q1,q2,q3⟩,q4,_⟩:=p1 x hx
      obtain⟨⟨r1,r2,r3⟩,_⟩:=p2 y hy
      exact .inl (by omega)
     ·rcases List.mem_append.1 hx with hx|hx
      ·obtain⟨j,hj,q,q4,q5⟩:=p1 x hx
       exact⟨j,by omega,q,by omega,q5⟩
      ·obtain⟨r,r4⟩:=p2 x hx
       exact⟨k,by omega,r,by omega,r4⟩
   obtain⟨w,gl⟩:=hl t.kids.length (Nat.le_refl _)
   rw[List.take_length]at w gl
   refine⟨by omega,fun f lv=>?_⟩
   obtain⟨nl,hnl⟩:∃nl:Int,nl=if t.kids.length=1 then lv+1 else 0:=⟨_,rfl⟩
   obtain⟨n1,p1⟩:=gl f nl
   rw[wo,if_neg (by omega),Nat.add_zero, ←hnl]
   have hx1:∀x∈sw t.kids f nl,SA x f (f+wid t)∧(x.from_=f→x.to_=((f+wid t:Nat):Int)→lv+1≤x.level):=fun x hx=>by
    obtain⟨j,hj,⟨q1,q2,q3⟩,q4,q5⟩:=p1 x hx
    refine⟨⟨by omega,q2,by omega⟩,fun e1 e2=>?_⟩
    by_cases h1:t.kids.length=1
    ·rw[if_pos h1]at hnl
     obtain rfl:j=0:=by omega
     rw[List.take_zero,kW,Nat.add_zero]at*
     have hw1:kW t.kids=wid (Am.get t.kids 0):=by
      have e:t.kids=t.kids.take 0++[Am.get t.kids 0]:=by
       rw[←Z1 (by omega:0<t.kids.length)]
       exact(List.take_of_length_le (by omega)).symm
      conv=>lhs;rw[e]
      rw[nV,List.take_zero,kW,Nat.zero_add]
     have:=q5 e1 (by rw[e2,hwe,hw1])
     omega
    ·skip
     have hjl:kW (t.kids.take j)+wid (Am.get t.kids j)<kW t.kids∨0<kW (t.kids.take j):=by
      by_cases h0:j=0
      ·left
       subst h0
       obtain⟨w3,_⟩:=hl 1 (by omega)
       obtain⟨w4,_⟩:=SB 1 (by omega)
       have t1:kW (t.kids.take 2)=kW (t.kids.take 1)+wid (Am.get t.kids 1):=by rw[Z1 (by omega:1<t.kids.length),nV]
       have t0:kW (t.kids.take 1)=kW (t.kids.take 0)+wid (Am.get t.kids 0):=by rw[Z1 (by omega:0<t.kids.length),nV]
       have mono:kW (t.kids.take 2)≤kW t.kids:=by
        have app:∀a b:List w8,kW (a++b)=kW a+kW b:=fun a b=>by
         induction a with
         |nil=>simp[kW]
         |cons x a ih=>rw[List.cons_append,kW,kW,ih];omega
        have e:=app (t.kids.take 2) (t.kids.drop 2)
        rw[List.take_append_drop]at e
        omega
       omega
      ·right
       obtain⟨w3,_⟩:=hl j (by omega)
       omega
     omega
   refine⟨List.pairwise_cons.2 ⟨fun x hx=>?_,n1⟩,fun x hx=>?_⟩
   ·obtain⟨⟨q1,q2,q3⟩,q4⟩:=hx1 x hx
    show(f:Int)<x.from_∨((f:Int)=x.from_∧(x.to_<((f+wid t:Nat):Int)∨(((f+wid t:Nat):Int)=x.to_∧lv<x.level)))
    by_cases c1:(f:Int)<x.from_
    ·exact .inl c1
    ·refine .inr ⟨by omega,?_⟩
     by_cases c2:x.to_<((f+wid t:Nat):Int)
     ·exact .inl c2
     ·have:=q4 (by omega) (by omega)
      exact .inr ⟨by omega,by omega⟩
   ·rcases List.mem_cons.1 hx with rfl|hx
    ·exact⟨⟨Int.le_refl _,by show(f:Int)<((f+wid t:Nat):Int);omega,Int.le_refl _⟩,fun _ _=>Int.le_refl _⟩
    ·obtain⟨q1,q2⟩:=hx1 x hx
     exact⟨q1,fun e1 e2=>by have:=q2 e1 e2;omega⟩
theorem EU{t:w8}(h:ET t):(mks t 0 0).Pairwise Bef:=((LV _ t (Nat.le_refl _) h).2 0 0).1
theorem JR(x:DD):¬Bef x x:=by unfold Bef;omega
theorem LW{x y:DD}(h:Bef x y):¬Bef y x:=by unfold Bef at *; omega
theorem JT{t:w8}(h:ET t):(mks t 0 0).Nodup:=(EU h).imp fun {a b} hab e=>by subst e;exact JR a hab
theorem EV{α:Type}{R:α→α→Prop}(irr:∀x,¬R x x)(asy:∀x y,R x y→¬R y x):∀(l m:List α),l.Pairwise R→m.Pairwise R→(∀x,x∈l↔x∈m)→l=m
 | [],[],_,_,_=>rfl
 | [],b::m,_,_,h=>absurd ((h b).2 (List.mem_cons_self ..)) (by simp)
 |a::l,[],_,_,h=>absurd ((h a).1 (List.mem_cons_self ..)) (by simp)
 |a::l,b::m,h1,h2,h=>by
  obtain⟨p1,p2⟩:=List.pairwise_cons.1 h1
  obtain⟨q1,q2⟩:=List.pairwise_cons.1 h2
  have e:a=b:=by
   rcases List.mem_cons.1 ((h a).1 (List.mem_cons_self ..))with e|ha
   ·exact e
   ·rcases List.mem_cons.1 ((h b).2 (List.mem_cons_self ..))with e|hb
    ·exact e.symm
    ·exact absurd (p1 b hb) (asy _ _ (q1 a ha))
  subst e
  rw[EV irr asy l m p2 q2 fun x=>?_]
  constructor
  ·intro hx
   rcases List.mem_cons.1 ((h x).1 (List.mem_cons_of_mem _ hx))with rfl|hm
   ·exact absurd (p1 x hx) (irr x)
   ·exact hm
  ·intro hx
   rcases List.mem_cons.1 ((h x).2 (List.mem_cons_of_mem _ hx))with rfl|hm
   ·exact absurd (q1 x hx) (irr x)
   ·exact hm
def Str(l:List DD):Prop:=l.Pairwise fun a b=>jr a b<0
theorem LX(l m:List DD)(h1:Str l)(h2:Str m)(h:∀x,x∈l↔x∈m):l=m:=
 EV (fun x=>by rw[M8.refl];omega) (fun x y=>QF M8.swo) l m h1 h2 h
instance:BEq DD:=⟨fun a b=>jr a b==0⟩
instance:LawfulBEq DD where
 eq_of_beq:=fun {a b} h=>tZ (by simpa[BEq.beq]using h)
 rfl:=fun {a}=>by show(jr a a==0)=true;rw[M8.refl];rfl
theorem Av(d:DD):∀ls:List (List DD),(∀l∈ls,l.Nodup)→ls.flatten.count d=(ls.filter fun l=>l.contains d).length
 | [],_=>rfl
 |l::ls,h=>by
  rw[List.flatten_cons,List.count_append,Av d ls fun x hx=>h x (List.mem_cons_of_mem _ hx)]
  have hn:=h l (List.mem_cons_self ..)
  by_cases hm:d∈l
  ·rw[List.filter_cons_of_pos (by simpa using hm),List.length_cons,hn.count,if_pos hm];omega
  ·rw[List.filter_cons_of_neg (by simpa using hm),List.count_eq_zero_of_not_mem hm];omega
theorem OE{g:x5}:∀(m:Nat) (t:w8),SizeOf.sizeOf t≤m→cB g t→∀u:w8,cB g u→∀(f:Nat) (lv:Int) (r r':List DD),mks t f lv++r=mks u f lv++r'→t=u∧r=r':=by
 intro m
 induction m with
 |zero=>intro s h;cases s;simp only[w8.mk.sizeOf_spec]at h;omega
 |succ m ih=>
  intro t ht hp u hq f lv r r' he
  have kids:∀(l l':List w8),l.length=l'.length→(∀x∈l,SizeOf.sizeOf x≤m∧cB g x)→(∀x∈l',cB g x)→∀(f:Nat) (nl:Int) (r r':List DD),sw l f nl++r=sw l' f nl++r'→l=l'∧r=r':=by
   intro l
   induction l with
   |nil=>
    intro l' hl _ _ f nl r r' e
    obtain rfl:l'=[]:=List.eq_nil_of_length_eq_zero hl.symm
    exact⟨rfl,by simpa[sw]using e⟩
   |cons x l ihl=>
    intro l' hl h1 h2 f nl r r' e
    cases l' with
    |nil=>cases hl
    |cons y l'=>
     rw[sw,sw,List.append_assoc,List.append_assoc]at e
     obtain⟨hx1,hx2⟩:=h1 x (List.mem_cons_self ..)
     obtain⟨rfl,e2⟩:=ih x hx1 hx2 y (h2 y (List.mem_cons_self ..)) f nl _ _ e
     obtain⟨rfl,e3⟩:=ihl l' (by simpa using hl) (fun z hz=>h1 z (List.mem_cons_of_mem _ hz)) (fun z hz=>h2 z (List.mem_cons_of_mem _ hz)) _ _ _ _ e2
     exact⟨rfl,e3⟩
  rw[wo,wo,List.cons_append,List.cons_append]at he
  obtain⟨h1,h2⟩:=List.cons.inj he
  rw[w5.mk.injEq]at h1
  obtain⟨_,_,_,er,ex⟩:=h1
  have mem_of:∀ {v:w8},(∀k,k<v.kids.length→cB g (Am.get v.kids k))→∀x∈v.kids,cB g x:=fun h x hx=>by
   obtain⟨k,hk,rfl⟩:=List.getElem_of_mem hx
   have:=h k hk
   simpa[Am.get,hk]using this
  have hlen:t.kids.length=u.kids.length:=by
   cases hp with
   |leaf _ a1 _ a3=>
    cases hq with
    |leaf _ b1 _ b3=>rw[a3,b3]
    |node _ b1=>omega
   |node _ a1 _ a3 _=>
    cases hq with
    |leaf _ b1=>omega
    |node _ b1 _ b3 _=>rw[er]at a3;omega
  have hpk:∀x∈t.kids,cB g x:=by
   cases hp with
   |leaf _ a1 _ a3=>rw[a3];intro x hx;cases hx
   |node _ a1 _ a3 a4=>exact mem_of a4
  have hqk:∀x∈u.kids,cB g x:=by
   cases hq with
   |leaf _ a1 _ a3=>rw[a3];intro x hx;cases hx
   |node _ a1 _ a3 a4=>exact mem_of a4
  rw[←er, ←hlen]at h2
  obtain⟨e1,e2⟩:=kids t.kids u.kids hlen (fun x hx=>⟨by
   obtain⟨k,hk,rfl⟩:=List.getElem_of_mem hx
   have:=mq hk
   have e:Am.get t.kids k=t.kids[k]:=by simp[Am.get,hk]
   rw[e]at this
   omega,hpk x hx⟩) hqk _ _ _ _ h2
  refine⟨?_,e2⟩
  cases t;cases u
  simp only[w8.NZ,w8.Ri,w8.Oa]at er ex e1
  rw[er,ex,e1]
theorem Aw{g:x5}(hg:qO g){t u:w8}(ht:cB g t)(hu:cB g u)(h:∀x,x∈mks t 0 0↔x∈mks u 0 0):t=u:=by
 have e:=EV JR (fun x y=>LW) _ _ (EU (ht.p hg)) (EU (hu.p hg)) h
 exact(OE (g:=g) _ t (Nat.le_refl _) ht u hu 0 0 [] [] (by rw[e])).1
section
variable {row:List DD} {n:Nat}
theorem yR{a b c:DD}(h1:jr a b<0)(h2:¬jr c b<0):jr a c<0:=by
 have n1:=M8.neg a b
 have n2:=M8.neg b a
 have n3:=M8.neg c b
 have n4:=M8.neg b c
 have n5:=M8.neg a c
 have n6:=M8.neg c a
 have t1:=M8.tr a b c
 have t2:=M8.tr c a b
 have t3:=M8.tr b c a
 omega
theorem Rz{a b:DD}(h:jr a b<0):a≠b:=fun e=>by subst e;rw[M8.refl]at h;omega
theorem Gj{a b:DD}(h:¬jr b a<0)(hne:a≠b):jr a b<0:=by
 have n1:=M8.neg a b
 have n2:=M8.neg b a
 have:jr a b≠0:=fun e=>hne (tZ e)
 omega
structure Grp(row:List DD)(n fr:Nat)(out:List DD):Prop where
 le:fr≤row.length
 low:∀i j,i<fr→fr≤j→j<row.length→jr (Am.get row i) (Am.get row j)<0
 str:Str out
 mem:∀x,x∈out↔(∃i,i<fr∧Am.get row i=x)∧row.count x<n
theorem Grp.zero:Grp row n 0 []:=⟨by omega,fun i j h=>absurd h (Nat.not_lt_zero _),.nil,fun x=>⟨fun h=>(by cases h),fun h=>(by obtain⟨⟨i,hi,_⟩,_⟩:=h;omega)⟩⟩
theorem Gk{α:Type}[Inhabited α]{l:List α}{i:Nat}(h:i<l.length):Am.get l i=l[i]:=by simp[Am.get,h]
theorem Grp.step{fr to:Nat}{out:List DD}(ha:LU row)(h:Grp row n fr out)(h1:fr<to)(h2:to≤row.length)(h3:∀i,fr≤i→i<to→Am.get row i=Am.get row fr)(h4:to<row.length→Am.get row to≠Am.get row fr):
 row.count (Am.get row fr)=to-fr∧Grp row n to (if to-fr<n then out++[Am.get row fr]else out):=by
 have ML:∀i j,i<to→to≤j→j<row.length→jr (Am.get row i) (Am.get row j)<0:=fun i j hi hj hj2=>by
  by_cases c:i<fr
  ·exact h.low i j c (by omega) hj2
  ·rw[h3 i (by omega) hi]
   have e1:jr (Am.get row fr) (Am.get row to)<0:=Gj (yP ha (by omega) (by omega)) fun e=>h4 (by omega) e.symm
   by_cases ej:j=to
   ·subst ej;exact e1
   ·exact yR e1 (yP ha (i:=to) (j:=j) (by omega) hj2)
 have RA:row.count (Am.get row fr)=to-fr:=by
  have e1:row=row.take fr++((row.drop fr).take (to-fr)++row.drop to):=by
   have:row.drop to=(row.drop fr).drop (to-fr):=by rw[List.drop_drop];congr 1;omega
   rw[this,List.take_append_drop,List.take_append_drop]
  have c1:(row.take fr).count (Am.get row fr)=0:=List.count_eq_zero_of_not_mem fun hm=>by
   obtain⟨i,hi,he⟩:=List.getElem_of_mem hm
   rw[List.length_take]at hi
   have:=h.low i fr (by omega) (Nat.le_refl _) (by omega)
   rw[List.getElem_take]at he
   rw[Gk (by omega),he]at this
   exact Rz this rfl
  have c2:(row.drop fr).take (to-fr)=List.replicate (to-fr) (Am.get row fr):=by
   refine List.ext_getElem (by simp;omega) fun i hi1 hi2=>?_
   rw[List.getElem_take,List.getElem_drop,List.getElem_replicate]
   have hi3:i<to-fr:=by simpa using hi2
   have:=h3 (fr+i) (by omega) (by omega)
   rwa[Gk (by omega)]at this
  have c3:(row.drop to).count (Am.get row fr)=0:=List.count_eq_zero_of_not_mem fun hm=>by
   obtain⟨i,hi,he⟩:=List.getElem_of_mem hm
   rw[List.length_drop]at hi
   have:=ML fr (to+i) h1 (by omega) (by omega)
   rw[List.getElem_drop]at he
   rw[Gk (i:=to+i) (by omega),he]at this
   exact Rz this rfl
  have e2:=congrArg (List.count (Am.get row fr)) e1
  rw[List.count_append,List.count_append,c1,c2,c3,List.count_replicate_self]at e2
  omega
 refine⟨RA,h2,ML,?_,fun x=>?_⟩
 ·split
  ·refine List.pairwise_append.2 ⟨h.str,List.pairwise_singleton _ _,fun x hx y hy=>?_⟩
   rw[List.mem_singleton.1 hy]
   obtain⟨⟨i,hi,rfl⟩,_⟩:=(h.mem x).1 hx
   exact h.low i fr hi (Nat.le_refl _) (by omega)
  ·exact h.str
 ·have key:(∃i,i<to∧Am.get row i=x)↔(∃i,i<fr∧Am.get row i=x)∨x=Am.get row fr:=by
   constructor
   ·rintro⟨i,hi,rfl⟩
    by_cases c:i<fr
    ·exact .inl ⟨i,c,rfl⟩
    ·exact .inr (h3 i (by omega) hi)
   ·rintro(⟨i,hi,rfl⟩|rfl)
    ·exact⟨i,by omega,rfl⟩
    ·exact⟨fr,h1,rfl⟩
  rw[key]
  split
  ·rename_i hlt
   rw[List.mem_append,List.mem_singleton,h.mem]
   constructor
   ·rintro(⟨h5,h6⟩|rfl)
    ·exact⟨.inl h5,h6⟩
    ·exact⟨.inr rfl,by omega⟩
   ·rintro⟨h5|rfl,h6⟩
    ·exact .inl ⟨h5,h6⟩
    ·exact .inr rfl
  ·rename_i hlt
   rw[h.mem]
   constructor
   ·rintro⟨h5,h6⟩;exact⟨.inl h5,h6⟩
   ·rintro⟨h5|rfl,h6⟩
    ·exact⟨h5,h6⟩
    ·omega
end
theorem uE(l:List DD)(x:DD):x∈lV jr l↔x∈l:=(ke jr l).mem_iff
theorem yS(l:List DD):(lV jr l).length=l.length:=(ke jr l).length_eq
theorem EW(l:List DD)(x:DD):(lV jr l).count x=l.count x:=(ke jr l).count_eq x
theorem Ax(l:List DD):LU (lV jr l):=yj M8.swo l
def Divide(ts:List w8)(R:List DD):Prop:=Str R∧∀d,d∈R↔(∃k,k<ts.length∧d∈mks (Am.get ts k) 0 0)∧∃k,k<ts.length∧d∉mks (Am.get ts k) 0 0
theorem Divide.uniq{ts:List w8}{R S:List DD}(h:Divide ts R)(k:Divide ts S):R=S:=
 LX R S h.1 k.1 fun x=>(h.2 x).trans (k.2 x).symm
def JU(ls:List (List DD))(R:List DD):Prop:=Str R∧∀d,d∈R↔(∃l∈ls,d∈l)∧∃l∈ls,d∉l
theorem Hj{ls:List (List DD)}(hn:∀l∈ls,l.Nodup){out:List DD}(h:Grp (lV jr ls.flatten) ls.length (lV jr ls.flatten).length out):JU ls out:=by
 refine⟨h.str,fun d=>?_⟩
 rw[h.mem,EW,Av d ls hn]
 have e1:(∃i,i<(lV jr ls.flatten).length∧Am.get (lV jr ls.flatten) i=d)↔ ∃l∈ls,d∈l:=by
  rw[←List.mem_flatten, ←uE]
  constructor
  ·rintro⟨i,hi,rfl⟩;exact get_mem hi
  ·intro hm
   obtain⟨i,hi,he⟩:=List.getElem_of_mem hm
   exact⟨i,hi,by rw[Gk hi];exact he⟩
 rw[e1]
 have e2:(ls.filter fun l=>l.contains d).length<ls.length↔ ∃l∈ls,d∉l:=by
  rw[List.length_filter_lt_length_iff_exists]
  simp
 rw[e2]
theorem TY{t:w8}(hn:ndT t≤200):Evt (fun n=>jA n t) (fun r=>r=lV jr (mks t 0 0)):=by
 unfold jA
 refine Evt.bind (Ry _ t (Nat.le_refl _) 0 [] 0 (by omega) (by omega) (by simp only[List.length_nil];omega) (by omega)) fun v hv=>?_
 subst hv
 refine Evt.bind (P:=fun r=>r=lV jr (mks t 0 0)) ?_ fun r hr=>Evt.pure hr
 unfold E6
 have hl:=sW t 0 0
 refine Evt.chk (by show([]++mks t 0 0).length<_;rw[List.nil_append];omega) (Evt.pure ?_)
 show lV jr ([]++mks t 0 0)=_
 rw[List.nil_append]
def Z2(ts:List w8):List (List DD):=ts.map fun t=>lV jr (mks t 0 0)
theorem fL(ts:List w8):(Z2 ts).length=ts.length:=by simp[Z2]
theorem vO{ts:List w8}{k:Nat}(h:k<ts.length):Am.get (Z2 ts) k=lV jr (mks (Am.get ts k) 0 0):=by
 simp[Z2,Am.get,h]
theorem vP{g:x5}{ts:List w8}(hp:Passed g ts):Evt (fun n=>X2 n ts) (fun r=>r=Z2 ts):=by
 have hn:=hp.1
 unfold X2
 refine Evt.B5 (Evt.range (fun k s=>s=Z2 (ts.take k)) (fun _=>False) (fun _=>False) rfl (fun k s hk hs=>?_)) (fun s hs=>?_) (fun _ h=>h.elim)
 ·subst hs
  unfold gb
  refine Evt.bind (TY (hp.2 k hk).2) fun v hv=>Evt.eE ?_
  subst hv
  have e:Z2 (ts.take k)++[lV jr (mks (Am.get ts k) 0 0)]=Z2 (ts.take (k+1)):=by rw[Z1 hk];simp[Z2]
  rw[e]
  have hl:(Z2 (ts.take (k+1))).length≤200:=by rw[fL,List.length_take];omega
  exact Evt.chk (by rw[bO];omega) (Evt.pure rfl)
 ·have hs:s=_:=hs.elim id False.elim
  subst hs
  rw[List.take_length]
  unfold gi
  exact Evt.pure rfl
theorem eqD{a b:DD}:(decide (a.from_=b.from_)&&(decide (a.to_=b.to_)&&(decide (a.level=b.level)&&(decide (a.rule=b.rule)&&(decide (a.lex=b.lex))))))=true↔a=b:=by
 cases a;cases b;simp
theorem JV{row:List DD}{ls:List (List DD)}(ha:LU row)(hl:row.length≤1000000)(hn:ls.length≤1000):Evt (fun n=>B5 (P4 (U7 n row ls) n ([],0)) (cE)) (fun r=>Grp row ls.length row.length r):=by
 refine Evt.B5 (P:=ExP (fun t=>Grp row ls.length row.length t) (fun _=>False)) (Evt.loop (body:=fun n=>U7 n row ls) (fun s=>((row.length:Int)-s.2).toNat) (fun s=>∃fr:Nat,s.2=(fr:Int)∧Grp row ls.length fr s.1∧s.1.length≤fr) (fun t=>Grp row ls.length row.length t) (fun _=>False) ⟨0,rfl,Grp.zero,Nat.le_refl _⟩ (fun s hs=>?_)) (fun t ht=>by unfold cE;exact Evt.pure ht) (fun _ h=>h.elim)
 obtain⟨out,fr⟩:=s
 obtain⟨fr,rfl,hg,ho⟩:=hs
 show Evt (fun n=>U7 n row ls (out,(fr:Int))) _
 unfold U7
 dsimp only
 have ho:out.length≤fr:=ho
 have hg:Grp row ls.length fr out:=hg
 refine Evt.cond (fun e=>?_) (fun e=>Evt.pure ?_)
 ·replace e:=bx e
  have hfr:fr<row.length:=by omega
  refine Evt.B5 (P:=ExP (fun t=>∃to:Nat,t=(to:Int)∧fr<to∧to≤row.length∧(∀i,fr≤i→i<to→Am.get row i=Am.get row fr)∧(to<row.length→Am.get row to≠Am.get row fr)) (fun _=>False)) (Evt.loop (body:=fun _=>aM row (out,(fr:Int))) (fun s=>((row.length:Int)-s).toNat)
   (fun s=>∃to:Nat,s=(to:Int)∧fr≤to∧to≤row.length∧(∀i,fr≤i→i<to→Am.get row i=Am.get row fr)) (fun t=>∃to:Nat,t=(to:Int)∧fr<to∧to≤row.length∧(∀i,fr≤i→i<to→Am.get row i=Am.get row fr)∧(to<row.length→Am.get row to≠Am.get row fr)) (fun _=>False) ⟨fr,rfl,Nat.le_refl _,by omega,fun i h1 h2=>by omega⟩ (fun s hs=>?_)) (fun t ht=>?_) (fun _ h=>h.elim)
  ·obtain⟨to,rfl,t1,t2,t3⟩:=hs
   show Evt (fun _=>aM row (out,(fr:Int)) (to:Int)) _
   unfold aM
   dsimp only
   refine Evt.chk ⟨fun _=>by omega,fun h=>of_decide_eq_true h⟩ (Evt.chk ⟨fun _=>by omega,fun _=>by omega⟩ ?_)
   rw[Int.toNat_natCast,Int.toNat_natCast]
   by_cases hto:(to:Int)<row.length
   ·rw[decide_eq_true hto,cond_true]
    refine Evt.cond (fun e2=>Evt.pure ⟨⟨to+1,?_,by omega,by omega,fun i h1 h2=>?_⟩,?_⟩) (fun e2=>Evt.pure ⟨to,rfl,?_,t2,t3,fun _ h=>?_⟩)
    ·rw[H9 (by omega) (by omega)];rfl
    ·by_cases ei:i=to
     ·subst ei;exact eqD.1 e2
     ·exact t3 i h1 (by omega)
    ·show((row.length:Int)-wr .i64 ((to:Int)+1)).toNat<((row.length:Int)-(to:Int)).toNat
     rw[H9 (by omega) (by omega)];omega
    ·rcases Nat.lt_or_ge fr to with h|h
     ·exact h
     ·obtain rfl:to=fr:=by omega
      rw[eqD.2 rfl]at e2;cases e2
    ·rw[eqD.2 h]at e2;cases e2
   ·rw[decide_eq_false hto,cond_false]
    refine Evt.cond (fun e2=>by cases e2) (fun _=>Evt.pure ⟨to,rfl,by omega,t2,t3,fun h=>by omega⟩)
  ·obtain⟨to,rfl,t1,t2,t3,t4⟩:=(ht:∃to:Nat,_)
   obtain⟨hc,hst⟩:=hg.step ha t1 t2 t3 t4
   unfold fF
   dsimp only
   rw[H9 (by omega) (by omega),Int.toNat_natCast]
   have hm:((row.length:Int)-(to:Int)).toNat<((row.length:Int)-(fr:Int)).toNat:=by omega
   refine Evt.cond (fun e2=>?_) (fun e2=>Evt.pure ⟨⟨to,rfl,?_,by show out.length≤to;omega⟩,hm⟩)
   ·replace e2:=bx e2
    rw[if_pos (by omega)]at hst
    refine Evt.chk (by omega) (Evt.eE (Evt.chk (by simp only[List.length_append,List.length_cons,List.length_nil,bO];omega) (Evt.pure ⟨⟨to,rfl,hst,by show(out++[Am.get row fr]).length≤to;simp;omega⟩,hm⟩)))
   ·replace e2:=bx e2
    rw[if_neg (by omega)]at hst
    exact hst
 ·replace e:=bx e
  have hle:=hg.le
  obtain rfl:fr=row.length:=by omega
  exact hg
theorem Dm{g:x5}(hg:qO g){ts:List w8}(hp:Passed g ts):∀l∈Z2 ts,l.Nodup:=by
 intro l hl
 obtain⟨t,ht,rfl⟩:=List.mem_map.1 hl
 obtain⟨k,hk,rfl⟩:=List.getElem_of_mem ht
 have:=(hp.2 k hk).1
 rw[Gk hk]at this
 exact((ke jr _).nodup_iff).2 (JT (this.p hg))
theorem EX{g:x5}{ts:List w8}(hp:Passed g ts):(Z2 ts).flatten.length≤200*ts.length:=by
 have key:∀l:List w8,(∀t∈l,ndT t≤200)→(Z2 l).flatten.length≤200*l.length:=by
  intro l
  induction l with
  |nil=>intro _;simp[Z2]
  |cons t l ih=>
   intro h
   have h1:=ih fun x hx=>h x (List.mem_cons_of_mem _ hx)
   have h2:=h t (List.mem_cons_self ..)
   have h3:(lV jr (mks t 0 0)).length=ndT t:=by rw[yS,sW]
   show(lV jr (mks t 0 0)::Z2 l).flatten.length≤_
   rw[List.flatten_cons,List.length_append,List.length_cons,h3]
   omega
 refine key ts fun t ht=>?_
 obtain⟨k,hk,rfl⟩:=List.getElem_of_mem ht
 have:=(hp.2 k hk).2
 rwa[Gk hk]at this
theorem JW{ts:List w8}{R:List DD}(h:JU (Z2 ts) R):Divide ts R:=by
 refine⟨h.1,fun d=>(h.2 d).trans ?_⟩
 have e1:∀(p:List DD→Prop),(∃l∈Z2 ts,p l)↔ ∃k,k<ts.length∧p (lV jr (mks (Am.get ts k) 0 0)):=fun p=>by
  constructor
  ·rintro⟨l,hl,hp⟩
   obtain⟨t,ht,rfl⟩:=List.mem_map.1 hl
   obtain⟨k,hk,rfl⟩:=List.getElem_of_mem ht
   exact⟨k,hk,by rw[Gk hk];exact hp⟩
  ·rintro⟨k,hk,hp⟩
   exact⟨_,List.mem_map.2 ⟨_,get_mem hk,rfl⟩,hp⟩
 rw[e1,e1]
 simp only[uE]
theorem Dn{g:x5}(hg:qO g){ts:List w8}(hp:Passed g ts):Evt (fun n=>Y0 n (Z2 ts)) (fun r=>Divide ts r):=by
 have hn:=hp.1
 have hf:=EX hp
 unfold Y0
 refine Evt.bind (P:=fun v=>v=lV jr (Z2 ts).flatten) ?_ fun v hv=>?_
 ·unfold yt
  exact Evt.chk ⟨by omega,by rw[fL];omega⟩ (Evt.pure rfl)
 ·subst hv
  refine(JV (ls:=Z2 ts) (Ax _) (by rw[yS];omega) (by rw[fL];omega)).mono fun r hr=>?_
  exact JW (Hj (Dm hg hp) hr)
set_option maxRecDepth 1000000 in
theorem BQ(m:Nat):E0 (m+300)=some true:=by kernel_rfl
theorem gK:Evt E0 (fun b=>b=true):=⟨true,rfl,300,fun n hn=>by
 obtain⟨m,rfl⟩:∃m,n=m+300:=⟨n-300,by omega⟩
 exact BQ m⟩
theorem Dp{g:x5}{ts:List w8}(hp:Passed g ts):∀k,k<(Z2 ts).length→(Am.get (Z2 ts) k).length≤100000∧LU (Am.get (Z2 ts) k):=fun k hk=>by
 rw[fL]at hk
 rw[vO hk,yS,sW]
 have:=(hp.2 k hk).2
 exact⟨by omega,Ax _⟩
noncomputable def X6(ts:List w8)(ds:List w7):List Int:=idx (fun k=>kO (mks (Am.get ts k) 0 0) ds) ts.length
theorem EY(l:List DD)(ds:List w7):kO (lV jr l) ds↔kO l ds:=by
 unfold kO;simp only[uE]
theorem Gm{g:x5}{ts:List w8}{ds:List w7}(hp:Passed g ts)(hd:ds.length≤100000):Evt (fun n=>L4 n (Z2 ts) ds) (fun r=>r=X6 ts ds):=by
 have hn:=hp.1
 refine(Di (by rw[fL];omega) (Dp hp) hd).mono fun r hr=>?_
 rw[hr,fL]
 exact rG fun k hk=>by rw[vO hk];exact EY _ _
theorem BR{g:x5}{ts:List w8}{f:w9}(h:Evt (fun n=>I4 n g ts) (fun r=>r=f))(hz:f.code=0→f=⟨0,0⟩)(ds:List w7):
 Evt (fun n=>bZ n g ts ds) (fun r=>(f.code≠0∧r=f)∨(f.code=0∧300<ds.length∧r=⟨2, -3⟩)∨(f.code=0∧ds.length≤300∧r=⟨0,0⟩)):=by
 unfold bZ
 refine Evt.bind h fun v hv=>?_
 subst hv
 refine Evt.cond (fun e=>Evt.pure (.inl ⟨bx e,rfl⟩)) (fun e=>?_)
 replace e:=bx e
 have e:v.code=0:=by omega
 refine Evt.cond (fun e2=>?_) (fun e2=>Evt.pure (.inr (.inr ⟨e,by have:=bx e2;omega,rfl⟩)))
 unfold L3
 exact Evt.pure (.inr (.inl ⟨e,by have:=bx e2;omega,rfl⟩))
theorem rH{g:x5}{ts:List w8}{f:w9}(h:Evt (fun n=>I4 n g ts) (fun r=>r=f))(hz:f.code=0→f=⟨0,0⟩∧qO g∧Passed g ts)(ds:List w7):
 Evt (fun n=>J4 n g ts ds) (fun r=>(f.code≠0∧r=([],f))∨(f.code=0∧300<ds.length∧r=([],⟨2, -3⟩))∨(f.code=0∧ds.length≤300∧r=(X6 ts ds,⟨0,0⟩))):=by
 unfold J4
 refine Evt.bind (BR h (fun e=>(hz e).1) ds) fun v hv=>?_
 rcases hv with⟨h1,rfl⟩|⟨h1,h2,rfl⟩|⟨h1,h2,rfl⟩
 ·exact Evt.cond (fun _=>Evt.pure (.inl ⟨h1,rfl⟩)) (fun e=>absurd (bx e) h1)
 ·exact Evt.cond (fun _=>Evt.pure (.inr (.inl ⟨h1,h2,rfl⟩))) (fun e=>by cases e)
 ·refine Evt.cond (fun e=>by cases e) (fun _=>?_)
  obtain⟨_,hg,hp⟩:=hz h1
  refine Evt.bind (vP hp) fun v hv=>?_
  subst hv
  refine Evt.bind (Gm hp (by omega)) fun v hv=>?_
  subst hv
  exact Evt.pure (.inr (.inr ⟨h1,h2,rfl⟩))
theorem qB(a b:List Int)(ha:a.length≤1000000):Evt (fun n=>J2 n a b) (fun r=>r=true↔a=b):=by
 unfold J2
 refine Evt.cond (fun e=>Evt.pure ?_) (fun e=>?_)
 ·replace e:=bx e
  simp only[Bool.false_eq_true,false_iff]
  intro h;subst h;exact e rfl
 ·replace e:=bx e
  have hl:a.length=b.length:=by omega
  refine Evt.B5 (P:=fun x=>match x with| .nxt _=>a=b| .ret r=>r=false∧a≠b) (Evt.mono (Evt.loop (body:=fun _=>P1 a b) (fun s=>((a.length:Int)-s).toNat) (fun s=>∃k:Nat,s=(k:Int)∧k≤a.length∧∀j,j<k→Am.get a j=Am.get b j) (fun _=>a=b) (fun r=>r=false∧a≠b) ⟨0,rfl,by omega,fun j hj=>by omega⟩ (fun s hs=>?_)) (fun x hx=>by cases x<;>exact hx)) (fun t ht=>?_) (fun r hr=>?_)
  ·obtain⟨k,rfl,hk,hi⟩:=hs
   show Evt (fun _=>P1 a b (k:Int)) _
   unfold P1
   refine Evt.cond (fun e2=>?_) (fun e2=>Evt.pure ?_)
   ·replace e2:=bx e2
    refine Evt.chk (by omega) (Evt.chk (by omega) ?_)
    rw[Int.toNat_natCast]
    refine Evt.cond (fun e3=>Evt.pure ⟨rfl,fun h=>?_⟩) (fun e3=>Evt.pure ⟨⟨k+1,?_,by omega,fun j hj=>?_⟩,?_⟩)
    ·subst h;simp at e3
    ·show wr .i64 ((k:Int)+1)=_
     rw[H9 (by omega) (by omega)];rfl
    ·by_cases ej:j=k
     ·subst ej;simpa using e3
     ·exact hi j (by omega)
    ·show((a.length:Int)-wr .i64 ((k:Int)+1)).toNat<((a.length:Int)-(k:Int)).toNat
     rw[H9 (by omega) (by omega)];omega
   ·replace e2:=bx e2
    refine List.ext_getElem hl fun j h1 h2=>?_
    have:=hi j (by omega)
    rwa[Gk h1,Gk h2]at this
  ·have ht:a=b:=ht
   exact Evt.pure (by simp[ht])
  ·obtain⟨h1,h2⟩:=(hr:r=false∧a≠b)
   subst h1;simp[h2]
theorem nY(ts:List w8)(ds:List w7):(X6 ts ds).length≤ts.length:=sX _ _
theorem wE{g:x5}(hB:zG g){ts:List w8}{ds:List w7}:Evt (fun n=>H7 n g ts ds) (fun b=>b=true):=by
 obtain⟨f,h1,h2,hz⟩:=pV hB ts
 unfold H7
 refine Evt.bind gK fun v1 e1=>?_
 subst e1
 refine Evt.cond (fun e=>by cases e) (fun _=>Evt.bind (rH h1 hz ds) fun v2 hv=>Evt.bind h2 fun v3 e3=>?_)
 subst e3
 rcases hv with⟨c1,rfl⟩|⟨c1,c2,rfl⟩|⟨c1,c2,rfl⟩
 ·rw[decide_eq_false c1,cond_false]
  refine Evt.cond (fun e=>by cases e) (fun _=>?_)
  unfold D0
  exact Evt.cond (fun _=>Evt.pure (by simp)) (fun e=>absurd (bx e) c1)
 ·rw[decide_eq_true c1,cond_true,decide_eq_true (by omega:(300:Int)<(ds.length:Int))]
  refine Evt.cond (fun _=>?_) (fun e=>by cases e)
  unfold D0
  exact Evt.cond (fun _=>Evt.pure rfl) (fun e=>by cases e)
 ·obtain⟨hf,hg,hp⟩:=hz c1
  have hn:=hp.1
  rw[decide_eq_true c1,cond_true,decide_eq_false (by omega:¬(300:Int)<(ds.length:Int))]
  refine Evt.cond (fun e=>by cases e) (fun _=>?_)
  unfold D0
  refine Evt.cond (fun e=>absurd c1 (bx e)) (fun _=>?_)
  refine Evt.bind (P:=fun v=>v=X6 ts ds) (Evt.gd (fun _=>JL hp (by omega)) (fun e=>by cases e)) fun v hv=>?_
  subst hv
  refine Evt.bind (P:=fun v=>v=true) (Evt.gd (fun _=>(qB (X6 ts ds) (X6 ts ds) (by have:=nY ts ds;omega)).mono fun r hr=>hr.2 rfl) (fun e=>by cases e)) fun v hv=>?_
  subst hv
  exact Evt.pure rfl
theorem yT(x y:Int):Cb x y<0↔x<y:=by unfold Cb;split<;>(try split)<;>omega
theorem jS(x y:Int):Cb x y=0↔x=y:=by unfold Cb;split<;>(try split)<;>omega
theorem rI(x:Int):Cb x x=0:=(jS x x).2 rfl
theorem JX(a b:DD):W5 a b=some (decide (jr a b<0)):=by
 unfold W5 jr Eu
 by_cases c1:a.from_=b.from_
 ·by_cases c2:a.to_=b.to_
  ·by_cases c3:a.level=b.level
   ·by_cases c4:a.rule=b.rule
    ·simp[(jS _ _).2 c1,(jS _ _).2 c2,(jS _ _).2 c3,(jS _ _).2 c4,c1,c2,c3,c4,yT,Eu,rI]
    ·simp[(jS _ _).2 c1,(jS _ _).2 c2,(jS _ _).2 c3,jS,c1,c2,c3,c4,yT,Eu,rI]
   ·simp[(jS _ _).2 c1,(jS _ _).2 c2,jS,c1,c2,c3,yT,Eu,rI]
  ·simp[(jS _ _).2 c1,jS,c1,c2,yT,Eu,rI]
 ·simp[jS,c1,yT,Eu,rI]
theorem OG{α:Type}[Inhabited α](A B:List α)(a:α):Am.get (A++a::B) A.length=a:=by simp[Am.get]
theorem LY{α:Type}[Inhabited α](A B:List α)(a d:α):Am.get (A++a::d::B) (A.length+1)=d:=by simp[Am.get]
theorem OH{α:Type}(A B:List α)(a d:α):((A++a::d::B).set (A.length+1) a).set A.length d=A++d::a::B:=by simp
theorem OI{out:List DD}(hs:Str out)(d:DD)(hd:d∉out)(hl:out.length≤1000000):Evt (fun n=>P4 (ρ:=Ctl (Ctl (List DD) (List DD×Int) (List DD)) (List DD×Int) (List DD)) (K1) n (out++[d],(wr .i64 ((↑(out++[d]).length:Int)-1)))) (ExP (fun t=>Str t∧t.length=out.length+1∧∀x,x∈t↔x∈out∨x=d) (fun _=>False)):=by
 refine Evt.loop (body:=fun _=>K1) (fun s=>s.2.toNat) (fun s=>∃A B:List DD,out=A++B∧s.1=A++d::B∧s.2=(A.length:Int)∧∀b∈B,jr d b<0) _ _ ⟨out,[],by simp,rfl,?_,by simp⟩ (fun s hs1=>?_)
 ·show wr .i64 _=_
  rw[List.length_append,List.length_singleton,H9 (by omega) (by omega)];omega
 obtain⟨l,k⟩:=s
 obtain⟨A,B,hAB,hl1,hk,hB⟩:=hs1
 have hl1:l=A++d::B:=hl1
 have hk:k=(A.length:Int):=hk
 subst hl1 hk
 have hlen:A.length+B.length≤1000000:=by rw[hAB,List.length_append]at hl;omega
 show Evt (fun _=>K1 (A++d::B,(A.length:Int))) _
 unfold K1
 dsimp only
 have hmem:∀x,x∈A++d::B↔x∈out∨x=d:=fun x=>by
  rw[hAB];simp only[List.mem_append,List.mem_cons]
  constructor
  ·rintro(h|h|h)
   ·exact .inl (.inl h)
   ·exact .inr h
   ·exact .inl (.inr h)
  ·rintro((h|h)|h)
   ·exact .inl h
   ·exact .inr (.inr h)
   ·exact .inr (.inl h)
 have Gv:(A++d::B).length=out.length+1:=by rw[hAB];simp;omega
 have hsA:Str A∧Str B∧∀a∈A,∀b∈B,jr a b<0:=by
  rw[hAB]at hs;exact List.pairwise_append.1 hs
 rcases List.eq_nil_or_concat A with rfl|⟨A',a,rfl⟩
 ·rw[decide_eq_false (by simp)]
  refine Evt.chk ⟨fun h=>(by cases h),fun h=>(by cases h)⟩ (Evt.chk (by simp) (Evt.chk ⟨fun h=>(by cases h),fun h=>(by cases h)⟩ (Evt.chk (by simp only[List.length_nil,List.nil_append,List.length_cons];rw[H9 (by omega) (by omega)];omega) ?_)))
  refine Evt.bind (P:=fun _=>True) (Evt.gd (fun h=>by cases h) (fun _=>trivial)) fun v _=>?_
  refine Evt.cond (fun e=>by cases e) (fun _=>Evt.pure ⟨?_,Gv,hmem⟩)
  exact List.pairwise_cons.2 ⟨hB,hsA.2.1⟩
 ·rw[List.concat_eq_append]at*
  have e0:((A'++[a]).length:Int)=((A'.length+1:Nat):Int):=by simp
  have e1:wr .i64 (((A'.length+1:Nat):Int)-1)=(A'.length:Int):=by
   simp only[List.length_append,List.length_singleton]at hlen
   rw[H9 (by omega) (by omega)];omega
  have e2:A'++[a]++d::B=A'++a::d::B:=by simp
  have e3:(A'++a::d::B).length=A'.length+2+B.length:=by simp;omega
  rw[e0,e1,e2,decide_eq_true (by omega:(0:Int)<((A'.length+1:Nat):Int)),Int.toNat_natCast,Int.toNat_natCast,OG,LY,JX]
  refine Evt.chk ⟨fun _=>by omega,fun _=>by omega⟩ (Evt.chk (by omega) (Evt.chk ⟨fun _=>by omega,fun _=>by omega⟩ (Evt.chk (by omega) ?_)))
  refine Evt.bind (P:=fun v=>v=decide (jr d a<0)) (Evt.pure rfl) fun v hv=>?_
  subst hv
  refine Evt.cond (fun e=>?_) (fun e=>Evt.pure ?_)
  ·have e:jr d a<0:=of_decide_eq_true e
   refine Evt.chk (by omega) (Evt.chk (by omega) (Evt.eE (Evt.eE (Evt.pure ⟨⟨A',a::B,?_,?_,rfl,?_⟩,?_⟩))))
   ·rw[hAB];simp
   ·exact OH A' B a d
   ·intro b hb
    rcases List.mem_cons.1 hb with rfl|hb
    ·exact e
    ·exact hB b hb
   ·show(A'.length:Int).toNat<_
    omega
  ·have e:¬jr d a<0:=of_decide_eq_false e
   have hda:d≠a:=fun h=>hd (by rw[hAB,h];simp)
   have had:jr a d<0:=Gj e (fun h=>hda h.symm)
   rw[←e2]
   refine⟨List.pairwise_append.2 ⟨hsA.1,List.pairwise_cons.2 ⟨hB,hsA.2.1⟩,fun x hx y hy=>?_⟩,Gv,hmem⟩
   have hxd:jr x d<0:=by
    rcases List.mem_append.1 hx with h|h
    ·have h1:=(List.pairwise_append.1 hsA.1).2.2 x h a (by simp)
     exact yR h1 e
    ·rw[List.mem_singleton.1 h];exact had
   rcases List.mem_cons.1 hy with rfl|hy
   ·exact hxd
   ·exact hsA.2.2 x hx y hy
def Gn(ts:List w8)(x:DD):Prop:=∃k,k<ts.length∧x∉mks (Am.get ts k) 0 0
theorem JY{g:x5}{ts:List w8}(hp:Passed g ts)(out v:List DD)(k:Nat)(hk:k<v.length):
 Evt (fun n=>P4 (ρ:=Ctl (Ctl (List DD) (List DD×Int) (List DD)) (List DD×Int) (List DD)) (K2 n ts (out,(k:Int)) v) n (0,0)) (ExP (fun t=>decide (t=(ts.length:Int))=true↔ ¬Gn ts (Am.get v k)) (fun _=>False)):=by
 have hn:=hp.1
 refine Evt.loop (body:=fun n=>K2 n ts (out,(k:Int)) v) (fun s=>((ts.length:Int)-s.2).toNat) (fun s=>∃c j:Nat,s=((c:Int),(j:Int))∧c≤j∧j≤ts.length∧(c=j↔ ∀i,i<j→Am.get v k∈mks (Am.get ts i) 0 0)) _ _ ⟨0,0,rfl,by omega,by omega,⟨fun _ i hi=>absurd hi (Nat.not_lt_zero _),fun _=>rfl⟩⟩ (fun s hs=>?_)
 obtain⟨c,j,rfl,hc,hj,hi⟩:=hs
 show Evt (fun n=>K2 n ts (out,(k:Int)) v ((c:Int),(j:Int))) _
 unfold K2
 dsimp only
 refine Evt.cond (fun e=>?_) (fun e=>Evt.pure ?_)
 ·replace e:=bx e
  have hj2:j<ts.length:=by omega
  rw[Int.toNat_natCast,Int.toNat_natCast,H9 (by omega) (by omega),H9 (by omega) (by omega)]
  refine Evt.chk (by omega) (Evt.chk (by omega) (Evt.bind (sj (hp.2 j hj2).1 (hp.2 j hj2).2 (Am.get v k)) fun b hb=>Evt.cond (fun e2=>Evt.pure ⟨⟨c+1,j+1,rfl,by omega,by omega,?_⟩,?_⟩) (fun e2=>Evt.pure ⟨⟨c,j+1,rfl,by omega,by omega,?_⟩,?_⟩)))
  ·have hm:=hb.1 e2
   constructor
   ·intro h i hi2
    by_cases ei:i=j
    ·subst ei;exact hm
    ·exact hi.1 (by omega) i (by omega)
   ·intro h
    have:=hi.2 fun i hi2=>h i (by omega)
    omega
  ·show((ts.length:Int)-((j:Int)+1)).toNat<((ts.length:Int)-(j:Int)).toNat;omega
  ·constructor
   ·intro h;omega
   ·intro h
    have:=hb.2 (h j (by omega))
    rw[this]at e2;cases e2
  ·show((ts.length:Int)-((j:Int)+1)).toNat<((ts.length:Int)-(j:Int)).toNat;omega
 ·replace e:=bx e
  obtain rfl:j=ts.length:=by omega
  show decide ((c:Int)=_)=true↔_
  rw[decide_eq_true_eq]
  constructor
  ·intro h hna
   obtain⟨i,hi2,hx⟩:=hna
   exact hx (hi.1 (by omega) i hi2)
  ·intro h
   have:=hi.2 fun i hi2=>Classical.byContradiction fun hx=>h ⟨i,hi2,hx⟩
   omega
theorem JZ(out v:List DD)(k:Nat)(hk:k<v.length)(hl:out.length≤1000000)(hv:v.length≤1000000):
 Evt (fun n=>P4 (ρ:=Ctl (Ctl (List DD) (List DD×Int) (List DD)) (List DD×Int) (List DD)) (K3 (out,(k:Int)) v) n (0,false)) (ExP (fun t=>t=true↔Am.get v k∈out) (fun _=>False)):=by
 refine Evt.loop (body:=fun _=>K3 (out,(k:Int)) v) (fun s=>((out.length:Int)-s.1).toNat) (fun s=>∃j:Nat,s.1=(j:Int)∧j≤out.length∧(s.2=true↔ ∃i,i<j∧Am.get out i=Am.get v k)) _ _ ⟨0,rfl,by omega,by simp⟩ (fun s hs=>?_)
 obtain⟨j,b⟩:=s
 obtain⟨j,rfl,hj,hi⟩:=hs
 show Evt (fun _=>K3 (out,(k:Int)) v ((j:Int),b)) _
 unfold K3
 dsimp only
 refine Evt.cond (fun e=>?_) (fun e=>Evt.pure ?_)
 ·replace e:=bx e
  rw[Int.toNat_natCast,Int.toNat_natCast,H9 (by omega) (by omega)]
  refine Evt.chk ⟨fun _=>by omega,fun _=>by omega⟩ (Evt.chk (by omega) (Evt.chk ⟨fun _=>by omega,fun _=>by omega⟩ (Evt.pure ⟨⟨j+1,rfl,by omega,?_⟩,?_⟩)))
  ·cases b with
   |true=>
    obtain⟨i,h1,h2⟩:=hi.1 rfl
    exact⟨fun _=>⟨i,by omega,h2⟩,fun _=>rfl⟩
   |false=>
    show(_=true)↔_
    rw[cond_false,eqD]
    constructor
    ·intro h;exact⟨j,by omega,h⟩
    ·rintro⟨i,h1,h2⟩
     by_cases ei:i=j
     ·subst ei;exact h2
     ·have:=hi.2 ⟨i,by omega,h2⟩
      cases this
  ·show((out.length:Int)-((j:Int)+1)).toNat<((out.length:Int)-(j:Int)).toNat;omega
 ·replace e:=bx e
  obtain rfl:j=out.length:=by omega
  refine hi.trans ⟨?_,?_⟩
  ·rintro⟨i,h1,h2⟩;rw[←h2];exact get_mem h1
  ·intro hm
   obtain⟨i,h1,h2⟩:=List.getElem_of_mem hm
   exact⟨i,h1,by rw[Gk h1];exact h2⟩
def Found(ts:List w8)(pre out:List DD):Prop:=Str out∧out.length≤pre.length∧∀x,x∈out↔x∈pre∧Gn ts x
theorem LZ{g:x5}{ts:List w8}(hp:Passed g ts)(pre v:List DD)(hl:pre.length+v.length≤100000)(out:List DD)(h0:Found ts pre out):
 Evt (fun n=>P4 (ρ:=Ctl (List DD) (List DD×Int) (List DD)) (K4 n v ts) n (out,0)) (ExP (fun t=>Found ts (pre++v) t) (fun _=>False)):=by
 refine Evt.loop (body:=fun n=>K4 n v ts) (fun s=>((v.length:Int)-s.2).toNat) (fun s=>∃k:Nat,s.2=(k:Int)∧k≤v.length∧Found ts (pre++v.take k) s.1) _ _ ⟨0,rfl,by omega,by simpa using h0⟩ (fun s hs=>?_)
 obtain⟨o,k⟩:=s
 obtain⟨k,rfl,hk,hf⟩:=hs
 have hf:Found ts (pre++v.take k) o:=hf
 obtain⟨f1,f2,f3⟩:=id hf
 rw[List.length_append,List.length_take]at f2
 have f2:o.length≤pre.length+min k v.length:=f2
 show Evt (fun n=>K4 n v ts (o,(k:Int))) _
 unfold K4
 refine Evt.cond (fun e=>?_) (fun e=>Evt.pure ?_)
 ·replace e:=bx e
  have hk2:k<v.length:=by have:(k:Int)<v.length:=e;omega
  have hlp:(pre++v.take (k+1)).length=pre.length+(k+1):=by rw[List.length_append,List.length_take];omega
  have hm:∀x,x∈pre++v.take (k+1)↔x∈pre++v.take k∨x=Am.get v k:=fun x=>by
   rw[Z1 hk2, ←List.append_assoc,List.mem_append,List.mem_singleton]
  have DC:((v.length:Int)-((k:Int)+1)).toNat<((v.length:Int)-(k:Int)).toNat:=by omega
  refine Evt.B5 (JY hp o v k hk2) (fun t ht=>?_) (fun _ h=>h.elim)
  have ht:decide (t=(ts.length:Int))=true↔ ¬Gn ts (Am.get v k):=ht
  unfold aG
  refine Evt.B5 (JZ o v k hk2 (by omega) (by omega)) (fun b hb=>?_) (fun _ h=>h.elim)
  have hb:b=true↔Am.get v k∈o:=hb
  unfold aH
  dsimp only
  rw[H9 (by omega) (by omega)]
  refine Evt.cond (fun e2=>Evt.pure ⟨⟨k+1,rfl,by omega,f1,by rw[hlp];show o.length≤_;omega,fun x=>?_⟩,DC⟩) (fun e2=>?_)
  ·show x∈o↔_
   rw[f3,hm]
   constructor
   ·rintro⟨h1,h2⟩;exact⟨.inl h1,h2⟩
   ·rintro⟨h1|rfl,h2⟩
    ·exact⟨h1,h2⟩
    ·cases ht2:decide (t=(ts.length:Int))with
     |true=>exact absurd h2 (ht.1 ht2)
     |false=>rw[ht2,cond_false]at e2;exact(f3 _).1 (hb.1 e2)
  ·have e3:decide (t=(ts.length:Int))=false∧b=false:=by
    cases h1:decide (t=(ts.length:Int))<;>rw[h1]at e2
    ·exact⟨rfl,e2⟩
    ·cases e2
   have hno:Am.get v k∉o:=fun h=>by rw[hb.2 h]at e3;cases e3.2
   have hna:Gn ts (Am.get v k):=Classical.byContradiction fun h=>by rw[ht.2 h]at e3;cases e3.1
   rw[Int.toNat_natCast]
   refine Evt.chk (by omega) (Evt.eE (Evt.chk (by rw[List.length_append,List.length_singleton,bO];omega) ?_))
   refine Evt.B5 (OI f1 (Am.get v k) hno (by omega)) (fun t2 ht2=>?_) (fun _ h=>h.elim)
   obtain⟨g1,g2,g3⟩:=(ht2:Str t2∧_)
   unfold aI
   dsimp only
   rw[H9 (by omega) (by omega)]
   refine Evt.pure ⟨⟨k+1,rfl,by omega,g1,by rw[hlp];show t2.length≤_;omega,fun x=>?_⟩,DC⟩
   show x∈t2↔_
   rw[g3,f3,hm]
   constructor
   ·rintro(⟨h1,h2⟩|rfl)
    ·exact⟨.inl h1,h2⟩
    ·exact⟨.inr rfl,hna⟩
   ·rintro⟨h1|rfl,h2⟩
    ·exact .inl ⟨h1,h2⟩
    ·exact .inr rfl
 ·replace e:=bx e
  have e:¬(k:Int)<v.length:=Int.not_lt.2 e
  rwa[List.take_of_length_le (by omega)]at hf
def allM(ts:List w8):List DD:=(ts.map fun t=>mks t 0 0).flatten
theorem Dq(ts:List w8)(t:w8):allM (ts++[t])=allM ts++mks t 0 0:=by simp[allM]
theorem qC{g:x5}{ts:List w8}(hp:Passed g ts):Evt (fun n=>U1 n ts) (fun r=>Divide ts r∧r.length≤200*ts.length):=by
 have hn:=hp.1
 unfold U1
 refine Evt.B5 (Evt.loop (body:=fun n=>P2 n ts) (fun s=>((ts.length:Int)-s.2).toNat) (fun s=>∃k:Nat,s.2=(k:Int)∧k≤ts.length∧Found ts (allM (ts.take k)) s.1∧(allM (ts.take k)).length≤200*k)
  (fun t=>Divide ts t∧t.length≤200*ts.length) (fun _=>False) ⟨0,rfl,by omega,⟨.nil,by simp,fun x=>by simp[allM]⟩,by simp[allM]⟩ (fun s hs=>?_)) (fun t ht=>by unfold aS;exact Evt.pure ht) (fun _ h=>h.elim)
 obtain⟨o,k⟩:=s
 obtain⟨k,rfl,hk,hf,hl⟩:=hs
 show Evt (fun n=>P2 n ts (o,(k:Int))) _
 unfold P2
 dsimp only
 refine Evt.cond (fun e=>?_) (fun e=>Evt.pure ?_)
 ·replace e:=bx e
  have hk2:k<ts.length:=by omega
  obtain⟨hok,hnd⟩:=hp.2 k hk2
  have hml:=sW (Am.get ts k) 0 0
  refine Evt.chk (by omega) ?_
  rw[Int.toNat_natCast]
  refine Evt.bind (Gg _ (Am.get ts k) (Nat.le_refl _) hok 0 0 (by omega) (by omega) (by omega)) fun v hv=>?_
  subst hv
  refine Evt.B5 (LZ hp (allM (ts.take k)) (mks (Am.get ts k) 0 0) (by omega) o hf) (fun t ht=>?_) (fun _ h=>h.elim)
  unfold aJ
  dsimp only
  rw[H9 (by omega) (by omega)]
  have ht:Found ts (allM (ts.take k)++mks (Am.get ts k) 0 0) t:=ht
  rw[←Dq, ←Z1 hk2]at ht
  refine Evt.pure ⟨⟨k+1,rfl,by omega,ht,?_⟩,?_⟩
  ·rw[Z1 hk2,Dq,List.length_append];omega
  ·show((ts.length:Int)-((k:Int)+1)).toNat<((ts.length:Int)-(k:Int)).toNat;omega
 ·replace e:=bx e
  obtain rfl:k=ts.length:=by omega
  rw[List.take_length]at hf hl
  obtain⟨h1,h2,h3⟩:=hf
  refine⟨⟨h1,fun d=>(h3 d).trans (and_congr_left fun _=>?_)⟩,Nat.le_trans h2 hl⟩
  unfold allM
  simp only[List.mem_flatten,List.mem_map]
  constructor
  ·rintro⟨l,⟨t,ht,rfl⟩,hd⟩
   obtain⟨i,hi,rfl⟩:=List.getElem_of_mem ht
   exact⟨i,hi,by rw[Gk hi];exact hd⟩
  ·rintro⟨i,hi,hd⟩
   exact⟨_,⟨_,get_mem hi,rfl⟩,hd⟩
theorem Divide.len{g:x5}{ts:List w8}(hp:Passed g ts){r:List DD}(h:Divide ts r):r.length≤40000:=by
 have hn:=hp.1
 obtain⟨q,⟨h1,h2⟩,_⟩:=qC hp
 rw[h.uniq h1];omega
theorem Ka{g:x5}{ts:List w8}{f:w9}(h:Evt (fun n=>I4 n g ts) (fun r=>r=f))(hz:f.code=0→f=⟨0,0⟩∧qO g∧Passed g ts):
 Evt (fun n=>dx n g ts) (fun r=>(f.code≠0∧r=([],f))∨(f.code=0∧∃R,Divide ts R∧r=(R,⟨0,0⟩))):=by
 unfold dx
 refine Evt.bind h fun v hv=>?_
 subst hv
 refine Evt.cond (fun e=>Evt.pure (.inl ⟨bx e,rfl⟩)) (fun e=>?_)
 have e:v.code=0:=by have:=bx e;omega
 obtain⟨_,hg,hp⟩:=hz e
 refine Evt.bind (vP hp) fun v hv=>?_
 subst hv
 exact Evt.bind (Dn hg hp) fun R hR=>Evt.pure (.inr ⟨e,R,hR,rfl⟩)
theorem GS{g:x5}(hB:zG g){ts:List w8}:Evt (fun n=>K6 n g ts) (fun b=>b=true):=by
 obtain⟨f,h1,h2,hz⟩:=pV hB ts
 unfold K6
 refine Evt.bind gK fun v1 e1=>?_
 subst e1
 refine Evt.cond (fun e=>by cases e) (fun _=>Evt.bind (Ka h1 hz) fun v2 hv=>Evt.bind h2 fun v3 e3=>?_)
 subst e3
 rcases hv with⟨c1,rfl⟩|⟨c1,R,hR,rfl⟩
 ·exact Evt.cond (fun _=>Evt.pure (by simp)) (fun e=>absurd (bx e) c1)
 ·refine Evt.cond (fun e=>absurd c1 (bx e)) (fun _=>?_)
  obtain⟨_,hg,hp⟩:=hz c1
  refine Evt.bind (qC hp) fun S hS=>?_
  obtain⟨hS,_⟩:=hS
  have e:=hR.uniq hS
  subst e
  have hl:=hR.len hp
  refine Evt.cond (fun e=>?_) (fun _=>?_)
  ·simp at e
  ·refine Evt.B5 (Evt.loop (body:=fun _=>E7 (R,⟨0,0⟩) R) (fun s=>((R.length:Int)-s).toNat) (fun s=>∃k:Nat,s=(k:Int)∧k≤R.length) (fun _=>True) (fun _=>False) ⟨0,rfl,by omega⟩ (fun s hs=>?_)) (fun t _=>Evt.pure rfl) (fun _ h=>h.elim)
   obtain⟨k,rfl,hk⟩:=hs
   show Evt (fun _=>E7 (R,⟨0,0⟩) R (k:Int)) _
   unfold E7
   dsimp only
   refine Evt.cond (fun e=>?_) (fun e=>Evt.pure trivial)
   replace e:=bx e
   refine Evt.chk (by omega) (Evt.chk (by omega) (Evt.cond (fun e2=>?_) (fun e2=>Evt.pure ⟨⟨k+1,?_,by omega⟩,?_⟩)))
   ·rw[eqD.2 rfl]at e2;cases e2
   ·show wr .i64 ((k:Int)+1)=_
    rw[H9 (by omega) (by omega)];rfl
   ·show((R.length:Int)-wr .i64 ((k:Int)+1)).toNat<((R.length:Int)-(k:Int)).toNat
    rw[H9 (by omega) (by omega)];omega
end Go.Proofs.YtfogbhjeihkliaaGreatDoor
