import Derived.Test.YtonfgoanbllceaaGreatDoorALaw3
import Derived.Test.YtonfgoanbllceaaGreatDoorALcs3
set_option linter.unusedVariables false
set_option linter.unusedSimpArgs false
namespace Go.Proofs.YtonfgoanbllceaaGreatDoor
open Go Go.Am
theorem Em(v:List w7)(bb:List w4)(hv:∀x∈v,Eh bb x)(hB:∀y∈bb,Cd y)(hl:v.length≤200):
 Evt (fun n=>D1 (fB n v) v.length []) (ExP (fun t=>t.map uQ=v.map mP∧Gq t=iQ v∧(∀x∈t,ROk x)∧∀x∈t,∀y∈x.put,y∈bb) (fun _=>False)):=by
 refine(Evt.range (fun k (s:List A8)=>s.map uQ=(v.take k).map mP∧Gq s=iQ (v.take k)∧(∀x∈s,ROk x)∧∀x∈s,∀y∈x.put,y∈bb) (fun _=>False) (fun _=>False) ⟨rfl,rfl,fun x hx=>(by cases hx),fun x hx=>(by cases hx)⟩ (fun k s hk hs=>?_)).mono fun r hr=>?_
 ·obtain⟨h1,h2,h3,h4⟩:=hs
  obtain⟨o1,o2,o3,o4,o5,o6⟩:=hv _ (get_mem hk)
  have hlen:s.length=k:=by
   have:=congrArg List.length h1
   simp only[List.length_map,List.length_take]at this
   omega
  unfold fB
  refine Evt.C2 (bM (fun n x=>bN n x) (Am.get v k).put 152 (by decide) (by omega) (fun j hj=>sQ (hB _ (o6 _ (get_mem hj))))) (fun t ht=>?_) (fun _ h=>h.elim)
  have ht:t=(Am.get v k).put:=ht
  subst ht
  unfold iR
  refine Evt.chk ⟨by rw[M8];omega,by rw[M8];omega⟩ (Evt.pure ⟨?_,?_,?_,?_⟩)
  ·rw[U7 hk,List.map_append,List.map_append,h1]
   rfl
  ·show Gq (s++[A8.mk (Am.get v k).keep (Am.get v k).drop (Am.get v k).put])=_
   rw[U7 hk]
   simp only[Gq,iQ,List.map_append,List.map_cons,List.map_nil,List.sum_append,List.sum_cons,List.sum_nil]at*
   rw[h2]
  ·intro x hx
   rcases List.mem_append.1 hx with hx|hx
   ·exact h3 x hx
   ·rw[List.mem_singleton.1 hx]
    exact⟨o1,o2,o3,o4,o5⟩
  ·intro x hx
   rcases List.mem_append.1 hx with hx|hx
   ·exact h4 x hx
   ·rw[List.mem_singleton.1 hx]
    exact o6
 ·cases r with
  |nxt t=>simpa only[ExP,or_false,List.take_length]using hr
  |ret x=>exact hr
theorem Gv(v:List w9)(bb:List x7)(hv:∀x∈v,Jj bb x)(hB:∀y∈bb,LL y)(hl:v.length≤200):
 Evt (fun n=>D1 (fC n v) v.length []) (ExP (fun t=>t.map Cy=v.map qS∧GC t=lx v∧(∀x∈t,LOk x)∧∀x∈t,∀y∈x.put,y∈bb) (fun _=>False)):=by
 refine(Evt.range (fun k (s:List B9)=>s.map Cy=(v.take k).map qS∧GC s=lx (v.take k)∧(∀x∈s,LOk x)∧∀x∈s,∀y∈x.put,y∈bb) (fun _=>False) (fun _=>False) ⟨rfl,rfl,fun x hx=>(by cases hx),fun x hx=>(by cases hx)⟩ (fun k s hk hs=>?_)).mono fun r hr=>?_
 ·obtain⟨h1,h2,h3,h4⟩:=hs
  obtain⟨o1,o2,o3,o4,o5,o6⟩:=hv _ (get_mem hk)
  have hlen:s.length=k:=by
   have:=congrArg List.length h1
   simp only[List.length_map,List.length_take]at this
   omega
  unfold fC
  refine Evt.C2 (bM (fun n x=>dc n x) (Am.get v k).put 144 (by decide) (by omega) (fun j hj=>uR (hB _ (o6 _ (get_mem hj))))) (fun t ht=>?_) (fun _ h=>h.elim)
  have ht:t=(Am.get v k).put:=ht
  subst ht
  unfold iS
  refine Evt.chk ⟨by rw[M8];omega,by rw[M8];omega⟩ (Evt.pure ⟨?_,?_,?_,?_⟩)
  ·rw[U7 hk,List.map_append,List.map_append,h1]
   rfl
  ·show GC (s++[B9.mk (Am.get v k).keep (Am.get v k).drop (Am.get v k).put])=_
   rw[U7 hk]
   simp only[GC,lx,List.map_append,List.map_cons,List.map_nil,List.sum_append,List.sum_cons,List.sum_nil]at*
   rw[h2]
  ·intro x hx
   rcases List.mem_append.1 hx with hx|hx
   ·exact h3 x hx
   ·rw[List.mem_singleton.1 hx]
    exact⟨o1,o2,o3,o4,o5⟩
  ·intro x hx
   rcases List.mem_append.1 hx with hx|hx
   ·exact h4 x hx
   ·rw[List.mem_singleton.1 hx]
    exact o6
 ·cases r with
  |nxt t=>simpa only[ExP,or_false,List.take_length]using hr
  |ret x=>exact hr
open Classical in
noncomputable def hd{α:Type}(a b:α):Int:=if a=b then 0 else 1
def total(c:B4):Int:= ↑c.hierarchy.length+↑c.start.length+Gq c.rules+GC c.y9
noncomputable def gc(a b:x9):Int:=hd a.hierarchy b.hierarchy+hd a.start b.start+((Lcs.cost aN a.rules b.rules:Nat):Int)+((Lcs.cost iB a.y9 b.y9:Nat):Int)
theorem LS{α:Type}{v:Bool}{a b:α}(h:v=true↔a=b):(v=true→hd a b=0)∧(v=false→hd a b=1):=by
 unfold hd
 constructor
 ·intro e;rw[if_pos (h.1 e)]
 ·intro e;rw[if_neg (fun e2=>by rw[h.2 e2]at e;cases e)]
def Qv:B4:=⟨[],[],[],[]⟩
structure CG(a b:x9)(c:B4):Prop where
 ok:LM c
 bnd:Ap c
 sum:total c=gc a b
 to:Rr a c=b
 fits:Fits a c
def Part{α:Type}(x y:α)(l:List α):Prop:=(l=[]∧x=y)∨l=[y]∧x≠y
theorem Part.len{α:Type}{x y:α}{l:List α}(h:Part x y l):(l.length:Int)=hd x y∧l.length≤1∧∀z∈l,z=y:=by
 unfold hd
 rcases h with⟨rfl,e⟩|⟨rfl,e⟩
 ·rw[if_pos e];exact⟨rfl,by simp,fun z hz=>(by cases hz)⟩
 ·rw[if_neg e];exact⟨rfl,by simp,fun z hz=>List.mem_singleton.1 hz⟩
theorem CH{a b:x9}(ha:uj a)(hb:uj b){fa fb:x6}(va:Evt (fun n=>N7 n a) (fun r=>r=fa))(vb:Evt (fun n=>N7 n b) (fun r=>r=fb))(oka:fa.code=0→Gp a)(okb:fb.code=0→Gp b):
 Evt (fun n=>iz n a b) (fun r=>(fa.code≠0∧r=(Qv,fa))∨(fa.code=0∧fb.code≠0∧r=(Qv,fb))∨(fa.code=0∧fb.code=0∧r.2=⟨0,0⟩∧CG a b r.1)):=by
 unfold iz
 refine Evt.C2 (Evt.range (fun k _=>(1≤k→fa.code=0)∧(2≤k→fb.code=0)) (fun _=>False) (fun r:B4×x6=>(fa.code≠0∧r=(Qv,fa))∨(fa.code=0∧fb.code≠0∧r=(Qv,fb))) ⟨fun h=>by omega,fun h=>by omega⟩ (fun k u hk hj=>?_)) (fun u hu=>?_) (fun r hr=>hr.elim (fun h=>.inl h) fun h=>.inr (.inl h))
 ·unfold iT
  match k,hk with
  |0,_=>
   refine Evt.bind (P:=fun f=>f=fa) va fun f hf=>?_
   subst hf
   refine Evt.cond (fun e=>Evt.pure (.inl ⟨?_,rfl⟩)) (fun e=>Evt.pure ⟨fun _=>?_,fun h=>by omega⟩)
   ·replace e:=bx e
    exact e
   ·replace e:=bx e
    exact e
  |1,_=>
   refine Evt.bind (P:=fun f=>f=fb) vb fun f hf=>?_
   subst hf
   refine Evt.cond (fun e=>Evt.pure (.inr ⟨hj.1 (by omega),?_,rfl⟩)) (fun e=>Evt.pure ⟨fun _=>hj.1 (by omega),fun _=>?_⟩)
   ·replace e:=bx e
    exact e
   ·replace e:=bx e
    exact e
 ·obtain⟨ea,eb⟩:=hu.elim id False.elim
  have ea:=ea (by decide)
  have eb:=eb (by decide)
  have ga:=oka ea
  have gb:=okb eb
  have r1:=ga.rules
  have r2:=ga.y9
  have r3:=gb.rules
  have r4:=gb.y9
  suffices key:Evt (fun n=>fD n a b u) (fun r=>r.2=⟨0,0⟩∧CG a b r.1)from key.mono fun r h=>.inr (.inr ⟨ea,eb,h⟩)
  have hj2:∀(j1:List w5) (j2:List y5),Part a.hierarchy b.hierarchy j1→Part a.start b.start j2→Evt (fun n=>cK n a b j1 j2) (fun r=>r.2=⟨0,0⟩∧CG a b r.1):=by
   intro j1 j2 p1 p2
   unfold cK
   refine Evt.bind (Cn a.rules b.rules (by omega) (by omega)) fun v hv=>?_
   refine Evt.C2 (Em v b.rules hv.ok hb.rule hv.len) (fun t ht=>?_) (fun _ h=>h.elim)
   obtain⟨t1,t2,t3,t4⟩:=ht
   unfold iU
   refine Evt.bind (El a.y9 b.y9 (by omega) (by omega)) fun w hw=>?_
   refine Evt.C2 (Gv w b.y9 hw.ok hb.lex hw.len) (fun u hu=>?_) (fun _ h=>h.elim)
   obtain⟨u1,u2,u3,u4⟩:=hu
   have tl:t.length=v.length:=by simpa using congrArg List.length t1
   have ul:u.length=w.length:=by simpa using congrArg List.length u1
   have vl:=hv.len
   have wl:=hw.len
   obtain⟨q1,q2,q3⟩:=p1.len
   obtain⟨q4,q5,q6⟩:=p2.len
   have f1:fol a.rules (W9 ⟨j1,j2,t,u⟩) 0=b.rules:=by show fol _ (t.map uQ) 0=_;rw[t1];exact hv.fol
   have f2:fol a.y9 (cZ ⟨j1,j2,t,u⟩) 0=b.y9:=by show fol _ (u.map Cy) 0=_;rw[u1];exact hw.fol
   have f3:mU (W9 ⟨j1,j2,t,u⟩) 0=a.rules.length:=by show mU (t.map uQ) 0=_;rw[t1];exact hv.mU
   have f4:mU (cZ ⟨j1,j2,t,u⟩) 0=a.y9.length:=by show mU (u.map Cy) 0=_;rw[u1];exact hw.mU
   have f5:sR a ⟨j1,j2,t,u⟩=b.hierarchy:=by
    unfold sR
    rcases p1 with⟨rfl,e⟩|⟨rfl,e⟩
    ·exact e
    ·rfl
   have f6:pK a ⟨j1,j2,t,u⟩=b.start:=by
    unfold pK
    rcases p2 with⟨rfl,e⟩|⟨rfl,e⟩
    ·exact e
    ·rfl
   refine Evt.pure ⟨rfl,⟨q2,q5,by show t.length≤300;omega,by show u.length≤300;omega,fun k hk=>t3 _ (get_mem hk),fun k hk=>u3 _ (get_mem hk)⟩,⟨fun y hy=>by rw[q3 y hy];exact hb.hier,fun y hy=>by rw[q6 y hy];exact hb.start,fun x hx r hr=>hb.rule _ (t4 x hx r hr),fun x hx r hr=>hb.lex _ (u4 x hx r hr)⟩,?_,?_,f3,f4⟩
   ·show(j1.length:Int)+j2.length+Gq t+GC u=gc a b
    have s1:=hv.sum
    have s2:=hw.sum
    unfold gc
    omega
   ·show(⟨sR a _,fol a.rules _ 0,fol a.y9 _ 0,pK a _⟩:x9)=b
    rw[f1,f2,f5,f6]
  have hj1:∀(j1:List w5),Part a.hierarchy b.hierarchy j1→Evt (fun n=>cL n a b j1) (fun r=>r.2=⟨0,0⟩∧CG a b r.1):=by
   intro j1 p1
   unfold cL
   refine Evt.bind (P:=fun v=>v=true↔a.start=b.start) (pI a.start b.start) fun v hv=>Evt.cond (fun e=>?_) (fun e=>?_)
   ·refine Evt.bind (jy hb.start.nodes) fun w hw=>hj2 j1 [w] p1 (.inr ⟨by rw[hw],fun e2=>?_⟩)
    rw[hv.2 e2]at e;cases e
   ·exact hj2 j1 [] p1 (.inl ⟨rfl,hv.1 (by simpa using e)⟩)
  unfold fD
  refine Evt.bind (P:=fun v=>v=true↔a.hierarchy=b.hierarchy) (vj a.hierarchy b.hierarchy) fun v hv=>Evt.cond (fun e=>?_) (fun e=>?_)
  ·refine Evt.bind (sP hb.hier.types) fun w hw=>hj1 [w] (.inr ⟨by rw[hw],fun e2=>?_⟩)
   rw[hv.2 e2]at e;cases e
  ·exact hj1 [] (.inl ⟨rfl,hv.1 (by simpa using e)⟩)
section
variable (sm:Nat→Nat→Bool)
def oL(i k:Nat):List Int:=(List.range k).map fun j=>((Lcs.dp sm i j:Nat):Int)
variable {sm}
theorem kA{i k:Nat}:(oL sm i k).length=k:=by simp[oL]
theorem vK{i k j:Nat}(h:j<k):Am.get (oL sm i k) j=((Lcs.dp sm i j:Nat):Int):=by
 simp[oL,Am.get,List.getD_eq_getElem?_getD,List.getElem?_map,List.getElem?_range h]
theorem vL{i k:Nat}:oL sm i k++[((Lcs.dp sm i k:Nat):Int)]=oL sm i (k+1):=by simp[oL,List.range_succ]
theorem KZ{i:Nat}: [(i:Int)]=oL sm i 1:=by
 show _=[((Lcs.dp sm i 0:Nat):Int)]
 rw[Lcs.AH]
theorem La(M:Nat)(hM:M≤1000):Evt (fun n=>V2 (ρ:=Int) (G9 (M:Int)) n ([],0)) (ExP (fun t=>t=oL sm 0 (M+1)) (fun _=>False)):=by
 refine Evt.loop (body:=fun _=>G9 (M:Int)) (fun s=>(M+1-s.2).toNat) (fun s=>∃k:Nat,k≤M+1∧s=(oL sm 0 k,(k:Int))) (fun t=>t=oL sm 0 (M+1)) (fun _=>False) ⟨0,by omega,rfl⟩ (fun s hs=>?_)
 obtain⟨k,hk,rfl⟩:=hs
 show Evt (fun _=>G9 (M:Int) (oL sm 0 k,(k:Int))) _
 unfold G9
 refine Evt.cond (fun e=>?_) (fun e=>?_)
 ·have e:(k:Int)≤M:=of_decide_eq_true e
  have ek:oL sm 0 k++[(k:Int)]=oL sm 0 (k+1):=by rw[←vL,Lcs.xO]
  refine Evt.cW ?_
  show Evt (fun _=>chk ((oL sm 0 k++[(k:Int)]).length*8≤top∧(oL sm 0 k++[(k:Int)]).length≤top) (some (Ctl.nxt (oL sm 0 k++[(k:Int)],wr .i64 ((k:Int)+1))))) _
  rw[ek,kA]
  refine Evt.chk ⟨by rw[M8];omega,by rw[M8];omega⟩ (Evt.pure ⟨⟨k+1,by omega,?_⟩,?_⟩)
  ·rw[G3 (by omega) (by omega)];rfl
  ·show(M+1-wr .i64 ((k:Int)+1)).toNat<(M+1-(k:Int)).toNat
   rw[G3 (by omega) (by omega)];omega
 ·have e:¬(k:Int)≤M:=of_decide_eq_false e
  refine Evt.pure ?_
  show oL sm 0 k=_
  rw[show k=M+1 by omega]
theorem Fp{N M i k:Nat}(hN:N≤1000)(hM:M≤1000)(hi:i<N)(hk:k<M){d:Int}(hd:d=((min (Lcs.dp sm i (k+1)+1) (Lcs.dp sm (i+1) k+1):Nat):Int)):
 K8 (oL sm i (M+1),((i+1:Nat):Int)) (tf N M sm) (oL sm (i+1) (k+1),((k+1:Nat):Int)) d=some (.nxt (oL sm (i+1) (k+2),((k+2:Nat):Int))):=by
 have w1:wr .i64 (((i+1:Nat):Int)-1)=(i:Int):=by rw[G3 (by omega) (by omega)];omega
 have w2:wr .i64 (((k+1:Nat):Int)-1)=(k:Int):=by rw[G3 (by omega) (by omega)];omega
 have w3:wr .i64 (((k+1:Nat):Int)+1)=((k+2:Nat):Int):=by rw[G3 (by omega) (by omega)];omega
 unfold K8
 simp only[w1,w2,w3,Int.toNat_natCast]
 rw[Il hi,BD hk,vK (by omega:k<M+1)]
 rw[gP ⟨by omega,by rw[sx];omega⟩,gP (by rw[uL];omega),gP (by unfold cX;intro _;rw[kA];omega)]
 have hs:=Lcs.xP sm i k
 cases e:sm i k with
 |true=>
  rw[e]at hs
  simp only[cond_true]at hs⊢
  by_cases hlt:((Lcs.dp sm i k:Nat):Int)<d
  ·rw[decide_eq_true hlt,cond_true,gP (by rw[kA];omega)]
   have e2:Lcs.dp sm (i+1) (k+1)=Lcs.dp sm i k:=by omega
   simp only[cW]
   rw[←e2,vL,kA,gP ⟨by rw[M8];omega,by rw[M8];omega⟩]
  ·rw[decide_eq_false hlt,cond_false]
   have e2:((Lcs.dp sm (i+1) (k+1):Nat):Int)=d:=by omega
   simp only[cW]
   rw[←e2,vL,kA,gP ⟨by rw[M8];omega,by rw[M8];omega⟩]
 |false=>
  rw[e]at hs
  simp only[cond_false]at hs⊢
  have e2:((Lcs.dp sm (i+1) (k+1):Nat):Int)=d:=by omega
  simp only[cW]
  rw[←e2,vL,kA,gP ⟨by rw[M8];omega,by rw[M8];omega⟩]
theorem Lb{N M i:Nat}(hN:N≤1000)(hM:M≤1000)(hi:i<N):
 Evt (fun n=>V2 (H6 (M:Int) (oL sm i (M+1),((i+1:Nat):Int)) (tf N M sm)) n ([((i+1:Nat):Int)],1)) (ExP (fun t=>t=oL sm (i+1) (M+1)) (fun _=>False)):=by
 refine Evt.loop (body:=fun _=>H6 (M:Int) (oL sm i (M+1),((i+1:Nat):Int)) (tf N M sm)) (fun s=>(M+1-s.2).toNat) (fun s=>∃k:Nat,k≤M∧s=(oL sm (i+1) (k+1),((k+1:Nat):Int))) (fun t=>t=oL sm (i+1) (M+1)) (fun _=>False) ⟨0,by omega,by rw[KZ (sm:=sm)];rfl⟩ (fun s hs=>?_)
 obtain⟨k,hk,rfl⟩:=hs
 show Evt (fun _=>H6 (M:Int) (oL sm i (M+1),((i+1:Nat):Int)) (tf N M sm) (oL sm (i+1) (k+1),((k+1:Nat):Int))) _
 unfold H6
 refine Evt.cond (fun e=>?_) (fun e=>?_)
 ·have e:((k+1:Nat):Int)≤M:=of_decide_eq_true e
  have hk1:k<M:=by omega
  have b1:=Lcs.Jp sm i (k+1)
  have b2:=Lcs.Jp sm (i+1) k
  have w2:wr .i64 (((k+1:Nat):Int)-1)=(k:Int):=by rw[G3 (by omega) (by omega)];omega
  simp only[w2,Int.toNat_natCast]
  rw[vK (by omega:k+1<M+1),vK (by omega:k<k+1),G3 (n:=((Lcs.dp sm (i+1) k:Nat):Int)+1) (by omega) (by omega),G3 (n:=((Lcs.dp sm i (k+1):Nat):Int)+1) (by omega) (by omega)]
  refine Evt.chk ⟨by omega,by rw[kA];omega⟩ (Evt.chk ⟨by omega,by rw[kA];omega⟩ (Evt.cond (fun e2=>?_) (fun e2=>?_)))
  ·have e2:=of_decide_eq_true e2
   rw[Fp hN hM hi hk1 (by omega)]
   refine Evt.pure ⟨⟨k+1,by omega,rfl⟩,?_⟩
   show(M+1-((k+2:Nat):Int)).toNat<(M+1-((k+1:Nat):Int)).toNat
   omega
  ·have e2:=of_decide_eq_false e2
   rw[Fp hN hM hi hk1 (by omega)]
   refine Evt.pure ⟨⟨k+1,by omega,rfl⟩,?_⟩
   show(M+1-((k+2:Nat):Int)).toNat<(M+1-((k+1:Nat):Int)).toNat
   omega
 ·have e:¬((k+1:Nat):Int)≤M:=of_decide_eq_false e
  refine Evt.pure ?_
  show oL sm (i+1) (k+1)=_
  rw[show k=M by omega]
theorem xQ{N M:Nat}(hN:N≤1000)(hM:M≤1000):Evt (fun n=>O2 n (N:Int) (M:Int) (tf N M sm)) (fun r=>r=((Lcs.dp sm N M:Nat):Int)):=by
 unfold O2
 refine Evt.C2 (La (sm:=sm) M hM) (fun t ht=>?_) (fun _ h=>h.elim)
 have ht:t=oL sm 0 (M+1):=ht
 subst ht
 unfold V3
 refine Evt.C2 (P:=ExP (fun t=>t=oL sm N (M+1)) (fun _=>False)) (Evt.loop (body:=fun n=>K9 n (N:Int) (M:Int) (tf N M sm)) (fun s=>(N+1-s.2).toNat) (fun s=>∃i:Nat,i≤N∧s=(oL sm i (M+1),((i+1:Nat):Int))) (fun t=>t=oL sm N (M+1)) (fun _=>False) ⟨0,by omega,rfl⟩ (fun s hs=>?_)) (fun t ht=>?_) (fun _ h=>h.elim)
 ·obtain⟨i,hi,rfl⟩:=hs
  show Evt (fun n=>K9 n (N:Int) (M:Int) (tf N M sm) (oL sm i (M+1),((i+1:Nat):Int))) _
  unfold K9
  refine Evt.cond (fun e=>?_) (fun e=>?_)
  ·have e:((i+1:Nat):Int)≤N:=of_decide_eq_true e
   refine Evt.C2 (Lb hN hM (by omega)) (fun t ht=>?_) (fun _ h=>h.elim)
   have ht:t=oL sm (i+1) (M+1):=ht
   subst ht
   unfold V4
   refine Evt.pure ⟨⟨i+1,by omega,?_⟩,?_⟩
   ·show(_,wr .i64 (((i+1:Nat):Int)+1))=_
    rw[G3 (by omega) (by omega)];rfl
   ·show(N+1-wr .i64 (((i+1:Nat):Int)+1)).toNat<(N+1-((i+1:Nat):Int)).toNat
    rw[G3 (by omega) (by omega)];omega
  ·have e:¬((i+1:Nat):Int)≤N:=of_decide_eq_false e
   refine Evt.pure ?_
   show oL sm i (M+1)=_
   rw[show i=N by omega]
 ·have ht:t=oL sm N (M+1):=ht
  subst ht
  unfold V5
  rw[Int.toNat_natCast,vK (by omega:M<M+1)]
  exact Evt.chk ⟨by omega,by rw[kA];omega⟩ (Evt.pure rfl)
end
theorem Jq{f:Nat→Nat→Nat→Option Bool}{P:Nat→Nat→Bool→Prop}(N M:Nat)(h:∀i j,i<N→j<M→Evt (fun n=>f n i j) (P i j)):∃K,∀n,K≤n→∀i j,i<N→j<M→∃r,f n i j=some r∧P i j r:=by
 have row:∀i,i<N→∃K,∀n,K≤n→∀j,j<M→∃r,f n i j=some r∧P i j r:=fun i hi=>by
  obtain⟨K,hK⟩:=rA (f:=fun n j=>f n i j) (P:=P i) (List.range M) fun j hj=>h i j hi (List.mem_range.1 hj)
  exact⟨K,fun n hn j hj=>hK n hn j (List.mem_range.2 hj)⟩
 clear h
 induction N with
 |zero=>exact⟨0,fun _ _ i j hi=>absurd hi (Nat.not_lt_zero _)⟩
 |succ N ih=>
  obtain⟨K1,h1⟩:=ih fun i hi=>row i (by omega)
  obtain⟨K2,h2⟩:=row N (by omega)
  refine⟨max K1 K2,fun n hn i j hi hj=>?_⟩
  by_cases e:i=N
  ·subst e;exact h2 n (by omega) j hj
  ·exact h1 n (by omega) i j (by omega) hj
theorem yB{a b:List w4}(hB:∀x∈a,Cd x)(ha:a.length≤1000)(hb:b.length≤1000):Evt (fun n=>lA n a b) (fun T=>T=tf a.length b.length fun i j=>aN (Am.get a i) (Am.get b j)):=by
 obtain⟨K,hK⟩:=Jq (f:=fun n i j=>E6 n [Am.get a i] [Am.get b j]) (P:=fun i j r=>r=aN (Am.get a i) (Am.get b j)) a.length b.length fun i j hi hj=>
  (CB (a:=[Am.get a i]) (fun y hy=>by rw[List.mem_singleton.1 hy];exact hB _ (get_mem hi)) [Am.get b j]).mono fun r hr=>sL (hr.trans (by simp))
 refine⟨_,rfl,K,fun n hn=>?_⟩
 show lA n a b=_
 unfold lA
 rw[gP ⟨by rw[M8];omega,by omega,by omega⟩,gP (List.all_eq_true.2 fun i hi=>List.all_eq_true.2 fun j hj=>by
  obtain⟨r,h1,_⟩:=hK n hn i j (List.mem_range.1 hi) (List.mem_range.1 hj)
  rw[h1];rfl)]
 refine congrArg some (sy fun i j hi hj=>?_)
 obtain⟨r,h1,h2⟩:=hK n hn i j hi hj
 rw[h1, ←h2];rfl
theorem AJ{a b:List x7}(hB:∀x∈a,LL x)(ha:a.length≤1000)(hb:b.length≤1000):Evt (fun n=>nF n a b) (fun T=>T=tf a.length b.length fun i j=>iB (Am.get a i) (Am.get b j)):=by
 obtain⟨K,hK⟩:=Jq (f:=fun n i j=>F5 n (Am.get a i) (Am.get b j)) (P:=fun i j r=>r=iB (Am.get a i) (Am.get b j)) a.length b.length fun i j hi hj=>
  (Jl (hB _ (get_mem hi)) (Am.get b j)).mono fun r hr=>vJ hr
 refine⟨_,rfl,K,fun n hn=>?_⟩
 show nF n a b=_
 unfold nF
 rw[gP ⟨by rw[M8];omega,by omega,by omega⟩,gP (List.all_eq_true.2 fun i hi=>List.all_eq_true.2 fun j hj=>by
  obtain⟨r,h1,_⟩:=hK n hn i j (List.mem_range.1 hi) (List.mem_range.1 hj)
  rw[h1];rfl)]
 refine congrArg some (sy fun i j hi hj=>?_)
 obtain⟨r,h1,h2⟩:=hK n hn i j hi hj
 rw[h1, ←h2];rfl
theorem sS{a b:x9}(ha:uj a)(h1:a.rules.length≤1000)(h2:a.y9.length≤1000)(h3:b.rules.length≤1000)(h4:b.y9.length≤1000):Evt (fun n=>G7 n a b) (fun r=>r=gc a b):=by
 have Rt:∀ {α:Type} [Inhabited α] (l:List α) (i:Nat) (h:i<l.length),Am.get l i=l[i]:=fun l i h=>by simp[Am.get,h]
 have c1:Lcs.dp (fun i j=>aN (Am.get a.rules i) (Am.get b.rules j)) a.rules.length b.rules.length=Lcs.cost aN a.rules b.rules:=Lcs.Jr fun i k hi hk=>by rw[Rt _ _ hi,Rt _ _ hk]
 have c2:Lcs.dp (fun i j=>iB (Am.get a.y9 i) (Am.get b.y9 j)) a.y9.length b.y9.length=Lcs.cost iB a.y9 b.y9:=Lcs.Jr fun i k hi hk=>by rw[Rt _ _ hi,Rt _ _ hk]
 have l1:=Lcs.Jp (fun i j=>aN (Am.get a.rules i) (Am.get b.rules j)) a.rules.length b.rules.length
 have l2:=Lcs.Jp (fun i j=>iB (Am.get a.y9 i) (Am.get b.y9 j)) a.y9.length b.y9.length
 have hj1:∀j1:Int,j1=hd a.hierarchy b.hierarchy+hd a.start b.start→Evt (fun n=>F3 n a b j1) (fun r=>r=gc a b):=fun j1 hj=>by
  unfold F3
  refine Evt.bind (yB ha.rule h1 h3) fun v3 e3=>Evt.bind (AJ ha.lex h2 h4) fun v4 e4=>?_
  subst e3;subst e4
  refine Evt.bind (xQ h1 h3) fun v5 e5=>Evt.bind (xQ h2 h4) fun v6 e6=>Evt.pure ?_
  subst e5;subst e6
  have q1:0≤hd a.hierarchy b.hierarchy∧hd a.hierarchy b.hierarchy≤1:=by unfold hd;split<;>decide
  have q2:0≤hd a.start b.start∧hd a.start b.start≤1:=by unfold hd;split<;>decide
  rw[c1,c2,G3 (n:=j1+((Lcs.cost aN a.rules b.rules:Nat):Int)) (by omega) (by omega),G3 (by omega) (by omega),hj]
  unfold gc
  omega
 have hj0:∀j0:Int,j0=hd a.hierarchy b.hierarchy→Evt (fun n=>F4 n a b j0) (fun r=>r=gc a b):=fun j0 hj=>by
  unfold F4
  refine Evt.bind (P:=fun v=>v=true↔a.start=b.start) (sN (by have:=ha.start.nodes;omega) b.start) fun v hv=>?_
  obtain⟨o1,o2⟩:=LS hv
  refine Evt.cond (fun e=>hj1 _ ?_) (fun e=>hj1 _ ?_)
  ·have q1:0≤hd a.hierarchy b.hierarchy∧hd a.hierarchy b.hierarchy≤1:=by unfold hd;split<;>decide
   rw[G3 (by omega) (by omega),hj,o2 (by simpa using e)]
  ·rw[hj,o1 (by simpa using e)];omega
 unfold G7
 refine Evt.bind (P:=fun v=>v=true↔a.hierarchy=b.hierarchy) (Fm a.hierarchy b.hierarchy) fun v hv=>?_
 obtain⟨o1,o2⟩:=LS hv
 refine Evt.cond (fun e=>hj0 _ ?_) (fun e=>hj0 _ ?_)
 ·rw[o2 (by simpa using e)];rfl
 ·rw[o1 (by simpa using e)]
theorem Gw{c:B4}(h:LM c):Evt (fun _=>iO c) (fun f=>f.code=0):=by
 have h1:=h.hier
 have h2:=h.start
 have h3:=h.rules
 have h4:=h.y9
 have hg:∀i,i<c.rules.length+c.y9.length→pH c i:=fun i hi=>by
  unfold pH
  by_cases e:i<c.rules.length
  ·rw[if_pos e]
   have:=h.rok i e
   unfold ROk at this
   unfold Cg
   omega
  ·rw[if_neg e]
   have:=h.lok (i-c.rules.length) (by omega)
   unfold LOk at this
   unfold Cg
   omega
 unfold iO
 refine Evt.cond (fun e=>?_) (fun _=>(Ch c (by omega)).mono fun r hr=>?_)
 ·replace e:=bx e
  omega
 ·rcases hr with⟨rfl,_⟩|⟨i,hi,_,hn,_⟩
  ·rfl
  ·exact absurd (hg i hi) hn
theorem yp{a b:x9}(ha:uj a)(hb:uj b):Evt (fun n=>V6 n a b) (fun r=>r=true):=by
 obtain⟨fa,fa',⟨rfl,hfa⟩,a1,a2⟩:=(lq ha.holds).split
 obtain⟨fb,fb',⟨rfl,hfb⟩,b1,b2⟩:=(lq hb.holds).split
 unfold V6
 refine Evt.bind yA fun v hv=>?_
 subst hv
 refine Evt.cond (fun e=>by cases e) (fun _=>?_)
 refine Evt.bind (CH ha hb a1 b1 (fun h=>(hfa h).2) (fun h=>(hfb h).2)) fun v2 h2=>?_
 refine Evt.bind (P:=fun v=>v=if fa.code=0 then fb else fa) ?_ fun v3 h3=>?_
 ·unfold Y1
  refine Evt.bind a2 fun v hv=>?_
  subst hv
  refine Evt.cond (fun e=>?_) (fun e=>?_)
  ·replace e:=bx e
   exact Evt.pure (by rw[if_neg e])
  ·replace e:=bx e
   exact Evt.bind b2 fun v hv=>Evt.pure (by rw[if_pos e];exact hv)
 have Qw:∀f:x6,f.code≠0→v2=(Qv,f)→v3=f→Evt (fun n=>(bif (!decide (v3.code=0))then
  (gd (decide (v2.2.code=v3.code)&&(decide (v2.2.index=v3.index))) (Y2 v2.1) default).bind fun v4=>
  some (bif (decide (v2.2.code=v3.code)&&(decide (v2.2.index=v3.index)))then v4 else false)
  else
   bif (!decide (v2.2.code=0))then
    some false
   else
    (og v2.1).bind fun v5=>
    (ly n a v2.1).bind fun v6=>
    (gd (bif (decide (v5.2.code=0))then(decide (v6.2.code=0))else false) (G7 n a b) default).bind fun v7=>
    (gd (bif (bif (decide (v5.2.code=0))then(decide (v6.2.code=0))else false)then(decide (v5.1=v7))else false) (K0 n v6.1 b) default).bind fun v8=>
    some (bif (bif (bif (decide (v5.2.code=0))then(decide (v6.2.code=0))else false)then(decide (v5.1=v7))else false)then v8 else false))) (fun r=>r=true):=fun f hf g1 g2=>by
  clear h2 h3
  subst g1;subst g2
  refine Evt.cond (fun _=>?_) (fun e=>absurd (bx e) hf)
  simp only[decide_true,Bool.and_self,ig,cond_true]
  exact Evt.bind (P:=fun r=>r=true) (Evt.pure rfl) fun r hr=>Evt.pure hr
 rcases h2 with⟨h,e⟩|⟨h0,h,e⟩|⟨h0,h1,hz,hl⟩
 ·exact Qw fa h e (by rw[h3,if_neg h])
 ·exact Qw fb h e (by rw[h3,if_pos h0])
 ·obtain⟨za,ga⟩:=hfa h0
  obtain⟨zb,gb⟩:=hfb h1
  obtain⟨c,f⟩:=v2
  have hz:f=⟨0,0⟩:=hz
  subst hz
  have hl:CG a b c:=hl
  have h3:v3=fb:=by rw[h3,if_pos h0]
  subst h3
  refine Evt.cond (fun e=>absurd h1 (bx e)) (fun _=>Evt.cond (fun e=>by cases e) (fun _=>?_))
  have r1:=ga.rules
  have r2:=ga.y9
  have r3:=gb.rules
  have r4:=gb.y9
  refine Evt.bind (Nz c hl.ok) fun v5 h5=>?_
  refine Evt.bind (KY ha hl.bnd ga hl.ok (a1.mono fun r hr=>by rw[hr];exact h0) (Gw hl.ok) (f:=v3) (by rw[hl.to];exact b1)) fun v6 h6=>?_
  have e6:v6.2.code=0∧v6.1=b:=by
   rcases h6 with⟨hn,_⟩|⟨_,hn,_⟩|⟨_,_,rfl⟩
   ·exact absurd hl.fits hn
   ·exact absurd h1 hn
   ·exact⟨rfl,hl.to⟩
  have e5:=h5.1
  rw[decide_eq_true e5,decide_eq_true e6.1]
  refine Evt.bind (P:=fun r=>r=gc a b) (Evt.gd (fun _=>sS ha (by omega) (by omega) (by omega) (by omega)) (fun e=>by cases e)) fun v7 h7=>?_
  have e7:v5.1=v7:=by
   rw[h7, ←hl.sum]
   exact h5.2.1
  rw[decide_eq_true e7]
  refine Evt.bind (P:=fun r=>r=true) (Evt.gd (fun _=>?_) (fun e=>by cases e)) fun v8 h8=>Evt.pure (by rw[h8];rfl)
  rw[e6.2]
  exact(CD hb b).mono fun r hr=>hr.2 rfl
end Go.Proofs.YtonfgoanbllceaaGreatDoor
