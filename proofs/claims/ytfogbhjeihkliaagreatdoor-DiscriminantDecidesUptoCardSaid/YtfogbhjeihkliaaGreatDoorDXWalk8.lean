import Derived.Test.YtfogbhjeihkliaaGreatDoorDXWalk7
set_option linter.unusedVariables false
set_option linter.unusedSimpArgs false
set_option maxHeartbeats 2000000
set_option maxRecDepth 100000
namespace Go.Proofs.YtfogbhjeihkliaaGreatDoor
open Go Go.Am
theorem ni(a0:(List x7))(r:w9)(h:L8 a0=some r):Pure Tryz.prog gl 83 [.sl false 2 40 (rows x7.cells a0)] (.agg [.int .i64 r.code,.int .i64 r.index]):=by
 intro st
 unfold L8 at h
 have fx:=trivial
 refine fb 90 [.cell 2 37] [0,2,3,4,6,7,8,13,14,15,16,18,19,20,21,28,33,34,35,36,43,53,57,58,59,60,67,68,69,70,76,77,78,79,80,81,82,83,84] Tryz.func83 fun hsc=>?_
 refine cd h (fun hc h=>?_) fun hc h=>?_
 ·exact rt
 ·refine aln 0 fun hl0=>?_
  refine rng (body:=Y1 a0) (kk:=cP) (n:=a0.length) (s0:=())
   (fun(gs0:Unit) (k0:Nat) (s0:Unit)=>[(0,.sl false 2 40 (rows x7.cells a0)),(2,.ptr st.length 0 0 0),(18,.sl false 2 40 (rows x7.cells a0)),(19,.int .i64 (↑a0.length:Int)),(20,.int .i64 (↑k0:Int))])
   (fun(gs0:Unit) (k0:Nat) (s0:Unit)=>st++[some (.arr 0 2 0 [[.int .i64 0,.int .i64 0]])])
   (fun(gt0:Unit) (t0:Unit)=>[(2,.ptr st.length 0 0 0)])
   (fun(gt0:Unit) (t0:Unit)=>st++[some (.arr 0 2 0 [[.int .i64 0,.int .i64 0]])])
   () fx hl0 h (bm hsc)
   (fun gs0 k0 s0 b0 fx h hx0=>?_) (fun gs0 s0=>?_) (fun gt0 t0 fr1 st1 h hb=>?_)
  ·unfold Y1 at h
   refine ct ?_
   refine cl h (gU _) fun v10 h=>?_
   refine cd h (fun hc h=>?_) fun hc h=>?_
   ·refine ra ?_
    cases h
    refine F4 ?_;have h:=congrArg some (hx0 _ rfl)
    exact rt
   ·obtain⟨fx,h⟩:=ck fx h
    refine aln 33 fun hl3=>?_
    refine rng (body:=R8 a0 k0) (kk:=Y2 k0 a0) (n:=(a0.take k0).length) (s0:=())
     (fun(gs3:Unit) (k3:Nat) (s3:Unit)=>[(0,.sl false 2 40 (rows x7.cells a0)),(2,.ptr st.length 0 0 0),(3,.int .i64 (↑k0:Int)),(4,.ptr (st.length+1) 0 0 0),(18,.sl false 2 40 (rows x7.cells a0)),(19,.int .i64 (↑a0.length:Int)),(20,.int .i64 (↑k0:Int)),(33,.sl false 2 40 (rows x7.cells (a0.take k0))),(34,.int .i64 (↑((a0.take k0).length):Int)),(35,.int .i64 (↑k3:Int))])
     (fun(gs3:Unit) (k3:Nat) (s3:Unit)=>st++[some (.arr 0 2 0 [[.int .i64 0,.int .i64 0]]),some (.arr 0 2 0 [[.str ((get a0 k0).name),.sl false 1 8 (rows Z4 ((get a0 k0).parents))]])])
     (fun(gt3:Unit) (t3:Unit)=>[(0,.sl false 2 40 (rows x7.cells a0)),(2,.ptr st.length 0 0 0),(3,.int .i64 (↑k0:Int)),(4,.ptr (st.length+1) 0 0 0),(18,.sl false 2 40 (rows x7.cells a0)),(19,.int .i64 (↑a0.length:Int)),(20,.int .i64 (↑k0:Int))])
     (fun(gt3:Unit) (t3:Unit)=>st++[some (.arr 0 2 0 [[.int .i64 0,.int .i64 0]]),some (.arr 0 2 0 [[.str ((get a0 k0).name),.sl false 1 8 (rows Z4 ((get a0 k0).parents))]])])
     () fx hl3 h (bm hsc)
     (fun gs3 k3 s3 b3 fx h hx3=>?_) (fun gs3 s3=>?_) (fun gt3 t3 fr1 st1 h hb=>?_)
    ·unfold R8 at h
     refine ct ?_
     refine cd h (fun hc h=>?_) fun hc h=>?_
     ·refine ra ?_
      cases h
      refine F4 ?_;obtain rfl:=hx3 _ rfl;try simp only[go_sem,fx]
      refine F4 ?_;have h:=congrArg some (hx0 _ rfl)
      exact rt
     ·refine rn ?_
      cases h
      exact gW () (bm hsc)
    ·refine cf ?_
     refine gV ?_;simp only[go_sem,fx]
     exact⟨(),(bm hsc)⟩
    ·try simp only[go_sem,fx]
     unfold Y2 at h
     refine R4 hb ?_
     refine cd h (fun hc h=>?_) fun hc h=>?_
     ·refine ra ?_
      cases h
      refine F4 ?_;have h:=congrArg some (hx0 _ rfl)
      exact rt
     ·refine aln 57 fun hl4=>?_
      refine rng (body:=Y3 a0 k0) (kk:=Y4) (n:=((get a0 k0).parents).length) (s0:=())
       (fun(gs4:Unit) (k4:Nat) (s4:Unit)=>[(0,.sl false 2 40 (rows x7.cells a0)),(2,.ptr st.length 0 0 0),(3,.int .i64 (↑k0:Int)),(4,.ptr (st.length+1) 0 0 0),(18,.sl false 2 40 (rows x7.cells a0)),(19,.int .i64 (↑a0.length:Int)),(20,.int .i64 (↑k0:Int)),(57,.sl false 1 8 (rows Z4 ((get a0 k0).parents))),(58,.int .i64 (↑(((get a0 k0).parents).length):Int)),(59,.int .i64 (↑k4:Int))])
       (fun(gs4:Unit) (k4:Nat) (s4:Unit)=>st++[some (.arr 0 2 0 [[.int .i64 0,.int .i64 0]]),some (.arr 0 2 0 [[.str ((get a0 k0).name),.sl false 1 8 (rows Z4 ((get a0 k0).parents))]])])
       (fun(gt4:Unit) (t4:Unit)=>[(0,.sl false 2 40 (rows x7.cells a0)),(2,.ptr st.length 0 0 0),(18,.sl false 2 40 (rows x7.cells a0)),(19,.int .i64 (↑a0.length:Int)),(20,.int .i64 (↑k0:Int))])
       (fun(gt4:Unit) (t4:Unit)=>st++[some (.arr 0 2 0 [[.int .i64 0,.int .i64 0]])])
       () fx hl4 h (bm hsc)
       (fun gs4 k4 s4 b4 fx h hx4=>?_) (fun gs4 s4=>?_) (fun gt4 t4 fr1 st1 h hb=>?_)
      ·unfold Y3 at h
       refine ct ?_
       refine cd h (fun hc h=>?_) fun hc h=>?_
       ·refine ra ?_
        cases h
        refine F4 ?_;obtain rfl:=hx4 _ rfl;try simp only[go_sem,fx]
        refine F4 ?_;have h:=congrArg some (hx0 _ rfl)
        exact rt
       ·obtain⟨fx,h⟩:=ck fx h
        refine cd h (fun hc h=>?_) fun hc h=>?_
        ·refine ra ?_
         cases h
         refine F4 ?_;obtain rfl:=hx4 _ rfl;try simp only[go_sem,fx]
         refine F4 ?_;have h:=congrArg some (hx0 _ rfl)
         exact rt
        ·refine rn ?_
         cases h
         exact gW () (bm hsc)
      ·refine cf ?_
       refine gV ?_;simp only[go_sem,fx]
       exact⟨(),(bm hsc)⟩
      ·try simp only[go_sem,fx]
       unfold Y4 at h
       refine R4 hb ?_
       refine rn ?_
       cases h
       exact gW () (bm hsc)
  ·refine cf ?_
   refine gV ?_;simp only[go_sem,fx]
   exact⟨(),(bm hsc)⟩
  ·try simp only[go_sem,fx]
   unfold cP at h
   refine R4 hb ?_
   exact rt
theorem qH(n:Nat)(a0:(List x7))(r:Int)(h:cx n a0=some r):Pure Tryz.prog gl 84 [.sl false 2 40 (rows x7.cells a0)] (.int .i64 r):=by
 intro st
 unfold cx at h
 have fx:=trivial
 refine fb 83 [.tmp 2] [0,2,3,4,5,6,7,8,9,10,15,16,17,24,25,26,40,41,42,44,45,46,48,49,50,60,61,62,63,64,65,66,67,69,78] Tryz.func84 fun hsc=>?_
 obtain⟨v1,hv1,h⟩:=F9 h
 unfold ug at hv1
 obtain⟨ha,hv1⟩:=MD hv1
 obtain⟨hsub,hv1⟩:=MD hv1
 have hv1:=Option.some.inj hv1
 have hl:a0.length≤9223372036854775807:=by unfold top at ha;omega
 have ha2:a0.length≤top:=by omega
 obtain⟨sb,hsb⟩:∃f:Nat→Nat→Bool,f=fun(i j:Nat)=>(F8 n a0 (i:Int) (j:Int)).getD false:=⟨_,rfl⟩
 rw[←hsb]at hv1
 have kF:∀i j:Nat,i<a0.length→j<a0.length→F8 n a0 (i:Int) (j:Int)=some (sb i j):=fun i j hi hj=>by
  obtain⟨w,hw⟩:=Option.isSome_iff_exists.1 (List.all_eq_true.1 (List.all_eq_true.1 hsub i (List.mem_range.2 hi)) j (List.mem_range.2 hj))
  rw[hsb]
  show F8 n a0 (i:Int) (j:Int)=some ((F8 n a0 (i:Int) (j:Int)).getD false)
  rw[hw];rfl
 have fx:=fa ha ha2
 refine rn ?_
 have e0:List.replicate a0.length [D.F6]=sG st.length a0.length a0.length 0:=Jc.symm
 simp only[e0]
 refine arg_ (ρ:=Unit) (body:=fun _ (s:Unit)=>some (.nxt s)) (kk:=fun s=>some s) (n:=a0.length) (s0:=()) (e:=())
  (fun(_:Unit) (k0:Nat) (_:Unit)=>[(0,.sl false 2 40 (rows x7.cells a0)),(3,.int .i64 (↑a0.length:Int)),(4,.ref true st.length 0 0 a0.length),(15,.int .i64 (↑a0.length:Int)),(16,.int .i64 (↑k0:Int))])
  (fun(_:Unit) (k0:Nat) (_:Unit)=>st++(some (.arr 0 1 24 (sG st.length a0.length a0.length k0))::(tf k0 a0.length (pfl sb k0 0)).map (ine J9 1)))
  (fun(_:Unit) (_:Unit)=>[(0,.sl false 2 40 (rows x7.cells a0)),(3,.int .i64 (↑a0.length:Int)),(4,.ref true st.length 0 0 a0.length)])
  (fun(_:Unit) (_:Unit)=>st++(some (.arr 0 1 24 (sG st.length a0.length a0.length a0.length))::(tf a0.length a0.length (pfl sb a0.length 0)).map (ine J9 1)))
  () (tT _ _) (Ah hsc (by simp[tf]) ⟨.s,.s,.s,.s,.s,trivial⟩ (by simp))
  (fun _ k0 _ b0 hk0 hb0 _=>?_) (fun _ _=>?_) (fun _ _ fr1 st1 _ hb=>?_)
 ·cases hb0
  have hw0:wr .i64 ((↑k0:Int)+1)=(↑(k0+1):Int):=GO hk0 hl
  have eo1:(sG st.length a0.length a0.length k0).length=a0.length:=rU (by omega)
  have eo2:(sG st.length a0.length a0.length k0).set k0 [.ref true (st.length+(k0+1)) 0 0 a0.length]=sG st.length a0.length a0.length (k0+1):=Ls hk0
  have eo3:(sG st.length a0.length a0.length k0).getD k0 []=[.F6]:=Lu (Nat.le_refl _) hk0
  have ez:List.replicate a0.length [D.bool false]=rows J9 (rf a0.length fun _=>default):=by rw[←Qz];simp[rows,J9]
  have fx:=fa fx hw0
  refine ct ?_
  refine r0 ?_
  refine r0 ?_
  refine r0 ?_
  (repeat apply sq_);apply er_;simp only[go_sem,fx,List.length_map,FQ,eo1,eo2,eo3,hk0,Nat.zero_add,ez,NR,NV]
  refine⟨by omega,?_⟩
  refine rn ?_
  refine arg_ (ρ:=Unit) (body:=fun _ (s:Unit)=>some (.nxt s)) (kk:=fun s=>some s) (n:=a0.length) (s0:=()) (e:=())
   (fun(_:Unit) (k1:Nat) (_:Unit)=>[(0,.sl false 2 40 (rows x7.cells a0)),(3,.int .i64 (↑a0.length:Int)),(4,.ref true st.length 0 0 a0.length),(5,.int .i64 (↑k0:Int)),(15,.int .i64 (↑a0.length:Int)),(16,.int .i64 (↑k0:Int)),(24,.int .i64 (↑a0.length:Int)),(25,.int .i64 (↑k1:Int))])
   (fun(_:Unit) (k1:Nat) (_:Unit)=>st++(some (.arr 0 1 24 (sG st.length a0.length a0.length (k0+1)))::(tf (k0+1) a0.length (pfl sb k0 k1)).map (ine J9 1)))
   (fun(_:Unit) (_:Unit)=>[(0,.sl false 2 40 (rows x7.cells a0)),(3,.int .i64 (↑a0.length:Int)),(4,.ref true st.length 0 0 a0.length),(15,.int .i64 (↑a0.length:Int)),(16,.int .i64 (↑k0:Int))])
   (fun(_:Unit) (_:Unit)=>st++(some (.arr 0 1 24 (sG st.length a0.length a0.length (k0+1)))::(tf (k0+1) a0.length (pfl sb k0 a0.length)).map (ine J9 1)))
   () (tT _ _) ?_
   (fun _ k1 _ b1 hk1 hb1 _=>?_) (fun _ _=>?_) (fun _ _ fr2 st2 _ hb2=>?_)
  ·exact Ah hsc (by simp[tf]) ⟨.s,.s,.s,.s,.s,.s,.s,.s,trivial⟩ (by simp)
  ·cases hb1
   have hw1:wr .i64 ((↑k1:Int)+1)=(↑(k1+1):Int):=GO hk1 hl
   have g1:(sG st.length a0.length a0.length (k0+1)).getD k0 []=[.ref true (st.length+(k0+1)) 0 0 a0.length]:=FP (by omega)
   have g2:(sG st.length a0.length a0.length (k0+1)).length=a0.length:=rU (by omega)
   have l1:Am.look ((tf (k0+1) a0.length (pfl sb k0 k1)).map (ine J9 1)) k0=some (.arr 0 1 1 (rows J9 (rf a0.length (pfl sb k0 k1 k0)))):=Lw (by omega)
   have s1:∀v,((tf (k0+1) a0.length (pfl sb k0 k1)).map (ine J9 1)).set k0 (some (.arr 0 1 1 ((rows J9 (rf a0.length (pfl sb k0 k1 k0))).set k1 [.bool v])))=(tf (k0+1) a0.length (NS (pfl sb k0 k1) k0 k1 v)).map (ine J9 1):=fun v=>by
    rw[←NU];simp[rows,J9]
   have g3:(rows J9 (rf a0.length (pfl sb k0 k1 k0))).length=a0.length:=by simp[rows,rf]
   have g4:(rows J9 (rf a0.length (pfl sb k0 k1 k0))).getD k1 []=[.bool (pfl sb k0 k1 k0 k1)]:=by rw[qg (by rw[Jf];exact hk1),FT hk1];rfl
   have fx:=fa fx hw1
   refine ct ?_
   refine r0 ?_
   refine r0 ?_
   refine r0 ?_
   (repeat apply sq_);refine SZ [2,3,8] 0 follows (by kernel_rfl) (by rfl) ?_;simp only[go_sem,List.replicate_zero,fx,hk0,hk1,g1,g2,l1,g3,g4,Nat.zero_add]
   refine A9 (iP n _ _ _ _ (kF k0 k1 hk0 hk1)) ?_
   simp only[go_sem,fx,hk0,hk1,g1,g2,l1,g3,g4,Nat.zero_add,s1,NW]
   try refine⟨by(simp<;>omega),?_⟩
   refine rn ?_
   exact gW () (Ah hsc (by simp[tf]) ⟨.s,.s,.s,.s,.s,.s,.s,.s,trivial⟩ (by simp))
  ·refine cf ?_
   refine gV ?_;simp only[go_sem,fx]
   exact⟨(),Ah hsc (by simp[tf]) ⟨.s,.s,.s,.s,.s,trivial⟩ (by simp)⟩
  ·try simp only[go_sem,fx]
   refine R4 hb2 ?_
   simp only[Lx]
   refine rn ?_
   exact gW () (Ah hsc (by simp[tf]) ⟨.s,.s,.s,.s,.s,trivial⟩ (by simp))
 ·refine cf ?_
  refine gV ?_;simp only[go_sem,fx]
  exact⟨(),Ah hsc (by simp[tf]) ⟨.s,.s,.s,trivial⟩ (by simp)⟩
 try simp only[go_sem,fx]
 refine R4 hb ?_
 simp only[NX]
 refine R4 (Je (F:=[(0,.sl false 2 40 (rows x7.cells a0)),(3,.int .i64 (↑a0.length:Int)),(4,.sl false 1 24 (rows (slc 1 1 J9) (tf a0.length a0.length sb)))]) (by decide) hsc NT FQ (fun _ _=>⟨.s,.s,.s,trivial⟩) (fun _ _ u=>⟨.s,.s,u,trivial⟩) (by simp) (by simp)) ?_
 rw[hv1]
 obtain⟨fx,h⟩:=ck fx h
 refine rn ?_
 refine rng (body:=cG a0 v1) (kk:=cM) (n:=a0.length) (s0:=())
  (fun(gs0:Unit) (k0:Nat) (s0:Unit)=>[(3,.int .i64 (↑a0.length:Int)),(4,.sl false 1 24 (rows (slc 1 1 J9) v1)),(40,.int .i64 (↑a0.length:Int)),(41,.int .i64 (↑k0:Int))])
  (fun(gs0:Unit) (k0:Nat) (s0:Unit)=>st)
  (fun(gt0:Unit) (t0:Unit)=>[])
  (fun(gt0:Unit) (t0:Unit)=>st)
  () fx fx.2 h (gX hsc)
  (fun gs0 k0 s0 b0 fx h hx0=>?_) (fun gs0 s0=>?_) (fun gt0 t0 fr1 st1 h hb=>?_)
 ·unfold cG at h
  refine ct ?_
  obtain⟨fx,h⟩:=ck fx h
  refine rn ?_
  refine rng (body:=cH a0 v1 k0) (kk:=cK) (n:=k0) (s0:=())
   (fun(gs4:Unit) (k4:Nat) (s4:Unit)=>[(3,.int .i64 (↑a0.length:Int)),(4,.sl false 1 24 (rows (slc 1 1 J9) v1)),(7,.int .i64 (↑k0:Int)),(40,.int .i64 (↑a0.length:Int)),(41,.int .i64 (↑k0:Int)),(44,.int .i64 (↑k0:Int)),(45,.int .i64 (↑k4:Int))])
   (fun(gs4:Unit) (k4:Nat) (s4:Unit)=>st)
   (fun(gt4:Unit) (t4:Unit)=>[(3,.int .i64 (↑a0.length:Int)),(4,.sl false 1 24 (rows (slc 1 1 J9) v1)),(40,.int .i64 (↑a0.length:Int)),(41,.int .i64 (↑k0:Int))])
   (fun(gt4:Unit) (t4:Unit)=>st)
   () fx fx.2 h (gX hsc)
   (fun gs4 k4 s4 b4 fx h hx4=>?_) (fun gs4 s4=>?_) (fun gt4 t4 fr1 st1 h hb=>?_)
  ·unfold cH at h
   refine ct ?_
   obtain⟨fx,h⟩:=ck fx h
   refine rn ?_
   refine rng (body:=cI v1 k4 k0) (kk:=cJ) (n:=a0.length) (s0:= -1)
    (fun(gs5:Unit) (k5:Nat) (s5:Int)=>[(3,.int .i64 (↑a0.length:Int)),(4,.sl false 1 24 (rows (slc 1 1 J9) v1)),(7,.int .i64 (↑k0:Int)),(8,.int .i64 (↑k4:Int)),(9,.int .i64 s5),(40,.int .i64 (↑a0.length:Int)),(41,.int .i64 (↑k0:Int)),(44,.int .i64 (↑k0:Int)),(45,.int .i64 (↑k4:Int)),(48,.int .i64 (↑a0.length:Int)),(49,.int .i64 (↑k5:Int))])
    (fun(gs5:Unit) (k5:Nat) (s5:Int)=>st)
    (fun(gt5:Unit) (t5:Int)=>[(3,.int .i64 (↑a0.length:Int)),(4,.sl false 1 24 (rows (slc 1 1 J9) v1)),(7,.int .i64 (↑k0:Int)),(40,.int .i64 (↑a0.length:Int)),(41,.int .i64 (↑k0:Int)),(44,.int .i64 (↑k0:Int)),(45,.int .i64 (↑k4:Int))])
    (fun(gt5:Unit) (t5:Int)=>st)
    () fx fx.2 h (gX hsc)
    (fun gs5 k5 s5 b5 fx h hx5=>?_) (fun gs5 s5=>?_) (fun gt5 t5 fr1 st1 h hb=>?_)
   ·unfold cI at h
    refine ct ?_
    obtain⟨fx,h⟩:=ck fx h
    obtain⟨fx,h⟩:=ck fx h
    obtain⟨fx,h⟩:=ck fx h
    refine cd h (fun hc h=>?_) fun hc h=>?_
    ·refine cd h (fun hc h=>?_) fun hc h=>?_
     ·refine rn ?_
      cases h
      exact gW () (gX hsc)
     ·obtain⟨fx,h⟩:=ck fx h
      refine cd h (fun hc h=>?_) fun hc h=>?_
      ·refine ra ?_
       cases h
       refine F4 ?_;obtain rfl:=hx5 _ rfl;try simp only[go_sem,fx]
       refine F4 ?_;obtain rfl:=hx4 _ rfl;try simp only[go_sem,fx]
       refine F4 ?_;have h:=congrArg some (hx0 _ rfl)
       exact rt
      ·refine rn ?_
       cases h
       exact gW () (gX hsc)
    ·refine rn ?_
     cases h
     exact gW () (gX hsc)
   ·refine cf ?_
    refine gV ?_;simp only[go_sem,fx]
    exact⟨(),(gX hsc)⟩
   ·try simp only[go_sem,fx]
    unfold cJ at h
    refine R4 hb ?_
    refine rn ?_
    cases h
    exact gW () (gX hsc)
  ·refine cf ?_
   refine gV ?_;simp only[go_sem,fx]
   exact⟨(),(gX hsc)⟩
  ·try simp only[go_sem,fx]
   unfold cK at h
   refine R4 hb ?_
   refine rn ?_
   cases h
   exact gW () (gX hsc)
 ·refine cf ?_
  refine gV ?_;simp only[go_sem,fx]
  exact⟨(),(gX hsc)⟩
 ·try simp only[go_sem,fx]
  unfold cM at h
  refine R4 hb ?_
  exact rt
theorem lf(n:Nat)(a0:y6)(r:w9)(h:Q0 n a0=some r):Pure Tryz.prog gl 56 [.agg [.sl false 2 40 (rows x7.cells a0.types),.sl false 3 32 (rows y8.cells a0.C1)]] (.agg [.int .i64 r.code,.int .i64 r.index]):=by
 intro st
 unfold Q0 at h
 have fx:=trivial
 refine fb 87 [.cell 2 37] [0,1,2,3,4,5,6,8,12,19,25,29,30,31,32,39,45,46,47,48,55,63,64,65,66,67,68,71,72,73,76,77,78,79,80,81,82] Tryz.func56 fun hsc=>?_
 refine cd h (fun hc h=>?_) fun hc h=>?_
 ·exact rt
 ·refine cl h (ni _) fun v1 h=>?_
  refine cd h (fun hc h=>?_) fun hc h=>?_
  ·exact rt
  ·refine cl h (qH n _) fun v2 h=>?_
   refine cd h (fun hc h=>?_) fun hc h=>?_
   ·exact rt
   ·refine aln 29 fun hl0=>?_
    refine rng (body:=M0 a0) (kk:=S9) (n:=a0.C1.length) (s0:=())
     (fun(gs0:Unit) (k0:Nat) (s0:Unit)=>[(1,.ptr st.length 0 0 0),(2,.ptr (st.length+1) 0 0 0),(29,.sl false 3 32 (rows y8.cells a0.C1)),(30,.int .i64 (↑a0.C1.length:Int)),(31,.int .i64 (↑k0:Int))])
     (fun(gs0:Unit) (k0:Nat) (s0:Unit)=>st++[some (.arr 0 2 0 [[.sl false 2 40 (rows x7.cells a0.types),.sl false 3 32 (rows y8.cells a0.C1)]]),some (.arr 0 2 0 [[.int .i64 0,.int .i64 0]])])
     (fun(gt0:Unit) (t0:Unit)=>[(2,.ptr (st.length+1) 0 0 0)])
     (fun(gt0:Unit) (t0:Unit)=>st++[none,some (.arr 0 2 0 [[.int .i64 0,.int .i64 0]])])
     () fx hl0 h (bm hsc)
     (fun gs0 k0 s0 b0 fx h hx0=>?_) (fun gs0 s0=>?_) (fun gt0 t0 fr1 st1 h hb=>?_)
    ·unfold M0 at h
     refine ct ?_
     refine cl h (gU _) fun v6 h=>?_
     refine cd h (fun hc h=>?_) fun hc h=>?_
     ·refine ra ?_
      cases h
      refine F4 ?_;have h:=congrArg some (hx0 _ rfl)
      exact rt
     ·obtain⟨fx,h⟩:=ck fx h
      refine aln 45 fun hl2=>?_
      refine rng (body:=M1 a0 k0) (kk:=T2 a0 k0) (n:=(a0.C1.take k0).length) (s0:=())
       (fun(gs2:Unit) (k2:Nat) (s2:Unit)=>[(1,.ptr st.length 0 0 0),(2,.ptr (st.length+1) 0 0 0),(5,.int .i64 (↑k0:Int)),(6,.ptr (st.length+2) 0 0 0),(29,.sl false 3 32 (rows y8.cells a0.C1)),(30,.int .i64 (↑a0.C1.length:Int)),(31,.int .i64 (↑k0:Int)),(45,.sl false 3 32 (rows y8.cells (a0.C1.take k0))),(46,.int .i64 (↑((a0.C1.take k0).length):Int)),(47,.int .i64 (↑k2:Int))])
       (fun(gs2:Unit) (k2:Nat) (s2:Unit)=>st++[some (.arr 0 2 0 [[.sl false 2 40 (rows x7.cells a0.types),.sl false 3 32 (rows y8.cells a0.C1)]]),some (.arr 0 2 0 [[.int .i64 0,.int .i64 0]]),some (.arr 0 3 0 [[.str ((get a0.C1 k0).name),.int .i64 ((get a0.C1 k0).of_),.int .i64 ((get a0.C1 k0).value)]])])
       (fun(gt2:Unit) (t2:Unit)=>[(1,.ptr st.length 0 0 0),(2,.ptr (st.length+1) 0 0 0),(5,.int .i64 (↑k0:Int)),(6,.ptr (st.length+2) 0 0 0),(29,.sl false 3 32 (rows y8.cells a0.C1)),(30,.int .i64 (↑a0.C1.length:Int)),(31,.int .i64 (↑k0:Int))])
       (fun(gt2:Unit) (t2:Unit)=>st++[some (.arr 0 2 0 [[.sl false 2 40 (rows x7.cells a0.types),.sl false 3 32 (rows y8.cells a0.C1)]]),some (.arr 0 2 0 [[.int .i64 0,.int .i64 0]]),some (.arr 0 3 0 [[.str ((get a0.C1 k0).name),.int .i64 ((get a0.C1 k0).of_),.int .i64 ((get a0.C1 k0).value)]])])
       () fx hl2 h (bm hsc)
       (fun gs2 k2 s2 b2 fx h hx2=>?_) (fun gs2 s2=>?_) (fun gt2 t2 fr1 st1 h hb=>?_)
      ·unfold M1 at h
       refine ct ?_
       refine cd h (fun hc h=>?_) fun hc h=>?_
       ·refine ra ?_
        cases h
        refine F4 ?_;obtain rfl:=hx2 _ rfl;try simp only[go_sem,fx]
        refine F4 ?_;have h:=congrArg some (hx0 _ rfl)
        exact rt
       ·refine rn ?_
        cases h
        exact gW () (bm hsc)
      ·refine cf ?_
       refine gV ?_;simp only[go_sem,fx]
       exact⟨(),(bm hsc)⟩
      ·try simp only[go_sem,fx]
       unfold T2 at h
       refine R4 hb ?_
       refine cd h (fun hc h=>?_) fun hc h=>?_
       ·refine ra ?_
        cases h
        refine F4 ?_;have h:=congrArg some (hx0 _ rfl)
        exact rt
       ·refine rn ?_
        cases h
        exact gW () (bm hsc)
    ·refine cf ?_
     refine gV ?_;simp only[go_sem,fx]
     exact⟨(),(bm hsc)⟩
    ·try simp only[go_sem,fx]
     unfold S9 at h
     refine R4 hb ?_
     exact rt
theorem nj(a0:y6)(a1:B3)(r:w9)(h:W1 a0 a1=some r):Pure Tryz.prog gl 88 [.agg [.sl false 2 40 (rows x7.cells a0.types),.sl false 3 32 (rows y8.cells a0.C1)],.agg [.sl false 2 32 (rows y4.cells a1.nodes)]] (.agg [.int .i64 r.code,.int .i64 r.index]):=by
 intro st
 unfold W1 at h
 have fx:=trivial
 refine fb 94 [.cell 4 37] [0,1,2,3,4,5,6,7,8,14,15,16,17,18,21,22,23,24,32,33,34,35,36,37,38,42,43,44,45,53,54,55,56,57,58,61,62,63,66,67,68,69,70,71,72,78,79,80,81,82,83,84,85,86,87,88] Tryz.func88 fun hsc=>?_
 refine cd h (fun hc h=>?_) fun hc h=>?_
 ·exact rt
 ·refine aln 21 fun hl0=>?_
  refine rng (body:=Y5 a1 a0) (kk:=cQ) (n:=a1.nodes.length) (s0:=())
   (fun(gs0:Unit) (k0:Nat) (s0:Unit)=>[(2,.ptr st.length 0 0 0),(3,.ptr (st.length+1) 0 0 0),(4,.ptr (st.length+2) 0 0 0),(21,.sl false 2 32 (rows y4.cells a1.nodes)),(22,.int .i64 (↑a1.nodes.length:Int)),(23,.int .i64 (↑k0:Int))])
   (fun(gs0:Unit) (k0:Nat) (s0:Unit)=>st++[some (.arr 0 2 0 [[.sl false 2 40 (rows x7.cells a0.types),.sl false 3 32 (rows y8.cells a0.C1)]]),some (.arr 0 1 0 [[.sl false 2 32 (rows y4.cells a1.nodes)]]),some (.arr 0 2 0 [[.int .i64 0,.int .i64 0]])])
   (fun(gt0:Unit) (t0:Unit)=>[(4,.ptr (st.length+2) 0 0 0)])
   (fun(gt0:Unit) (t0:Unit)=>st++[none,none,some (.arr 0 2 0 [[.int .i64 0,.int .i64 0]])])
   () fx hl0 h (bm hsc)
   (fun gs0 k0 s0 b0 fx h hx0=>?_) (fun gs0 s0=>?_) (fun gt0 t0 fr1 st1 h hb=>?_)
  ·unfold Y5 at h
   refine ct ?_
   refine cd h (fun hc h=>?_) fun hc h=>?_
   ·refine ra ?_
    cases h
    refine F4 ?_;have h:=congrArg some (hx0 _ rfl)
    exact rt
   ·refine aln 42 fun hl2=>?_
    refine rng (body:=Y6 a1 k0 a0) (kk:=Y7) (n:=((get a1.nodes k0).links).length) (s0:=())
     (fun(gs2:Unit) (k2:Nat) (s2:Unit)=>[(2,.ptr st.length 0 0 0),(3,.ptr (st.length+1) 0 0 0),(4,.ptr (st.length+2) 0 0 0),(5,.int .i64 (↑k0:Int)),(6,.ptr (st.length+3) 0 0 0),(21,.sl false 2 32 (rows y4.cells a1.nodes)),(22,.int .i64 (↑a1.nodes.length:Int)),(23,.int .i64 (↑k0:Int)),(42,.sl false 2 16 (rows G5.cells ((get a1.nodes k0).links))),(43,.int .i64 (↑(((get a1.nodes k0).links).length):Int)),(44,.int .i64 (↑k2:Int))])
     (fun(gs2:Unit) (k2:Nat) (s2:Unit)=>st++[some (.arr 0 2 0 [[.sl false 2 40 (rows x7.cells a0.types),.sl false 3 32 (rows y8.cells a0.C1)]]),some (.arr 0 1 0 [[.sl false 2 32 (rows y4.cells a1.nodes)]]),some (.arr 0 2 0 [[.int .i64 0,.int .i64 0]]),some (.arr 0 2 0 [[.int .i64 ((get a1.nodes k0).type),.sl false 2 16 (rows G5.cells ((get a1.nodes k0).links))]])])
     (fun(gt2:Unit) (t2:Unit)=>[(2,.ptr st.length 0 0 0),(3,.ptr (st.length+1) 0 0 0),(4,.ptr (st.length+2) 0 0 0),(21,.sl false 2 32 (rows y4.cells a1.nodes)),(22,.int .i64 (↑a1.nodes.length:Int)),(23,.int .i64 (↑k0:Int))])
     (fun(gt2:Unit) (t2:Unit)=>st++[some (.arr 0 2 0 [[.sl false 2 40 (rows x7.cells a0.types),.sl false 3 32 (rows y8.cells a0.C1)]]),some (.arr 0 1 0 [[.sl false 2 32 (rows y4.cells a1.nodes)]]),some (.arr 0 2 0 [[.int .i64 0,.int .i64 0]])])
     () fx hl2 h (bm hsc)
     (fun gs2 k2 s2 b2 fx h hx2=>?_) (fun gs2 s2=>?_) (fun gt2 t2 fr1 st1 h hb=>?_)
    ·unfold Y6 at h
     refine ct ?_
     refine cd h (fun hc h=>?_) fun hc h=>?_
     ·refine ra ?_
      cases h
      refine F4 ?_;obtain rfl:=hx2 _ rfl;try simp only[go_sem,fx]
      refine F4 ?_;have h:=congrArg some (hx0 _ rfl)
      exact rt
     ·refine rn ?_
      obtain⟨fx,h⟩:=ck fx h
      refine dw [] 0 ?_
      refine cd h (fun hc h=>?_) fun hc h=>?_
      ·refine ra ?_
       cases h
       refine F4 ?_;obtain rfl:=hx2 _ rfl;try simp only[go_sem,fx]
       refine F4 ?_;have h:=congrArg some (hx0 _ rfl)
       exact rt
      ·refine rn ?_
       cases h
       exact gW () (bm hsc)
    ·refine cf ?_
     refine gV ?_;simp only[go_sem,fx]
     exact⟨(),(bm hsc)⟩
    ·try simp only[go_sem,fx]
     unfold Y7 at h
     refine R4 hb ?_
     refine rn ?_
     cases h
     exact gW () (bm hsc)
  ·refine cf ?_
   refine gV ?_;simp only[go_sem,fx]
   exact⟨(),(bm hsc)⟩
  ·try simp only[go_sem,fx]
   unfold cQ at h
   refine R4 hb ?_
   exact rt
end Go.Proofs.YtfogbhjeihkliaaGreatDoor
