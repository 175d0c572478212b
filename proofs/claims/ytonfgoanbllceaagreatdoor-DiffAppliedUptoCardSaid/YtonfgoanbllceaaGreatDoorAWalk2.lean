import Derived.Test.YtonfgoanbllceaaGreatDoorAMirrors
set_option linter.unusedVariables false
set_option linter.unusedSimpArgs false
set_option maxHeartbeats 2000000
set_option maxRecDepth 100000
namespace Go.Proofs.YtonfgoanbllceaaGreatDoor
open Go Go.Am
theorem K3(a0:Int)(a1:Int)(r:x6)(h:K5 a0 a1=some r):Pure Tryz.prog gl 74 [.int .i64 a0,.int .i64 a1] (.agg [.int .i64 r.code,.int .i64 r.index]):=by
 intro st
 unfold K5 at h
 have fx:=trivial
 refine fb 8 [.cell 4 41] [0,1,4] Tryz.func74 fun hsc=>?_
 exact rt
theorem oB(a0:Bs)(r:Bool)(h:termName a0=some r):Pure Tryz.prog gl 50 [.str a0] (.bool r):=by
 intro st
 unfold termName at h
 have fx:=trivial
 refine fb 55 [.tmp 2] [0,2,3,4,9,10,11,14,15,16,19,20,21,22,24,25,26,34,35,38,39,40,41,42,43,46,47,50,51,53] Tryz.func50 fun hsc=>?_
 obtain⟨fx,h⟩:=ck fx h
 obtain⟨fx,h⟩:=ck fx h
 refine cd h (fun hc h=>?_) fun hc h=>?_
 ·exact rt
 ·obtain⟨fx,h⟩:=ck fx h
  refine rn ?_
  refine rng (body:=nY a0) (kk:=nZ) (n:=a0.length) (s0:=())
   (fun(gs0:Unit) (k0:Nat) (s0:Unit)=>[(0,.str a0),(24,.int .i64 (↑a0.length:Int)),(25,.int .i64 (↑k0:Int))])
   (fun(gs0:Unit) (k0:Nat) (s0:Unit)=>st)
   (fun(gt0:Unit) (t0:Unit)=>[])
   (fun(gt0:Unit) (t0:Unit)=>st)
   () fx fx.2 h (bW hsc)
   (fun gs0 k0 s0 b0 fx h hx0=>?_) (fun gs0 s0=>?_) (fun gt0 t0 fr1 st1 h hb=>?_)
  ·unfold nY at h
   refine ct ?_
   refine cd h (fun hc h=>?_) fun hc h=>?_
   ·refine ra ?_
    cases h
    refine D4 ?_;have h:=congrArg some (hx0 _ rfl)
    exact rt
   ·refine rn ?_
    cases h
    exact aT () (bW hsc)
  ·refine cf ?_
   refine X5 ?_;simp only[go_sem,fx]
   exact⟨(),(bW hsc)⟩
  ·try simp only[go_sem,fx]
   unfold nZ at h
   refine K6 hb ?_
   exact rt
theorem uq(a0:(List w8))(r:x6)(h:dX a0=some r):Pure Tryz.prog gl 75 [.sl false 2 40 (rows w8.cells a0)] (.agg [.int .i64 r.code,.int .i64 r.index]):=by
 intro st
 unfold dX at h
 have fx:=trivial
 refine fb 82 [.cell 2 41] [0,2,3,4,5,7,8,10,15,16,17,18,21,22,23,24,31,41,54,58,59,60,61,67,68,69,70,75] Tryz.func75 fun hsc=>?_
 refine cd h (fun hc h=>?_) fun hc h=>?_
 ·refine cl h (K3 _ _) fun v1 h=>?_
  exact rt
 ·refine aln 21 fun hl0=>?_
  refine rng (body:=fP a0) (kk:=jl) (n:=a0.length) (s0:=[])
   (fun(gs0:Unit) (k0:Nat) (s0:(List (Bs×Int)))=>[(2,.ptr st.length 0 0 0),(3,.mp (st.length+1)),(21,.sl false 2 40 (rows w8.cells a0)),(22,.int .i64 (↑a0.length:Int)),(23,.int .i64 (↑k0:Int))])
   (fun(gs0:Unit) (k0:Nat) (s0:(List (Bs×Int)))=>st++[some (.arr 0 2 0 [[.int .i64 0,.int .i64 0]]),some (.mps false (mrw N3 s0))])
   (fun(gt0:Unit) (t0:(List (Bs×Int)))=>[(2,.ptr st.length 0 0 0)])
   (fun(gt0:Unit) (t0:(List (Bs×Int)))=>st++[some (.arr 0 2 0 [[.int .i64 0,.int .i64 0]])])
   () fx hl0 h (bm hsc)
   (fun gs0 k0 s0 b0 fx h hx0=>?_) (fun gs0 s0=>?_) (fun gt0 t0 fr1 st1 h hb=>?_)
  ·unfold fP at h
   refine ct ?_
   refine cl h (oB _) fun v12 h=>?_
   refine cd h (fun hc h=>?_) fun hc h=>?_
   ·refine cl h (K3 _ _) fun v13 h=>?_
    refine ra ?_
    cases h
    refine D4 ?_;have h:=congrArg some (hx0 _ rfl)
    exact rt
   ·refine cd h (fun hc h=>?_) fun hc h=>?_
    ·refine cl h (K3 _ _) fun v14 h=>?_
     refine ra ?_
     cases h
     refine D4 ?_;have h:=congrArg some (hx0 _ rfl)
     exact rt
    ·refine r0 ?_
     obtain⟨c15,SD,h⟩:=mO h
     have fy:=(show L5 ((get a0 k0).name) [.int .i64 (↑k0:Int)] (mrw N3 s0)=mrw N3 c15 from by rw[SD];exact DH (E:=N3) _ _ _)
     refine r1 ?_
     refine cd h (fun hc h=>?_) fun hc h=>?_
     ·refine cl h (K3 _ _) fun v17 h=>?_
      refine ra ?_
      cases h
      refine D4 ?_;have h:=congrArg some (hx0 _ rfl)
      exact rt
     ·refine aln 58 fun hl2=>?_
      refine rng (body:=fQ a0 k0) (kk:=fR c15) (n:=((get a0 k0).parents).length) (s0:= -1)
       (fun(gs2:Unit) (k2:Nat) (s2:Int)=>[(2,.ptr st.length 0 0 0),(3,.mp (st.length+1)),(4,.int .i64 (↑k0:Int)),(8,.int .i64 s2),(21,.sl false 2 40 (rows w8.cells a0)),(22,.int .i64 (↑a0.length:Int)),(23,.int .i64 (↑k0:Int)),(58,.sl false 1 8 (rows N3 ((get a0 k0).parents))),(59,.int .i64 (↑(((get a0 k0).parents).length):Int)),(60,.int .i64 (↑k2:Int))])
       (fun(gs2:Unit) (k2:Nat) (s2:Int)=>st++[some (.arr 0 2 0 [[.int .i64 0,.int .i64 0]]),some (.mps false (mrw N3 c15))])
       (fun(gt2:Unit) (t2:Int)=>[(2,.ptr st.length 0 0 0),(3,.mp (st.length+1)),(21,.sl false 2 40 (rows w8.cells a0)),(22,.int .i64 (↑a0.length:Int)),(23,.int .i64 (↑k0:Int))])
       (fun(gt2:Unit) (t2:Int)=>st++[some (.arr 0 2 0 [[.int .i64 0,.int .i64 0]]),some (.mps false (mrw N3 c15))])
       () fx hl2 h (bm hsc)
       (fun gs2 k2 s2 b2 fx h hx2=>?_) (fun gs2 s2=>?_) (fun gt2 t2 fr1 st1 h hb=>?_)
      ·unfold fQ at h
       refine ct ?_
       refine cd h (fun hc h=>?_) fun hc h=>?_
       ·refine cl h (K3 _ _) fun v20 h=>?_
        refine ra ?_
        cases h
        refine D4 ?_;obtain rfl:=hx2 _ rfl;try simp only[go_sem,fx]
        refine D4 ?_;have h:=congrArg some (hx0 _ rfl)
        exact rt
       ·refine cd h (fun hc h=>?_) fun hc h=>?_
        ·refine cl h (K3 _ _) fun v21 h=>?_
         refine ra ?_
         cases h
         refine D4 ?_;obtain rfl:=hx2 _ rfl;try simp only[go_sem,fx]
         refine D4 ?_;have h:=congrArg some (hx0 _ rfl)
         exact rt
        ·refine rn ?_
         cases h
         exact aT () (bm hsc)
      ·refine cf ?_
       refine X5 ?_;simp only[go_sem,fx]
       exact⟨(),(bm hsc)⟩
      ·try simp only[go_sem,fx]
       unfold fR at h
       refine K6 hb ?_
       refine rn ?_
       cases h
       exact aT () (bm hsc)
  ·refine cf ?_
   refine X5 ?_;simp only[go_sem,fx]
   exact⟨(),(bm hsc)⟩
  ·try simp only[go_sem,fx]
   unfold jl at h
   refine K6 hb ?_
   exact rt
theorem mF(a0:(List w8))(r:B6)(h:cF a0=some r):Pure Tryz.prog gl 49 [.sl false 2 40 (rows w8.cells a0)] (.agg [.sl false 1 8 (rows bP r.up),.sl false 1 8 (rows bP r.down)]):=by
 intro st
 unfold cF at h
 have fx:=trivial
 refine fb 75 [.cell 2 116] [0,2,3,4,5,7,8,16,17,18,19,30,31,32,33,50,51,52,62] Tryz.func49 fun hsc=>?_
 refine rn ?_
 obtain⟨fx,h⟩:=ck fx h
 have fy:=(show List.replicate a0.length [.int .u64 0]=rows bP (List.replicate a0.length (default:Int))from sk (E:=bP) _ default)
 have fy:=fa fy (show List.replicate a0.length [.int .u64 0]=rows bP (List.replicate a0.length (default:Int))from sk (E:=bP) _ default)
 refine dwy [] 3 ?_
 refine aln 0 fun hl0=>?_
 refine rng (body:=eG a0) (kk:=eL) (n:=a0.length) (s0:=((List.replicate a0.length (default:Int)),(List.replicate a0.length (default:Int))))
  (fun(gs0:Nat×Nat) (k0:Nat) (s0:(List Int)×(List Int))=>[(0,.sl false 2 40 (rows w8.cells a0)),(2,.ptr st.length 0 0 0),(3,.ptr (st.length+3) 0 0 0),(16,.sl false 2 40 (rows w8.cells a0)),(17,.int .i64 (↑a0.length:Int)),(18,.int .i64 (↑k0:Int))])
  (fun(gs0:Nat×Nat) (k0:Nat) (s0:(List Int)×(List Int))=>st++[some (.arr 0 2 0 [[.B3,.B3]]),some (.arr gs0.1 1 8 (rows bP s0.1)),some (.arr gs0.2 1 8 (rows bP s0.2)),some (.arr 0 2 0 [[.ref true (st.length+1) gs0.1 0 s0.1.length,.ref true (st.length+2) gs0.2 0 s0.2.length]])])
  (fun(gt0:Nat×Nat) (t0:(List Int)×(List Int))=>[(2,.ptr st.length 0 0 0),(3,.ptr (st.length+3) 0 0 0)])
  (fun(gt0:Nat×Nat) (t0:(List Int)×(List Int))=>st++[some (.arr 0 2 0 [[.B3,.B3]]),some (.arr gt0.1 1 8 (rows bP t0.1)),some (.arr gt0.2 1 8 (rows bP t0.2)),some (.arr 0 2 0 [[.ref true (st.length+1) gt0.1 0 t0.1.length,.ref true (st.length+2) gt0.2 0 t0.2.length]])])
  (0,0) fx hl0 h (bm hsc (hu:=(.lv (.lv (.lv (.live _ _ _ _ (.arr _ _ _ _ _ (.cons _ _ _ _ (.cons _ _ _ _ (nU (by first|(simp;done)|simp[Fr.get])) (.cons _ _ _ _ (nU (by first|(simp;done)|simp[Fr.get])) .nil)) (.same _))) (.nil _)))))))
  (fun gs0 k0 s0 b0 fx h hx0=>?_) (fun gs0 s0=>?_) (fun gt0 t0 fr1 st1 h hb=>?_)
 ·unfold eG at h
  refine ct ?_
  refine rn ?_
  obtain⟨fx,h⟩:=ck fx h
  obtain⟨fx,h⟩:=ck fx h
  have fy:=(show(rows bP s0.1).getD k0 []=bP (get s0.1 k0)from oP (E:=bP) (l:=s0.1) (k:=k0) (by first|omega|(simp;omega)))
  have fy:=fa fy (show k0<s0.1.length from by first|omega|(simp;omega))
  obtain⟨c62,TJ,h⟩:=mO h
  have fy:=fa fy (show(rows bP s0.1).set k0 [.int .u64 (wr .u64 (1*2^(min k0 64)))]=rows bP c62 from by rw[TJ];first|exact ER (E:=bP) _ _ _|simp only[go_sem,rows,List.map_set])
  refine dwy [] 0 ?_
  have e64:D.ref true (st.length+1) gs0.1 0 s0.1.length=D.ref true (st.length+1) gs0.1 0 c62.length:=by simp[TJ]
  simp only[e64]
  refine aln 30 fun hl3=>?_
  refine rng (body:=eH k0 a0) (kk:=eI k0 a0 s0) (n:=((get a0 k0).parents).length) (s0:=c62)
   (fun(gs3:Nat) (k3:Nat) (s3:(List Int))=>[(0,.sl false 2 40 (rows w8.cells a0)),(2,.ptr st.length 0 0 0),(3,.ptr (st.length+3) 0 0 0),(4,.int .i64 (↑k0:Int)),(16,.sl false 2 40 (rows w8.cells a0)),(17,.int .i64 (↑a0.length:Int)),(18,.int .i64 (↑k0:Int)),(30,.sl false 1 8 (rows N3 ((get a0 k0).parents))),(31,.int .i64 (↑(((get a0 k0).parents).length):Int)),(32,.int .i64 (↑k3:Int))])
   (fun(gs3:Nat) (k3:Nat) (s3:(List Int))=>st++[some (.arr 0 2 0 [[.B3,.B3]]),some (.arr gs3 1 8 (rows bP s3)),some (.arr gs0.2 1 8 (rows bP s0.2)),some (.arr 0 2 0 [[.ref true (st.length+1) gs3 0 s3.length,.ref true (st.length+2) gs0.2 0 s0.2.length]])])
   (fun(gt3:Nat) (t3:(List Int))=>[(0,.sl false 2 40 (rows w8.cells a0)),(2,.ptr st.length 0 0 0),(3,.ptr (st.length+3) 0 0 0),(4,.int .i64 (↑k0:Int)),(16,.sl false 2 40 (rows w8.cells a0)),(17,.int .i64 (↑a0.length:Int)),(18,.int .i64 (↑k0:Int))])
   (fun(gt3:Nat) (t3:(List Int))=>st++[some (.arr 0 2 0 [[.B3,.B3]]),some (.arr gt3 1 8 (rows bP t3)),some (.arr gs0.2 1 8 (rows bP s0.2)),some (.arr 0 2 0 [[.ref true (st.length+1) gt3 0 t3.length,.ref true (st.length+2) gs0.2 0 s0.2.length]])])
   gs0.1 fx hl3 h (bm hsc)
   (fun gs3 k3 s3 b3 fx h hx3=>?_) (fun gs3 s3=>?_) (fun gt3 t3 fr1 st1 h hb=>?_)
  ·unfold eH at h
   refine ct ?_
   refine rn ?_
   obtain⟨fx,h⟩:=ck fx h
   have fy:=(show(rows bP s3).getD k0 []=bP (get s3 k0)from oP (E:=bP) (l:=s3) (k:=k0) (by first|omega|(simp;omega)))
   have fy:=fa fy (show k0<s3.length from by first|omega|(simp;omega))
   obtain⟨fx,h⟩:=ck fx h
   have fy:=fa fy (show(rows bP s3).getD ((get ((get a0 k0).parents) k3).toNat) []=bP (get s3 ((get ((get a0 k0).parents) k3).toNat))from oP (E:=bP) (l:=s3) (k:=(get ((get a0 k0).parents) k3).toNat) (by first|omega|(simp;omega)))
   have fy:=fa fy (show(get ((get a0 k0).parents) k3).toNat<s3.length from by first|omega|(simp;omega))
   have fy:=fa fy (show(rows bP s3).getD k0 []=bP (get s3 k0)from oP (E:=bP) (l:=s3) (k:=k0) (by first|omega|(simp;omega)))
   have fy:=fa fy (show k0<s3.length from by first|omega|(simp;omega))
   obtain⟨c86,TL,h⟩:=mO h
   have fy:=fa fy (show(rows bP s3).set k0 [.int .u64 (Y9 .or .u64 (get s3 k0) (get s3 ((get ((get a0 k0).parents) k3).toNat)))]=rows bP c86 from by rw[TL];first|exact ER (E:=bP) _ _ _|simp only[go_sem,rows,List.map_set])
   refine dwy [] 0 ?_
   have e88:D.ref true (st.length+1) gs3 0 s3.length=D.ref true (st.length+1) gs3 0 c86.length:=by simp[TL]
   simp only[e88]
   refine rn ?_
   cases h
   exact aT gs3 (bm hsc)
  ·refine cf ?_
   refine X5 ?_;simp only[go_sem,fx]
   exact⟨gs3,(bm hsc)⟩
  ·try simp only[go_sem,fx]
   unfold eI at h
   refine K6 hb ?_
   refine aln 0 fun hl4=>?_
   refine rng (body:=eJ k0 t3) (kk:=eK t3) (n:=a0.length) (s0:=s0.2)
    (fun(gs4:Nat) (k4:Nat) (s4:(List Int))=>[(0,.sl false 2 40 (rows w8.cells a0)),(2,.ptr st.length 0 0 0),(3,.ptr (st.length+3) 0 0 0),(4,.int .i64 (↑k0:Int)),(16,.sl false 2 40 (rows w8.cells a0)),(17,.int .i64 (↑a0.length:Int)),(18,.int .i64 (↑k0:Int)),(50,.int .i64 (↑a0.length:Int)),(51,.int .i64 (↑k4:Int))])
    (fun(gs4:Nat) (k4:Nat) (s4:(List Int))=>st++[some (.arr 0 2 0 [[.B3,.B3]]),some (.arr gt3 1 8 (rows bP t3)),some (.arr gs4 1 8 (rows bP s4)),some (.arr 0 2 0 [[.ref true (st.length+1) gt3 0 t3.length,.ref true (st.length+2) gs4 0 s4.length]])])
    (fun(gt4:Nat) (t4:(List Int))=>[(0,.sl false 2 40 (rows w8.cells a0)),(2,.ptr st.length 0 0 0),(3,.ptr (st.length+3) 0 0 0),(16,.sl false 2 40 (rows w8.cells a0)),(17,.int .i64 (↑a0.length:Int)),(18,.int .i64 (↑k0:Int))])
    (fun(gt4:Nat) (t4:(List Int))=>st++[some (.arr 0 2 0 [[.B3,.B3]]),some (.arr gt3 1 8 (rows bP t3)),some (.arr gt4 1 8 (rows bP t4)),some (.arr 0 2 0 [[.ref true (st.length+1) gt3 0 t3.length,.ref true (st.length+2) gt4 0 t4.length]])])
    gs0.2 fx hl4 h (bm hsc)
    (fun gs4 k4 s4 b4 fx h hx4=>?_) (fun gs4 s4=>?_) (fun gt4 t4 fr1 st1 h hb=>?_)
   ·unfold eJ at h
    refine ct ?_
    refine r0 ?_
    refine r0 ?_
    refine r0 ?_
    obtain⟨fx,h⟩:=ck fx h
    have fy:=(show(rows bP t3).getD k0 []=bP (get t3 k0)from oP (E:=bP) (l:=t3) (k:=k0) (by first|omega|(simp;omega)))
    have fy:=fa fy (show k0<t3.length from by first|omega|(simp;omega))
    obtain⟨fx,h⟩:=ck fx h
    refine r1 ?_
    refine cd h (fun hc h=>?_) fun hc h=>?_
    ·refine rs ?_
     obtain⟨fx,h⟩:=ck fx h
     have fy:=(show(rows bP s4).getD k4 []=bP (get s4 k4)from oP (E:=bP) (l:=s4) (k:=k4) (by first|omega|(simp;omega)))
     have fy:=fa fy (show k4<s4.length from by first|omega|(simp;omega))
     have fy:=fa fy (show(rows bP s4).getD k4 []=bP (get s4 k4)from oP (E:=bP) (l:=s4) (k:=k4) (by first|omega|(simp;omega)))
     have fy:=fa fy (show k4<s4.length from by first|omega|(simp;omega))
     obtain⟨c110,QJ,h⟩:=mO h
     have fy:=fa fy (show(rows bP s4).set k4 [.int .u64 (Y9 .or .u64 (get s4 k4) (wr .u64 (1*2^(min k0 64))))]=rows bP c110 from by rw[QJ];first|exact ER (E:=bP) _ _ _|simp only[go_sem,rows,List.map_set])
     refine dwy [] 0 ?_
     have e112:D.ref true (st.length+2) gs4 0 s4.length=D.ref true (st.length+2) gs4 0 c110.length:=by simp[QJ]
     simp only[e112]
     refine rn ?_
     cases h
     exact aT gs4 (bm hsc)
    ·refine rn ?_
     cases h
     exact aT gs4 (bm hsc)
   ·refine cf ?_
    refine X5 ?_;simp only[go_sem,fx]
    exact⟨gs4,(bm hsc)⟩
   ·try simp only[go_sem,fx]
    unfold eK at h
    refine K6 hb ?_
    refine rn ?_
    cases h
    exact aT (gt3,gt4) (bm hsc)
 ·refine cf ?_
  refine X5 ?_;simp only[go_sem,fx]
  exact⟨(gs0.1,gs0.2),(bm hsc)⟩
 ·try simp only[go_sem,fx]
  unfold eL at h
  refine K6 hb ?_
  refine rr ?_
  exact fo (.agg [.sl false 1 8 (rows bP t0.1),.sl false 1 8 (rows bP t0.2)]) (.agg _ _ (.cons _ _ _ _ (.ref _ _ _ _ _ _ _ _ _ (iC.trans rfl) uX (by decide) (lQ _) (by simp only[go_sem])) (.cons _ _ _ _ (.ref _ _ _ _ _ _ _ _ _ (iC.trans rfl) uX (by decide) (lQ _) (by simp only[go_sem])) .nil))) h hsc
theorem lU(a0:Int)(r:Int)(h:T4 a0=some r):Pure Tryz.prog gl 96 [.int .u64 a0] (.int .i64 r):=by
 intro st
 unfold T4 at h
 have fx:=trivial
 refine fb 14 [.tmp 2] [0,2,4] Tryz.func96 fun hsc=>?_
 refine cd h (fun hc h=>?_) fun hc h=>?_
 ·exact rt
 ·refine r0 ?_
  obtain⟨fx,h⟩:=ck fx h
  have fy:=(show Am.rowAt (gA u8c JL) ((Int.fdiv (wr .u64 ((Y9 .and .u64 a0 (wr .u64 (0-a0)))*285870213051353865)) (2^(min 58 64))).toNat) 1=u8c (get JL ((Int.fdiv (wr .u64 ((Y9 .and .u64 a0 (wr .u64 (0-a0)))*285870213051353865)) (2^(min 58 64))).toNat))from wL (fun _=>rfl) (show _<JL.length by rw[KH];first|omega|(simp;omega)))
  refine r1 ?_
  exact rt
theorem pW(a0:B6)(a1:Int)(a2:Int)(r:Int×Bool×Bool)(h:bC a0 a1 a2=some r):Pure Tryz.prog gl 76 [.agg [.sl false 1 8 (rows bP a0.up),.sl false 1 8 (rows bP a0.down)],.int .i64 a1,.int .i64 a2] (.tup [.int .i64 r.1,.bool r.2.1,.bool r.2.2]):=by
 intro st
 unfold bC at h
 have fx:=trivial
 refine fb 33 [.tmp 6,.tmp 7,.tmp 8] [0,1,2,3,6,7,8,9,22,31] Tryz.func76 fun hsc=>?_
 refine rn ?_
 obtain⟨fx,h⟩:=ck fx h
 obtain⟨fx,h⟩:=ck fx h
 refine dw [] 0 ?_
 refine cd h (fun hc h=>?_) fun hc h=>?_
 ·exact rt
 ·refine cl h (lU _) fun v5 h=>?_
  obtain⟨fx,h⟩:=ck fx h
  refine cd h (fun hc h=>?_) fun hc h=>?_
  ·exact rt
  ·exact rt
theorem qF(a0:w5)(r:x6)(h:cG a0=some r):Pure Tryz.prog gl 47 [.agg [.sl false 2 40 (rows w8.cells a0.types),.sl false 3 32 (rows y3.cells a0.B1)]] (.agg [.int .i64 r.code,.int .i64 r.index]):=by
 intro st
 unfold cG at h
 have fx:=trivial
 refine fb 122 [.cell 2 41] [0,1,2,3,4,5,6,9,10,11,12,14,20,21,22,23,26,27,28,29,30,37,44,45,46,48,49,50,60,67,68,69,70,77,87,98,99,100,101,102,103,106,107,108,111,112,113,114,115,116,117] Tryz.func47 fun hsc=>?_
 refine cd h (fun hc h=>?_) fun hc h=>?_
 ·refine cl h (K3 _ _) fun v1 h=>?_
  exact rt
 ·refine cl h (uq _) fun v2 h=>?_
  refine cd h (fun hc h=>?_) fun hc h=>?_
  ·exact rt
  ·refine cl h (mF _) fun v3 h=>?_
   obtain⟨fx,h⟩:=ck fx h
   refine rn ?_
   refine rng (body:=cj v3) (kk:=Z1 a0) (n:=a0.types.length) (s0:=())
    (fun(gs0:Unit) (k0:Nat) (s0:Unit)=>[(1,.ptr st.length 0 0 0),(2,.ptr (st.length+1) 0 0 0),(4,.ptr (st.length+3) 0 0 0),(44,.int .i64 (↑a0.types.length:Int)),(45,.int .i64 (↑k0:Int))])
    (fun(gs0:Unit) (k0:Nat) (s0:Unit)=>st++[some (.arr 0 2 0 [[.sl false 2 40 (rows w8.cells a0.types),.sl false 3 32 (rows y3.cells a0.B1)]]),some (.arr 0 2 0 [[.int .i64 0,.int .i64 0]]),none,some (.arr 0 2 0 [[.sl false 1 8 (rows bP v3.up),.sl false 1 8 (rows bP v3.down)]])])
    (fun(gt0:Unit) (t0:Unit)=>[(1,.ptr st.length 0 0 0),(2,.ptr (st.length+1) 0 0 0)])
    (fun(gt0:Unit) (t0:Unit)=>st++[some (.arr 0 2 0 [[.sl false 2 40 (rows w8.cells a0.types),.sl false 3 32 (rows y3.cells a0.B1)]]),some (.arr 0 2 0 [[.int .i64 0,.int .i64 0]])])
    () fx fx.2 h (bm hsc)
    (fun gs0 k0 s0 b0 fx h hx0=>?_) (fun gs0 s0=>?_) (fun gt0 t0 fr1 st1 h hb=>?_)
   ·unfold cj at h
    refine ct ?_
    obtain⟨fx,h⟩:=ck fx h
    refine rn ?_
    refine rng (body:=cr v3 k0) (kk:=cu) (n:=k0) (s0:=())
     (fun(gs1:Unit) (k1:Nat) (s1:Unit)=>[(1,.ptr st.length 0 0 0),(2,.ptr (st.length+1) 0 0 0),(4,.ptr (st.length+3) 0 0 0),(5,.int .i64 (↑k0:Int)),(44,.int .i64 (↑a0.types.length:Int)),(45,.int .i64 (↑k0:Int)),(48,.int .i64 (↑k0:Int)),(49,.int .i64 (↑k1:Int))])
     (fun(gs1:Unit) (k1:Nat) (s1:Unit)=>st++[some (.arr 0 2 0 [[.sl false 2 40 (rows w8.cells a0.types),.sl false 3 32 (rows y3.cells a0.B1)]]),some (.arr 0 2 0 [[.int .i64 0,.int .i64 0]]),none,some (.arr 0 2 0 [[.sl false 1 8 (rows bP v3.up),.sl false 1 8 (rows bP v3.down)]])])
     (fun(gt1:Unit) (t1:Unit)=>[(1,.ptr st.length 0 0 0),(2,.ptr (st.length+1) 0 0 0),(4,.ptr (st.length+3) 0 0 0),(44,.int .i64 (↑a0.types.length:Int)),(45,.int .i64 (↑k0:Int))])
     (fun(gt1:Unit) (t1:Unit)=>st++[some (.arr 0 2 0 [[.sl false 2 40 (rows w8.cells a0.types),.sl false 3 32 (rows y3.cells a0.B1)]]),some (.arr 0 2 0 [[.int .i64 0,.int .i64 0]]),none,some (.arr 0 2 0 [[.sl false 1 8 (rows bP v3.up),.sl false 1 8 (rows bP v3.down)]])])
     () fx fx.2 h (bm hsc)
     (fun gs1 k1 s1 b1 fx h hx1=>?_) (fun gs1 s1=>?_) (fun gt1 t1 fr1 st1 h hb=>?_)
    ·unfold cr at h
     refine ct ?_
     refine cl h (pW _ _ _) fun v6 h=>?_
     refine cd h (fun hc h=>?_) fun hc h=>?_
     ·refine cl h (K3 _ _) fun v7 h=>?_
      refine ra ?_
      cases h
      refine D4 ?_;obtain rfl:=hx1 _ rfl;try simp only[go_sem,fx]
      refine D4 ?_;have h:=congrArg some (hx0 _ rfl)
      exact rt
     ·refine rn ?_
      cases h
      exact aT () (bm hsc)
    ·refine cf ?_
     refine X5 ?_;simp only[go_sem,fx]
     exact⟨(),(bm hsc)⟩
    ·try simp only[go_sem,fx]
     unfold cu at h
     refine K6 hb ?_
     refine rn ?_
     cases h
     exact aT () (bm hsc)
   ·refine cf ?_
    refine X5 ?_;simp only[go_sem,fx]
    exact⟨(),(bm hsc)⟩
   ·try simp only[go_sem,fx]
    unfold Z1 at h
    refine K6 hb ?_
    refine aln 67 fun hl2=>?_
    refine rng (body:=cg a0) (kk:=gn) (n:=a0.B1.length) (s0:=[])
     (fun(gs2:Unit) (k2:Nat) (s2:(List (Bs×Int)))=>[(1,.ptr st.length 0 0 0),(2,.ptr (st.length+1) 0 0 0),(10,.mp (st.length+2)),(67,.sl false 3 32 (rows y3.cells a0.B1)),(68,.int .i64 (↑a0.B1.length:Int)),(69,.int .i64 (↑k2:Int))])
     (fun(gs2:Unit) (k2:Nat) (s2:(List (Bs×Int)))=>st++[some (.arr 0 2 0 [[.sl false 2 40 (rows w8.cells a0.types),.sl false 3 32 (rows y3.cells a0.B1)]]),some (.arr 0 2 0 [[.int .i64 0,.int .i64 0]]),some (.mps false (mrw N3 s2))])
     (fun(gt2:Unit) (t2:(List (Bs×Int)))=>[(2,.ptr (st.length+1) 0 0 0)])
     (fun(gt2:Unit) (t2:(List (Bs×Int)))=>st++[none,some (.arr 0 2 0 [[.int .i64 0,.int .i64 0]])])
     () fx hl2 h (bm hsc)
     (fun gs2 k2 s2 b2 fx h hx2=>?_) (fun gs2 s2=>?_) (fun gt2 t2 fr1 st1 h hb=>?_)
    ·unfold cg at h
     refine ct ?_
     refine cl h (oB _) fun v14 h=>?_
     refine cd h (fun hc h=>?_) fun hc h=>?_
     ·refine cl h (K3 _ _) fun v15 h=>?_
      refine ra ?_
      cases h
      refine D4 ?_;have h:=congrArg some (hx2 _ rfl)
      exact rt
     ·refine cd h (fun hc h=>?_) fun hc h=>?_
      ·refine cl h (K3 _ _) fun v16 h=>?_
       refine ra ?_
       cases h
       refine D4 ?_;have h:=congrArg some (hx2 _ rfl)
       exact rt
      ·refine r0 ?_
       obtain⟨c17,Wi,h⟩:=mO h
       have fy:=(show L5 ((get a0.B1 k2).name) [.int .i64 (↑k2:Int)] (mrw N3 s2)=mrw N3 c17 from by rw[Wi];exact DH (E:=N3) _ _ _)
       refine r1 ?_
       refine cd h (fun hc h=>?_) fun hc h=>?_
       ·refine cl h (K3 _ _) fun v19 h=>?_
        refine ra ?_
        cases h
        refine D4 ?_;have h:=congrArg some (hx2 _ rfl)
        exact rt
       ·refine rn ?_
        cases h
        exact aT () (bm hsc)
    ·refine cf ?_
     refine X5 ?_;simp only[go_sem,fx]
     exact⟨(),(bm hsc)⟩
    ·try simp only[go_sem,fx]
     unfold gn at h
     refine K6 hb ?_
     exact rt
theorem aS(a0:Int)(a1:Int)(r:x6)(h:aA a0 a1=some r):Pure Tryz.prog gl 48 [.int .i64 a0,.int .i64 a1] (.agg [.int .i64 r.code,.int .i64 r.index]):=by
 intro st
 unfold aA at h
 have fx:=trivial
 refine fb 8 [.cell 4 41] [0,1,4] Tryz.func48 fun hsc=>?_
 exact rt
theorem fZ(a0:Int)(a1:Int)(r:x6)(h:fO a0 a1=some r):Pure Tryz.prog gl 82 [.int .i64 a0,.int .i64 a1] (.agg [.int .i64 r.code,.int .i64 r.index]):=by
 intro st
 unfold fO at h
 have fx:=trivial
 refine fb 8 [.cell 4 41] [0,1,4] Tryz.func82 fun hsc=>?_
 exact rt
theorem AK(a0:w5)(a1:y5)(r:x6)(h:nA a0 a1=some r):Pure Tryz.prog gl 80 [.agg [.sl false 2 40 (rows w8.cells a0.types),.sl false 3 32 (rows y3.cells a0.B1)],.agg [.sl false 2 32 (rows x5.cells a1.nodes)]] (.agg [.int .i64 r.code,.int .i64 r.index]):=by
 intro st
 unfold nA at h
 have fx:=trivial
 refine fb 86 [.cell 4 41] [0,1,2,3,4,5,6,7,9,15,16,17,18,19,22,23,24,25,33,34,35,36,37,38,39,43,44,45,46,53,54,55,56,57,58,61,62,63,66,67,68,69,70,71,72,78] Tryz.func80 fun hsc=>?_
 refine cd h (fun hc h=>?_) fun hc h=>?_
 ·refine cl h (fZ _ _) fun v1 h=>?_
  exact rt
 ·refine aln 22 fun hl0=>?_
  refine rng (body:=kl a1 a0) (kk:=ou) (n:=a1.nodes.length) (s0:=())
   (fun(gs0:Unit) (k0:Nat) (s0:Unit)=>[(2,.ptr st.length 0 0 0),(3,.ptr (st.length+1) 0 0 0),(4,.ptr (st.length+2) 0 0 0),(22,.sl false 2 32 (rows x5.cells a1.nodes)),(23,.int .i64 (↑a1.nodes.length:Int)),(24,.int .i64 (↑k0:Int))])
   (fun(gs0:Unit) (k0:Nat) (s0:Unit)=>st++[some (.arr 0 2 0 [[.sl false 2 40 (rows w8.cells a0.types),.sl false 3 32 (rows y3.cells a0.B1)]]),some (.arr 0 1 0 [[.sl false 2 32 (rows x5.cells a1.nodes)]]),some (.arr 0 2 0 [[.int .i64 0,.int .i64 0]])])
   (fun(gt0:Unit) (t0:Unit)=>[(4,.ptr (st.length+2) 0 0 0)])
   (fun(gt0:Unit) (t0:Unit)=>st++[none,none,some (.arr 0 2 0 [[.int .i64 0,.int .i64 0]])])
   () fx hl0 h (bm hsc)
   (fun gs0 k0 s0 b0 fx h hx0=>?_) (fun gs0 s0=>?_) (fun gt0 t0 fr1 st1 h hb=>?_)
  ·unfold kl at h
   refine ct ?_
   refine cd h (fun hc h=>?_) fun hc h=>?_
   ·refine cl h (fZ _ _) fun v7 h=>?_
    refine ra ?_
    cases h
    refine D4 ?_;have h:=congrArg some (hx0 _ rfl)
    exact rt
   ·refine aln 43 fun hl2=>?_
    refine rng (body:=ko a1 k0 a0) (kk:=kq) (n:=((get a1.nodes k0).links).length) (s0:= -1)
     (fun(gs2:Unit) (k2:Nat) (s2:Int)=>[(2,.ptr st.length 0 0 0),(3,.ptr (st.length+1) 0 0 0),(4,.ptr (st.length+2) 0 0 0),(5,.int .i64 (↑k0:Int)),(7,.int .i64 s2),(22,.sl false 2 32 (rows x5.cells a1.nodes)),(23,.int .i64 (↑a1.nodes.length:Int)),(24,.int .i64 (↑k0:Int)),(43,.sl false 2 16 (rows D3.cells ((get a1.nodes k0).links))),(44,.int .i64 (↑(((get a1.nodes k0).links).length):Int)),(45,.int .i64 (↑k2:Int))])
     (fun(gs2:Unit) (k2:Nat) (s2:Int)=>st++[some (.arr 0 2 0 [[.sl false 2 40 (rows w8.cells a0.types),.sl false 3 32 (rows y3.cells a0.B1)]]),some (.arr 0 1 0 [[.sl false 2 32 (rows x5.cells a1.nodes)]]),some (.arr 0 2 0 [[.int .i64 0,.int .i64 0]])])
     (fun(gt2:Unit) (t2:Int)=>[(2,.ptr st.length 0 0 0),(3,.ptr (st.length+1) 0 0 0),(4,.ptr (st.length+2) 0 0 0),(22,.sl false 2 32 (rows x5.cells a1.nodes)),(23,.int .i64 (↑a1.nodes.length:Int)),(24,.int .i64 (↑k0:Int))])
     (fun(gt2:Unit) (t2:Int)=>st++[some (.arr 0 2 0 [[.sl false 2 40 (rows w8.cells a0.types),.sl false 3 32 (rows y3.cells a0.B1)]]),some (.arr 0 1 0 [[.sl false 2 32 (rows x5.cells a1.nodes)]]),some (.arr 0 2 0 [[.int .i64 0,.int .i64 0]])])
     () fx hl2 h (bm hsc)
     (fun gs2 k2 s2 b2 fx h hx2=>?_) (fun gs2 s2=>?_) (fun gt2 t2 fr1 st1 h hb=>?_)
    ·unfold ko at h
     refine ct ?_
     refine cd h (fun hc h=>?_) fun hc h=>?_
     ·refine cl h (fZ _ _) fun v10 h=>?_
      refine ra ?_
      cases h
      refine D4 ?_;obtain rfl:=hx2 _ rfl;try simp only[go_sem,fx]
      refine D4 ?_;have h:=congrArg some (hx0 _ rfl)
      exact rt
     ·refine cd h (fun hc h=>?_) fun hc h=>?_
      ·refine cl h (fZ _ _) fun v11 h=>?_
       refine ra ?_
       cases h
       refine D4 ?_;obtain rfl:=hx2 _ rfl;try simp only[go_sem,fx]
       refine D4 ?_;have h:=congrArg some (hx0 _ rfl)
       exact rt
      ·refine rn ?_
       cases h
       exact aT () (bm hsc)
    ·refine cf ?_
     refine X5 ?_;simp only[go_sem,fx]
     exact⟨(),(bm hsc)⟩
    ·try simp only[go_sem,fx]
     unfold kq at h
     refine K6 hb ?_
     refine rn ?_
     cases h
     exact aT () (bm hsc)
  ·refine cf ?_
   refine X5 ?_;simp only[go_sem,fx]
   exact⟨(),(bm hsc)⟩
  ·try simp only[go_sem,fx]
   unfold ou at h
   refine K6 hb ?_
   exact rt
end Go.Proofs.YtonfgoanbllceaaGreatDoor
