import Derived.Test.YtoekkdodipnmpaaGreatDoorSWalk1
set_option linter.unusedVariables false
set_option linter.unusedSimpArgs false
set_option maxHeartbeats 2000000
set_option maxRecDepth 100000
namespace Go.Proofs.YtoekkdodipnmpaaGreatDoor
open Go Go.Am
theorem iQ(a0:(List x5))(r:A9)(h:aB a0=some r):Pure Tryz.prog gl 52 [.sl false 2 40 (rows x5.cells a0)] (.agg [.sl false 1 8 (rows Z2 r.up),.sl false 1 8 (rows Z2 r.down)]):=by
 intro st
 unfold aB at h
 have fx:=trivial
 refine fb 75 [.cell 2 117] [0,2,3,4,5,7,8,16,17,18,19,30,31,32,33,50,51,52,62] Tryz.func52 fun hsc=>?_
 refine rn ?_
 obtain⟨fx,h⟩:=ck fx h
 have fy:=(show List.replicate a0.length [.int .u64 0]=rows Z2 (List.replicate a0.length (default:Int))from iJ (E:=Z2) _ default)
 have fy:=fa fy (show List.replicate a0.length [.int .u64 0]=rows Z2 (List.replicate a0.length (default:Int))from iJ (E:=Z2) _ default)
 refine dwy [] 3 ?_
 refine aln 0 fun hl0=>?_
 refine rng (body:=bB a0) (kk:=bG) (n:=a0.length) (s0:=((List.replicate a0.length (default:Int)),(List.replicate a0.length (default:Int))))
  (fun(gs0:Nat×Nat) (k0:Nat) (s0:(List Int)×(List Int))=>[(0,.sl false 2 40 (rows x5.cells a0)),(2,.ptr st.length 0 0 0),(3,.ptr (st.length+3) 0 0 0),(16,.sl false 2 40 (rows x5.cells a0)),(17,.int .i64 (↑a0.length:Int)),(18,.int .i64 (↑k0:Int))])
  (fun(gs0:Nat×Nat) (k0:Nat) (s0:(List Int)×(List Int))=>st++[some (.arr 0 2 0 [[.D3,.D3]]),some (.arr gs0.1 1 8 (rows Z2 s0.1)),some (.arr gs0.2 1 8 (rows Z2 s0.2)),some (.arr 0 2 0 [[.ref true (st.length+1) gs0.1 0 s0.1.length,.ref true (st.length+2) gs0.2 0 s0.2.length]])])
  (fun(gt0:Nat×Nat) (t0:(List Int)×(List Int))=>[(2,.ptr st.length 0 0 0),(3,.ptr (st.length+3) 0 0 0)])
  (fun(gt0:Nat×Nat) (t0:(List Int)×(List Int))=>st++[some (.arr 0 2 0 [[.D3,.D3]]),some (.arr gt0.1 1 8 (rows Z2 t0.1)),some (.arr gt0.2 1 8 (rows Z2 t0.2)),some (.arr 0 2 0 [[.ref true (st.length+1) gt0.1 0 t0.1.length,.ref true (st.length+2) gt0.2 0 t0.2.length]])])
  (0,0) fx hl0 h (bm hsc (hu:=(.lv (.lv (.lv (.live _ _ _ _ (.arr _ _ _ _ _ (.cons _ _ _ _ (.cons _ _ _ _ (vZ (by first|(simp;done)|simp[Fr.get])) (.cons _ _ _ _ (vZ (by first|(simp;done)|simp[Fr.get])) .nil)) (.same _))) (.nil _)))))))
  (fun gs0 k0 s0 b0 fx h hx0=>?_) (fun gs0 s0=>?_) (fun gt0 t0 fr1 st1 h hb=>?_)
 ·unfold bB at h
  refine ct ?_
  refine rn ?_
  obtain⟨fx,h⟩:=ck fx h
  obtain⟨fx,h⟩:=ck fx h
  have fy:=(show(rows Z2 s0.1).getD k0 []=Z2 (get s0.1 k0)from jk (E:=Z2) (l:=s0.1) (k:=k0) (by first|omega|(simp;omega)))
  have fy:=fa fy (show k0<s0.1.length from by first|omega|(simp;omega))
  obtain⟨c62,MV,h⟩:=lK h
  have fy:=fa fy (show(rows Z2 s0.1).set k0 [.int .u64 (wr .u64 (1*2^(min k0 64)))]=rows Z2 c62 from by rw[MV];first|exact vY (E:=Z2) _ _ _|simp only[go_sem,rows,List.map_set])
  refine dwy [] 0 ?_
  have e64:D.ref true (st.length+1) gs0.1 0 s0.1.length=D.ref true (st.length+1) gs0.1 0 c62.length:=by simp[MV]
  simp only[e64]
  refine aln 30 fun hl3=>?_
  refine rng (body:=bC k0 a0) (kk:=bD k0 a0 s0) (n:=((get a0 k0).parents).length) (s0:=c62)
   (fun(gs3:Nat) (k3:Nat) (s3:(List Int))=>[(0,.sl false 2 40 (rows x5.cells a0)),(2,.ptr st.length 0 0 0),(3,.ptr (st.length+3) 0 0 0),(4,.int .i64 (↑k0:Int)),(16,.sl false 2 40 (rows x5.cells a0)),(17,.int .i64 (↑a0.length:Int)),(18,.int .i64 (↑k0:Int)),(30,.sl false 1 8 (rows E1 ((get a0 k0).parents))),(31,.int .i64 (↑(((get a0 k0).parents).length):Int)),(32,.int .i64 (↑k3:Int))])
   (fun(gs3:Nat) (k3:Nat) (s3:(List Int))=>st++[some (.arr 0 2 0 [[.D3,.D3]]),some (.arr gs3 1 8 (rows Z2 s3)),some (.arr gs0.2 1 8 (rows Z2 s0.2)),some (.arr 0 2 0 [[.ref true (st.length+1) gs3 0 s3.length,.ref true (st.length+2) gs0.2 0 s0.2.length]])])
   (fun(gt3:Nat) (t3:(List Int))=>[(0,.sl false 2 40 (rows x5.cells a0)),(2,.ptr st.length 0 0 0),(3,.ptr (st.length+3) 0 0 0),(4,.int .i64 (↑k0:Int)),(16,.sl false 2 40 (rows x5.cells a0)),(17,.int .i64 (↑a0.length:Int)),(18,.int .i64 (↑k0:Int))])
   (fun(gt3:Nat) (t3:(List Int))=>st++[some (.arr 0 2 0 [[.D3,.D3]]),some (.arr gt3 1 8 (rows Z2 t3)),some (.arr gs0.2 1 8 (rows Z2 s0.2)),some (.arr 0 2 0 [[.ref true (st.length+1) gt3 0 t3.length,.ref true (st.length+2) gs0.2 0 s0.2.length]])])
   gs0.1 fx hl3 h (bm hsc)
   (fun gs3 k3 s3 b3 fx h hx3=>?_) (fun gs3 s3=>?_) (fun gt3 t3 fr1 st1 h hb=>?_)
  ·unfold bC at h
   refine ct ?_
   refine rn ?_
   obtain⟨fx,h⟩:=ck fx h
   have fy:=(show(rows Z2 s3).getD k0 []=Z2 (get s3 k0)from jk (E:=Z2) (l:=s3) (k:=k0) (by first|omega|(simp;omega)))
   have fy:=fa fy (show k0<s3.length from by first|omega|(simp;omega))
   obtain⟨fx,h⟩:=ck fx h
   have fy:=fa fy (show(rows Z2 s3).getD ((get ((get a0 k0).parents) k3).toNat) []=Z2 (get s3 ((get ((get a0 k0).parents) k3).toNat))from jk (E:=Z2) (l:=s3) (k:=(get ((get a0 k0).parents) k3).toNat) (by first|omega|(simp;omega)))
   have fy:=fa fy (show(get ((get a0 k0).parents) k3).toNat<s3.length from by first|omega|(simp;omega))
   have fy:=fa fy (show(rows Z2 s3).getD k0 []=Z2 (get s3 k0)from jk (E:=Z2) (l:=s3) (k:=k0) (by first|omega|(simp;omega)))
   have fy:=fa fy (show k0<s3.length from by first|omega|(simp;omega))
   obtain⟨c86,MW,h⟩:=lK h
   have fy:=fa fy (show(rows Z2 s3).set k0 [.int .u64 (P3 .or .u64 (get s3 k0) (get s3 ((get ((get a0 k0).parents) k3).toNat)))]=rows Z2 c86 from by rw[MW];first|exact vY (E:=Z2) _ _ _|simp only[go_sem,rows,List.map_set])
   refine dwy [] 0 ?_
   have e88:D.ref true (st.length+1) gs3 0 s3.length=D.ref true (st.length+1) gs3 0 c86.length:=by simp[MW]
   simp only[e88]
   refine rn ?_
   cases h
   exact dc gs3 (bm hsc)
  ·refine cf ?_
   refine cP ?_;simp only[go_sem,fx]
   exact⟨gs3,(bm hsc)⟩
  ·try simp only[go_sem,fx]
   unfold bD at h
   refine R8 hb ?_
   refine aln 0 fun hl4=>?_
   refine rng (body:=bE k0 t3) (kk:=bF t3) (n:=a0.length) (s0:=s0.2)
    (fun(gs4:Nat) (k4:Nat) (s4:(List Int))=>[(0,.sl false 2 40 (rows x5.cells a0)),(2,.ptr st.length 0 0 0),(3,.ptr (st.length+3) 0 0 0),(4,.int .i64 (↑k0:Int)),(16,.sl false 2 40 (rows x5.cells a0)),(17,.int .i64 (↑a0.length:Int)),(18,.int .i64 (↑k0:Int)),(50,.int .i64 (↑a0.length:Int)),(51,.int .i64 (↑k4:Int))])
    (fun(gs4:Nat) (k4:Nat) (s4:(List Int))=>st++[some (.arr 0 2 0 [[.D3,.D3]]),some (.arr gt3 1 8 (rows Z2 t3)),some (.arr gs4 1 8 (rows Z2 s4)),some (.arr 0 2 0 [[.ref true (st.length+1) gt3 0 t3.length,.ref true (st.length+2) gs4 0 s4.length]])])
    (fun(gt4:Nat) (t4:(List Int))=>[(0,.sl false 2 40 (rows x5.cells a0)),(2,.ptr st.length 0 0 0),(3,.ptr (st.length+3) 0 0 0),(16,.sl false 2 40 (rows x5.cells a0)),(17,.int .i64 (↑a0.length:Int)),(18,.int .i64 (↑k0:Int))])
    (fun(gt4:Nat) (t4:(List Int))=>st++[some (.arr 0 2 0 [[.D3,.D3]]),some (.arr gt3 1 8 (rows Z2 t3)),some (.arr gt4 1 8 (rows Z2 t4)),some (.arr 0 2 0 [[.ref true (st.length+1) gt3 0 t3.length,.ref true (st.length+2) gt4 0 t4.length]])])
    gs0.2 fx hl4 h (bm hsc)
    (fun gs4 k4 s4 b4 fx h hx4=>?_) (fun gs4 s4=>?_) (fun gt4 t4 fr1 st1 h hb=>?_)
   ·unfold bE at h
    refine ct ?_
    refine r0 ?_
    refine r0 ?_
    refine r0 ?_
    obtain⟨fx,h⟩:=ck fx h
    have fy:=(show(rows Z2 t3).getD k0 []=Z2 (get t3 k0)from jk (E:=Z2) (l:=t3) (k:=k0) (by first|omega|(simp;omega)))
    have fy:=fa fy (show k0<t3.length from by first|omega|(simp;omega))
    obtain⟨fx,h⟩:=ck fx h
    refine r1 ?_
    refine cd h (fun hc h=>?_) fun hc h=>?_
    ·refine rs ?_
     obtain⟨fx,h⟩:=ck fx h
     have fy:=(show(rows Z2 s4).getD k4 []=Z2 (get s4 k4)from jk (E:=Z2) (l:=s4) (k:=k4) (by first|omega|(simp;omega)))
     have fy:=fa fy (show k4<s4.length from by first|omega|(simp;omega))
     have fy:=fa fy (show(rows Z2 s4).getD k4 []=Z2 (get s4 k4)from jk (E:=Z2) (l:=s4) (k:=k4) (by first|omega|(simp;omega)))
     have fy:=fa fy (show k4<s4.length from by first|omega|(simp;omega))
     obtain⟨c110,Kn,h⟩:=lK h
     have fy:=fa fy (show(rows Z2 s4).set k4 [.int .u64 (P3 .or .u64 (get s4 k4) (wr .u64 (1*2^(min k0 64))))]=rows Z2 c110 from by rw[Kn];first|exact vY (E:=Z2) _ _ _|simp only[go_sem,rows,List.map_set])
     refine dwy [] 0 ?_
     have e112:D.ref true (st.length+2) gs4 0 s4.length=D.ref true (st.length+2) gs4 0 c110.length:=by simp[Kn]
     simp only[e112]
     refine rn ?_
     cases h
     exact dc gs4 (bm hsc)
    ·refine rn ?_
     cases h
     exact dc gs4 (bm hsc)
   ·refine cf ?_
    refine cP ?_;simp only[go_sem,fx]
    exact⟨gs4,(bm hsc)⟩
   ·try simp only[go_sem,fx]
    unfold bF at h
    refine R8 hb ?_
    refine rn ?_
    cases h
    exact dc (gt3,gt4) (bm hsc)
 ·refine cf ?_
  refine cP ?_;simp only[go_sem,fx]
  exact⟨(gs0.1,gs0.2),(bm hsc)⟩
 ·try simp only[go_sem,fx]
  unfold bG at h
  refine R8 hb ?_
  refine rr ?_
  exact fo (.agg [.sl false 1 8 (rows Z2 t0.1),.sl false 1 8 (rows Z2 t0.2)]) (.agg _ _ (.cons _ _ _ _ (.ref _ _ _ _ _ _ _ _ _ (nK.trans rfl) zE (by decide) (sD _) (by simp only[go_sem])) (.cons _ _ _ _ (.ref _ _ _ _ _ _ _ _ _ (nK.trans rfl) zE (by decide) (sD _) (by simp only[go_sem])) .nil))) h hsc
theorem iD(a0:Int)(r:Int)(h:P6 a0=some r):Pure Tryz.prog gl 89 [.int .u64 a0] (.int .i64 r):=by
 intro st
 unfold P6 at h
 have fx:=trivial
 refine fb 14 [.tmp 2] [0,2,4] Tryz.func89 fun hsc=>?_
 refine cd h (fun hc h=>?_) fun hc h=>?_
 ·exact rt
 ·refine r0 ?_
  obtain⟨fx,h⟩:=ck fx h
  have fy:=(show Am.rowAt (cS u8c Dv) ((Int.fdiv (wr .u64 ((P3 .and .u64 a0 (wr .u64 (0-a0)))*285870213051353865)) (2^(min 58 64))).toNat) 1=u8c (get Dv ((Int.fdiv (wr .u64 ((P3 .and .u64 a0 (wr .u64 (0-a0)))*285870213051353865)) (2^(min 58 64))).toNat))from qW (fun _=>rfl) (show _<Dv.length by rw[EA];first|omega|(simp;omega)))
  refine r1 ?_
  exact rt
theorem lq(a0:A9)(a1:Int)(a2:Int)(r:Int×Bool×Bool)(h:Y6 a0 a1 a2=some r):Pure Tryz.prog gl 74 [.agg [.sl false 1 8 (rows Z2 a0.up),.sl false 1 8 (rows Z2 a0.down)],.int .i64 a1,.int .i64 a2] (.tup [.int .i64 r.1,.bool r.2.1,.bool r.2.2]):=by
 intro st
 unfold Y6 at h
 have fx:=trivial
 refine fb 33 [.tmp 6,.tmp 7,.tmp 8] [0,1,2,3,6,7,8,9,22,31] Tryz.func74 fun hsc=>?_
 refine rn ?_
 obtain⟨fx,h⟩:=ck fx h
 obtain⟨fx,h⟩:=ck fx h
 refine dw [] 0 ?_
 refine cd h (fun hc h=>?_) fun hc h=>?_
 ·exact rt
 ·refine cl h (iD _) fun v5 h=>?_
  obtain⟨fx,h⟩:=ck fx h
  refine cd h (fun hc h=>?_) fun hc h=>?_
  ·exact rt
  ·exact rt
theorem mj(a0:x7)(r:w5)(h:aC a0=some r):Pure Tryz.prog gl 50 [.agg [.sl false 2 40 (rows x5.cells a0.types),.sl false 3 32 (rows A0.cells a0.C2)]] (.agg [.int .i64 r.code,.int .i64 r.index]):=by
 intro st
 unfold aC at h
 have fx:=trivial
 refine fb 122 [.cell 2 39] [0,1,2,3,4,5,6,9,10,11,12,14,20,21,22,23,26,27,28,29,30,37,44,45,46,48,49,50,60,67,68,69,70,77,87,98,99,100,101,102,103,106,107,108,111,112,113,114,115,116,117] Tryz.func50 fun hsc=>?_
 refine cd h (fun hc h=>?_) fun hc h=>?_
 ·refine cl h (G8 _ _) fun v1 h=>?_
  exact rt
 ·refine cl h (pC _) fun v2 h=>?_
  refine cd h (fun hc h=>?_) fun hc h=>?_
  ·exact rt
  ·refine cl h (iQ _) fun v3 h=>?_
   obtain⟨fx,h⟩:=ck fx h
   refine rn ?_
   refine rng (body:=Z9 v3) (kk:=U7 a0) (n:=a0.types.length) (s0:=())
    (fun(gs0:Unit) (k0:Nat) (s0:Unit)=>[(1,.ptr st.length 0 0 0),(2,.ptr (st.length+1) 0 0 0),(4,.ptr (st.length+3) 0 0 0),(44,.int .i64 (↑a0.types.length:Int)),(45,.int .i64 (↑k0:Int))])
    (fun(gs0:Unit) (k0:Nat) (s0:Unit)=>st++[some (.arr 0 2 0 [[.sl false 2 40 (rows x5.cells a0.types),.sl false 3 32 (rows A0.cells a0.C2)]]),some (.arr 0 2 0 [[.int .i64 0,.int .i64 0]]),none,some (.arr 0 2 0 [[.sl false 1 8 (rows Z2 v3.up),.sl false 1 8 (rows Z2 v3.down)]])])
    (fun(gt0:Unit) (t0:Unit)=>[(1,.ptr st.length 0 0 0),(2,.ptr (st.length+1) 0 0 0)])
    (fun(gt0:Unit) (t0:Unit)=>st++[some (.arr 0 2 0 [[.sl false 2 40 (rows x5.cells a0.types),.sl false 3 32 (rows A0.cells a0.C2)]]),some (.arr 0 2 0 [[.int .i64 0,.int .i64 0]])])
    () fx fx.2 h (bm hsc)
    (fun gs0 k0 s0 b0 fx h hx0=>?_) (fun gs0 s0=>?_) (fun gt0 t0 fr1 st1 h hb=>?_)
   ·unfold Z9 at h
    refine ct ?_
    obtain⟨fx,h⟩:=ck fx h
    refine rn ?_
    refine rng (body:=ah v3 k0) (kk:=aj) (n:=k0) (s0:=())
     (fun(gs1:Unit) (k1:Nat) (s1:Unit)=>[(1,.ptr st.length 0 0 0),(2,.ptr (st.length+1) 0 0 0),(4,.ptr (st.length+3) 0 0 0),(5,.int .i64 (↑k0:Int)),(44,.int .i64 (↑a0.types.length:Int)),(45,.int .i64 (↑k0:Int)),(48,.int .i64 (↑k0:Int)),(49,.int .i64 (↑k1:Int))])
     (fun(gs1:Unit) (k1:Nat) (s1:Unit)=>st++[some (.arr 0 2 0 [[.sl false 2 40 (rows x5.cells a0.types),.sl false 3 32 (rows A0.cells a0.C2)]]),some (.arr 0 2 0 [[.int .i64 0,.int .i64 0]]),none,some (.arr 0 2 0 [[.sl false 1 8 (rows Z2 v3.up),.sl false 1 8 (rows Z2 v3.down)]])])
     (fun(gt1:Unit) (t1:Unit)=>[(1,.ptr st.length 0 0 0),(2,.ptr (st.length+1) 0 0 0),(4,.ptr (st.length+3) 0 0 0),(44,.int .i64 (↑a0.types.length:Int)),(45,.int .i64 (↑k0:Int))])
     (fun(gt1:Unit) (t1:Unit)=>st++[some (.arr 0 2 0 [[.sl false 2 40 (rows x5.cells a0.types),.sl false 3 32 (rows A0.cells a0.C2)]]),some (.arr 0 2 0 [[.int .i64 0,.int .i64 0]]),none,some (.arr 0 2 0 [[.sl false 1 8 (rows Z2 v3.up),.sl false 1 8 (rows Z2 v3.down)]])])
     () fx fx.2 h (bm hsc)
     (fun gs1 k1 s1 b1 fx h hx1=>?_) (fun gs1 s1=>?_) (fun gt1 t1 fr1 st1 h hb=>?_)
    ·unfold ah at h
     refine ct ?_
     refine cl h (lq _ _ _) fun v6 h=>?_
     refine cd h (fun hc h=>?_) fun hc h=>?_
     ·refine cl h (G8 _ _) fun v7 h=>?_
      refine ra ?_
      cases h
      refine D4 ?_;obtain rfl:=hx1 _ rfl;try simp only[go_sem,fx]
      refine D4 ?_;have h:=congrArg some (hx0 _ rfl)
      exact rt
     ·refine rn ?_
      cases h
      exact dc () (bm hsc)
    ·refine cf ?_
     refine cP ?_;simp only[go_sem,fx]
     exact⟨(),(bm hsc)⟩
    ·try simp only[go_sem,fx]
     unfold aj at h
     refine R8 hb ?_
     refine rn ?_
     cases h
     exact dc () (bm hsc)
   ·refine cf ?_
    refine cP ?_;simp only[go_sem,fx]
    exact⟨(),(bm hsc)⟩
   ·try simp only[go_sem,fx]
    unfold U7 at h
    refine R8 hb ?_
    refine aln 67 fun hl2=>?_
    refine rng (body:=Z8 a0) (kk:=cM) (n:=a0.C2.length) (s0:=[])
     (fun(gs2:Unit) (k2:Nat) (s2:(List (Bs×Int)))=>[(1,.ptr st.length 0 0 0),(2,.ptr (st.length+1) 0 0 0),(10,.mp (st.length+2)),(67,.sl false 3 32 (rows A0.cells a0.C2)),(68,.int .i64 (↑a0.C2.length:Int)),(69,.int .i64 (↑k2:Int))])
     (fun(gs2:Unit) (k2:Nat) (s2:(List (Bs×Int)))=>st++[some (.arr 0 2 0 [[.sl false 2 40 (rows x5.cells a0.types),.sl false 3 32 (rows A0.cells a0.C2)]]),some (.arr 0 2 0 [[.int .i64 0,.int .i64 0]]),some (.mps false (mrw E1 s2))])
     (fun(gt2:Unit) (t2:(List (Bs×Int)))=>[(2,.ptr (st.length+1) 0 0 0)])
     (fun(gt2:Unit) (t2:(List (Bs×Int)))=>st++[none,some (.arr 0 2 0 [[.int .i64 0,.int .i64 0]])])
     () fx hl2 h (bm hsc)
     (fun gs2 k2 s2 b2 fx h hx2=>?_) (fun gs2 s2=>?_) (fun gt2 t2 fr1 st1 h hb=>?_)
    ·unfold Z8 at h
     refine ct ?_
     refine cl h (kh _) fun v14 h=>?_
     refine cd h (fun hc h=>?_) fun hc h=>?_
     ·refine cl h (G8 _ _) fun v15 h=>?_
      refine ra ?_
      cases h
      refine D4 ?_;have h:=congrArg some (hx2 _ rfl)
      exact rt
     ·refine cd h (fun hc h=>?_) fun hc h=>?_
      ·refine cl h (G8 _ _) fun v16 h=>?_
       refine ra ?_
       cases h
       refine D4 ?_;have h:=congrArg some (hx2 _ rfl)
       exact rt
      ·refine r0 ?_
       obtain⟨c17,PE,h⟩:=lK h
       have fy:=(show I7 ((get a0.C2 k2).name) [.int .i64 (↑k2:Int)] (mrw E1 s2)=mrw E1 c17 from by rw[PE];exact yt (E:=E1) _ _ _)
       refine r1 ?_
       refine cd h (fun hc h=>?_) fun hc h=>?_
       ·refine cl h (G8 _ _) fun v19 h=>?_
        refine ra ?_
        cases h
        refine D4 ?_;have h:=congrArg some (hx2 _ rfl)
        exact rt
       ·refine rn ?_
        cases h
        exact dc () (bm hsc)
    ·refine cf ?_
     refine cP ?_;simp only[go_sem,fx]
     exact⟨(),(bm hsc)⟩
    ·try simp only[go_sem,fx]
     unfold cM at h
     refine R8 hb ?_
     exact rt
theorem X0(a0:Int)(a1:Int)(r:w5)(h:V7 a0 a1=some r):Pure Tryz.prog gl 51 [.int .i64 a0,.int .i64 a1] (.agg [.int .i64 r.code,.int .i64 r.index]):=by
 intro st
 unfold V7 at h
 have fx:=trivial
 refine fb 8 [.cell 4 39] [0,1,4] Tryz.func51 fun hsc=>?_
 exact rt
theorem cI(a0:Int)(a1:Int)(r:w5)(h:cj a0 a1=some r):Pure Tryz.prog gl 80 [.int .i64 a0,.int .i64 a1] (.agg [.int .i64 r.code,.int .i64 r.index]):=by
 intro st
 unfold cj at h
 have fx:=trivial
 refine fb 8 [.cell 4 39] [0,1,4] Tryz.func80 fun hsc=>?_
 exact rt
theorem vo(a0:x7)(a1:B0)(r:w5)(h:jy a0 a1=some r):Pure Tryz.prog gl 78 [.agg [.sl false 2 40 (rows x5.cells a0.types),.sl false 3 32 (rows A0.cells a0.C2)],.agg [.sl false 2 32 (rows y4.cells a1.nodes)]] (.agg [.int .i64 r.code,.int .i64 r.index]):=by
 intro st
 unfold jy at h
 have fx:=trivial
 refine fb 86 [.cell 4 39] [0,1,2,3,4,5,6,7,9,15,16,17,18,19,22,23,24,25,33,34,35,36,37,38,39,43,44,45,46,53,54,55,56,57,58,61,62,63,66,67,68,69,70,71,72,78] Tryz.func78 fun hsc=>?_
 refine cd h (fun hc h=>?_) fun hc h=>?_
 ·refine cl h (cI _ _) fun v1 h=>?_
  exact rt
 ·refine aln 22 fun hl0=>?_
  refine rng (body:=gq a1 a0) (kk:=jZ) (n:=a1.nodes.length) (s0:=())
   (fun(gs0:Unit) (k0:Nat) (s0:Unit)=>[(2,.ptr st.length 0 0 0),(3,.ptr (st.length+1) 0 0 0),(4,.ptr (st.length+2) 0 0 0),(22,.sl false 2 32 (rows y4.cells a1.nodes)),(23,.int .i64 (↑a1.nodes.length:Int)),(24,.int .i64 (↑k0:Int))])
   (fun(gs0:Unit) (k0:Nat) (s0:Unit)=>st++[some (.arr 0 2 0 [[.sl false 2 40 (rows x5.cells a0.types),.sl false 3 32 (rows A0.cells a0.C2)]]),some (.arr 0 1 0 [[.sl false 2 32 (rows y4.cells a1.nodes)]]),some (.arr 0 2 0 [[.int .i64 0,.int .i64 0]])])
   (fun(gt0:Unit) (t0:Unit)=>[(4,.ptr (st.length+2) 0 0 0)])
   (fun(gt0:Unit) (t0:Unit)=>st++[none,none,some (.arr 0 2 0 [[.int .i64 0,.int .i64 0]])])
   () fx hl0 h (bm hsc)
   (fun gs0 k0 s0 b0 fx h hx0=>?_) (fun gs0 s0=>?_) (fun gt0 t0 fr1 st1 h hb=>?_)
  ·unfold gq at h
   refine ct ?_
   refine cd h (fun hc h=>?_) fun hc h=>?_
   ·refine cl h (cI _ _) fun v7 h=>?_
    refine ra ?_
    cases h
    refine D4 ?_;have h:=congrArg some (hx0 _ rfl)
    exact rt
   ·refine aln 43 fun hl2=>?_
    refine rng (body:=gu a1 k0 a0) (kk:=gy) (n:=((get a1.nodes k0).links).length) (s0:= -1)
     (fun(gs2:Unit) (k2:Nat) (s2:Int)=>[(2,.ptr st.length 0 0 0),(3,.ptr (st.length+1) 0 0 0),(4,.ptr (st.length+2) 0 0 0),(5,.int .i64 (↑k0:Int)),(7,.int .i64 s2),(22,.sl false 2 32 (rows y4.cells a1.nodes)),(23,.int .i64 (↑a1.nodes.length:Int)),(24,.int .i64 (↑k0:Int)),(43,.sl false 2 16 (rows D9.cells ((get a1.nodes k0).links))),(44,.int .i64 (↑(((get a1.nodes k0).links).length):Int)),(45,.int .i64 (↑k2:Int))])
     (fun(gs2:Unit) (k2:Nat) (s2:Int)=>st++[some (.arr 0 2 0 [[.sl false 2 40 (rows x5.cells a0.types),.sl false 3 32 (rows A0.cells a0.C2)]]),some (.arr 0 1 0 [[.sl false 2 32 (rows y4.cells a1.nodes)]]),some (.arr 0 2 0 [[.int .i64 0,.int .i64 0]])])
     (fun(gt2:Unit) (t2:Int)=>[(2,.ptr st.length 0 0 0),(3,.ptr (st.length+1) 0 0 0),(4,.ptr (st.length+2) 0 0 0),(22,.sl false 2 32 (rows y4.cells a1.nodes)),(23,.int .i64 (↑a1.nodes.length:Int)),(24,.int .i64 (↑k0:Int))])
     (fun(gt2:Unit) (t2:Int)=>st++[some (.arr 0 2 0 [[.sl false 2 40 (rows x5.cells a0.types),.sl false 3 32 (rows A0.cells a0.C2)]]),some (.arr 0 1 0 [[.sl false 2 32 (rows y4.cells a1.nodes)]]),some (.arr 0 2 0 [[.int .i64 0,.int .i64 0]])])
     () fx hl2 h (bm hsc)
     (fun gs2 k2 s2 b2 fx h hx2=>?_) (fun gs2 s2=>?_) (fun gt2 t2 fr1 st1 h hb=>?_)
    ·unfold gu at h
     refine ct ?_
     refine cd h (fun hc h=>?_) fun hc h=>?_
     ·refine cl h (cI _ _) fun v10 h=>?_
      refine ra ?_
      cases h
      refine D4 ?_;obtain rfl:=hx2 _ rfl;try simp only[go_sem,fx]
      refine D4 ?_;have h:=congrArg some (hx0 _ rfl)
      exact rt
     ·refine cd h (fun hc h=>?_) fun hc h=>?_
      ·refine cl h (cI _ _) fun v11 h=>?_
       refine ra ?_
       cases h
       refine D4 ?_;obtain rfl:=hx2 _ rfl;try simp only[go_sem,fx]
       refine D4 ?_;have h:=congrArg some (hx0 _ rfl)
       exact rt
      ·refine rn ?_
       cases h
       exact dc () (bm hsc)
    ·refine cf ?_
     refine cP ?_;simp only[go_sem,fx]
     exact⟨(),(bm hsc)⟩
    ·try simp only[go_sem,fx]
     unfold gy at h
     refine R8 hb ?_
     refine rn ?_
     cases h
     exact dc () (bm hsc)
  ·refine cf ?_
   refine cP ?_;simp only[go_sem,fx]
   exact⟨(),(bm hsc)⟩
  ·try simp only[go_sem,fx]
   unfold jZ at h
   refine R8 hb ?_
   exact rt
theorem fZ(a0:A9)(a1:Int)(a2:Int)(r:Bool)(h:W0 a0 a1 a2=some r):Pure Tryz.prog gl 79 [.agg [.sl false 1 8 (rows Z2 a0.up),.sl false 1 8 (rows Z2 a0.down)],.int .i64 a1,.int .i64 a2] (.bool r):=by
 intro st
 unfold W0 at h
 have fx:=trivial
 refine fb 16 [.tmp 6] [0,1,2,3,6] Tryz.func79 fun hsc=>?_
 obtain⟨fx,h⟩:=ck fx h
 obtain⟨fx,h⟩:=ck fx h
 exact rt
theorem eR(a0:(List Bool))(a1:Bool)(r:Int)(h:I0 a0 a1=some r):Pure Tryz.prog gl 87 [.sl false 1 1 (rows F3 a0),.bool a1] (.int .i64 r):=by
 intro st
 unfold I0 at h
 have fx:=trivial
 refine fb 19 [.tmp 4] [0,1,4,5,7,8,9,16] Tryz.func87 fun hsc=>?_
 refine aln 0 fun hl0=>?_
 refine rng (body:=X3 a1 a0) (kk:=bn) (n:=a0.length) (s0:=())
  (fun(gs0:Unit) (k0:Nat) (s0:Unit)=>[(0,.sl false 1 1 (rows F3 a0)),(1,.bool a1),(7,.int .i64 (↑a0.length:Int)),(8,.int .i64 (↑k0:Int))])
  (fun(gs0:Unit) (k0:Nat) (s0:Unit)=>st)
  (fun(gt0:Unit) (t0:Unit)=>[])
  (fun(gt0:Unit) (t0:Unit)=>st)
  () fx hl0 h (cT hsc)
  (fun gs0 k0 s0 b0 fx h hx0=>?_) (fun gs0 s0=>?_) (fun gt0 t0 fr1 st1 h hb=>?_)
 ·unfold X3 at h
  refine ct ?_
  refine cd h (fun hc h=>?_) fun hc h=>?_
  ·refine ra ?_
   cases h
   refine D4 ?_;have h:=congrArg some (hx0 _ rfl)
   exact rt
  ·refine rn ?_
   cases h
   exact dc () (cT hsc)
 ·refine cf ?_
  refine cP ?_;simp only[go_sem,fx]
  exact⟨(),(cT hsc)⟩
 ·try simp only[go_sem,fx]
  unfold bn at h
  refine R8 hb ?_
  exact rt
theorem pE(n:Nat)(a0:B0)(r:Int)(h:bf n a0=some r):Pure Tryz.prog gl 81 [.agg [.sl false 2 32 (rows y4.cells a0.nodes)]] (.int .i64 r):=by
 intro st
 unfold bf at h
 have fx:=trivial
 refine Ey ?_;refine fb 58 [.tmp 2] [0,1,2,3,4,5,7,17,34,35,36,37,45] Tryz.func81 fun hsc=>?_
 refine r0 ?_
 obtain⟨fx,h⟩:=ck fx h
 have fy:=(show List.replicate a0.nodes.length [.bool false]=rows F3 (List.replicate a0.nodes.length (default:Bool))from iJ (E:=F3) _ default)
 refine r1 ?_
 obtain⟨fx,h⟩:=ck fx h
 have fy:=(show(rows F3 (List.replicate a0.nodes.length (default:Bool))).getD 0 []=F3 (get (List.replicate a0.nodes.length (default:Bool)) 0)from jk (E:=F3) (l:=(List.replicate a0.nodes.length (default:Bool))) (k:=0) (by first|omega|(simp;omega)))
 have fy:=fa fy (show 0<a0.nodes.length from by first|omega|(simp;omega))
 obtain⟨c7,hc7,h⟩:=lK h
 have fy:=fa fy (show(rows F3 (List.replicate a0.nodes.length (default:Bool))).set 0 [.bool true]=rows F3 c7 from by rw[hc7];first|exact vY (E:=F3) _ _ _|simp only[go_sem,rows,List.map_set])
 refine r1 ?_
 have e9:D.ref true (st.length+1) 0 0 a0.nodes.length=D.ref true (st.length+1) 0 0 c7.length:=by simp[hc7]
 simp only[e9]
 refine rn ?_
 refine I3 (body:=cx a0) (kk:=cC) (n:=n) (s0:=(c7,[0],1))
  (fun(gs0:Nat×Nat) (s0:(List Bool)×(List Int)×Nat)=>[(1,.ptr st.length 0 0 0),(3,.ref true (st.length+1) gs0.1 0 s0.1.length),(4,.ref false (st.length+2) gs0.2 0 s0.2.2)])
  (fun(gs0:Nat×Nat) (s0:(List Bool)×(List Int)×Nat)=>st++[some (.arr 0 1 0 [[.sl false 2 32 (rows y4.cells a0.nodes)]]),some (.arr gs0.1 1 1 (rows F3 s0.1)),some (.arr gs0.2 1 8 (rows E1 s0.2.1))])
  (fun(gt0:Nat) (t0:(List Bool))=>[(3,.ref true (st.length+1) gt0 0 t0.length)])
  (fun(gt0:Nat) (t0:(List Bool))=>st++[none,some (.arr gt0 1 1 (rows F3 t0))])
  (0,0) h (bm hsc)
  (fun gs0 s0 b0 h hx0=>?_) (fun gt0 t0 fr1 st1 h hb=>?_)
 ·unfold cx at h
  refine cd h (fun hc h=>?_) fun hc h=>?_
  ·refine r0 ?_
   refine r0 ?_
   obtain⟨fx,h⟩:=ck fx h
   obtain⟨fx,h⟩:=ck fx h
   have fy:=(show(rows E1 s0.2.1).getD ((wr .i64 ((↑s0.2.2:Int)-1)).toNat) []=E1 (get s0.2.1 ((wr .i64 ((↑s0.2.2:Int)-1)).toNat))from jk (E:=E1) (l:=s0.2.1) (k:=(wr .i64 ((↑s0.2.2:Int)-1)).toNat) (by first|omega|(simp;omega)))
   have fy:=fa fy (show(wr .i64 ((↑s0.2.2:Int)-1)).toNat<s0.2.1.length from by first|omega|(simp;omega))
   refine r1 ?_
   obtain⟨fx,h⟩:=ck fx h
   obtain⟨fx,h⟩:=ck fx h
   refine aln 34 fun hl2=>?_
   refine rng (body:=cA a0 s0) (kk:=cB) (n:=((get a0.nodes ((get s0.2.1 ((wr .i64 ((↑s0.2.2:Int)-1)).toNat)).toNat)).links).length) (s0:=(s0.1,s0.2.1,(wr .i64 ((↑s0.2.2:Int)-1)).toNat))
    (fun(gs2:Nat×Nat) (k2:Nat) (s2:(List Bool)×(List Int)×Nat)=>[(1,.ptr st.length 0 0 0),(3,.ref true (st.length+1) gs2.1 0 s2.1.length),(4,.ref false (st.length+2) gs2.2 0 s2.2.2),(34,.sl false 2 16 (rows D9.cells ((get a0.nodes ((get s0.2.1 ((wr .i64 ((↑s0.2.2:Int)-1)).toNat)).toNat)).links))),(35,.int .i64 (↑(((get a0.nodes ((get s0.2.1 ((wr .i64 ((↑s0.2.2:Int)-1)).toNat)).toNat)).links).length):Int)),(36,.int .i64 (↑k2:Int))])
    (fun(gs2:Nat×Nat) (k2:Nat) (s2:(List Bool)×(List Int)×Nat)=>st++[some (.arr 0 1 0 [[.sl false 2 32 (rows y4.cells a0.nodes)]]),some (.arr gs2.1 1 1 (rows F3 s2.1)),some (.arr gs2.2 1 8 (rows E1 s2.2.1))])
    (fun(gt2:Nat×Nat) (t2:(List Bool)×(List Int)×Nat)=>[(1,.ptr st.length 0 0 0),(3,.ref true (st.length+1) gt2.1 0 t2.1.length),(4,.ref false (st.length+2) gt2.2 0 t2.2.2)])
    (fun(gt2:Nat×Nat) (t2:(List Bool)×(List Int)×Nat)=>st++[some (.arr 0 1 0 [[.sl false 2 32 (rows y4.cells a0.nodes)]]),some (.arr gt2.1 1 1 (rows F3 t2.1)),some (.arr gt2.2 1 8 (rows E1 t2.2.1))])
    (gs0.1,gs0.2) fx hl2 h (bm hsc)
    (fun gs2 k2 s2 b2 fx h hx2=>?_) (fun gs2 s2=>?_) (fun gt2 t2 fr1 st1 h hb=>?_)
   ·unfold cA at h
    refine ct ?_
    refine r0 ?_
    refine r0 ?_
    refine r0 ?_
    obtain⟨fx,h⟩:=ck fx h
    have fy:=(show(rows F3 s2.1).getD (((get ((get a0.nodes ((get s0.2.1 ((wr .i64 ((↑s0.2.2:Int)-1)).toNat)).toNat)).links) k2).to_).toNat) []=F3 (get s2.1 (((get ((get a0.nodes ((get s0.2.1 ((wr .i64 ((↑s0.2.2:Int)-1)).toNat)).toNat)).links) k2).to_).toNat))from jk (E:=F3) (l:=s2.1) (k:=((get ((get a0.nodes ((get s0.2.1 ((wr .i64 ((↑s0.2.2:Int)-1)).toNat)).toNat)).links) k2).to_).toNat) (by first|omega|(simp;omega)))
    have fy:=fa fy (show((get ((get a0.nodes ((get s0.2.1 ((wr .i64 ((↑s0.2.2:Int)-1)).toNat)).toNat)).links) k2).to_).toNat<s2.1.length from by first|omega|(simp;omega))
    refine r1 ?_
    refine cd h (fun hc h=>?_) fun hc h=>?_
    ·have fy:=(show(rows F3 s2.1).getD (((get ((get a0.nodes ((get s0.2.1 ((wr .i64 ((↑s0.2.2:Int)-1)).toNat)).toNat)).links) k2).to_).toNat) []=F3 (get s2.1 (((get ((get a0.nodes ((get s0.2.1 ((wr .i64 ((↑s0.2.2:Int)-1)).toNat)).toNat)).links) k2).to_).toNat))from jk (E:=F3) (l:=s2.1) (k:=((get ((get a0.nodes ((get s0.2.1 ((wr .i64 ((↑s0.2.2:Int)-1)).toNat)).toNat)).links) k2).to_).toNat) (by first|omega|(simp;omega)))
     have fy:=fa fy (show((get ((get a0.nodes ((get s0.2.1 ((wr .i64 ((↑s0.2.2:Int)-1)).toNat)).toNat)).links) k2).to_).toNat<s2.1.length from by first|omega|(simp;omega))
     obtain⟨c79,MX,h⟩:=lK h
     have fy:=fa fy (show(rows F3 s2.1).set (((get ((get a0.nodes ((get s0.2.1 ((wr .i64 ((↑s0.2.2:Int)-1)).toNat)).toNat)).links) k2).to_).toNat) [.bool true]=rows F3 c79 from by rw[MX];first|exact vY (E:=F3) _ _ _|simp only[go_sem,rows,List.map_set])
     refine r1 ?_
     have e81:D.ref true (st.length+1) gs2.1 0 s2.1.length=D.ref true (st.length+1) gs2.1 0 c79.length:=by simp[MX]
     simp only[e81]
     obtain⟨fx,h⟩:=ck fx h
     obtain⟨c84,MY,h⟩:=lK h
     have fy:=(show rows E1 (s2.2.1.take s2.2.2)++[[.int .i64 ((get ((get a0.nodes ((get s0.2.1 ((wr .i64 ((↑s0.2.2:Int)-1)).toNat)).toNat)).links) k2).to_)]]=rows E1 c84 from by rw[MY];first|exact bA (E:=E1) (s2.2.1.take s2.2.2) [(get ((get a0.nodes ((get s0.2.1 ((wr .i64 ((↑s0.2.2:Int)-1)).toNat)).toNat)).links) k2).to_]|simp only[go_sem,rows,List.map_append,List.map_cons,List.map_nil])
     have fy:=fa fy (show s2.2.2+1=c84.length from by rw[MY];simp<;>omega)
     obtain⟨fx,h⟩:=ck fx h
     refine r1 ?_
     refine rn ?_
     cases h
     exact dc (gs2.1,(gs2.2+1)) (bm hsc)
    ·refine rn ?_
     cases h
     exact dc (gs2.1,gs2.2) (bm hsc)
   ·refine cf ?_
    refine cP ?_;simp only[go_sem,fx]
    exact⟨(gs2.1,gs2.2),(bm hsc)⟩
   ·try simp only[go_sem,fx]
    unfold cB at h
    cases h
    exact J2 (gt2.1,gt2.2) (hb.trans (bm hsc))
  ·refine rn ?_
   cases h
   exact U0 gs0.1 (bm hsc)
 ·try simp only[go_sem,fx]
  unfold cC at h
  refine R8 hb ?_
  refine rn ?_
  obtain⟨v89,hv89,h⟩:=E7 h
  refine Ez ?_;refine((eR _ _ _ hv89).borrow (args:=[.ref true (st.length+1) gt0 0 t0.length,.bool false]) (.cons _ _ _ _ (.ref _ _ _ _ _ _ _ _ _ (nK.trans rfl) rj (by decide) (sD _) (by simp only[go_sem])) (.cons _ _ _ _ .s .nil)) (by simp) rfl ) ?_
  exact rt
end Go.Proofs.YtoekkdodipnmpaaGreatDoor
