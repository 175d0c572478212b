import Derived.Test.YtfacbpehlibilaaGreatDoorTAWalk1
set_option linter.unusedVariables false
set_option linter.unusedSimpArgs false
set_option maxHeartbeats 2000000
set_option maxRecDepth 100000
namespace Go.Proofs.YtfacbpehlibilaaGreatDoor
open Go Go.Am
theorem d6w(WG:(Lr)→((List Bs))→(Int)→(Bs)→((List Bs))→((List Lr))→((List Bs))→((List Bs))→((List Bs))→(Int)→(Bs)→((List Bs))→((List Lr))→((List (Bs×(List Bs))))→((List Bs))→Option (Bool))(YN:∀(a0:Lr) (a1:(List Bs)) (WH:Int) (Zh:Bs) (Zi:(List Bs)) (Xf:(List Lr)) (YS:(List Bs)) (Zb:(List Bs)) (Zj:(List Bs)) (d1S:Int) (d1T:Bs) (d1U:(List Bs)) (XQ:(List Lr)) (m2:(List (Bs×(List Bs)))) (ZV:(List Bs)) (r:Bool) (h:WG a0 a1 WH Zh Zi Xf YS Zb Zj d1S d1T d1U XQ m2 ZV=some r),∀(st:St) (o0 o1 o2 o3 o4:Nat) (hnd: [o0,o1,o2,o3,o4].Nodup) (XZ:Am.look st o0=some (.arr 0 11 0 [[.int .i64 WH,.str Zh,.sl false 1 16 (rows Wt Zi),.sl false 4 72 (rows Lr.cells Xf),.sl false 1 16 (rows Wt YS),.sl false 1 16 (rows Wt Zb),.sl false 1 16 (rows Wt Zj),.int .i64 d1S,.str d1T,.sl false 1 16 (rows Wt d1U),.sl false 4 72 (rows Lr.cells XQ)]])) (ZG:Am.look st o1=some (.arr 0 1 0 [[.mp o2]])) (d1V:Am.look st o2=some (.mps false (mrw (slc 1 16 Wt) m2))) (d4b:Am.look st o3=some (.arr 0 1 0 [[.sl false 1 16 (rows Wt ZV)]])) (d7M:Am.look st o4=some (.arr 0 1 0 [[.fn 58 [] [.ptr o0 0 0 0,.ptr o1 0 0 0,.ptr o3 0 0 0,.ptr o4 0 0 0]]])),Am.Spec Tryz.prog gl 58 [.agg [.int .i64 a0.kind,.str a0.name,.sl false 1 16 (rows Wt a0.words),.sl false 4 72 (rows Lr.cells a0.subs)],.sl false 1 16 (rows Wt a1),.ptr o0 0 0 0,.ptr o1 0 0 0,.ptr o3 0 0 0,.ptr o4 0 0 0] st (fun d st'=>d= .bool r∧st'=puts st []))(a0:Lr)(Zz:Int)(i0R:Bs)(i0S:(List Bs))(i0T:(List Lr))(i0U:(List Bs))(i0V:(List Bs))(i0W:(List Bs))(i0X:Int)(i0Y:Bs)(i0Z:(List Bs))(d4e:(List Lr))(m3:(List (Bs×(List Bs))))(ZB:(List Bs))(d0s:(List Bs))(r:Bool)(h:d1G WG a0 Zz i0R i0S i0T i0U i0V i0W i0X i0Y i0Z d4e m3 ZB d0s=some r):∀(st:St) (o0 o1 o2 o3 o4 o5:Nat) (hnd: [o0,o1,o2,o3,o4,o5].Nodup) (XZ:Am.look st o0=some (.arr 0 1 0 [[.fn 58 [] [.ptr o1 0 0 0,.ptr o2 0 0 0,.ptr o4 0 0 0,.ptr o0 0 0 0]]])) (ZG:Am.look st o1=some (.arr 0 11 0 [[.int .i64 Zz,.str i0R,.sl false 1 16 (rows Wt i0S),.sl false 4 72 (rows Lr.cells i0T),.sl false 1 16 (rows Wt i0U),.sl false 1 16 (rows Wt i0V),.sl false 1 16 (rows Wt i0W),.int .i64 i0X,.str i0Y,.sl false 1 16 (rows Wt i0Z),.sl false 4 72 (rows Lr.cells d4e)]])) (d1V:Am.look st o2=some (.arr 0 1 0 [[.mp o3]])) (d4b:Am.look st o3=some (.mps false (mrw (slc 1 16 Wt) m3))) (d7M:Am.look st o4=some (.arr 0 1 0 [[.sl false 1 16 (rows Wt ZB)]])) (i3m:Am.look st o5=some (.arr 0 1 0 [[.sl false 1 16 (rows Wt d0s)]])),Am.Spec Tryz.prog gl 61 [.agg [.int .i64 a0.kind,.str a0.name,.sl false 1 16 (rows Wt a0.words),.sl false 4 72 (rows Lr.cells a0.subs)],.ptr o0 0 0 0,.ptr o5 0 0 0] st (fun d st'=>d= .bool r∧st'=puts st []):=by
 intro st o0 o1 o2 o3 o4 o5 hnd XZ ZG d1V d4b d7M i3m
 unfold d1G at h
 have ho0:=WA XZ
 have ho1:=WA ZG
 have ho2:=WA d1V
 have ho3:=WA d4b
 have ho4:=WA d7M
 have ho5:=WA i3m
 have fx:=fa (fa (fa (fa (fa (fa (idf ho0) (idf ho1)) (idf ho2)) (idf ho3)) (idf ho4)) (idf ho5)) (nd6 hnd)
 refine fb 9 [.tmp 4] [0,1,2,3,4] Tryz.func61 fun hsc=>?_
 refine ZJ (s':=(WE st [(o0,(.arr 0 1 0 [[.fn 58 [] [.ptr o1 0 0 0,.ptr o2 0 0 0,.ptr o4 0 0 0,.ptr o0 0 0 0]]])),(o1,(.arr 0 11 0 [[.int .i64 Zz,.str i0R,.sl false 1 16 (rows Wt i0S),.sl false 4 72 (rows Lr.cells i0T),.sl false 1 16 (rows Wt i0U),.sl false 1 16 (rows Wt i0V),.sl false 1 16 (rows Wt i0W),.int .i64 i0X,.str i0Y,.sl false 1 16 (rows Wt i0Z),.sl false 4 72 (rows Lr.cells d4e)]])),(o2,(.arr 0 1 0 [[.mp o3]])),(o3,(.mps false (mrw (slc 1 16 Wt) m3))),(o4,(.arr 0 1 0 [[.sl false 1 16 (rows Wt ZB)]])),(o5,(.arr 0 1 0 [[.sl false 1 16 (rows Wt d0s)]]))])) (WJ (by simp[XZ,ZG,d1V,d4b,d7M,i3m])) ?_
 refine rn ?_
 obtain⟨v1,hv1,h⟩:=ZA h
 refine(YN _ _ _ _ _ _ _ _ _ _ _ _ _ _ _ _ hv1 _ o1 o2 o3 o4 o0 (by simp[fx]<;>omega) (by simp only[go_sem,fx]) (by simp only[go_sem,fx]) (by simp only[go_sem,fx]) (by simp only[go_sem,fx]) (by simp only[go_sem,fx])).mono ?_
 rintro d1 st1 ⟨rfl,rfl⟩
 refine rr ?_
 exact fuo (.bool v1) (.same _) h hsc (hr:=by rintro rfl;exact⟨rfl,WJ (by simp[XZ,ZG,d1V,d4b,d7M,i3m])⟩)
theorem d2W(WG:(Lr)→((List Bs))→(Int)→(Bs)→((List Bs))→((List Lr))→((List Bs))→((List Bs))→((List Bs))→(Int)→(Bs)→((List Bs))→((List Lr))→((List (Bs×(List Bs))))→((List Bs))→Option (Bool))(YN:∀(a0:Lr) (a1:(List Bs)) (WH:Int) (Zh:Bs) (Zi:(List Bs)) (Xf:(List Lr)) (YS:(List Bs)) (Zb:(List Bs)) (Zj:(List Bs)) (d1S:Int) (d1T:Bs) (d1U:(List Bs)) (XQ:(List Lr)) (m2:(List (Bs×(List Bs)))) (ZV:(List Bs)) (r:Bool) (h:WG a0 a1 WH Zh Zi Xf YS Zb Zj d1S d1T d1U XQ m2 ZV=some r),∀(st:St) (o0 o1 o2 o3 o4:Nat) (hnd: [o0,o1,o2,o3,o4].Nodup) (XZ:Am.look st o0=some (.arr 0 11 0 [[.int .i64 WH,.str Zh,.sl false 1 16 (rows Wt Zi),.sl false 4 72 (rows Lr.cells Xf),.sl false 1 16 (rows Wt YS),.sl false 1 16 (rows Wt Zb),.sl false 1 16 (rows Wt Zj),.int .i64 d1S,.str d1T,.sl false 1 16 (rows Wt d1U),.sl false 4 72 (rows Lr.cells XQ)]])) (ZG:Am.look st o1=some (.arr 0 1 0 [[.mp o2]])) (d1V:Am.look st o2=some (.mps false (mrw (slc 1 16 Wt) m2))) (d4b:Am.look st o3=some (.arr 0 1 0 [[.sl false 1 16 (rows Wt ZV)]])) (d7M:Am.look st o4=some (.arr 0 1 0 [[.fn 58 [] [.ptr o0 0 0 0,.ptr o1 0 0 0,.ptr o3 0 0 0,.ptr o4 0 0 0]]])),Am.Spec Tryz.prog gl 58 [.agg [.int .i64 a0.kind,.str a0.name,.sl false 1 16 (rows Wt a0.words),.sl false 4 72 (rows Lr.cells a0.subs)],.sl false 1 16 (rows Wt a1),.ptr o0 0 0 0,.ptr o1 0 0 0,.ptr o3 0 0 0,.ptr o4 0 0 0] st (fun d st'=>d= .bool r∧st'=puts st []))(a0:(List Lr))(Zz:Int)(i0R:Bs)(i0S:(List Bs))(i0T:(List Lr))(i0U:(List Bs))(i0V:(List Bs))(i0W:(List Bs))(i0X:Int)(i0Y:Bs)(i0Z:(List Bs))(d4e:(List Lr))(m3:(List (Bs×(List Bs))))(ZB:(List Bs))(d0s:(List Bs))(r:Int)(h:XV WG a0 Zz i0R i0S i0T i0U i0V i0W i0X i0Y i0Z d4e m3 ZB d0s=some r):∀(st:St) (o0 o1 o2 o3 o4 o5:Nat) (hnd: [o0,o1,o2,o3,o4,o5].Nodup) (XZ:Am.look st o0=some (.arr 0 1 0 [[.fn 58 [] [.ptr o1 0 0 0,.ptr o2 0 0 0,.ptr o4 0 0 0,.ptr o0 0 0 0]]])) (ZG:Am.look st o1=some (.arr 0 11 0 [[.int .i64 Zz,.str i0R,.sl false 1 16 (rows Wt i0S),.sl false 4 72 (rows Lr.cells i0T),.sl false 1 16 (rows Wt i0U),.sl false 1 16 (rows Wt i0V),.sl false 1 16 (rows Wt i0W),.int .i64 i0X,.str i0Y,.sl false 1 16 (rows Wt i0Z),.sl false 4 72 (rows Lr.cells d4e)]])) (d1V:Am.look st o2=some (.arr 0 1 0 [[.mp o3]])) (d4b:Am.look st o3=some (.mps false (mrw (slc 1 16 Wt) m3))) (d7M:Am.look st o4=some (.arr 0 1 0 [[.sl false 1 16 (rows Wt ZB)]])) (i3m:Am.look st o5=some (.arr 0 1 0 [[.sl false 1 16 (rows Wt d0s)]])),Am.Spec Tryz.prog gl 87 [.sl false 4 72 (rows Lr.cells a0),.fn 61 [] [.ptr o0 0 0 0,.ptr o5 0 0 0]] st (fun d st'=>d= .int .i64 r∧st'=puts st []):=by
 intro st o0 o1 o2 o3 o4 o5 hnd XZ ZG d1V d4b d7M i3m
 unfold XV at h
 have ho0:=WA XZ
 have ho1:=WA ZG
 have ho2:=WA d1V
 have ho3:=WA d4b
 have ho4:=WA d7M
 have ho5:=WA i3m
 have fx:=fa (fa (fa (fa (fa (fa (idf ho0) (idf ho1)) (idf ho2)) (idf ho3)) (idf ho4)) (idf ho5)) (nd6 hnd)
 refine fb 19 [.tmp 4] [0,1,4,5,7,8,9,16] Tryz.func87 fun hsc=>?_
 refine ZJ (s':=(WE st [(o0,(.arr 0 1 0 [[.fn 58 [] [.ptr o1 0 0 0,.ptr o2 0 0 0,.ptr o4 0 0 0,.ptr o0 0 0 0]]])),(o1,(.arr 0 11 0 [[.int .i64 Zz,.str i0R,.sl false 1 16 (rows Wt i0S),.sl false 4 72 (rows Lr.cells i0T),.sl false 1 16 (rows Wt i0U),.sl false 1 16 (rows Wt i0V),.sl false 1 16 (rows Wt i0W),.int .i64 i0X,.str i0Y,.sl false 1 16 (rows Wt i0Z),.sl false 4 72 (rows Lr.cells d4e)]])),(o2,(.arr 0 1 0 [[.mp o3]])),(o3,(.mps false (mrw (slc 1 16 Wt) m3))),(o4,(.arr 0 1 0 [[.sl false 1 16 (rows Wt ZB)]])),(o5,(.arr 0 1 0 [[.sl false 1 16 (rows Wt d0s)]]))])) (WJ (by simp[XZ,ZG,d1V,d4b,d7M,i3m])) ?_
 refine aln 0 fun hl0=>?_
 refine rng (body:=XD WG a0 Zz i0R i0S i0T i0U i0V i0W i0X i0Y i0Z d4e m3 ZB d0s) (kk:=Yv) (n:=a0.length) (s0:=())
  (fun(gs0:Unit) (k0:Nat) (s0:Unit)=>[(0,.sl false 4 72 (rows Lr.cells a0)),(1,.fn 61 [] [.ptr o0 0 0 0,.ptr o5 0 0 0]),(7,.int .i64 (↑a0.length:Int)),(8,.int .i64 (↑k0:Int))])
  (fun(gs0:Unit) (k0:Nat) (s0:Unit)=>(WE st [(o0,(.arr 0 1 0 [[.fn 58 [] [.ptr o1 0 0 0,.ptr o2 0 0 0,.ptr o4 0 0 0,.ptr o0 0 0 0]]])),(o1,(.arr 0 11 0 [[.int .i64 Zz,.str i0R,.sl false 1 16 (rows Wt i0S),.sl false 4 72 (rows Lr.cells i0T),.sl false 1 16 (rows Wt i0U),.sl false 1 16 (rows Wt i0V),.sl false 1 16 (rows Wt i0W),.int .i64 i0X,.str i0Y,.sl false 1 16 (rows Wt i0Z),.sl false 4 72 (rows Lr.cells d4e)]])),(o2,(.arr 0 1 0 [[.mp o3]])),(o3,(.mps false (mrw (slc 1 16 Wt) m3))),(o4,(.arr 0 1 0 [[.sl false 1 16 (rows Wt ZB)]])),(o5,(.arr 0 1 0 [[.sl false 1 16 (rows Wt d0s)]]))]))
  (fun(gt0:Unit) (t0:Unit)=>[])
  (fun(gt0:Unit) (t0:Unit)=>(WE st [(o0,(.arr 0 1 0 [[.fn 58 [] [.ptr o1 0 0 0,.ptr o2 0 0 0,.ptr o4 0 0 0,.ptr o0 0 0 0]]])),(o1,(.arr 0 11 0 [[.int .i64 Zz,.str i0R,.sl false 1 16 (rows Wt i0S),.sl false 4 72 (rows Lr.cells i0T),.sl false 1 16 (rows Wt i0U),.sl false 1 16 (rows Wt i0V),.sl false 1 16 (rows Wt i0W),.int .i64 i0X,.str i0Y,.sl false 1 16 (rows Wt i0Z),.sl false 4 72 (rows Lr.cells d4e)]])),(o2,(.arr 0 1 0 [[.mp o3]])),(o3,(.mps false (mrw (slc 1 16 Wt) m3))),(o4,(.arr 0 1 0 [[.sl false 1 16 (rows Wt ZB)]])),(o5,(.arr 0 1 0 [[.sl false 1 16 (rows Wt d0s)]]))]))
  () fx hl0 h (i9O hsc)
  (fun gs0 k0 s0 b0 fx h hx0=>?_) (fun gs0 s0=>?_) (fun gt0 t0 fr1 st1 h hb=>?_)
 ·unfold XD at h
  refine ct ?_
  refine rn ?_
  obtain⟨v1,hv1,h⟩:=ZA h
  refine(d6w WG YN _ _ _ _ _ _ _ _ _ _ _ _ _ _ _ _ hv1 _ _ _ _ _ _ _ hnd (by simp only[go_sem,fx]) (by simp only[go_sem,fx]) (by simp only[go_sem,fx]) (by simp only[go_sem,fx]) (by simp only[go_sem,fx]) (by simp only[go_sem,fx])).mono ?_
  rintro d1 st1 ⟨rfl,rfl⟩
  refine cd h (fun hc h=>?_) fun hc h=>?_
  ·refine ra ?_
   cases h
   refine XY ?_;have h:=congrArg some (hx0 _ rfl)
   refine rr ?_
   exact fus (.int .i64 (↑k0:Int)) (.same _) h hsc (hr:=by rintro rfl;exact⟨rfl,WJ (by simp[XZ,ZG,d1V,d4b,d7M,i3m])⟩)
  ·refine rn ?_
   cases h
   exact d2U () (i9O hsc)
 ·refine cf ?_
  refine d2V ?_;simp only[go_sem,fx]
  exact⟨(),(i9O hsc)⟩
 ·try simp only[go_sem,fx]
  unfold Yv at h
  refine Zk hb ?_
  refine rr ?_
  exact fus (.int .i64 (-1)) (.same _) h hsc (hr:=by rintro rfl;exact⟨rfl,WJ (by simp[XZ,ZG,d1V,d4b,d7M,i3m])⟩)
theorem d2s(WG:(Lr)→((List Bs))→(Int)→(Bs)→((List Bs))→((List Lr))→((List Bs))→((List Bs))→((List Bs))→(Int)→(Bs)→((List Bs))→((List Lr))→((List (Bs×(List Bs))))→((List Bs))→Option (Bool))(YN:∀(a0:Lr) (a1:(List Bs)) (WH:Int) (Zh:Bs) (Zi:(List Bs)) (Xf:(List Lr)) (YS:(List Bs)) (Zb:(List Bs)) (Zj:(List Bs)) (d1S:Int) (d1T:Bs) (d1U:(List Bs)) (XQ:(List Lr)) (m2:(List (Bs×(List Bs)))) (ZV:(List Bs)) (r:Bool) (h:WG a0 a1 WH Zh Zi Xf YS Zb Zj d1S d1T d1U XQ m2 ZV=some r),∀(st:St) (o0 o1 o2 o3 o4:Nat) (hnd: [o0,o1,o2,o3,o4].Nodup) (XZ:Am.look st o0=some (.arr 0 11 0 [[.int .i64 WH,.str Zh,.sl false 1 16 (rows Wt Zi),.sl false 4 72 (rows Lr.cells Xf),.sl false 1 16 (rows Wt YS),.sl false 1 16 (rows Wt Zb),.sl false 1 16 (rows Wt Zj),.int .i64 d1S,.str d1T,.sl false 1 16 (rows Wt d1U),.sl false 4 72 (rows Lr.cells XQ)]])) (ZG:Am.look st o1=some (.arr 0 1 0 [[.mp o2]])) (d1V:Am.look st o2=some (.mps false (mrw (slc 1 16 Wt) m2))) (d4b:Am.look st o3=some (.arr 0 1 0 [[.sl false 1 16 (rows Wt ZV)]])) (d7M:Am.look st o4=some (.arr 0 1 0 [[.fn 58 [] [.ptr o0 0 0 0,.ptr o1 0 0 0,.ptr o3 0 0 0,.ptr o4 0 0 0]]])),Am.Spec Tryz.prog gl 58 [.agg [.int .i64 a0.kind,.str a0.name,.sl false 1 16 (rows Wt a0.words),.sl false 4 72 (rows Lr.cells a0.subs)],.sl false 1 16 (rows Wt a1),.ptr o0 0 0 0,.ptr o1 0 0 0,.ptr o3 0 0 0,.ptr o4 0 0 0] st (fun d st'=>d= .bool r∧st'=puts st []))(a0:(List Lr))(Zz:Int)(i0R:Bs)(i0S:(List Bs))(i0T:(List Lr))(i0U:(List Bs))(i0V:(List Bs))(i0W:(List Bs))(i0X:Int)(i0Y:Bs)(i0Z:(List Bs))(d4e:(List Lr))(m3:(List (Bs×(List Bs))))(ZB:(List Bs))(d0s:(List Bs))(r:Bool)(h:XC WG a0 Zz i0R i0S i0T i0U i0V i0W i0X i0Y i0Z d4e m3 ZB d0s=some r):∀(st:St) (o0 o1 o2 o3 o4 o5:Nat) (hnd: [o0,o1,o2,o3,o4,o5].Nodup) (XZ:Am.look st o0=some (.arr 0 1 0 [[.fn 58 [] [.ptr o1 0 0 0,.ptr o2 0 0 0,.ptr o4 0 0 0,.ptr o0 0 0 0]]])) (ZG:Am.look st o1=some (.arr 0 11 0 [[.int .i64 Zz,.str i0R,.sl false 1 16 (rows Wt i0S),.sl false 4 72 (rows Lr.cells i0T),.sl false 1 16 (rows Wt i0U),.sl false 1 16 (rows Wt i0V),.sl false 1 16 (rows Wt i0W),.int .i64 i0X,.str i0Y,.sl false 1 16 (rows Wt i0Z),.sl false 4 72 (rows Lr.cells d4e)]])) (d1V:Am.look st o2=some (.arr 0 1 0 [[.mp o3]])) (d4b:Am.look st o3=some (.mps false (mrw (slc 1 16 Wt) m3))) (d7M:Am.look st o4=some (.arr 0 1 0 [[.sl false 1 16 (rows Wt ZB)]])) (i3m:Am.look st o5=some (.arr 0 1 0 [[.sl false 1 16 (rows Wt d0s)]])),Am.Spec Tryz.prog gl 60 [.sl false 4 72 (rows Lr.cells a0),.fn 61 [] [.ptr o0 0 0 0,.ptr o5 0 0 0]] st (fun d st'=>d= .bool r∧st'=puts st []):=by
 intro st o0 o1 o2 o3 o4 o5 hnd XZ ZG d1V d4b d7M i3m
 unfold XC at h
 have ho0:=WA XZ
 have ho1:=WA ZG
 have ho2:=WA d1V
 have ho3:=WA d4b
 have ho4:=WA d7M
 have ho5:=WA i3m
 have fx:=fa (fa (fa (fa (fa (fa (idf ho0) (idf ho1)) (idf ho2)) (idf ho3)) (idf ho4)) (idf ho5)) (nd6 hnd)
 refine fb 9 [.tmp 4] [0,1,4] Tryz.func60 fun hsc=>?_
 refine ZJ (s':=(WE st [(o0,(.arr 0 1 0 [[.fn 58 [] [.ptr o1 0 0 0,.ptr o2 0 0 0,.ptr o4 0 0 0,.ptr o0 0 0 0]]])),(o1,(.arr 0 11 0 [[.int .i64 Zz,.str i0R,.sl false 1 16 (rows Wt i0S),.sl false 4 72 (rows Lr.cells i0T),.sl false 1 16 (rows Wt i0U),.sl false 1 16 (rows Wt i0V),.sl false 1 16 (rows Wt i0W),.int .i64 i0X,.str i0Y,.sl false 1 16 (rows Wt i0Z),.sl false 4 72 (rows Lr.cells d4e)]])),(o2,(.arr 0 1 0 [[.mp o3]])),(o3,(.mps false (mrw (slc 1 16 Wt) m3))),(o4,(.arr 0 1 0 [[.sl false 1 16 (rows Wt ZB)]])),(o5,(.arr 0 1 0 [[.sl false 1 16 (rows Wt d0s)]]))])) (WJ (by simp[XZ,ZG,d1V,d4b,d7M,i3m])) ?_
 refine rn ?_
 obtain⟨v1,hv1,h⟩:=ZA h
 refine(d2W WG YN _ _ _ _ _ _ _ _ _ _ _ _ _ _ _ _ hv1 _ _ _ _ _ _ _ hnd (by simp only[go_sem,fx]) (by simp only[go_sem,fx]) (by simp only[go_sem,fx]) (by simp only[go_sem,fx]) (by simp only[go_sem,fx]) (by simp only[go_sem,fx])).mono ?_
 rintro d1 st1 ⟨rfl,rfl⟩
 refine rr ?_
 exact fus (.bool (decide (0≤v1))) (.same _) h hsc (hr:=by rintro rfl;exact⟨rfl,WJ (by simp[XZ,ZG,d1V,d4b,d7M,i3m])⟩)
theorem d6Y:∀(n:Nat) (a0:Lr) (a1:(List Bs)) (WH:Int) (Zh:Bs) (Zi:(List Bs)) (Xf:(List Lr)) (YS:(List Bs)) (Zb:(List Bs)) (Zj:(List Bs)) (d1S:Int) (d1T:Bs) (d1U:(List Bs)) (XQ:(List Lr)) (m2:(List (Bs×(List Bs)))) (ZV:(List Bs)) (r:Bool) (h:Xd n a0 a1 WH Zh Zi Xf YS Zb Zj d1S d1T d1U XQ m2 ZV=some r),∀(st:St) (o0 o1 o2 o3 o4:Nat) (hnd: [o0,o1,o2,o3,o4].Nodup) (XZ:Am.look st o0=some (.arr 0 11 0 [[.int .i64 WH,.str Zh,.sl false 1 16 (rows Wt Zi),.sl false 4 72 (rows Lr.cells Xf),.sl false 1 16 (rows Wt YS),.sl false 1 16 (rows Wt Zb),.sl false 1 16 (rows Wt Zj),.int .i64 d1S,.str d1T,.sl false 1 16 (rows Wt d1U),.sl false 4 72 (rows Lr.cells XQ)]])) (ZG:Am.look st o1=some (.arr 0 1 0 [[.mp o2]])) (d1V:Am.look st o2=some (.mps false (mrw (slc 1 16 Wt) m2))) (d4b:Am.look st o3=some (.arr 0 1 0 [[.sl false 1 16 (rows Wt ZV)]])) (d7M:Am.look st o4=some (.arr 0 1 0 [[.fn 58 [] [.ptr o0 0 0 0,.ptr o1 0 0 0,.ptr o3 0 0 0,.ptr o4 0 0 0]]])),Am.Spec Tryz.prog gl 58 [.agg [.int .i64 a0.kind,.str a0.name,.sl false 1 16 (rows Wt a0.words),.sl false 4 72 (rows Lr.cells a0.subs)],.sl false 1 16 (rows Wt a1),.ptr o0 0 0 0,.ptr o1 0 0 0,.ptr o3 0 0 0,.ptr o4 0 0 0] st (fun d st'=>d= .bool r∧st'=puts st []):=by
 intro n
 induction n with
 |zero=>intro a0 a1 WH Zh Zi Xf YS Zb Zj d1S d1T d1U XQ m2 ZV r h;cases h
 |succ n ih=>
  intro a0 a1 WH Zh Zi Xf YS Zb Zj d1S d1T d1U XQ m2 ZV r h st o0 o1 o2 o3 o4 hnd XZ ZG d1V d4b d7M
  unfold Xd at h
  have ho0:=WA XZ
  have ho1:=WA ZG
  have ho2:=WA d1V
  have ho3:=WA d4b
  have ho4:=WA d7M
  have fx:=fa (fa (fa (fa (fa (idf ho0) (idf ho1)) (idf ho2)) (idf ho3)) (idf ho4)) (nd5 hnd)
  refine fb 60 [.tmp 8] [0,1,2,3,4,5,6,7,8,10,12,16,20,21,22,23,29,32,33,34,35,42,43,44,45,46,49] Tryz.func58 fun hsc=>?_
  refine ZJ (s':=(WE st [(o0,(.arr 0 11 0 [[.int .i64 WH,.str Zh,.sl false 1 16 (rows Wt Zi),.sl false 4 72 (rows Lr.cells Xf),.sl false 1 16 (rows Wt YS),.sl false 1 16 (rows Wt Zb),.sl false 1 16 (rows Wt Zj),.int .i64 d1S,.str d1T,.sl false 1 16 (rows Wt d1U),.sl false 4 72 (rows Lr.cells XQ)]])),(o1,(.arr 0 1 0 [[.mp o2]])),(o2,(.mps false (mrw (slc 1 16 Wt) m2))),(o3,(.arr 0 1 0 [[.sl false 1 16 (rows Wt ZV)]])),(o4,(.arr 0 1 0 [[.fn 58 [] [.ptr o0 0 0 0,.ptr o1 0 0 0,.ptr o3 0 0 0,.ptr o4 0 0 0]]]))])) (WJ (by simp[XZ,ZG,d1V,d4b,d7M])) ?_
  refine cl h (YT _ _) fun v1 h=>?_
  refine rn ?_
  refine d2X (YF (Xd n) ZV a0 a1 WH Zh Zi Xf YS Zb Zj d1S d1T d1U XQ m2) r (fun(gj0:Unit) (j0:Unit)=>[(4,.ptr o3 0 0 0),(5,.ptr o4 0 0 0),(6,.ptr st.length 0 0 0),(7,.ptr (st.length+1) 0 0 0)]) (fun(gj0:Unit) (j0:Unit)=>(WE st [(o0,(.arr 0 11 0 [[.int .i64 WH,.str Zh,.sl false 1 16 (rows Wt Zi),.sl false 4 72 (rows Lr.cells Xf),.sl false 1 16 (rows Wt YS),.sl false 1 16 (rows Wt Zb),.sl false 1 16 (rows Wt Zj),.int .i64 d1S,.str d1T,.sl false 1 16 (rows Wt d1U),.sl false 4 72 (rows Lr.cells XQ)]])),(o1,(.arr 0 1 0 [[.mp o2]])),(o2,(.mps false (mrw (slc 1 16 Wt) m2))),(o3,(.arr 0 1 0 [[.sl false 1 16 (rows Wt ZV)]])),(o4,(.arr 0 1 0 [[.fn 58 [] [.ptr o0 0 0 0,.ptr o1 0 0 0,.ptr o3 0 0 0,.ptr o4 0 0 0]]]))])++[some (.arr 0 4 0 [[.int .i64 a0.kind,.str a0.name,.sl false 1 16 (rows Wt a0.words),.sl false 4 72 (rows Lr.cells a0.subs)]]),some (.arr 0 1 0 [[.sl false 1 16 (rows Wt a1)]])]) (fun gj0 j0 fr1 st1 h hb=>?_) (fun hj0=>?_)
  ·try simp only[go_sem,fx]
   unfold YF at h
   refine Zk hb ?_
   refine aln 32 fun hl2=>?_
   refine rng (body:=d0K ZV a0 a1) (kk:=d0L (Xd n) a0 a1 WH Zh Zi Xf YS Zb Zj d1S d1T d1U XQ m2 ZV) (n:=a0.words.length) (s0:=())
    (fun(gs2:Unit) (k2:Nat) (s2:Unit)=>[(4,.ptr o3 0 0 0),(5,.ptr o4 0 0 0),(6,.ptr st.length 0 0 0),(7,.ptr (st.length+1) 0 0 0),(32,.sl false 1 16 (rows Wt a0.words)),(33,.int .i64 (↑a0.words.length:Int)),(34,.int .i64 (↑k2:Int))])
    (fun(gs2:Unit) (k2:Nat) (s2:Unit)=>(WE st [(o0,(.arr 0 11 0 [[.int .i64 WH,.str Zh,.sl false 1 16 (rows Wt Zi),.sl false 4 72 (rows Lr.cells Xf),.sl false 1 16 (rows Wt YS),.sl false 1 16 (rows Wt Zb),.sl false 1 16 (rows Wt Zj),.int .i64 d1S,.str d1T,.sl false 1 16 (rows Wt d1U),.sl false 4 72 (rows Lr.cells XQ)]])),(o1,(.arr 0 1 0 [[.mp o2]])),(o2,(.mps false (mrw (slc 1 16 Wt) m2))),(o3,(.arr 0 1 0 [[.sl false 1 16 (rows Wt ZV)]])),(o4,(.arr 0 1 0 [[.fn 58 [] [.ptr o0 0 0 0,.ptr o1 0 0 0,.ptr o3 0 0 0,.ptr o4 0 0 0]]]))])++[some (.arr 0 4 0 [[.int .i64 a0.kind,.str a0.name,.sl false 1 16 (rows Wt a0.words),.sl false 4 72 (rows Lr.cells a0.subs)]]),some (.arr 0 1 0 [[.sl false 1 16 (rows Wt a1)]])])
    (fun(gt2:Unit) (t2:Unit)=>[(5,.ptr o4 0 0 0),(6,.ptr st.length 0 0 0),(7,.ptr (st.length+1) 0 0 0)])
    (fun(gt2:Unit) (t2:Unit)=>(WE st [(o0,(.arr 0 11 0 [[.int .i64 WH,.str Zh,.sl false 1 16 (rows Wt Zi),.sl false 4 72 (rows Lr.cells Xf),.sl false 1 16 (rows Wt YS),.sl false 1 16 (rows Wt Zb),.sl false 1 16 (rows Wt Zj),.int .i64 d1S,.str d1T,.sl false 1 16 (rows Wt d1U),.sl false 4 72 (rows Lr.cells XQ)]])),(o1,(.arr 0 1 0 [[.mp o2]])),(o2,(.mps false (mrw (slc 1 16 Wt) m2))),(o3,(.arr 0 1 0 [[.sl false 1 16 (rows Wt ZV)]])),(o4,(.arr 0 1 0 [[.fn 58 [] [.ptr o0 0 0 0,.ptr o1 0 0 0,.ptr o3 0 0 0,.ptr o4 0 0 0]]]))])++[some (.arr 0 4 0 [[.int .i64 a0.kind,.str a0.name,.sl false 1 16 (rows Wt a0.words),.sl false 4 72 (rows Lr.cells a0.subs)]]),some (.arr 0 1 0 [[.sl false 1 16 (rows Wt a1)]])])
    () fx hl2 h (bu hsc)
    (fun gs2 k2 s2 b2 fx h hx2=>?_) (fun gs2 s2=>?_) (fun gt2 t2 fr1 st1 h hb=>?_)
   ·unfold d0K at h
    refine ct ?_
    refine cl h (Wx _ _) fun v5 h=>?_
    refine rn ?_
    obtain⟨v6,hv6,h⟩:=ZA h
    refine d2H (fun hG=>(Wx _ _ _ (i5t hv6 (by simpa using hG)))) ?_
    refine cd h (fun hc h=>?_) fun hc h=>?_
    ·refine ra ?_
     cases h
     refine XY ?_;have h:=congrArg some (hx2 _ rfl)
     refine rr ?_
     exact fuo (.bool true) (.same _) h hsc (hr:=by rintro rfl;exact⟨rfl,WJ (by simp[XZ,ZG,d1V,d4b,d7M])⟩)
    ·refine rn ?_
     cases h
     exact d2U () (bu hsc)
   ·refine cf ?_
    refine d2V ?_;simp only[go_sem,fx]
    exact⟨(),(bu hsc)⟩
   ·try simp only[go_sem,fx]
    unfold d0L at h
    refine Zk hb ?_
    refine cl h (WX _) fun v7 h=>?_
    refine rn ?_
    refine d2X (YG (Xd n) a0 WH Zh Zi Xf YS Zb Zj d1S d1T d1U XQ m2 ZV) r (fun(gj3:Unit) (j3:(List Bs))=>[(5,.ptr o4 0 0 0),(6,.ptr st.length 0 0 0),(7,.ptr (st.length+1) 0 0 0)]) (fun(gj3:Unit) (j3:(List Bs))=>(WE st [(o0,(.arr 0 11 0 [[.int .i64 WH,.str Zh,.sl false 1 16 (rows Wt Zi),.sl false 4 72 (rows Lr.cells Xf),.sl false 1 16 (rows Wt YS),.sl false 1 16 (rows Wt Zb),.sl false 1 16 (rows Wt Zj),.int .i64 d1S,.str d1T,.sl false 1 16 (rows Wt d1U),.sl false 4 72 (rows Lr.cells XQ)]])),(o1,(.arr 0 1 0 [[.mp o2]])),(o2,(.mps false (mrw (slc 1 16 Wt) m2))),(o3,(.arr 0 1 0 [[.sl false 1 16 (rows Wt ZV)]])),(o4,(.arr 0 1 0 [[.fn 58 [] [.ptr o0 0 0 0,.ptr o1 0 0 0,.ptr o3 0 0 0,.ptr o4 0 0 0]]]))])++[some (.arr 0 4 0 [[.int .i64 a0.kind,.str a0.name,.sl false 1 16 (rows Wt a0.words),.sl false 4 72 (rows Lr.cells a0.subs)]]),some (.arr 0 1 0 [[.sl false 1 16 (rows Wt j3)]])]) (fun gj3 j3 fr1 st1 h hb=>?_) (fun hj3=>?_)
    ·try simp only[go_sem,fx]
     unfold YG at h
     refine Zk hb ?_
     refine rn ?_
     obtain⟨v15,hv15,h⟩:=ZA h
     refine(d2s (Xd n) ih _ _ _ _ _ _ _ _ _ _ _ _ _ _ _ _ hv15 _ o4 o0 o1 o2 o3 (st.length+1) (by simp[fx]<;>omega) (by simp only[go_sem,fx]) (by simp only[go_sem,fx]) (by simp only[go_sem,fx]) (by simp only[go_sem,fx]) (by simp only[go_sem,fx]) (WR.trans rfl)).mono ?_
     rintro d1 st1 ⟨rfl,rfl⟩
     refine rr ?_
     exact fuo (.bool v15) (.same _) h hsc (hr:=by rintro rfl;exact⟨rfl,WJ (by simp[XZ,ZG,d1V,d4b,d7M])⟩)
    ·refine cd h (fun hc h=>?_) fun hc h=>?_
     ·(repeat apply sq_)
      refine d0f 1 16 ?_
      try simp only[List.append_assoc,List.cons_append,List.nil_append]
      refine Zk (F:=[(5,.ptr o4 0 0 0),(6,.ptr st.length 0 0 0),(7,.ptr (st.length+1) 0 0 0),(49,.bool v7)]) (T:=(WE st [(o0,(.arr 0 11 0 [[.int .i64 WH,.str Zh,.sl false 1 16 (rows Wt Zi),.sl false 4 72 (rows Lr.cells Xf),.sl false 1 16 (rows Wt YS),.sl false 1 16 (rows Wt Zb),.sl false 1 16 (rows Wt Zj),.int .i64 d1S,.str d1T,.sl false 1 16 (rows Wt d1U),.sl false 4 72 (rows Lr.cells XQ)]])),(o1,(.arr 0 1 0 [[.mp o2]])),(o2,(.mps false (mrw (slc 1 16 Wt) m2))),(o3,(.arr 0 1 0 [[.sl false 1 16 (rows Wt ZV)]])),(o4,(.arr 0 1 0 [[.fn 58 [] [.ptr o0 0 0 0,.ptr o1 0 0 0,.ptr o3 0 0 0,.ptr o4 0 0 0]]]))])++[some (.arr 0 4 0 [[.int .i64 a0.kind,.str a0.name,.sl false 1 16 (rows Wt a0.words),.sl false 4 72 (rows Lr.cells a0.subs)]]),some (.arr 0 1 0 [[.sl false 1 16 (rows Wt a1)]]),some (.arr 0 1 16 (rows Wt []))]) (d1O (by simp) (YP hsc (by simp<;>omega)) (.lv (.lv (.lv (.nil _)))) (by simp<;>omega) ⟨.s,.s,.s,.s,trivial⟩ (by simp<;>omega)) ?_
      refine rs ?_
      refine dw [1,3] 2 ?_
      obtain⟨v8,hv8,h⟩:=ZA h
      refine d2Y [(st.length+2)] (fun st2 h2=>(Xp _ _ _ hv8 st2 (st.length+2) 0 (by simp) ((h2 _ (by simp)).trans (WR.trans rfl)))) (by simp) (by simp only[List.mem_cons,List.not_mem_nil,or_false,forall_eq_or_imp,forall_eq];exact⟨by first|omega|(simp<;>omega),_,(WR.trans rfl),Ob.noConfusion⟩) (by simp) ?_
      obtain⟨c10,p1F,h⟩:=d4o h
      have fy:=(show rows Wt v8++[[.str a0.name]]=rows Wt c10 from by rw[p1F];first|exact Xi (E:=Wt) v8 [a0.name]|simp only[go_sem,rows,List.map_append,List.map_cons,List.map_nil])
      have fy:=fa fy (show v8.length+1=c10.length from by rw[p1F];simp)
      obtain⟨fx,h⟩:=ck fx h
      try simp only[go_sem,fx,fy]
      try refine⟨by first|omega|(simp<;>omega),?_⟩
      refine hj3 () _ _ _ h ?_;exact(bu hsc (hu:=(.lv (.live _ _ _ _ (.arr _ _ _ _ _ (.cons _ _ _ _ (.cons _ _ _ _ (.ref _ _ _ _ _ _ _ _ _ (WT.trans rfl) (d3c (by first|decide|simp)) (by decide) (d5x _) (by simp only[go_sem])) .nil) (.same _))) (.nil _)))))
     ·refine r0 ?_
      refine hj3 () _ _ _ h ?_;exact(bu hsc)
  ·refine cd h (fun hc h=>?_) fun hc h=>?_
   ·refine aln 20 fun hl1=>?_
    refine rng (body:=d0M a1 a0 m2) (kk:=d0N (Xd n) ZV a0 a1 WH Zh Zi Xf YS Zb Zj d1S d1T d1U XQ m2) (n:=((assoc a0.name m2).getD default).length) (s0:=())
     (fun(gs1:Unit) (k1:Nat) (s1:Unit)=>[(4,.ptr o3 0 0 0),(5,.ptr o4 0 0 0),(6,.ptr st.length 0 0 0),(7,.ptr (st.length+1) 0 0 0),(20,.sl false 1 16 (rows Wt ((assoc a0.name m2).getD default))),(21,.int .i64 (↑(((assoc a0.name m2).getD default).length):Int)),(22,.int .i64 (↑k1:Int))])
     (fun(gs1:Unit) (k1:Nat) (s1:Unit)=>(WE st [(o0,(.arr 0 11 0 [[.int .i64 WH,.str Zh,.sl false 1 16 (rows Wt Zi),.sl false 4 72 (rows Lr.cells Xf),.sl false 1 16 (rows Wt YS),.sl false 1 16 (rows Wt Zb),.sl false 1 16 (rows Wt Zj),.int .i64 d1S,.str d1T,.sl false 1 16 (rows Wt d1U),.sl false 4 72 (rows Lr.cells XQ)]])),(o1,(.arr 0 1 0 [[.mp o2]])),(o2,(.mps false (mrw (slc 1 16 Wt) m2))),(o3,(.arr 0 1 0 [[.sl false 1 16 (rows Wt ZV)]])),(o4,(.arr 0 1 0 [[.fn 58 [] [.ptr o0 0 0 0,.ptr o1 0 0 0,.ptr o3 0 0 0,.ptr o4 0 0 0]]]))])++[some (.arr 0 4 0 [[.int .i64 a0.kind,.str a0.name,.sl false 1 16 (rows Wt a0.words),.sl false 4 72 (rows Lr.cells a0.subs)]]),some (.arr 0 1 0 [[.sl false 1 16 (rows Wt a1)]])])
     (fun(gt1:Unit) (t1:Unit)=>[(4,.ptr o3 0 0 0),(5,.ptr o4 0 0 0),(6,.ptr st.length 0 0 0),(7,.ptr (st.length+1) 0 0 0)])
     (fun(gt1:Unit) (t1:Unit)=>(WE st [(o0,(.arr 0 11 0 [[.int .i64 WH,.str Zh,.sl false 1 16 (rows Wt Zi),.sl false 4 72 (rows Lr.cells Xf),.sl false 1 16 (rows Wt YS),.sl false 1 16 (rows Wt Zb),.sl false 1 16 (rows Wt Zj),.int .i64 d1S,.str d1T,.sl false 1 16 (rows Wt d1U),.sl false 4 72 (rows Lr.cells XQ)]])),(o1,(.arr 0 1 0 [[.mp o2]])),(o2,(.mps false (mrw (slc 1 16 Wt) m2))),(o3,(.arr 0 1 0 [[.sl false 1 16 (rows Wt ZV)]])),(o4,(.arr 0 1 0 [[.fn 58 [] [.ptr o0 0 0 0,.ptr o1 0 0 0,.ptr o3 0 0 0,.ptr o4 0 0 0]]]))])++[some (.arr 0 4 0 [[.int .i64 a0.kind,.str a0.name,.sl false 1 16 (rows Wt a0.words),.sl false 4 72 (rows Lr.cells a0.subs)]]),some (.arr 0 1 0 [[.sl false 1 16 (rows Wt a1)]])])
     () fx hl1 h (bu hsc)
     (fun gs1 k1 s1 b1 fx h hx1=>?_) (fun gs1 s1=>?_) (fun gt1 t1 fr1 st1 h hb=>?_)
    ·unfold d0M at h
     refine ct ?_
     refine cl h (Wx _ _) fun v2 h=>?_
     refine cd h (fun hc h=>?_) fun hc h=>?_
     ·refine ra ?_
      cases h
      refine XY ?_;have h:=congrArg some (hx1 _ rfl)
      refine rr ?_
      exact fuo (.bool true) (.same _) h hsc (hr:=by rintro rfl;exact⟨rfl,WJ (by simp[XZ,ZG,d1V,d4b,d7M])⟩)
     ·refine rn ?_
      cases h
      exact d2U () (bu hsc)
    ·refine cf ?_
     refine d2V ?_;simp only[go_sem,fx]
     exact⟨(),(bu hsc)⟩
    ·try simp only[go_sem,fx]
     unfold d0N at h
     refine hj0 () _ _ _ h ?_;exact(hb.trans (bu hsc))
   ·refine r0 ?_
    refine hj0 () _ _ _ h ?_;exact(bu hsc)
end Go.Proofs.YtfacbpehlibilaaGreatDoor
