import Derived.Test.YtfacbpehlibilaaGreatDoorTVWalk1
set_option linter.unusedVariables false
set_option linter.unusedSimpArgs false
set_option maxHeartbeats 2000000
set_option maxRecDepth 100000
namespace Go.Proofs.YtfacbpehlibilaaGreatDoor
open Go Go.Am
theorem u6T(r5m:(p6w)→((List Bs))→(Int)→(Bs)→((List Bs))→((List p6w))→((List Bs))→((List Bs))→((List Bs))→(Int)→(Bs)→((List Bs))→((List p6w))→((List (Bs×(List Bs))))→((List Bs))→Option (Bool))(r8k:∀(a0:p6w) (a1:(List Bs)) (r5q:Int) (r8I:Bs) (r8J:(List Bs)) (r5T:(List p6w)) (r8q:(List Bs)) (r8y:(List Bs)) (r8K:(List Bs)) (u1n:Int) (u1o:Bs) (u1p:(List Bs)) (r6R:(List p6w)) (m2:(List (Bs×(List Bs)))) (r9v:(List Bs)) (r:Bool) (h:r5m a0 a1 r5q r8I r8J r5T r8q r8y r8K u1n u1o u1p r6R m2 r9v=some r),∀(st:St) (o0 o1 o2 o3 o4:Nat) (hnd: [o0,o1,o2,o3,o4].Nodup) (r6Q:Am.look st o0=some (.arr 0 11 0 [[.int .i64 r5q,.str r8I,.sl false 1 16 (rows r4X r8J),.sl false 4 72 (rows p6w.cells r5T),.sl false 1 16 (rows r4X r8q),.sl false 1 16 (rows r4X r8y),.sl false 1 16 (rows r4X r8K),.int .i64 u1n,.str u1o,.sl false 1 16 (rows r4X u1p),.sl false 4 72 (rows p6w.cells r6R)]])) (r9o:Am.look st o1=some (.arr 0 1 0 [[.mp o2]])) (u1s:Am.look st o2=some (.mps false (mrw (slc 1 16 r4X) m2))) (u4q:Am.look st o3=some (.arr 0 1 0 [[.sl false 1 16 (rows r4X r9v)]])) (u8f:Am.look st o4=some (.arr 0 1 0 [[.fn 58 [] [.ptr o0 0 0 0,.ptr o1 0 0 0,.ptr o3 0 0 0,.ptr o4 0 0 0]]])),Am.Spec Tryz.prog gl 58 [.agg [.int .i64 a0.kind,.str a0.name,.sl false 1 16 (rows r4X a0.words),.sl false 4 72 (rows p6w.cells a0.subs)],.sl false 1 16 (rows r4X a1),.ptr o0 0 0 0,.ptr o1 0 0 0,.ptr o3 0 0 0,.ptr o4 0 0 0] st (fun d st'=>d= .bool r∧st'=puts st []))(a0:p6w)(r9d:Int)(w1t:Bs)(w1u:(List Bs))(w1v:(List p6w))(w1w:(List Bs))(w1x:(List Bs))(w1y:(List Bs))(w1z:Int)(w1A:Bs)(w1B:(List Bs))(u4y:(List p6w))(m3:(List (Bs×(List Bs))))(r9e:(List Bs))(r9Y:(List Bs))(r:Bool)(h:u1f r5m a0 r9d w1t w1u w1v w1w w1x w1y w1z w1A w1B u4y m3 r9e r9Y=some r):∀(st:St) (o0 o1 o2 o3 o4 o5:Nat) (hnd: [o0,o1,o2,o3,o4,o5].Nodup) (r6Q:Am.look st o0=some (.arr 0 1 0 [[.fn 58 [] [.ptr o1 0 0 0,.ptr o2 0 0 0,.ptr o4 0 0 0,.ptr o0 0 0 0]]])) (r9o:Am.look st o1=some (.arr 0 11 0 [[.int .i64 r9d,.str w1t,.sl false 1 16 (rows r4X w1u),.sl false 4 72 (rows p6w.cells w1v),.sl false 1 16 (rows r4X w1w),.sl false 1 16 (rows r4X w1x),.sl false 1 16 (rows r4X w1y),.int .i64 w1z,.str w1A,.sl false 1 16 (rows r4X w1B),.sl false 4 72 (rows p6w.cells u4y)]])) (u1s:Am.look st o2=some (.arr 0 1 0 [[.mp o3]])) (u4q:Am.look st o3=some (.mps false (mrw (slc 1 16 r4X) m3))) (u8f:Am.look st o4=some (.arr 0 1 0 [[.sl false 1 16 (rows r4X r9e)]])) (w3M:Am.look st o5=some (.arr 0 1 0 [[.sl false 1 16 (rows r4X r9Y)]])),Am.Spec Tryz.prog gl 61 [.agg [.int .i64 a0.kind,.str a0.name,.sl false 1 16 (rows r4X a0.words),.sl false 4 72 (rows p6w.cells a0.subs)],.ptr o0 0 0 0,.ptr o5 0 0 0] st (fun d st'=>d= .bool r∧st'=puts st []):=by
 intro st o0 o1 o2 o3 o4 o5 hnd r6Q r9o u1s u4q u8f w3M
 unfold u1f at h
 have ho0:=r5h r6Q
 have ho1:=r5h r9o
 have ho2:=r5h u1s
 have ho3:=r5h u4q
 have ho4:=r5h u8f
 have ho5:=r5h w3M
 have fx:=fa (fa (fa (fa (fa (fa (idf ho0) (idf ho1)) (idf ho2)) (idf ho3)) (idf ho4)) (idf ho5)) (nd6 hnd)
 refine fb 9 [.tmp 4] [0,1,2,3,4] Tryz.func61 fun hsc=>?_
 refine r8l (s':=(r5k st [(o0,(.arr 0 1 0 [[.fn 58 [] [.ptr o1 0 0 0,.ptr o2 0 0 0,.ptr o4 0 0 0,.ptr o0 0 0 0]]])),(o1,(.arr 0 11 0 [[.int .i64 r9d,.str w1t,.sl false 1 16 (rows r4X w1u),.sl false 4 72 (rows p6w.cells w1v),.sl false 1 16 (rows r4X w1w),.sl false 1 16 (rows r4X w1x),.sl false 1 16 (rows r4X w1y),.int .i64 w1z,.str w1A,.sl false 1 16 (rows r4X w1B),.sl false 4 72 (rows p6w.cells u4y)]])),(o2,(.arr 0 1 0 [[.mp o3]])),(o3,(.mps false (mrw (slc 1 16 r4X) m3))),(o4,(.arr 0 1 0 [[.sl false 1 16 (rows r4X r9e)]])),(o5,(.arr 0 1 0 [[.sl false 1 16 (rows r4X r9Y)]]))])) (r5p (by simp[r6Q,r9o,u1s,u4q,u8f,w3M])) ?_
 refine rn ?_
 obtain⟨v1,hv1,h⟩:=r7G h
 refine(r8k _ _ _ _ _ _ _ _ _ _ _ _ _ _ _ _ hv1 _ o1 o2 o3 o4 o0 (by simp[fx]<;>omega) (by simp only[go_sem,fx]) (by simp only[go_sem,fx]) (by simp only[go_sem,fx]) (by simp only[go_sem,fx]) (by simp only[go_sem,fx])).mono ?_
 rintro d1 st1 ⟨rfl,rfl⟩
 refine rr ?_
 exact fuo (.bool v1) (.same _) h hsc (hr:=by rintro rfl;exact⟨rfl,r5p (by simp[r6Q,r9o,u1s,u4q,u8f,w3M])⟩)
theorem u2K(r5m:(p6w)→((List Bs))→(Int)→(Bs)→((List Bs))→((List p6w))→((List Bs))→((List Bs))→((List Bs))→(Int)→(Bs)→((List Bs))→((List p6w))→((List (Bs×(List Bs))))→((List Bs))→Option (Bool))(r8k:∀(a0:p6w) (a1:(List Bs)) (r5q:Int) (r8I:Bs) (r8J:(List Bs)) (r5T:(List p6w)) (r8q:(List Bs)) (r8y:(List Bs)) (r8K:(List Bs)) (u1n:Int) (u1o:Bs) (u1p:(List Bs)) (r6R:(List p6w)) (m2:(List (Bs×(List Bs)))) (r9v:(List Bs)) (r:Bool) (h:r5m a0 a1 r5q r8I r8J r5T r8q r8y r8K u1n u1o u1p r6R m2 r9v=some r),∀(st:St) (o0 o1 o2 o3 o4:Nat) (hnd: [o0,o1,o2,o3,o4].Nodup) (r6Q:Am.look st o0=some (.arr 0 11 0 [[.int .i64 r5q,.str r8I,.sl false 1 16 (rows r4X r8J),.sl false 4 72 (rows p6w.cells r5T),.sl false 1 16 (rows r4X r8q),.sl false 1 16 (rows r4X r8y),.sl false 1 16 (rows r4X r8K),.int .i64 u1n,.str u1o,.sl false 1 16 (rows r4X u1p),.sl false 4 72 (rows p6w.cells r6R)]])) (r9o:Am.look st o1=some (.arr 0 1 0 [[.mp o2]])) (u1s:Am.look st o2=some (.mps false (mrw (slc 1 16 r4X) m2))) (u4q:Am.look st o3=some (.arr 0 1 0 [[.sl false 1 16 (rows r4X r9v)]])) (u8f:Am.look st o4=some (.arr 0 1 0 [[.fn 58 [] [.ptr o0 0 0 0,.ptr o1 0 0 0,.ptr o3 0 0 0,.ptr o4 0 0 0]]])),Am.Spec Tryz.prog gl 58 [.agg [.int .i64 a0.kind,.str a0.name,.sl false 1 16 (rows r4X a0.words),.sl false 4 72 (rows p6w.cells a0.subs)],.sl false 1 16 (rows r4X a1),.ptr o0 0 0 0,.ptr o1 0 0 0,.ptr o3 0 0 0,.ptr o4 0 0 0] st (fun d st'=>d= .bool r∧st'=puts st []))(a0:(List p6w))(r9d:Int)(w1t:Bs)(w1u:(List Bs))(w1v:(List p6w))(w1w:(List Bs))(w1x:(List Bs))(w1y:(List Bs))(w1z:Int)(w1A:Bs)(w1B:(List Bs))(u4y:(List p6w))(m3:(List (Bs×(List Bs))))(r9e:(List Bs))(r9Y:(List Bs))(r:Int)(h:r7e r5m a0 r9d w1t w1u w1v w1w w1x w1y w1z w1A w1B u4y m3 r9e r9Y=some r):∀(st:St) (o0 o1 o2 o3 o4 o5:Nat) (hnd: [o0,o1,o2,o3,o4,o5].Nodup) (r6Q:Am.look st o0=some (.arr 0 1 0 [[.fn 58 [] [.ptr o1 0 0 0,.ptr o2 0 0 0,.ptr o4 0 0 0,.ptr o0 0 0 0]]])) (r9o:Am.look st o1=some (.arr 0 11 0 [[.int .i64 r9d,.str w1t,.sl false 1 16 (rows r4X w1u),.sl false 4 72 (rows p6w.cells w1v),.sl false 1 16 (rows r4X w1w),.sl false 1 16 (rows r4X w1x),.sl false 1 16 (rows r4X w1y),.int .i64 w1z,.str w1A,.sl false 1 16 (rows r4X w1B),.sl false 4 72 (rows p6w.cells u4y)]])) (u1s:Am.look st o2=some (.arr 0 1 0 [[.mp o3]])) (u4q:Am.look st o3=some (.mps false (mrw (slc 1 16 r4X) m3))) (u8f:Am.look st o4=some (.arr 0 1 0 [[.sl false 1 16 (rows r4X r9e)]])) (w3M:Am.look st o5=some (.arr 0 1 0 [[.sl false 1 16 (rows r4X r9Y)]])),Am.Spec Tryz.prog gl 87 [.sl false 4 72 (rows p6w.cells a0),.fn 61 [] [.ptr o0 0 0 0,.ptr o5 0 0 0]] st (fun d st'=>d= .int .i64 r∧st'=puts st []):=by
 intro st o0 o1 o2 o3 o4 o5 hnd r6Q r9o u1s u4q u8f w3M
 unfold r7e at h
 have ho0:=r5h r6Q
 have ho1:=r5h r9o
 have ho2:=r5h u1s
 have ho3:=r5h u4q
 have ho4:=r5h u8f
 have ho5:=r5h w3M
 have fx:=fa (fa (fa (fa (fa (fa (idf ho0) (idf ho1)) (idf ho2)) (idf ho3)) (idf ho4)) (idf ho5)) (nd6 hnd)
 refine fb 19 [.tmp 4] [0,1,4,5,7,8,9,16] Tryz.func87 fun hsc=>?_
 refine r8l (s':=(r5k st [(o0,(.arr 0 1 0 [[.fn 58 [] [.ptr o1 0 0 0,.ptr o2 0 0 0,.ptr o4 0 0 0,.ptr o0 0 0 0]]])),(o1,(.arr 0 11 0 [[.int .i64 r9d,.str w1t,.sl false 1 16 (rows r4X w1u),.sl false 4 72 (rows p6w.cells w1v),.sl false 1 16 (rows r4X w1w),.sl false 1 16 (rows r4X w1x),.sl false 1 16 (rows r4X w1y),.int .i64 w1z,.str w1A,.sl false 1 16 (rows r4X w1B),.sl false 4 72 (rows p6w.cells u4y)]])),(o2,(.arr 0 1 0 [[.mp o3]])),(o3,(.mps false (mrw (slc 1 16 r4X) m3))),(o4,(.arr 0 1 0 [[.sl false 1 16 (rows r4X r9e)]])),(o5,(.arr 0 1 0 [[.sl false 1 16 (rows r4X r9Y)]]))])) (r5p (by simp[r6Q,r9o,u1s,u4q,u8f,w3M])) ?_
 refine aln 0 fun hl0=>?_
 refine rng (body:=r6x r5m a0 r9d w1t w1u w1v w1w w1x w1y w1z w1A w1B u4y m3 r9e r9Y) (kk:=r6y) (n:=a0.length) (s0:=())
  (fun(gs0:Unit) (k0:Nat) (s0:Unit)=>[(0,.sl false 4 72 (rows p6w.cells a0)),(1,.fn 61 [] [.ptr o0 0 0 0,.ptr o5 0 0 0]),(7,.int .i64 (↑a0.length:Int)),(8,.int .i64 (↑k0:Int))])
  (fun(gs0:Unit) (k0:Nat) (s0:Unit)=>(r5k st [(o0,(.arr 0 1 0 [[.fn 58 [] [.ptr o1 0 0 0,.ptr o2 0 0 0,.ptr o4 0 0 0,.ptr o0 0 0 0]]])),(o1,(.arr 0 11 0 [[.int .i64 r9d,.str w1t,.sl false 1 16 (rows r4X w1u),.sl false 4 72 (rows p6w.cells w1v),.sl false 1 16 (rows r4X w1w),.sl false 1 16 (rows r4X w1x),.sl false 1 16 (rows r4X w1y),.int .i64 w1z,.str w1A,.sl false 1 16 (rows r4X w1B),.sl false 4 72 (rows p6w.cells u4y)]])),(o2,(.arr 0 1 0 [[.mp o3]])),(o3,(.mps false (mrw (slc 1 16 r4X) m3))),(o4,(.arr 0 1 0 [[.sl false 1 16 (rows r4X r9e)]])),(o5,(.arr 0 1 0 [[.sl false 1 16 (rows r4X r9Y)]]))]))
  (fun(gt0:Unit) (t0:Unit)=>[])
  (fun(gt0:Unit) (t0:Unit)=>(r5k st [(o0,(.arr 0 1 0 [[.fn 58 [] [.ptr o1 0 0 0,.ptr o2 0 0 0,.ptr o4 0 0 0,.ptr o0 0 0 0]]])),(o1,(.arr 0 11 0 [[.int .i64 r9d,.str w1t,.sl false 1 16 (rows r4X w1u),.sl false 4 72 (rows p6w.cells w1v),.sl false 1 16 (rows r4X w1w),.sl false 1 16 (rows r4X w1x),.sl false 1 16 (rows r4X w1y),.int .i64 w1z,.str w1A,.sl false 1 16 (rows r4X w1B),.sl false 4 72 (rows p6w.cells u4y)]])),(o2,(.arr 0 1 0 [[.mp o3]])),(o3,(.mps false (mrw (slc 1 16 r4X) m3))),(o4,(.arr 0 1 0 [[.sl false 1 16 (rows r4X r9e)]])),(o5,(.arr 0 1 0 [[.sl false 1 16 (rows r4X r9Y)]]))]))
  () fx hl0 h (w6U hsc)
  (fun gs0 k0 s0 b0 fx h hx0=>?_) (fun gs0 s0=>?_) (fun gt0 t0 fr1 st1 h hb=>?_)
 ·unfold r6x at h
  refine ct ?_
  refine rn ?_
  obtain⟨v1,hv1,h⟩:=r7G h
  refine(u6T r5m r8k _ _ _ _ _ _ _ _ _ _ _ _ _ _ _ _ hv1 _ _ _ _ _ _ _ hnd (by simp only[go_sem,fx]) (by simp only[go_sem,fx]) (by simp only[go_sem,fx]) (by simp only[go_sem,fx]) (by simp only[go_sem,fx]) (by simp only[go_sem,fx])).mono ?_
  rintro d1 st1 ⟨rfl,rfl⟩
  refine cd h (fun hc h=>?_) fun hc h=>?_
  ·refine ra ?_
   cases h
   refine r7h ?_;have h:=congrArg some (hx0 _ rfl)
   refine rr ?_
   exact fus (.int .i64 (↑k0:Int)) (.same _) h hsc (hr:=by rintro rfl;exact⟨rfl,r5p (by simp[r6Q,r9o,u1s,u4q,u8f,w3M])⟩)
  ·refine rn ?_
   cases h
   exact u2o () (w6U hsc)
 ·refine cf ?_
  refine u2n ?_;simp only[go_sem,fx]
  exact⟨(),(w6U hsc)⟩
 ·try simp only[go_sem,fx]
  unfold r6y at h
  refine r6O hb ?_
  refine rr ?_
  exact fus (.int .i64 (-1)) (.same _) h hsc (hr:=by rintro rfl;exact⟨rfl,r5p (by simp[r6Q,r9o,u1s,u4q,u8f,w3M])⟩)
theorem u2f(r5m:(p6w)→((List Bs))→(Int)→(Bs)→((List Bs))→((List p6w))→((List Bs))→((List Bs))→((List Bs))→(Int)→(Bs)→((List Bs))→((List p6w))→((List (Bs×(List Bs))))→((List Bs))→Option (Bool))(r8k:∀(a0:p6w) (a1:(List Bs)) (r5q:Int) (r8I:Bs) (r8J:(List Bs)) (r5T:(List p6w)) (r8q:(List Bs)) (r8y:(List Bs)) (r8K:(List Bs)) (u1n:Int) (u1o:Bs) (u1p:(List Bs)) (r6R:(List p6w)) (m2:(List (Bs×(List Bs)))) (r9v:(List Bs)) (r:Bool) (h:r5m a0 a1 r5q r8I r8J r5T r8q r8y r8K u1n u1o u1p r6R m2 r9v=some r),∀(st:St) (o0 o1 o2 o3 o4:Nat) (hnd: [o0,o1,o2,o3,o4].Nodup) (r6Q:Am.look st o0=some (.arr 0 11 0 [[.int .i64 r5q,.str r8I,.sl false 1 16 (rows r4X r8J),.sl false 4 72 (rows p6w.cells r5T),.sl false 1 16 (rows r4X r8q),.sl false 1 16 (rows r4X r8y),.sl false 1 16 (rows r4X r8K),.int .i64 u1n,.str u1o,.sl false 1 16 (rows r4X u1p),.sl false 4 72 (rows p6w.cells r6R)]])) (r9o:Am.look st o1=some (.arr 0 1 0 [[.mp o2]])) (u1s:Am.look st o2=some (.mps false (mrw (slc 1 16 r4X) m2))) (u4q:Am.look st o3=some (.arr 0 1 0 [[.sl false 1 16 (rows r4X r9v)]])) (u8f:Am.look st o4=some (.arr 0 1 0 [[.fn 58 [] [.ptr o0 0 0 0,.ptr o1 0 0 0,.ptr o3 0 0 0,.ptr o4 0 0 0]]])),Am.Spec Tryz.prog gl 58 [.agg [.int .i64 a0.kind,.str a0.name,.sl false 1 16 (rows r4X a0.words),.sl false 4 72 (rows p6w.cells a0.subs)],.sl false 1 16 (rows r4X a1),.ptr o0 0 0 0,.ptr o1 0 0 0,.ptr o3 0 0 0,.ptr o4 0 0 0] st (fun d st'=>d= .bool r∧st'=puts st []))(a0:(List p6w))(r9d:Int)(w1t:Bs)(w1u:(List Bs))(w1v:(List p6w))(w1w:(List Bs))(w1x:(List Bs))(w1y:(List Bs))(w1z:Int)(w1A:Bs)(w1B:(List Bs))(u4y:(List p6w))(m3:(List (Bs×(List Bs))))(r9e:(List Bs))(r9Y:(List Bs))(r:Bool)(h:r6w r5m a0 r9d w1t w1u w1v w1w w1x w1y w1z w1A w1B u4y m3 r9e r9Y=some r):∀(st:St) (o0 o1 o2 o3 o4 o5:Nat) (hnd: [o0,o1,o2,o3,o4,o5].Nodup) (r6Q:Am.look st o0=some (.arr 0 1 0 [[.fn 58 [] [.ptr o1 0 0 0,.ptr o2 0 0 0,.ptr o4 0 0 0,.ptr o0 0 0 0]]])) (r9o:Am.look st o1=some (.arr 0 11 0 [[.int .i64 r9d,.str w1t,.sl false 1 16 (rows r4X w1u),.sl false 4 72 (rows p6w.cells w1v),.sl false 1 16 (rows r4X w1w),.sl false 1 16 (rows r4X w1x),.sl false 1 16 (rows r4X w1y),.int .i64 w1z,.str w1A,.sl false 1 16 (rows r4X w1B),.sl false 4 72 (rows p6w.cells u4y)]])) (u1s:Am.look st o2=some (.arr 0 1 0 [[.mp o3]])) (u4q:Am.look st o3=some (.mps false (mrw (slc 1 16 r4X) m3))) (u8f:Am.look st o4=some (.arr 0 1 0 [[.sl false 1 16 (rows r4X r9e)]])) (w3M:Am.look st o5=some (.arr 0 1 0 [[.sl false 1 16 (rows r4X r9Y)]])),Am.Spec Tryz.prog gl 60 [.sl false 4 72 (rows p6w.cells a0),.fn 61 [] [.ptr o0 0 0 0,.ptr o5 0 0 0]] st (fun d st'=>d= .bool r∧st'=puts st []):=by
 intro st o0 o1 o2 o3 o4 o5 hnd r6Q r9o u1s u4q u8f w3M
 unfold r6w at h
 have ho0:=r5h r6Q
 have ho1:=r5h r9o
 have ho2:=r5h u1s
 have ho3:=r5h u4q
 have ho4:=r5h u8f
 have ho5:=r5h w3M
 have fx:=fa (fa (fa (fa (fa (fa (idf ho0) (idf ho1)) (idf ho2)) (idf ho3)) (idf ho4)) (idf ho5)) (nd6 hnd)
 refine fb 9 [.tmp 4] [0,1,4] Tryz.func60 fun hsc=>?_
 refine r8l (s':=(r5k st [(o0,(.arr 0 1 0 [[.fn 58 [] [.ptr o1 0 0 0,.ptr o2 0 0 0,.ptr o4 0 0 0,.ptr o0 0 0 0]]])),(o1,(.arr 0 11 0 [[.int .i64 r9d,.str w1t,.sl false 1 16 (rows r4X w1u),.sl false 4 72 (rows p6w.cells w1v),.sl false 1 16 (rows r4X w1w),.sl false 1 16 (rows r4X w1x),.sl false 1 16 (rows r4X w1y),.int .i64 w1z,.str w1A,.sl false 1 16 (rows r4X w1B),.sl false 4 72 (rows p6w.cells u4y)]])),(o2,(.arr 0 1 0 [[.mp o3]])),(o3,(.mps false (mrw (slc 1 16 r4X) m3))),(o4,(.arr 0 1 0 [[.sl false 1 16 (rows r4X r9e)]])),(o5,(.arr 0 1 0 [[.sl false 1 16 (rows r4X r9Y)]]))])) (r5p (by simp[r6Q,r9o,u1s,u4q,u8f,w3M])) ?_
 refine rn ?_
 obtain⟨v1,hv1,h⟩:=r7G h
 refine(u2K r5m r8k _ _ _ _ _ _ _ _ _ _ _ _ _ _ _ _ hv1 _ _ _ _ _ _ _ hnd (by simp only[go_sem,fx]) (by simp only[go_sem,fx]) (by simp only[go_sem,fx]) (by simp only[go_sem,fx]) (by simp only[go_sem,fx]) (by simp only[go_sem,fx])).mono ?_
 rintro d1 st1 ⟨rfl,rfl⟩
 refine rr ?_
 exact fus (.bool (decide (0≤v1))) (.same _) h hsc (hr:=by rintro rfl;exact⟨rfl,r5p (by simp[r6Q,r9o,u1s,u4q,u8f,w3M])⟩)
theorem u7r:∀(n:Nat) (a0:p6w) (a1:(List Bs)) (r5q:Int) (r8I:Bs) (r8J:(List Bs)) (r5T:(List p6w)) (r8q:(List Bs)) (r8y:(List Bs)) (r8K:(List Bs)) (u1n:Int) (u1o:Bs) (u1p:(List Bs)) (r6R:(List p6w)) (m2:(List (Bs×(List Bs)))) (r9v:(List Bs)) (r:Bool) (h:r5K n a0 a1 r5q r8I r8J r5T r8q r8y r8K u1n u1o u1p r6R m2 r9v=some r),∀(st:St) (o0 o1 o2 o3 o4:Nat) (hnd: [o0,o1,o2,o3,o4].Nodup) (r6Q:Am.look st o0=some (.arr 0 11 0 [[.int .i64 r5q,.str r8I,.sl false 1 16 (rows r4X r8J),.sl false 4 72 (rows p6w.cells r5T),.sl false 1 16 (rows r4X r8q),.sl false 1 16 (rows r4X r8y),.sl false 1 16 (rows r4X r8K),.int .i64 u1n,.str u1o,.sl false 1 16 (rows r4X u1p),.sl false 4 72 (rows p6w.cells r6R)]])) (r9o:Am.look st o1=some (.arr 0 1 0 [[.mp o2]])) (u1s:Am.look st o2=some (.mps false (mrw (slc 1 16 r4X) m2))) (u4q:Am.look st o3=some (.arr 0 1 0 [[.sl false 1 16 (rows r4X r9v)]])) (u8f:Am.look st o4=some (.arr 0 1 0 [[.fn 58 [] [.ptr o0 0 0 0,.ptr o1 0 0 0,.ptr o3 0 0 0,.ptr o4 0 0 0]]])),Am.Spec Tryz.prog gl 58 [.agg [.int .i64 a0.kind,.str a0.name,.sl false 1 16 (rows r4X a0.words),.sl false 4 72 (rows p6w.cells a0.subs)],.sl false 1 16 (rows r4X a1),.ptr o0 0 0 0,.ptr o1 0 0 0,.ptr o3 0 0 0,.ptr o4 0 0 0] st (fun d st'=>d= .bool r∧st'=puts st []):=by
 intro n
 induction n with
 |zero=>intro a0 a1 r5q r8I r8J r5T r8q r8y r8K u1n u1o u1p r6R m2 r9v r h;cases h
 |succ n ih=>
  intro a0 a1 r5q r8I r8J r5T r8q r8y r8K u1n u1o u1p r6R m2 r9v r h st o0 o1 o2 o3 o4 hnd r6Q r9o u1s u4q u8f
  unfold r5K at h
  have ho0:=r5h r6Q
  have ho1:=r5h r9o
  have ho2:=r5h u1s
  have ho3:=r5h u4q
  have ho4:=r5h u8f
  have fx:=fa (fa (fa (fa (fa (idf ho0) (idf ho1)) (idf ho2)) (idf ho3)) (idf ho4)) (nd5 hnd)
  refine fb 60 [.tmp 8] [0,1,2,3,4,5,6,7,8,10,12,16,20,21,22,23,29,32,33,34,35,42,43,44,45,46,49] Tryz.func58 fun hsc=>?_
  refine r8l (s':=(r5k st [(o0,(.arr 0 11 0 [[.int .i64 r5q,.str r8I,.sl false 1 16 (rows r4X r8J),.sl false 4 72 (rows p6w.cells r5T),.sl false 1 16 (rows r4X r8q),.sl false 1 16 (rows r4X r8y),.sl false 1 16 (rows r4X r8K),.int .i64 u1n,.str u1o,.sl false 1 16 (rows r4X u1p),.sl false 4 72 (rows p6w.cells r6R)]])),(o1,(.arr 0 1 0 [[.mp o2]])),(o2,(.mps false (mrw (slc 1 16 r4X) m2))),(o3,(.arr 0 1 0 [[.sl false 1 16 (rows r4X r9v)]])),(o4,(.arr 0 1 0 [[.fn 58 [] [.ptr o0 0 0 0,.ptr o1 0 0 0,.ptr o3 0 0 0,.ptr o4 0 0 0]]]))])) (r5p (by simp[r6Q,r9o,u1s,u4q,u8f])) ?_
  refine cl h (r8v _ _) fun v1 h=>?_
  refine rn ?_
  refine r9E (r7R (r5K n) r9v a0 a1 r5q r8I r8J r5T r8q r8y r8K u1n u1o u1p r6R m2) r (fun(gj0:Unit) (j0:Unit)=>[(4,.ptr o3 0 0 0),(5,.ptr o4 0 0 0),(6,.ptr st.length 0 0 0),(7,.ptr (st.length+1) 0 0 0)]) (fun(gj0:Unit) (j0:Unit)=>(r5k st [(o0,(.arr 0 11 0 [[.int .i64 r5q,.str r8I,.sl false 1 16 (rows r4X r8J),.sl false 4 72 (rows p6w.cells r5T),.sl false 1 16 (rows r4X r8q),.sl false 1 16 (rows r4X r8y),.sl false 1 16 (rows r4X r8K),.int .i64 u1n,.str u1o,.sl false 1 16 (rows r4X u1p),.sl false 4 72 (rows p6w.cells r6R)]])),(o1,(.arr 0 1 0 [[.mp o2]])),(o2,(.mps false (mrw (slc 1 16 r4X) m2))),(o3,(.arr 0 1 0 [[.sl false 1 16 (rows r4X r9v)]])),(o4,(.arr 0 1 0 [[.fn 58 [] [.ptr o0 0 0 0,.ptr o1 0 0 0,.ptr o3 0 0 0,.ptr o4 0 0 0]]]))])++[some (.arr 0 4 0 [[.int .i64 a0.kind,.str a0.name,.sl false 1 16 (rows r4X a0.words),.sl false 4 72 (rows p6w.cells a0.subs)]]),some (.arr 0 1 0 [[.sl false 1 16 (rows r4X a1)]])]) (fun gj0 j0 fr1 st1 h hb=>?_) (fun hj0=>?_)
  ·try simp only[go_sem,fx]
   unfold r7R at h
   refine r6O hb ?_
   refine aln 32 fun hl2=>?_
   refine rng (body:=u0f r9v a0 a1) (kk:=u0g (r5K n) a0 a1 r5q r8I r8J r5T r8q r8y r8K u1n u1o u1p r6R m2 r9v) (n:=a0.words.length) (s0:=())
    (fun(gs2:Unit) (k2:Nat) (s2:Unit)=>[(4,.ptr o3 0 0 0),(5,.ptr o4 0 0 0),(6,.ptr st.length 0 0 0),(7,.ptr (st.length+1) 0 0 0),(32,.sl false 1 16 (rows r4X a0.words)),(33,.int .i64 (↑a0.words.length:Int)),(34,.int .i64 (↑k2:Int))])
    (fun(gs2:Unit) (k2:Nat) (s2:Unit)=>(r5k st [(o0,(.arr 0 11 0 [[.int .i64 r5q,.str r8I,.sl false 1 16 (rows r4X r8J),.sl false 4 72 (rows p6w.cells r5T),.sl false 1 16 (rows r4X r8q),.sl false 1 16 (rows r4X r8y),.sl false 1 16 (rows r4X r8K),.int .i64 u1n,.str u1o,.sl false 1 16 (rows r4X u1p),.sl false 4 72 (rows p6w.cells r6R)]])),(o1,(.arr 0 1 0 [[.mp o2]])),(o2,(.mps false (mrw (slc 1 16 r4X) m2))),(o3,(.arr 0 1 0 [[.sl false 1 16 (rows r4X r9v)]])),(o4,(.arr 0 1 0 [[.fn 58 [] [.ptr o0 0 0 0,.ptr o1 0 0 0,.ptr o3 0 0 0,.ptr o4 0 0 0]]]))])++[some (.arr 0 4 0 [[.int .i64 a0.kind,.str a0.name,.sl false 1 16 (rows r4X a0.words),.sl false 4 72 (rows p6w.cells a0.subs)]]),some (.arr 0 1 0 [[.sl false 1 16 (rows r4X a1)]])])
    (fun(gt2:Unit) (t2:Unit)=>[(5,.ptr o4 0 0 0),(6,.ptr st.length 0 0 0),(7,.ptr (st.length+1) 0 0 0)])
    (fun(gt2:Unit) (t2:Unit)=>(r5k st [(o0,(.arr 0 11 0 [[.int .i64 r5q,.str r8I,.sl false 1 16 (rows r4X r8J),.sl false 4 72 (rows p6w.cells r5T),.sl false 1 16 (rows r4X r8q),.sl false 1 16 (rows r4X r8y),.sl false 1 16 (rows r4X r8K),.int .i64 u1n,.str u1o,.sl false 1 16 (rows r4X u1p),.sl false 4 72 (rows p6w.cells r6R)]])),(o1,(.arr 0 1 0 [[.mp o2]])),(o2,(.mps false (mrw (slc 1 16 r4X) m2))),(o3,(.arr 0 1 0 [[.sl false 1 16 (rows r4X r9v)]])),(o4,(.arr 0 1 0 [[.fn 58 [] [.ptr o0 0 0 0,.ptr o1 0 0 0,.ptr o3 0 0 0,.ptr o4 0 0 0]]]))])++[some (.arr 0 4 0 [[.int .i64 a0.kind,.str a0.name,.sl false 1 16 (rows r4X a0.words),.sl false 4 72 (rows p6w.cells a0.subs)]]),some (.arr 0 1 0 [[.sl false 1 16 (rows r4X a1)]])])
    () fx hl2 h (bu hsc)
    (fun gs2 k2 s2 b2 fx h hx2=>?_) (fun gs2 s2=>?_) (fun gt2 t2 fr1 st1 h hb=>?_)
   ·unfold u0f at h
    refine ct ?_
    refine cl h (r5f _ _) fun v5 h=>?_
    refine rn ?_
    obtain⟨v6,hv6,h⟩:=r7G h
    refine u0C (fun hG=>(r5f _ _ _ (w1s hv6 (by simpa using hG)))) ?_
    refine cd h (fun hc h=>?_) fun hc h=>?_
    ·refine ra ?_
     cases h
     refine r7h ?_;have h:=congrArg some (hx2 _ rfl)
     refine rr ?_
     exact fuo (.bool true) (.same _) h hsc (hr:=by rintro rfl;exact⟨rfl,r5p (by simp[r6Q,r9o,u1s,u4q,u8f])⟩)
    ·refine rn ?_
     cases h
     exact u2o () (bu hsc)
   ·refine cf ?_
    refine u2n ?_;simp only[go_sem,fx]
    exact⟨(),(bu hsc)⟩
   ·try simp only[go_sem,fx]
    unfold u0g at h
    refine r6O hb ?_
    refine cl h (r5F _) fun v7 h=>?_
    refine rn ?_
    refine r9E (r7S (r5K n) a0 r5q r8I r8J r5T r8q r8y r8K u1n u1o u1p r6R m2 r9v) r (fun(gj3:Unit) (j3:(List Bs))=>[(5,.ptr o4 0 0 0),(6,.ptr st.length 0 0 0),(7,.ptr (st.length+1) 0 0 0)]) (fun(gj3:Unit) (j3:(List Bs))=>(r5k st [(o0,(.arr 0 11 0 [[.int .i64 r5q,.str r8I,.sl false 1 16 (rows r4X r8J),.sl false 4 72 (rows p6w.cells r5T),.sl false 1 16 (rows r4X r8q),.sl false 1 16 (rows r4X r8y),.sl false 1 16 (rows r4X r8K),.int .i64 u1n,.str u1o,.sl false 1 16 (rows r4X u1p),.sl false 4 72 (rows p6w.cells r6R)]])),(o1,(.arr 0 1 0 [[.mp o2]])),(o2,(.mps false (mrw (slc 1 16 r4X) m2))),(o3,(.arr 0 1 0 [[.sl false 1 16 (rows r4X r9v)]])),(o4,(.arr 0 1 0 [[.fn 58 [] [.ptr o0 0 0 0,.ptr o1 0 0 0,.ptr o3 0 0 0,.ptr o4 0 0 0]]]))])++[some (.arr 0 4 0 [[.int .i64 a0.kind,.str a0.name,.sl false 1 16 (rows r4X a0.words),.sl false 4 72 (rows p6w.cells a0.subs)]]),some (.arr 0 1 0 [[.sl false 1 16 (rows r4X j3)]])]) (fun gj3 j3 fr1 st1 h hb=>?_) (fun hj3=>?_)
    ·try simp only[go_sem,fx]
     unfold r7S at h
     refine r6O hb ?_
     refine rn ?_
     obtain⟨v15,hv15,h⟩:=r7G h
     refine(u2f (r5K n) ih _ _ _ _ _ _ _ _ _ _ _ _ _ _ _ _ hv15 _ o4 o0 o1 o2 o3 (st.length+1) (by simp[fx]<;>omega) (by simp only[go_sem,fx]) (by simp only[go_sem,fx]) (by simp only[go_sem,fx]) (by simp only[go_sem,fx]) (by simp only[go_sem,fx]) (r5x.trans rfl)).mono ?_
     rintro d1 st1 ⟨rfl,rfl⟩
     refine rr ?_
     exact fuo (.bool v15) (.same _) h hsc (hr:=by rintro rfl;exact⟨rfl,r5p (by simp[r6Q,r9o,u1s,u4q,u8f])⟩)
    ·refine cd h (fun hc h=>?_) fun hc h=>?_
     ·(repeat apply sq_)
      refine r9q 1 16 ?_
      try simp only[List.append_assoc,List.cons_append,List.nil_append]
      refine r6O (F:=[(5,.ptr o4 0 0 0),(6,.ptr st.length 0 0 0),(7,.ptr (st.length+1) 0 0 0),(49,.bool v7)]) (T:=(r5k st [(o0,(.arr 0 11 0 [[.int .i64 r5q,.str r8I,.sl false 1 16 (rows r4X r8J),.sl false 4 72 (rows p6w.cells r5T),.sl false 1 16 (rows r4X r8q),.sl false 1 16 (rows r4X r8y),.sl false 1 16 (rows r4X r8K),.int .i64 u1n,.str u1o,.sl false 1 16 (rows r4X u1p),.sl false 4 72 (rows p6w.cells r6R)]])),(o1,(.arr 0 1 0 [[.mp o2]])),(o2,(.mps false (mrw (slc 1 16 r4X) m2))),(o3,(.arr 0 1 0 [[.sl false 1 16 (rows r4X r9v)]])),(o4,(.arr 0 1 0 [[.fn 58 [] [.ptr o0 0 0 0,.ptr o1 0 0 0,.ptr o3 0 0 0,.ptr o4 0 0 0]]]))])++[some (.arr 0 4 0 [[.int .i64 a0.kind,.str a0.name,.sl false 1 16 (rows r4X a0.words),.sl false 4 72 (rows p6w.cells a0.subs)]]),some (.arr 0 1 0 [[.sl false 1 16 (rows r4X a1)]]),some (.arr 0 1 16 (rows r4X []))]) (u0G (by simp) (r7P hsc (by simp<;>omega)) (.lv (.lv (.lv (.nil _)))) (by simp<;>omega) ⟨.s,.s,.s,.s,trivial⟩ (by simp<;>omega)) ?_
      refine rs ?_
      refine dw [1,3] 2 ?_
      obtain⟨v8,hv8,h⟩:=r7G h
      refine u2j [(st.length+2)] (fun st2 h2=>(r6i _ _ _ hv8 st2 (st.length+2) 0 (by simp) ((h2 _ (by simp)).trans (r5x.trans rfl)))) (by simp) (by simp only[List.mem_cons,List.not_mem_nil,or_false,forall_eq_or_imp,forall_eq];exact⟨by first|omega|(simp<;>omega),_,(r5x.trans rfl),Ob.noConfusion⟩) (by simp) ?_
      obtain⟨c10,x1J,h⟩:=u2v h
      have fy:=(show rows r4X v8++[[.str a0.name]]=rows r4X c10 from by rw[x1J];first|exact r5y (E:=r4X) v8 [a0.name]|simp only[go_sem,rows,List.map_append,List.map_cons,List.map_nil])
      have fy:=fa fy (show v8.length+1=c10.length from by rw[x1J];simp)
      obtain⟨fx,h⟩:=ck fx h
      try simp only[go_sem,fx,fy]
      try refine⟨by first|omega|(simp<;>omega),?_⟩
      refine hj3 () _ _ _ h ?_;exact(bu hsc (hu:=(.lv (.live _ _ _ _ (.arr _ _ _ _ _ (.cons _ _ _ _ (.cons _ _ _ _ (.ref _ _ _ _ _ _ _ _ _ (r5u.trans rfl) (u0Z (by first|decide|simp)) (by decide) (u4I _) (by simp only[go_sem])) .nil) (.same _))) (.nil _)))))
     ·refine r0 ?_
      refine hj3 () _ _ _ h ?_;exact(bu hsc)
  ·refine cd h (fun hc h=>?_) fun hc h=>?_
   ·refine aln 20 fun hl1=>?_
    refine rng (body:=u0h a1 a0 m2) (kk:=u0i (r5K n) r9v a0 a1 r5q r8I r8J r5T r8q r8y r8K u1n u1o u1p r6R m2) (n:=((assoc a0.name m2).getD default).length) (s0:=())
     (fun(gs1:Unit) (k1:Nat) (s1:Unit)=>[(4,.ptr o3 0 0 0),(5,.ptr o4 0 0 0),(6,.ptr st.length 0 0 0),(7,.ptr (st.length+1) 0 0 0),(20,.sl false 1 16 (rows r4X ((assoc a0.name m2).getD default))),(21,.int .i64 (↑(((assoc a0.name m2).getD default).length):Int)),(22,.int .i64 (↑k1:Int))])
     (fun(gs1:Unit) (k1:Nat) (s1:Unit)=>(r5k st [(o0,(.arr 0 11 0 [[.int .i64 r5q,.str r8I,.sl false 1 16 (rows r4X r8J),.sl false 4 72 (rows p6w.cells r5T),.sl false 1 16 (rows r4X r8q),.sl false 1 16 (rows r4X r8y),.sl false 1 16 (rows r4X r8K),.int .i64 u1n,.str u1o,.sl false 1 16 (rows r4X u1p),.sl false 4 72 (rows p6w.cells r6R)]])),(o1,(.arr 0 1 0 [[.mp o2]])),(o2,(.mps false (mrw (slc 1 16 r4X) m2))),(o3,(.arr 0 1 0 [[.sl false 1 16 (rows r4X r9v)]])),(o4,(.arr 0 1 0 [[.fn 58 [] [.ptr o0 0 0 0,.ptr o1 0 0 0,.ptr o3 0 0 0,.ptr o4 0 0 0]]]))])++[some (.arr 0 4 0 [[.int .i64 a0.kind,.str a0.name,.sl false 1 16 (rows r4X a0.words),.sl false 4 72 (rows p6w.cells a0.subs)]]),some (.arr 0 1 0 [[.sl false 1 16 (rows r4X a1)]])])
     (fun(gt1:Unit) (t1:Unit)=>[(4,.ptr o3 0 0 0),(5,.ptr o4 0 0 0),(6,.ptr st.length 0 0 0),(7,.ptr (st.length+1) 0 0 0)])
     (fun(gt1:Unit) (t1:Unit)=>(r5k st [(o0,(.arr 0 11 0 [[.int .i64 r5q,.str r8I,.sl false 1 16 (rows r4X r8J),.sl false 4 72 (rows p6w.cells r5T),.sl false 1 16 (rows r4X r8q),.sl false 1 16 (rows r4X r8y),.sl false 1 16 (rows r4X r8K),.int .i64 u1n,.str u1o,.sl false 1 16 (rows r4X u1p),.sl false 4 72 (rows p6w.cells r6R)]])),(o1,(.arr 0 1 0 [[.mp o2]])),(o2,(.mps false (mrw (slc 1 16 r4X) m2))),(o3,(.arr 0 1 0 [[.sl false 1 16 (rows r4X r9v)]])),(o4,(.arr 0 1 0 [[.fn 58 [] [.ptr o0 0 0 0,.ptr o1 0 0 0,.ptr o3 0 0 0,.ptr o4 0 0 0]]]))])++[some (.arr 0 4 0 [[.int .i64 a0.kind,.str a0.name,.sl false 1 16 (rows r4X a0.words),.sl false 4 72 (rows p6w.cells a0.subs)]]),some (.arr 0 1 0 [[.sl false 1 16 (rows r4X a1)]])])
     () fx hl1 h (bu hsc)
     (fun gs1 k1 s1 b1 fx h hx1=>?_) (fun gs1 s1=>?_) (fun gt1 t1 fr1 st1 h hb=>?_)
    ·unfold u0h at h
     refine ct ?_
     refine cl h (r5f _ _) fun v2 h=>?_
     refine cd h (fun hc h=>?_) fun hc h=>?_
     ·refine ra ?_
      cases h
      refine r7h ?_;have h:=congrArg some (hx1 _ rfl)
      refine rr ?_
      exact fuo (.bool true) (.same _) h hsc (hr:=by rintro rfl;exact⟨rfl,r5p (by simp[r6Q,r9o,u1s,u4q,u8f])⟩)
     ·refine rn ?_
      cases h
      exact u2o () (bu hsc)
    ·refine cf ?_
     refine u2n ?_;simp only[go_sem,fx]
     exact⟨(),(bu hsc)⟩
    ·try simp only[go_sem,fx]
     unfold u0i at h
     refine hj0 () _ _ _ h ?_;exact(hb.trans (bu hsc))
   ·refine r0 ?_
    refine hj0 () _ _ _ h ?_;exact(bu hsc)
end Go.Proofs.YtfacbpehlibilaaGreatDoor
