import Derived.Test.YtanlbioodbnakaaGreatDoorTTWalk1
set_option linter.unusedVariables false
set_option linter.unusedSimpArgs false
set_option maxHeartbeats 2000000
set_option maxRecDepth 100000
namespace Go.Proofs.YtanlbioodbnakaaGreatDoor
open Go Go.Am
theorem pT(n:Nat)(a0:A8)(r:(List (Bs×(List Bs))))(h:gL n a0=some r):∀st:St,Am.Spec Tryz.prog gl 79 [.agg [.int .i64 a0.form.kind,.str a0.form.name,.sl false 1 16 (rows w8 a0.form.words),.sl false 4 72 (rows u5.cells a0.form.subs),.sl false 1 16 (rows w8 a0.words),.sl false 1 16 (rows w8 a0.E9),.sl false 1 16 (rows w8 a0.parts)]] st (fun d st'=>d= .mp (st.length+1)∧st'=st++[none,some (.mps false (mrw (slc 1 16 w8) r))]):=by
 intro st
 unfold gL at h
 have fx:=trivial
 refine fb 12 [.tmp 2] [0,1,2,3,4] Tryz.func79 fun hsc=>?_
 refine rn ?_
 obtain⟨v1,hv1,h⟩:=J5 h
 refine((oR n _ _ _ _ _ _ _ _ _ _ _ hv1 _ _ _ _ _ (by simp) (V9.trans rfl) (eM.trans rfl) (eM.trans rfl) (eM.trans rfl)).up (.cons _ _ _ _ .s (.cons _ _ _ _ (.B2 _ _ _ (by decide)) (.cons _ _ _ _ .s (.cons _ _ _ _ .s (.cons _ _ _ _ .s .nil))))) (by simp<;>omega)).mono ?_
 rintro d1 st1 ⟨rfl,rfl⟩
 refine rr ?_
 exact fnw [none,some (.mps false (mrw (slc 1 16 w8) []))] (.mp (st.length+1)) (.same _) h hsc
theorem mP(C1:(u5)→((List Bs))→(Int)→(Bs)→((List Bs))→((List u5))→((List Bs))→((List Bs))→((List Bs))→(Int)→(Bs)→((List Bs))→((List u5))→((List (Bs×(List Bs))))→((List Bs))→Option (Bool))(P4:∀(a0:u5) (a1:(List Bs)) (B7:Int) (I8:Bs) (I9:(List Bs)) (E0:(List u5)) (K8:(List Bs)) (L5:(List Bs)) (L7:(List Bs)) (cN:Int) (cO:Bs) (cP:(List Bs)) (J7:(List u5)) (m2:(List (Bs×(List Bs)))) (Y3:(List Bs)) (r:Bool) (h:C1 a0 a1 B7 I8 I9 E0 K8 L5 L7 cN cO cP J7 m2 Y3=some r),∀(st:St) (o0 o1 o2 o3 o4:Nat) (hnd: [o0,o1,o2,o3,o4].Nodup) (G2:Am.look st o0=some (.arr 0 11 0 [[.int .i64 B7,.str I8,.sl false 1 16 (rows w8 I9),.sl false 4 72 (rows u5.cells E0),.sl false 1 16 (rows w8 K8),.sl false 1 16 (rows w8 L5),.sl false 1 16 (rows w8 L7),.int .i64 cN,.str cO,.sl false 1 16 (rows w8 cP),.sl false 4 72 (rows u5.cells J7)]])) (P9:Am.look st o1=some (.arr 0 1 0 [[.mp o2]])) (aY:Am.look st o2=some (.mps false (mrw (slc 1 16 w8) m2))) (jI:Am.look st o3=some (.arr 0 1 0 [[.sl false 1 16 (rows w8 Y3)]])) (oU:Am.look st o4=some (.arr 0 1 0 [[.fn 80 [] [.ptr o0 0 0 0,.ptr o1 0 0 0,.ptr o3 0 0 0,.ptr o4 0 0 0]]])),Am.Spec Tryz.prog gl 80 [.agg [.int .i64 a0.kind,.str a0.name,.sl false 1 16 (rows w8 a0.words),.sl false 4 72 (rows u5.cells a0.subs)],.sl false 1 16 (rows w8 a1),.ptr o0 0 0 0,.ptr o1 0 0 0,.ptr o3 0 0 0,.ptr o4 0 0 0] st (fun d st'=>d= .bool r∧st'=puts st []))(a0:u5)(P5:Int)(mK:Bs)(mL:(List Bs))(tL:(List u5))(tM:(List Bs))(tN:(List Bs))(tO:(List Bs))(tP:Int)(tQ:Bs)(tR:(List Bs))(jd:(List u5))(m3:(List (Bs×(List Bs))))(U8:(List Bs))(av:(List Bs))(r:Bool)(h:fU C1 a0 P5 mK mL tL tM tN tO tP tQ tR jd m3 U8 av=some r):∀(st:St) (o0 o1 o2 o3 o4 o5:Nat) (hnd: [o0,o1,o2,o3,o4,o5].Nodup) (G2:Am.look st o0=some (.arr 0 1 0 [[.fn 80 [] [.ptr o1 0 0 0,.ptr o2 0 0 0,.ptr o4 0 0 0,.ptr o0 0 0 0]]])) (P9:Am.look st o1=some (.arr 0 11 0 [[.int .i64 P5,.str mK,.sl false 1 16 (rows w8 mL),.sl false 4 72 (rows u5.cells tL),.sl false 1 16 (rows w8 tM),.sl false 1 16 (rows w8 tN),.sl false 1 16 (rows w8 tO),.int .i64 tP,.str tQ,.sl false 1 16 (rows w8 tR),.sl false 4 72 (rows u5.cells jd)]])) (aY:Am.look st o2=some (.arr 0 1 0 [[.mp o3]])) (jI:Am.look st o3=some (.mps false (mrw (slc 1 16 w8) m3))) (oU:Am.look st o4=some (.arr 0 1 0 [[.sl false 1 16 (rows w8 U8)]])) (wQ:Am.look st o5=some (.arr 0 1 0 [[.sl false 1 16 (rows w8 av)]])),Am.Spec Tryz.prog gl 83 [.agg [.int .i64 a0.kind,.str a0.name,.sl false 1 16 (rows w8 a0.words),.sl false 4 72 (rows u5.cells a0.subs)],.ptr o0 0 0 0,.ptr o5 0 0 0] st (fun d st'=>d= .bool r∧st'=puts st []):=by
 intro st o0 o1 o2 o3 o4 o5 hnd G2 P9 aY jI oU wQ
 unfold fU at h
 have ho0:=B5 G2
 have ho1:=B5 P9
 have ho2:=B5 aY
 have ho3:=B5 jI
 have ho4:=B5 oU
 have ho5:=B5 wQ
 have fx:=fa (fa (fa (fa (fa (fa (idf ho0) (idf ho1)) (idf ho2)) (idf ho3)) (idf ho4)) (idf ho5)) (nd6 hnd)
 refine fb 9 [.tmp 4] [0,1,2,3,4] Tryz.func83 fun hsc=>?_
 refine T6 (s':=(C0 st [(o0,(.arr 0 1 0 [[.fn 80 [] [.ptr o1 0 0 0,.ptr o2 0 0 0,.ptr o4 0 0 0,.ptr o0 0 0 0]]])),(o1,(.arr 0 11 0 [[.int .i64 P5,.str mK,.sl false 1 16 (rows w8 mL),.sl false 4 72 (rows u5.cells tL),.sl false 1 16 (rows w8 tM),.sl false 1 16 (rows w8 tN),.sl false 1 16 (rows w8 tO),.int .i64 tP,.str tQ,.sl false 1 16 (rows w8 tR),.sl false 4 72 (rows u5.cells jd)]])),(o2,(.arr 0 1 0 [[.mp o3]])),(o3,(.mps false (mrw (slc 1 16 w8) m3))),(o4,(.arr 0 1 0 [[.sl false 1 16 (rows w8 U8)]])),(o5,(.arr 0 1 0 [[.sl false 1 16 (rows w8 av)]]))])) (B6 (by simp[G2,P9,aY,jI,oU,wQ])) ?_
 refine rn ?_
 obtain⟨v1,hv1,h⟩:=J5 h
 refine(P4 _ _ _ _ _ _ _ _ _ _ _ _ _ _ _ _ hv1 _ o1 o2 o3 o4 o0 (by simp[fx]<;>omega) (by simp only[go_sem,fx]) (by simp only[go_sem,fx]) (by simp only[go_sem,fx]) (by simp only[go_sem,fx]) (by simp only[go_sem,fx])).mono ?_
 rintro d1 st1 ⟨rfl,rfl⟩
 refine rr ?_
 exact fuo (.bool v1) (.same _) h hsc (hr:=by rintro rfl;exact⟨rfl,B6 (by simp[G2,P9,aY,jI,oU,wQ])⟩)
theorem fK(C1:(u5)→((List Bs))→(Int)→(Bs)→((List Bs))→((List u5))→((List Bs))→((List Bs))→((List Bs))→(Int)→(Bs)→((List Bs))→((List u5))→((List (Bs×(List Bs))))→((List Bs))→Option (Bool))(P4:∀(a0:u5) (a1:(List Bs)) (B7:Int) (I8:Bs) (I9:(List Bs)) (E0:(List u5)) (K8:(List Bs)) (L5:(List Bs)) (L7:(List Bs)) (cN:Int) (cO:Bs) (cP:(List Bs)) (J7:(List u5)) (m2:(List (Bs×(List Bs)))) (Y3:(List Bs)) (r:Bool) (h:C1 a0 a1 B7 I8 I9 E0 K8 L5 L7 cN cO cP J7 m2 Y3=some r),∀(st:St) (o0 o1 o2 o3 o4:Nat) (hnd: [o0,o1,o2,o3,o4].Nodup) (G2:Am.look st o0=some (.arr 0 11 0 [[.int .i64 B7,.str I8,.sl false 1 16 (rows w8 I9),.sl false 4 72 (rows u5.cells E0),.sl false 1 16 (rows w8 K8),.sl false 1 16 (rows w8 L5),.sl false 1 16 (rows w8 L7),.int .i64 cN,.str cO,.sl false 1 16 (rows w8 cP),.sl false 4 72 (rows u5.cells J7)]])) (P9:Am.look st o1=some (.arr 0 1 0 [[.mp o2]])) (aY:Am.look st o2=some (.mps false (mrw (slc 1 16 w8) m2))) (jI:Am.look st o3=some (.arr 0 1 0 [[.sl false 1 16 (rows w8 Y3)]])) (oU:Am.look st o4=some (.arr 0 1 0 [[.fn 80 [] [.ptr o0 0 0 0,.ptr o1 0 0 0,.ptr o3 0 0 0,.ptr o4 0 0 0]]])),Am.Spec Tryz.prog gl 80 [.agg [.int .i64 a0.kind,.str a0.name,.sl false 1 16 (rows w8 a0.words),.sl false 4 72 (rows u5.cells a0.subs)],.sl false 1 16 (rows w8 a1),.ptr o0 0 0 0,.ptr o1 0 0 0,.ptr o3 0 0 0,.ptr o4 0 0 0] st (fun d st'=>d= .bool r∧st'=puts st []))(a0:(List u5))(P5:Int)(mK:Bs)(mL:(List Bs))(tL:(List u5))(tM:(List Bs))(tN:(List Bs))(tO:(List Bs))(tP:Int)(tQ:Bs)(tR:(List Bs))(jd:(List u5))(m3:(List (Bs×(List Bs))))(U8:(List Bs))(av:(List Bs))(r:Int)(h:K5 C1 a0 P5 mK mL tL tM tN tO tP tQ tR jd m3 U8 av=some r):∀(st:St) (o0 o1 o2 o3 o4 o5:Nat) (hnd: [o0,o1,o2,o3,o4,o5].Nodup) (G2:Am.look st o0=some (.arr 0 1 0 [[.fn 80 [] [.ptr o1 0 0 0,.ptr o2 0 0 0,.ptr o4 0 0 0,.ptr o0 0 0 0]]])) (P9:Am.look st o1=some (.arr 0 11 0 [[.int .i64 P5,.str mK,.sl false 1 16 (rows w8 mL),.sl false 4 72 (rows u5.cells tL),.sl false 1 16 (rows w8 tM),.sl false 1 16 (rows w8 tN),.sl false 1 16 (rows w8 tO),.int .i64 tP,.str tQ,.sl false 1 16 (rows w8 tR),.sl false 4 72 (rows u5.cells jd)]])) (aY:Am.look st o2=some (.arr 0 1 0 [[.mp o3]])) (jI:Am.look st o3=some (.mps false (mrw (slc 1 16 w8) m3))) (oU:Am.look st o4=some (.arr 0 1 0 [[.sl false 1 16 (rows w8 U8)]])) (wQ:Am.look st o5=some (.arr 0 1 0 [[.sl false 1 16 (rows w8 av)]])),Am.Spec Tryz.prog gl 119 [.sl false 4 72 (rows u5.cells a0),.fn 83 [] [.ptr o0 0 0 0,.ptr o5 0 0 0]] st (fun d st'=>d= .int .i64 r∧st'=puts st []):=by
 intro st o0 o1 o2 o3 o4 o5 hnd G2 P9 aY jI oU wQ
 unfold K5 at h
 have ho0:=B5 G2
 have ho1:=B5 P9
 have ho2:=B5 aY
 have ho3:=B5 jI
 have ho4:=B5 oU
 have ho5:=B5 wQ
 have fx:=fa (fa (fa (fa (fa (fa (idf ho0) (idf ho1)) (idf ho2)) (idf ho3)) (idf ho4)) (idf ho5)) (nd6 hnd)
 refine fb 19 [.tmp 4] [0,1,4,5,7,8,9,16] Tryz.func119 fun hsc=>?_
 refine T6 (s':=(C0 st [(o0,(.arr 0 1 0 [[.fn 80 [] [.ptr o1 0 0 0,.ptr o2 0 0 0,.ptr o4 0 0 0,.ptr o0 0 0 0]]])),(o1,(.arr 0 11 0 [[.int .i64 P5,.str mK,.sl false 1 16 (rows w8 mL),.sl false 4 72 (rows u5.cells tL),.sl false 1 16 (rows w8 tM),.sl false 1 16 (rows w8 tN),.sl false 1 16 (rows w8 tO),.int .i64 tP,.str tQ,.sl false 1 16 (rows w8 tR),.sl false 4 72 (rows u5.cells jd)]])),(o2,(.arr 0 1 0 [[.mp o3]])),(o3,(.mps false (mrw (slc 1 16 w8) m3))),(o4,(.arr 0 1 0 [[.sl false 1 16 (rows w8 U8)]])),(o5,(.arr 0 1 0 [[.sl false 1 16 (rows w8 av)]]))])) (B6 (by simp[G2,P9,aY,jI,oU,wQ])) ?_
 refine aln 0 fun hl0=>?_
 refine rng (body:=N4 C1 a0 P5 mK mL tL tM tN tO tP tQ tR jd m3 U8 av) (kk:=N5) (n:=a0.length) (s0:=())
  (fun(gs0:Unit) (k0:Nat) (s0:Unit)=>[(0,.sl false 4 72 (rows u5.cells a0)),(1,.fn 83 [] [.ptr o0 0 0 0,.ptr o5 0 0 0]),(7,.int .i64 (↑a0.length:Int)),(8,.int .i64 (↑k0:Int))])
  (fun(gs0:Unit) (k0:Nat) (s0:Unit)=>(C0 st [(o0,(.arr 0 1 0 [[.fn 80 [] [.ptr o1 0 0 0,.ptr o2 0 0 0,.ptr o4 0 0 0,.ptr o0 0 0 0]]])),(o1,(.arr 0 11 0 [[.int .i64 P5,.str mK,.sl false 1 16 (rows w8 mL),.sl false 4 72 (rows u5.cells tL),.sl false 1 16 (rows w8 tM),.sl false 1 16 (rows w8 tN),.sl false 1 16 (rows w8 tO),.int .i64 tP,.str tQ,.sl false 1 16 (rows w8 tR),.sl false 4 72 (rows u5.cells jd)]])),(o2,(.arr 0 1 0 [[.mp o3]])),(o3,(.mps false (mrw (slc 1 16 w8) m3))),(o4,(.arr 0 1 0 [[.sl false 1 16 (rows w8 U8)]])),(o5,(.arr 0 1 0 [[.sl false 1 16 (rows w8 av)]]))]))
  (fun(gt0:Unit) (t0:Unit)=>[])
  (fun(gt0:Unit) (t0:Unit)=>(C0 st [(o0,(.arr 0 1 0 [[.fn 80 [] [.ptr o1 0 0 0,.ptr o2 0 0 0,.ptr o4 0 0 0,.ptr o0 0 0 0]]])),(o1,(.arr 0 11 0 [[.int .i64 P5,.str mK,.sl false 1 16 (rows w8 mL),.sl false 4 72 (rows u5.cells tL),.sl false 1 16 (rows w8 tM),.sl false 1 16 (rows w8 tN),.sl false 1 16 (rows w8 tO),.int .i64 tP,.str tQ,.sl false 1 16 (rows w8 tR),.sl false 4 72 (rows u5.cells jd)]])),(o2,(.arr 0 1 0 [[.mp o3]])),(o3,(.mps false (mrw (slc 1 16 w8) m3))),(o4,(.arr 0 1 0 [[.sl false 1 16 (rows w8 U8)]])),(o5,(.arr 0 1 0 [[.sl false 1 16 (rows w8 av)]]))]))
  () fx hl0 h (wR hsc)
  (fun gs0 k0 s0 b0 fx h hx0=>?_) (fun gs0 s0=>?_) (fun gt0 t0 fr1 st1 h hb=>?_)
 ·unfold N4 at h
  refine ct ?_
  refine rn ?_
  obtain⟨v1,hv1,h⟩:=J5 h
  refine(mP C1 P4 _ _ _ _ _ _ _ _ _ _ _ _ _ _ _ _ hv1 _ _ _ _ _ _ _ hnd (by simp only[go_sem,fx]) (by simp only[go_sem,fx]) (by simp only[go_sem,fx]) (by simp only[go_sem,fx]) (by simp only[go_sem,fx]) (by simp only[go_sem,fx])).mono ?_
  rintro d1 st1 ⟨rfl,rfl⟩
  refine cd h (fun hc h=>?_) fun hc h=>?_
  ·refine ra ?_
   cases h
   refine E3 ?_;have h:=congrArg some (hx0 _ rfl)
   refine rr ?_
   exact fus (.int .i64 (↑k0:Int)) (.same _) h hsc (hr:=by rintro rfl;exact⟨rfl,B6 (by simp[G2,P9,aY,jI,oU,wQ])⟩)
  ·refine rn ?_
   cases h
   exact cj () (wR hsc)
 ·refine cf ?_
  refine cM ?_;simp only[go_sem,fx]
  exact⟨(),(wR hsc)⟩
 ·try simp only[go_sem,fx]
  unfold N5 at h
  refine L6 hb ?_
  refine rr ?_
  exact fus (.int .i64 (-1)) (.same _) h hsc (hr:=by rintro rfl;exact⟨rfl,B6 (by simp[G2,P9,aY,jI,oU,wQ])⟩)
theorem dW(C1:(u5)→((List Bs))→(Int)→(Bs)→((List Bs))→((List u5))→((List Bs))→((List Bs))→((List Bs))→(Int)→(Bs)→((List Bs))→((List u5))→((List (Bs×(List Bs))))→((List Bs))→Option (Bool))(P4:∀(a0:u5) (a1:(List Bs)) (B7:Int) (I8:Bs) (I9:(List Bs)) (E0:(List u5)) (K8:(List Bs)) (L5:(List Bs)) (L7:(List Bs)) (cN:Int) (cO:Bs) (cP:(List Bs)) (J7:(List u5)) (m2:(List (Bs×(List Bs)))) (Y3:(List Bs)) (r:Bool) (h:C1 a0 a1 B7 I8 I9 E0 K8 L5 L7 cN cO cP J7 m2 Y3=some r),∀(st:St) (o0 o1 o2 o3 o4:Nat) (hnd: [o0,o1,o2,o3,o4].Nodup) (G2:Am.look st o0=some (.arr 0 11 0 [[.int .i64 B7,.str I8,.sl false 1 16 (rows w8 I9),.sl false 4 72 (rows u5.cells E0),.sl false 1 16 (rows w8 K8),.sl false 1 16 (rows w8 L5),.sl false 1 16 (rows w8 L7),.int .i64 cN,.str cO,.sl false 1 16 (rows w8 cP),.sl false 4 72 (rows u5.cells J7)]])) (P9:Am.look st o1=some (.arr 0 1 0 [[.mp o2]])) (aY:Am.look st o2=some (.mps false (mrw (slc 1 16 w8) m2))) (jI:Am.look st o3=some (.arr 0 1 0 [[.sl false 1 16 (rows w8 Y3)]])) (oU:Am.look st o4=some (.arr 0 1 0 [[.fn 80 [] [.ptr o0 0 0 0,.ptr o1 0 0 0,.ptr o3 0 0 0,.ptr o4 0 0 0]]])),Am.Spec Tryz.prog gl 80 [.agg [.int .i64 a0.kind,.str a0.name,.sl false 1 16 (rows w8 a0.words),.sl false 4 72 (rows u5.cells a0.subs)],.sl false 1 16 (rows w8 a1),.ptr o0 0 0 0,.ptr o1 0 0 0,.ptr o3 0 0 0,.ptr o4 0 0 0] st (fun d st'=>d= .bool r∧st'=puts st []))(a0:(List u5))(P5:Int)(mK:Bs)(mL:(List Bs))(tL:(List u5))(tM:(List Bs))(tN:(List Bs))(tO:(List Bs))(tP:Int)(tQ:Bs)(tR:(List Bs))(jd:(List u5))(m3:(List (Bs×(List Bs))))(U8:(List Bs))(av:(List Bs))(r:Bool)(h:H9 C1 a0 P5 mK mL tL tM tN tO tP tQ tR jd m3 U8 av=some r):∀(st:St) (o0 o1 o2 o3 o4 o5:Nat) (hnd: [o0,o1,o2,o3,o4,o5].Nodup) (G2:Am.look st o0=some (.arr 0 1 0 [[.fn 80 [] [.ptr o1 0 0 0,.ptr o2 0 0 0,.ptr o4 0 0 0,.ptr o0 0 0 0]]])) (P9:Am.look st o1=some (.arr 0 11 0 [[.int .i64 P5,.str mK,.sl false 1 16 (rows w8 mL),.sl false 4 72 (rows u5.cells tL),.sl false 1 16 (rows w8 tM),.sl false 1 16 (rows w8 tN),.sl false 1 16 (rows w8 tO),.int .i64 tP,.str tQ,.sl false 1 16 (rows w8 tR),.sl false 4 72 (rows u5.cells jd)]])) (aY:Am.look st o2=some (.arr 0 1 0 [[.mp o3]])) (jI:Am.look st o3=some (.mps false (mrw (slc 1 16 w8) m3))) (oU:Am.look st o4=some (.arr 0 1 0 [[.sl false 1 16 (rows w8 U8)]])) (wQ:Am.look st o5=some (.arr 0 1 0 [[.sl false 1 16 (rows w8 av)]])),Am.Spec Tryz.prog gl 82 [.sl false 4 72 (rows u5.cells a0),.fn 83 [] [.ptr o0 0 0 0,.ptr o5 0 0 0]] st (fun d st'=>d= .bool r∧st'=puts st []):=by
 intro st o0 o1 o2 o3 o4 o5 hnd G2 P9 aY jI oU wQ
 unfold H9 at h
 have ho0:=B5 G2
 have ho1:=B5 P9
 have ho2:=B5 aY
 have ho3:=B5 jI
 have ho4:=B5 oU
 have ho5:=B5 wQ
 have fx:=fa (fa (fa (fa (fa (fa (idf ho0) (idf ho1)) (idf ho2)) (idf ho3)) (idf ho4)) (idf ho5)) (nd6 hnd)
 refine fb 9 [.tmp 4] [0,1,4] Tryz.func82 fun hsc=>?_
 refine T6 (s':=(C0 st [(o0,(.arr 0 1 0 [[.fn 80 [] [.ptr o1 0 0 0,.ptr o2 0 0 0,.ptr o4 0 0 0,.ptr o0 0 0 0]]])),(o1,(.arr 0 11 0 [[.int .i64 P5,.str mK,.sl false 1 16 (rows w8 mL),.sl false 4 72 (rows u5.cells tL),.sl false 1 16 (rows w8 tM),.sl false 1 16 (rows w8 tN),.sl false 1 16 (rows w8 tO),.int .i64 tP,.str tQ,.sl false 1 16 (rows w8 tR),.sl false 4 72 (rows u5.cells jd)]])),(o2,(.arr 0 1 0 [[.mp o3]])),(o3,(.mps false (mrw (slc 1 16 w8) m3))),(o4,(.arr 0 1 0 [[.sl false 1 16 (rows w8 U8)]])),(o5,(.arr 0 1 0 [[.sl false 1 16 (rows w8 av)]]))])) (B6 (by simp[G2,P9,aY,jI,oU,wQ])) ?_
 refine rn ?_
 obtain⟨v1,hv1,h⟩:=J5 h
 refine(fK C1 P4 _ _ _ _ _ _ _ _ _ _ _ _ _ _ _ _ hv1 _ _ _ _ _ _ _ hnd (by simp only[go_sem,fx]) (by simp only[go_sem,fx]) (by simp only[go_sem,fx]) (by simp only[go_sem,fx]) (by simp only[go_sem,fx]) (by simp only[go_sem,fx])).mono ?_
 rintro d1 st1 ⟨rfl,rfl⟩
 refine rr ?_
 exact fus (.bool (decide (0≤v1))) (.same _) h hsc (hr:=by rintro rfl;exact⟨rfl,B6 (by simp[G2,P9,aY,jI,oU,wQ])⟩)
theorem nL:∀(n:Nat) (a0:u5) (a1:(List Bs)) (B7:Int) (I8:Bs) (I9:(List Bs)) (E0:(List u5)) (K8:(List Bs)) (L5:(List Bs)) (L7:(List Bs)) (cN:Int) (cO:Bs) (cP:(List Bs)) (J7:(List u5)) (m2:(List (Bs×(List Bs)))) (Y3:(List Bs)) (r:Bool) (h:G4 n a0 a1 B7 I8 I9 E0 K8 L5 L7 cN cO cP J7 m2 Y3=some r),∀(st:St) (o0 o1 o2 o3 o4:Nat) (hnd: [o0,o1,o2,o3,o4].Nodup) (G2:Am.look st o0=some (.arr 0 11 0 [[.int .i64 B7,.str I8,.sl false 1 16 (rows w8 I9),.sl false 4 72 (rows u5.cells E0),.sl false 1 16 (rows w8 K8),.sl false 1 16 (rows w8 L5),.sl false 1 16 (rows w8 L7),.int .i64 cN,.str cO,.sl false 1 16 (rows w8 cP),.sl false 4 72 (rows u5.cells J7)]])) (P9:Am.look st o1=some (.arr 0 1 0 [[.mp o2]])) (aY:Am.look st o2=some (.mps false (mrw (slc 1 16 w8) m2))) (jI:Am.look st o3=some (.arr 0 1 0 [[.sl false 1 16 (rows w8 Y3)]])) (oU:Am.look st o4=some (.arr 0 1 0 [[.fn 80 [] [.ptr o0 0 0 0,.ptr o1 0 0 0,.ptr o3 0 0 0,.ptr o4 0 0 0]]])),Am.Spec Tryz.prog gl 80 [.agg [.int .i64 a0.kind,.str a0.name,.sl false 1 16 (rows w8 a0.words),.sl false 4 72 (rows u5.cells a0.subs)],.sl false 1 16 (rows w8 a1),.ptr o0 0 0 0,.ptr o1 0 0 0,.ptr o3 0 0 0,.ptr o4 0 0 0] st (fun d st'=>d= .bool r∧st'=puts st []):=by
 intro n
 induction n with
 |zero=>intro a0 a1 B7 I8 I9 E0 K8 L5 L7 cN cO cP J7 m2 Y3 r h;cases h
 |succ n ih=>
  intro a0 a1 B7 I8 I9 E0 K8 L5 L7 cN cO cP J7 m2 Y3 r h st o0 o1 o2 o3 o4 hnd G2 P9 aY jI oU
  unfold G4 at h
  have ho0:=B5 G2
  have ho1:=B5 P9
  have ho2:=B5 aY
  have ho3:=B5 jI
  have ho4:=B5 oU
  have fx:=fa (fa (fa (fa (fa (idf ho0) (idf ho1)) (idf ho2)) (idf ho3)) (idf ho4)) (nd5 hnd)
  refine fb 60 [.tmp 8] [0,1,2,3,4,5,6,7,8,10,12,16,20,21,22,23,29,32,33,34,35,42,43,44,45,46,49] Tryz.func80 fun hsc=>?_
  refine T6 (s':=(C0 st [(o0,(.arr 0 11 0 [[.int .i64 B7,.str I8,.sl false 1 16 (rows w8 I9),.sl false 4 72 (rows u5.cells E0),.sl false 1 16 (rows w8 K8),.sl false 1 16 (rows w8 L5),.sl false 1 16 (rows w8 L7),.int .i64 cN,.str cO,.sl false 1 16 (rows w8 cP),.sl false 4 72 (rows u5.cells J7)]])),(o1,(.arr 0 1 0 [[.mp o2]])),(o2,(.mps false (mrw (slc 1 16 w8) m2))),(o3,(.arr 0 1 0 [[.sl false 1 16 (rows w8 Y3)]])),(o4,(.arr 0 1 0 [[.fn 80 [] [.ptr o0 0 0 0,.ptr o1 0 0 0,.ptr o3 0 0 0,.ptr o4 0 0 0]]]))])) (B6 (by simp[G2,P9,aY,jI,oU])) ?_
  refine cl h (Q9 _ _) fun v1 h=>?_
  refine rn ?_
  refine cR (T9 (G4 n) Y3 a0 a1 B7 I8 I9 E0 K8 L5 L7 cN cO cP J7 m2) r (fun(gj0:Unit) (j0:Unit)=>[(4,.ptr o3 0 0 0),(5,.ptr o4 0 0 0),(6,.ptr st.length 0 0 0),(7,.ptr (st.length+1) 0 0 0)]) (fun(gj0:Unit) (j0:Unit)=>(C0 st [(o0,(.arr 0 11 0 [[.int .i64 B7,.str I8,.sl false 1 16 (rows w8 I9),.sl false 4 72 (rows u5.cells E0),.sl false 1 16 (rows w8 K8),.sl false 1 16 (rows w8 L5),.sl false 1 16 (rows w8 L7),.int .i64 cN,.str cO,.sl false 1 16 (rows w8 cP),.sl false 4 72 (rows u5.cells J7)]])),(o1,(.arr 0 1 0 [[.mp o2]])),(o2,(.mps false (mrw (slc 1 16 w8) m2))),(o3,(.arr 0 1 0 [[.sl false 1 16 (rows w8 Y3)]])),(o4,(.arr 0 1 0 [[.fn 80 [] [.ptr o0 0 0 0,.ptr o1 0 0 0,.ptr o3 0 0 0,.ptr o4 0 0 0]]]))])++[some (.arr 0 4 0 [[.int .i64 a0.kind,.str a0.name,.sl false 1 16 (rows w8 a0.words),.sl false 4 72 (rows u5.cells a0.subs)]]),some (.arr 0 1 0 [[.sl false 1 16 (rows w8 a1)]])]) (fun gj0 j0 fr1 st1 h hb=>?_) (fun hj0=>?_)
  ·try simp only[go_sem,fx]
   unfold T9 at h
   refine L6 hb ?_
   refine aln 32 fun hl2=>?_
   refine rng (body:=aQ Y3 a0 a1) (kk:=aR (G4 n) a0 a1 B7 I8 I9 E0 K8 L5 L7 cN cO cP J7 m2 Y3) (n:=a0.words.length) (s0:=())
    (fun(gs2:Unit) (k2:Nat) (s2:Unit)=>[(4,.ptr o3 0 0 0),(5,.ptr o4 0 0 0),(6,.ptr st.length 0 0 0),(7,.ptr (st.length+1) 0 0 0),(32,.sl false 1 16 (rows w8 a0.words)),(33,.int .i64 (↑a0.words.length:Int)),(34,.int .i64 (↑k2:Int))])
    (fun(gs2:Unit) (k2:Nat) (s2:Unit)=>(C0 st [(o0,(.arr 0 11 0 [[.int .i64 B7,.str I8,.sl false 1 16 (rows w8 I9),.sl false 4 72 (rows u5.cells E0),.sl false 1 16 (rows w8 K8),.sl false 1 16 (rows w8 L5),.sl false 1 16 (rows w8 L7),.int .i64 cN,.str cO,.sl false 1 16 (rows w8 cP),.sl false 4 72 (rows u5.cells J7)]])),(o1,(.arr 0 1 0 [[.mp o2]])),(o2,(.mps false (mrw (slc 1 16 w8) m2))),(o3,(.arr 0 1 0 [[.sl false 1 16 (rows w8 Y3)]])),(o4,(.arr 0 1 0 [[.fn 80 [] [.ptr o0 0 0 0,.ptr o1 0 0 0,.ptr o3 0 0 0,.ptr o4 0 0 0]]]))])++[some (.arr 0 4 0 [[.int .i64 a0.kind,.str a0.name,.sl false 1 16 (rows w8 a0.words),.sl false 4 72 (rows u5.cells a0.subs)]]),some (.arr 0 1 0 [[.sl false 1 16 (rows w8 a1)]])])
    (fun(gt2:Unit) (t2:Unit)=>[(5,.ptr o4 0 0 0),(6,.ptr st.length 0 0 0),(7,.ptr (st.length+1) 0 0 0)])
    (fun(gt2:Unit) (t2:Unit)=>(C0 st [(o0,(.arr 0 11 0 [[.int .i64 B7,.str I8,.sl false 1 16 (rows w8 I9),.sl false 4 72 (rows u5.cells E0),.sl false 1 16 (rows w8 K8),.sl false 1 16 (rows w8 L5),.sl false 1 16 (rows w8 L7),.int .i64 cN,.str cO,.sl false 1 16 (rows w8 cP),.sl false 4 72 (rows u5.cells J7)]])),(o1,(.arr 0 1 0 [[.mp o2]])),(o2,(.mps false (mrw (slc 1 16 w8) m2))),(o3,(.arr 0 1 0 [[.sl false 1 16 (rows w8 Y3)]])),(o4,(.arr 0 1 0 [[.fn 80 [] [.ptr o0 0 0 0,.ptr o1 0 0 0,.ptr o3 0 0 0,.ptr o4 0 0 0]]]))])++[some (.arr 0 4 0 [[.int .i64 a0.kind,.str a0.name,.sl false 1 16 (rows w8 a0.words),.sl false 4 72 (rows u5.cells a0.subs)]]),some (.arr 0 1 0 [[.sl false 1 16 (rows w8 a1)]])])
    () fx hl2 h (bu hsc)
    (fun gs2 k2 s2 b2 fx h hx2=>?_) (fun gs2 s2=>?_) (fun gt2 t2 fr1 st1 h hb=>?_)
   ·unfold aQ at h
    refine ct ?_
    refine cl h (B1 _ _) fun v5 h=>?_
    refine rn ?_
    obtain⟨v6,hv6,h⟩:=J5 h
    refine bR (fun hG=>(B1 _ _ _ (qh hv6 (by simpa using hG)))) ?_
    refine cd h (fun hc h=>?_) fun hc h=>?_
    ·refine ra ?_
     cases h
     refine E3 ?_;have h:=congrArg some (hx2 _ rfl)
     refine rr ?_
     exact fuo (.bool true) (.same _) h hsc (hr:=by rintro rfl;exact⟨rfl,B6 (by simp[G2,P9,aY,jI,oU])⟩)
    ·refine rn ?_
     cases h
     exact cj () (bu hsc)
   ·refine cf ?_
    refine cM ?_;simp only[go_sem,fx]
    exact⟨(),(bu hsc)⟩
   ·try simp only[go_sem,fx]
    unfold aR at h
    refine L6 hb ?_
    refine cl h (D6 _) fun v7 h=>?_
    refine rn ?_
    refine cR (U0 (G4 n) a0 B7 I8 I9 E0 K8 L5 L7 cN cO cP J7 m2 Y3) r (fun(gj3:Unit) (j3:(List Bs))=>[(5,.ptr o4 0 0 0),(6,.ptr st.length 0 0 0),(7,.ptr (st.length+1) 0 0 0)]) (fun(gj3:Unit) (j3:(List Bs))=>(C0 st [(o0,(.arr 0 11 0 [[.int .i64 B7,.str I8,.sl false 1 16 (rows w8 I9),.sl false 4 72 (rows u5.cells E0),.sl false 1 16 (rows w8 K8),.sl false 1 16 (rows w8 L5),.sl false 1 16 (rows w8 L7),.int .i64 cN,.str cO,.sl false 1 16 (rows w8 cP),.sl false 4 72 (rows u5.cells J7)]])),(o1,(.arr 0 1 0 [[.mp o2]])),(o2,(.mps false (mrw (slc 1 16 w8) m2))),(o3,(.arr 0 1 0 [[.sl false 1 16 (rows w8 Y3)]])),(o4,(.arr 0 1 0 [[.fn 80 [] [.ptr o0 0 0 0,.ptr o1 0 0 0,.ptr o3 0 0 0,.ptr o4 0 0 0]]]))])++[some (.arr 0 4 0 [[.int .i64 a0.kind,.str a0.name,.sl false 1 16 (rows w8 a0.words),.sl false 4 72 (rows u5.cells a0.subs)]]),some (.arr 0 1 0 [[.sl false 1 16 (rows w8 j3)]])]) (fun gj3 j3 fr1 st1 h hb=>?_) (fun hj3=>?_)
    ·try simp only[go_sem,fx]
     unfold U0 at h
     refine L6 hb ?_
     refine rn ?_
     obtain⟨v15,hv15,h⟩:=J5 h
     refine(dW (G4 n) ih _ _ _ _ _ _ _ _ _ _ _ _ _ _ _ _ hv15 _ o4 o0 o1 o2 o3 (st.length+1) (by simp[fx]<;>omega) (by simp only[go_sem,fx]) (by simp only[go_sem,fx]) (by simp only[go_sem,fx]) (by simp only[go_sem,fx]) (by simp only[go_sem,fx]) (C6.trans rfl)).mono ?_
     rintro d1 st1 ⟨rfl,rfl⟩
     refine rr ?_
     exact fuo (.bool v15) (.same _) h hsc (hr:=by rintro rfl;exact⟨rfl,B6 (by simp[G2,P9,aY,jI,oU])⟩)
    ·refine cd h (fun hc h=>?_) fun hc h=>?_
     ·(repeat apply sq_)
      refine S4 1 16 ?_
      try simp only[List.append_assoc,List.cons_append,List.nil_append]
      refine L6 (F:=[(5,.ptr o4 0 0 0),(6,.ptr st.length 0 0 0),(7,.ptr (st.length+1) 0 0 0),(49,.bool v7)]) (T:=(C0 st [(o0,(.arr 0 11 0 [[.int .i64 B7,.str I8,.sl false 1 16 (rows w8 I9),.sl false 4 72 (rows u5.cells E0),.sl false 1 16 (rows w8 K8),.sl false 1 16 (rows w8 L5),.sl false 1 16 (rows w8 L7),.int .i64 cN,.str cO,.sl false 1 16 (rows w8 cP),.sl false 4 72 (rows u5.cells J7)]])),(o1,(.arr 0 1 0 [[.mp o2]])),(o2,(.mps false (mrw (slc 1 16 w8) m2))),(o3,(.arr 0 1 0 [[.sl false 1 16 (rows w8 Y3)]])),(o4,(.arr 0 1 0 [[.fn 80 [] [.ptr o0 0 0 0,.ptr o1 0 0 0,.ptr o3 0 0 0,.ptr o4 0 0 0]]]))])++[some (.arr 0 4 0 [[.int .i64 a0.kind,.str a0.name,.sl false 1 16 (rows w8 a0.words),.sl false 4 72 (rows u5.cells a0.subs)]]),some (.arr 0 1 0 [[.sl false 1 16 (rows w8 a1)]]),some (.arr 0 1 16 (rows w8 []))]) (ey (by simp) (P1 hsc (by simp<;>omega)) (.lv (.lv (.lv (.nil _)))) (by simp<;>omega) ⟨.s,.s,.s,.s,trivial⟩ (by simp<;>omega)) ?_
      refine rs ?_
      refine dw [1,3] 2 ?_
      obtain⟨v8,hv8,h⟩:=J5 h
      refine bG [(st.length+2)] (fun st2 h2=>(J9 _ _ _ hv8 st2 (st.length+2) 0 (by simp) ((h2 _ (by simp)).trans (C6.trans rfl)))) (by simp) (by simp only[List.mem_cons,List.not_mem_nil,or_false,forall_eq_or_imp,forall_eq];exact⟨by first|omega|(simp<;>omega),_,(C6.trans rfl),Ob.noConfusion⟩) (by simp) ?_
      obtain⟨c10,yN,h⟩:=gq h
      have fy:=(show rows w8 v8++[[.str a0.name]]=rows w8 c10 from by rw[yN];first|exact D5 (E:=w8) v8 [a0.name]|simp only[go_sem,rows,List.map_append,List.map_cons,List.map_nil])
      have fy:=fa fy (show v8.length+1=c10.length from by rw[yN];simp)
      obtain⟨fx,h⟩:=ck fx h
      try simp only[go_sem,fx,fy]
      try refine⟨by first|omega|(simp<;>omega),?_⟩
      refine hj3 () _ _ _ h ?_;exact(bu hsc (hu:=(.lv (.live _ _ _ _ (.arr _ _ _ _ _ (.cons _ _ _ _ (.cons _ _ _ _ (.ref _ _ _ _ _ _ _ _ _ (D1.trans rfl) (fR (by first|decide|simp)) (by decide) (jS _) (by simp only[go_sem])) .nil) (.same _))) (.nil _)))))
     ·refine r0 ?_
      refine hj3 () _ _ _ h ?_;exact(bu hsc)
  ·refine cd h (fun hc h=>?_) fun hc h=>?_
   ·refine aln 20 fun hl1=>?_
    refine rng (body:=dO a1 a0 m2) (kk:=dP (G4 n) Y3 a0 a1 B7 I8 I9 E0 K8 L5 L7 cN cO cP J7 m2) (n:=((assoc a0.name m2).getD default).length) (s0:=())
     (fun(gs1:Unit) (k1:Nat) (s1:Unit)=>[(4,.ptr o3 0 0 0),(5,.ptr o4 0 0 0),(6,.ptr st.length 0 0 0),(7,.ptr (st.length+1) 0 0 0),(20,.sl false 1 16 (rows w8 ((assoc a0.name m2).getD default))),(21,.int .i64 (↑(((assoc a0.name m2).getD default).length):Int)),(22,.int .i64 (↑k1:Int))])
     (fun(gs1:Unit) (k1:Nat) (s1:Unit)=>(C0 st [(o0,(.arr 0 11 0 [[.int .i64 B7,.str I8,.sl false 1 16 (rows w8 I9),.sl false 4 72 (rows u5.cells E0),.sl false 1 16 (rows w8 K8),.sl false 1 16 (rows w8 L5),.sl false 1 16 (rows w8 L7),.int .i64 cN,.str cO,.sl false 1 16 (rows w8 cP),.sl false 4 72 (rows u5.cells J7)]])),(o1,(.arr 0 1 0 [[.mp o2]])),(o2,(.mps false (mrw (slc 1 16 w8) m2))),(o3,(.arr 0 1 0 [[.sl false 1 16 (rows w8 Y3)]])),(o4,(.arr 0 1 0 [[.fn 80 [] [.ptr o0 0 0 0,.ptr o1 0 0 0,.ptr o3 0 0 0,.ptr o4 0 0 0]]]))])++[some (.arr 0 4 0 [[.int .i64 a0.kind,.str a0.name,.sl false 1 16 (rows w8 a0.words),.sl false 4 72 (rows u5.cells a0.subs)]]),some (.arr 0 1 0 [[.sl false 1 16 (rows w8 a1)]])])
     (fun(gt1:Unit) (t1:Unit)=>[(4,.ptr o3 0 0 0),(5,.ptr o4 0 0 0),(6,.ptr st.length 0 0 0),(7,.ptr (st.length+1) 0 0 0)])
     (fun(gt1:Unit) (t1:Unit)=>(C0 st [(o0,(.arr 0 11 0 [[.int .i64 B7,.str I8,.sl false 1 16 (rows w8 I9),.sl false 4 72 (rows u5.cells E0),.sl false 1 16 (rows w8 K8),.sl false 1 16 (rows w8 L5),.sl false 1 16 (rows w8 L7),.int .i64 cN,.str cO,.sl false 1 16 (rows w8 cP),.sl false 4 72 (rows u5.cells J7)]])),(o1,(.arr 0 1 0 [[.mp o2]])),(o2,(.mps false (mrw (slc 1 16 w8) m2))),(o3,(.arr 0 1 0 [[.sl false 1 16 (rows w8 Y3)]])),(o4,(.arr 0 1 0 [[.fn 80 [] [.ptr o0 0 0 0,.ptr o1 0 0 0,.ptr o3 0 0 0,.ptr o4 0 0 0]]]))])++[some (.arr 0 4 0 [[.int .i64 a0.kind,.str a0.name,.sl false 1 16 (rows w8 a0.words),.sl false 4 72 (rows u5.cells a0.subs)]]),some (.arr 0 1 0 [[.sl false 1 16 (rows w8 a1)]])])
     () fx hl1 h (bu hsc)
     (fun gs1 k1 s1 b1 fx h hx1=>?_) (fun gs1 s1=>?_) (fun gt1 t1 fr1 st1 h hb=>?_)
    ·unfold dO at h
     refine ct ?_
     refine cl h (B1 _ _) fun v2 h=>?_
     refine cd h (fun hc h=>?_) fun hc h=>?_
     ·refine ra ?_
      cases h
      refine E3 ?_;have h:=congrArg some (hx1 _ rfl)
      refine rr ?_
      exact fuo (.bool true) (.same _) h hsc (hr:=by rintro rfl;exact⟨rfl,B6 (by simp[G2,P9,aY,jI,oU])⟩)
     ·refine rn ?_
      cases h
      exact cj () (bu hsc)
    ·refine cf ?_
     refine cM ?_;simp only[go_sem,fx]
     exact⟨(),(bu hsc)⟩
    ·try simp only[go_sem,fx]
     unfold dP at h
     refine hj0 () _ _ _ h ?_;exact(hb.trans (bu hsc))
   ·refine r0 ?_
    refine hj0 () _ _ _ h ?_;exact(bu hsc)
end Go.Proofs.YtanlbioodbnakaaGreatDoor
