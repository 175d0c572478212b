import Derived.Test.YtfacbpehlibilaaGreatDoorTZWalk1
set_option linter.unusedVariables false
set_option linter.unusedSimpArgs false
set_option maxHeartbeats 2000000
set_option maxRecDepth 100000
namespace Go.Proofs.YtfacbpehlibilaaGreatDoor
open Go Go.Am
theorem pJ(n:Nat)(a0:w9)(r:(List (Bs×(List Bs))))(h:cX n a0=some r):∀st:St,Am.Spec Tryz.prog gl 57 [.agg [.int .i64 a0.form.kind,.str a0.form.name,.sl false 1 16 (rows w7 a0.form.words),.sl false 4 72 (rows u5.cells a0.form.subs),.sl false 1 16 (rows w7 a0.words),.sl false 1 16 (rows w7 a0.C4),.sl false 1 16 (rows w7 a0.parts)]] st (fun d st'=>d= .mp (st.length+1)∧st'=st++[none,some (.mps false (mrw (slc 1 16 w7) r))]):=by
 intro st
 unfold cX at h
 have fx:=trivial
 refine fb 12 [.tmp 2] [0,1,2,3,4] Tryz.func57 fun hsc=>?_
 refine rn ?_
 obtain⟨v1,hv1,h⟩:=P8 h
 refine((ot n _ _ _ _ _ _ _ _ _ _ _ hv1 _ _ _ _ _ (by simp) (ga.trans rfl) (jm.trans rfl) (jm.trans rfl) (jm.trans rfl)).up (.cons _ _ _ _ .s (.cons _ _ _ _ (.A9 _ _ _ (by decide)) (.cons _ _ _ _ .s (.cons _ _ _ _ .s (.cons _ _ _ _ .s .nil))))) (by simp<;>omega)).mono ?_
 rintro d1 st1 ⟨rfl,rfl⟩
 refine rr ?_
 exact fnw [none,some (.mps false (mrw (slc 1 16 w7) []))] (.mp (st.length+1)) (.same _) h hsc
theorem lX(B5:(u5)→((List Bs))→(Int)→(Bs)→((List Bs))→((List u5))→((List Bs))→((List Bs))→((List Bs))→(Int)→(Bs)→((List Bs))→((List u5))→((List (Bs×(List Bs))))→((List Bs))→Option (Bool))(Q7:∀(a0:u5) (a1:(List Bs)) (B7:Int) (M6:Bs) (M7:(List Bs)) (D7:(List u5)) (L3:(List Bs)) (M4:(List Bs)) (M8:(List Bs)) (cQ:Int) (cR:Bs) (cS:(List Bs)) (K0:(List u5)) (m2:(List (Bs×(List Bs)))) (Y9:(List Bs)) (r:Bool) (h:B5 a0 a1 B7 M6 M7 D7 L3 M4 M8 cQ cR cS K0 m2 Y9=some r),∀(st:St) (o0 o1 o2 o3 o4:Nat) (hnd: [o0,o1,o2,o3,o4].Nodup) (M9:Am.look st o0=some (.arr 0 11 0 [[.int .i64 B7,.str M6,.sl false 1 16 (rows w7 M7),.sl false 4 72 (rows u5.cells D7),.sl false 1 16 (rows w7 L3),.sl false 1 16 (rows w7 M4),.sl false 1 16 (rows w7 M8),.int .i64 cQ,.str cR,.sl false 1 16 (rows w7 cS),.sl false 4 72 (rows u5.cells K0)]])) (Z6:Am.look st o1=some (.arr 0 1 0 [[.mp o2]])) (bY:Am.look st o2=some (.mps false (mrw (slc 1 16 w7) m2))) (jx:Am.look st o3=some (.arr 0 1 0 [[.sl false 1 16 (rows w7 Y9)]])) (ou:Am.look st o4=some (.arr 0 1 0 [[.fn 58 [] [.ptr o0 0 0 0,.ptr o1 0 0 0,.ptr o3 0 0 0,.ptr o4 0 0 0]]])),Am.Spec Tryz.prog gl 58 [.agg [.int .i64 a0.kind,.str a0.name,.sl false 1 16 (rows w7 a0.words),.sl false 4 72 (rows u5.cells a0.subs)],.sl false 1 16 (rows w7 a1),.ptr o0 0 0 0,.ptr o1 0 0 0,.ptr o3 0 0 0,.ptr o4 0 0 0] st (fun d st'=>d= .bool r∧st'=puts st []))(a0:u5)(V4:Int)(tJ:Bs)(tK:(List Bs))(tL:(List u5))(tM:(List Bs))(tN:(List Bs))(tO:(List Bs))(tP:Int)(tQ:Bs)(tR:(List Bs))(iN:(List u5))(m3:(List (Bs×(List Bs))))(V6:(List Bs))(aQ:(List Bs))(r:Bool)(h:cJ B5 a0 V4 tJ tK tL tM tN tO tP tQ tR iN m3 V6 aQ=some r):∀(st:St) (o0 o1 o2 o3 o4 o5:Nat) (hnd: [o0,o1,o2,o3,o4,o5].Nodup) (M9:Am.look st o0=some (.arr 0 1 0 [[.fn 58 [] [.ptr o1 0 0 0,.ptr o2 0 0 0,.ptr o4 0 0 0,.ptr o0 0 0 0]]])) (Z6:Am.look st o1=some (.arr 0 11 0 [[.int .i64 V4,.str tJ,.sl false 1 16 (rows w7 tK),.sl false 4 72 (rows u5.cells tL),.sl false 1 16 (rows w7 tM),.sl false 1 16 (rows w7 tN),.sl false 1 16 (rows w7 tO),.int .i64 tP,.str tQ,.sl false 1 16 (rows w7 tR),.sl false 4 72 (rows u5.cells iN)]])) (bY:Am.look st o2=some (.arr 0 1 0 [[.mp o3]])) (jx:Am.look st o3=some (.mps false (mrw (slc 1 16 w7) m3))) (ou:Am.look st o4=some (.arr 0 1 0 [[.sl false 1 16 (rows w7 V6)]])) (wX:Am.look st o5=some (.arr 0 1 0 [[.sl false 1 16 (rows w7 aQ)]])),Am.Spec Tryz.prog gl 61 [.agg [.int .i64 a0.kind,.str a0.name,.sl false 1 16 (rows w7 a0.words),.sl false 4 72 (rows u5.cells a0.subs)],.ptr o0 0 0 0,.ptr o5 0 0 0] st (fun d st'=>d= .bool r∧st'=puts st []):=by
 intro st o0 o1 o2 o3 o4 o5 hnd M9 Z6 bY jx ou wX
 unfold cJ at h
 have ho0:=B3 M9
 have ho1:=B3 Z6
 have ho2:=B3 bY
 have ho3:=B3 jx
 have ho4:=B3 ou
 have ho5:=B3 wX
 have fx:=fa (fa (fa (fa (fa (fa (idf ho0) (idf ho1)) (idf ho2)) (idf ho3)) (idf ho4)) (idf ho5)) (nd6 hnd)
 refine fb 9 [.tmp 4] [0,1,2,3,4] Tryz.func61 fun hsc=>?_
 refine bD (s':=(B8 st [(o0,(.arr 0 1 0 [[.fn 58 [] [.ptr o1 0 0 0,.ptr o2 0 0 0,.ptr o4 0 0 0,.ptr o0 0 0 0]]])),(o1,(.arr 0 11 0 [[.int .i64 V4,.str tJ,.sl false 1 16 (rows w7 tK),.sl false 4 72 (rows u5.cells tL),.sl false 1 16 (rows w7 tM),.sl false 1 16 (rows w7 tN),.sl false 1 16 (rows w7 tO),.int .i64 tP,.str tQ,.sl false 1 16 (rows w7 tR),.sl false 4 72 (rows u5.cells iN)]])),(o2,(.arr 0 1 0 [[.mp o3]])),(o3,(.mps false (mrw (slc 1 16 w7) m3))),(o4,(.arr 0 1 0 [[.sl false 1 16 (rows w7 V6)]])),(o5,(.arr 0 1 0 [[.sl false 1 16 (rows w7 aQ)]]))])) (C7 (by simp[M9,Z6,bY,jx,ou,wX])) ?_
 refine rn ?_
 obtain⟨v1,hv1,h⟩:=P8 h
 refine(Q7 _ _ _ _ _ _ _ _ _ _ _ _ _ _ _ _ hv1 _ o1 o2 o3 o4 o0 (by simp[fx]<;>omega) (by simp only[go_sem,fx]) (by simp only[go_sem,fx]) (by simp only[go_sem,fx]) (by simp only[go_sem,fx]) (by simp only[go_sem,fx])).mono ?_
 rintro d1 st1 ⟨rfl,rfl⟩
 refine rr ?_
 exact fuo (.bool v1) (.same _) h hsc (hr:=by rintro rfl;exact⟨rfl,C7 (by simp[M9,Z6,bY,jx,ou,wX])⟩)
theorem fF(B5:(u5)→((List Bs))→(Int)→(Bs)→((List Bs))→((List u5))→((List Bs))→((List Bs))→((List Bs))→(Int)→(Bs)→((List Bs))→((List u5))→((List (Bs×(List Bs))))→((List Bs))→Option (Bool))(Q7:∀(a0:u5) (a1:(List Bs)) (B7:Int) (M6:Bs) (M7:(List Bs)) (D7:(List u5)) (L3:(List Bs)) (M4:(List Bs)) (M8:(List Bs)) (cQ:Int) (cR:Bs) (cS:(List Bs)) (K0:(List u5)) (m2:(List (Bs×(List Bs)))) (Y9:(List Bs)) (r:Bool) (h:B5 a0 a1 B7 M6 M7 D7 L3 M4 M8 cQ cR cS K0 m2 Y9=some r),∀(st:St) (o0 o1 o2 o3 o4:Nat) (hnd: [o0,o1,o2,o3,o4].Nodup) (M9:Am.look st o0=some (.arr 0 11 0 [[.int .i64 B7,.str M6,.sl false 1 16 (rows w7 M7),.sl false 4 72 (rows u5.cells D7),.sl false 1 16 (rows w7 L3),.sl false 1 16 (rows w7 M4),.sl false 1 16 (rows w7 M8),.int .i64 cQ,.str cR,.sl false 1 16 (rows w7 cS),.sl false 4 72 (rows u5.cells K0)]])) (Z6:Am.look st o1=some (.arr 0 1 0 [[.mp o2]])) (bY:Am.look st o2=some (.mps false (mrw (slc 1 16 w7) m2))) (jx:Am.look st o3=some (.arr 0 1 0 [[.sl false 1 16 (rows w7 Y9)]])) (ou:Am.look st o4=some (.arr 0 1 0 [[.fn 58 [] [.ptr o0 0 0 0,.ptr o1 0 0 0,.ptr o3 0 0 0,.ptr o4 0 0 0]]])),Am.Spec Tryz.prog gl 58 [.agg [.int .i64 a0.kind,.str a0.name,.sl false 1 16 (rows w7 a0.words),.sl false 4 72 (rows u5.cells a0.subs)],.sl false 1 16 (rows w7 a1),.ptr o0 0 0 0,.ptr o1 0 0 0,.ptr o3 0 0 0,.ptr o4 0 0 0] st (fun d st'=>d= .bool r∧st'=puts st []))(a0:(List u5))(V4:Int)(tJ:Bs)(tK:(List Bs))(tL:(List u5))(tM:(List Bs))(tN:(List Bs))(tO:(List Bs))(tP:Int)(tQ:Bs)(tR:(List Bs))(iN:(List u5))(m3:(List (Bs×(List Bs))))(V6:(List Bs))(aQ:(List Bs))(r:Int)(h:G5 B5 a0 V4 tJ tK tL tM tN tO tP tQ tR iN m3 V6 aQ=some r):∀(st:St) (o0 o1 o2 o3 o4 o5:Nat) (hnd: [o0,o1,o2,o3,o4,o5].Nodup) (M9:Am.look st o0=some (.arr 0 1 0 [[.fn 58 [] [.ptr o1 0 0 0,.ptr o2 0 0 0,.ptr o4 0 0 0,.ptr o0 0 0 0]]])) (Z6:Am.look st o1=some (.arr 0 11 0 [[.int .i64 V4,.str tJ,.sl false 1 16 (rows w7 tK),.sl false 4 72 (rows u5.cells tL),.sl false 1 16 (rows w7 tM),.sl false 1 16 (rows w7 tN),.sl false 1 16 (rows w7 tO),.int .i64 tP,.str tQ,.sl false 1 16 (rows w7 tR),.sl false 4 72 (rows u5.cells iN)]])) (bY:Am.look st o2=some (.arr 0 1 0 [[.mp o3]])) (jx:Am.look st o3=some (.mps false (mrw (slc 1 16 w7) m3))) (ou:Am.look st o4=some (.arr 0 1 0 [[.sl false 1 16 (rows w7 V6)]])) (wX:Am.look st o5=some (.arr 0 1 0 [[.sl false 1 16 (rows w7 aQ)]])),Am.Spec Tryz.prog gl 87 [.sl false 4 72 (rows u5.cells a0),.fn 61 [] [.ptr o0 0 0 0,.ptr o5 0 0 0]] st (fun d st'=>d= .int .i64 r∧st'=puts st []):=by
 intro st o0 o1 o2 o3 o4 o5 hnd M9 Z6 bY jx ou wX
 unfold G5 at h
 have ho0:=B3 M9
 have ho1:=B3 Z6
 have ho2:=B3 bY
 have ho3:=B3 jx
 have ho4:=B3 ou
 have ho5:=B3 wX
 have fx:=fa (fa (fa (fa (fa (fa (idf ho0) (idf ho1)) (idf ho2)) (idf ho3)) (idf ho4)) (idf ho5)) (nd6 hnd)
 refine fb 19 [.tmp 4] [0,1,4,5,7,8,9,16] Tryz.func87 fun hsc=>?_
 refine bD (s':=(B8 st [(o0,(.arr 0 1 0 [[.fn 58 [] [.ptr o1 0 0 0,.ptr o2 0 0 0,.ptr o4 0 0 0,.ptr o0 0 0 0]]])),(o1,(.arr 0 11 0 [[.int .i64 V4,.str tJ,.sl false 1 16 (rows w7 tK),.sl false 4 72 (rows u5.cells tL),.sl false 1 16 (rows w7 tM),.sl false 1 16 (rows w7 tN),.sl false 1 16 (rows w7 tO),.int .i64 tP,.str tQ,.sl false 1 16 (rows w7 tR),.sl false 4 72 (rows u5.cells iN)]])),(o2,(.arr 0 1 0 [[.mp o3]])),(o3,(.mps false (mrw (slc 1 16 w7) m3))),(o4,(.arr 0 1 0 [[.sl false 1 16 (rows w7 V6)]])),(o5,(.arr 0 1 0 [[.sl false 1 16 (rows w7 aQ)]]))])) (C7 (by simp[M9,Z6,bY,jx,ou,wX])) ?_
 refine aln 0 fun hl0=>?_
 refine rng (body:=I5 B5 a0 V4 tJ tK tL tM tN tO tP tQ tR iN m3 V6 aQ) (kk:=O1) (n:=a0.length) (s0:=())
  (fun(gs0:Unit) (k0:Nat) (s0:Unit)=>[(0,.sl false 4 72 (rows u5.cells a0)),(1,.fn 61 [] [.ptr o0 0 0 0,.ptr o5 0 0 0]),(7,.int .i64 (↑a0.length:Int)),(8,.int .i64 (↑k0:Int))])
  (fun(gs0:Unit) (k0:Nat) (s0:Unit)=>(B8 st [(o0,(.arr 0 1 0 [[.fn 58 [] [.ptr o1 0 0 0,.ptr o2 0 0 0,.ptr o4 0 0 0,.ptr o0 0 0 0]]])),(o1,(.arr 0 11 0 [[.int .i64 V4,.str tJ,.sl false 1 16 (rows w7 tK),.sl false 4 72 (rows u5.cells tL),.sl false 1 16 (rows w7 tM),.sl false 1 16 (rows w7 tN),.sl false 1 16 (rows w7 tO),.int .i64 tP,.str tQ,.sl false 1 16 (rows w7 tR),.sl false 4 72 (rows u5.cells iN)]])),(o2,(.arr 0 1 0 [[.mp o3]])),(o3,(.mps false (mrw (slc 1 16 w7) m3))),(o4,(.arr 0 1 0 [[.sl false 1 16 (rows w7 V6)]])),(o5,(.arr 0 1 0 [[.sl false 1 16 (rows w7 aQ)]]))]))
  (fun(gt0:Unit) (t0:Unit)=>[])
  (fun(gt0:Unit) (t0:Unit)=>(B8 st [(o0,(.arr 0 1 0 [[.fn 58 [] [.ptr o1 0 0 0,.ptr o2 0 0 0,.ptr o4 0 0 0,.ptr o0 0 0 0]]])),(o1,(.arr 0 11 0 [[.int .i64 V4,.str tJ,.sl false 1 16 (rows w7 tK),.sl false 4 72 (rows u5.cells tL),.sl false 1 16 (rows w7 tM),.sl false 1 16 (rows w7 tN),.sl false 1 16 (rows w7 tO),.int .i64 tP,.str tQ,.sl false 1 16 (rows w7 tR),.sl false 4 72 (rows u5.cells iN)]])),(o2,(.arr 0 1 0 [[.mp o3]])),(o3,(.mps false (mrw (slc 1 16 w7) m3))),(o4,(.arr 0 1 0 [[.sl false 1 16 (rows w7 V6)]])),(o5,(.arr 0 1 0 [[.sl false 1 16 (rows w7 aQ)]]))]))
  () fx hl0 h (Fh hsc)
  (fun gs0 k0 s0 b0 fx h hx0=>?_) (fun gs0 s0=>?_) (fun gt0 t0 fr1 st1 h hb=>?_)
 ·unfold I5 at h
  refine ct ?_
  refine rn ?_
  obtain⟨v1,hv1,h⟩:=P8 h
  refine(lX B5 Q7 _ _ _ _ _ _ _ _ _ _ _ _ _ _ _ _ hv1 _ _ _ _ _ _ _ hnd (by simp only[go_sem,fx]) (by simp only[go_sem,fx]) (by simp only[go_sem,fx]) (by simp only[go_sem,fx]) (by simp only[go_sem,fx]) (by simp only[go_sem,fx])).mono ?_
  rintro d1 st1 ⟨rfl,rfl⟩
  refine cd h (fun hc h=>?_) fun hc h=>?_
  ·refine ra ?_
   cases h
   refine L0 ?_;have h:=congrArg some (hx0 _ rfl)
   refine rr ?_
   exact fus (.int .i64 (↑k0:Int)) (.same _) h hsc (hr:=by rintro rfl;exact⟨rfl,C7 (by simp[M9,Z6,bY,jx,ou,wX])⟩)
  ·refine rn ?_
   cases h
   exact eE () (Fh hsc)
 ·refine cf ?_
  refine fA ?_;simp only[go_sem,fx]
  exact⟨(),(Fh hsc)⟩
 ·try simp only[go_sem,fx]
  unfold O1 at h
  refine Q9 hb ?_
  refine rr ?_
  exact fus (.int .i64 (-1)) (.same _) h hsc (hr:=by rintro rfl;exact⟨rfl,C7 (by simp[M9,Z6,bY,jx,ou,wX])⟩)
theorem dP(B5:(u5)→((List Bs))→(Int)→(Bs)→((List Bs))→((List u5))→((List Bs))→((List Bs))→((List Bs))→(Int)→(Bs)→((List Bs))→((List u5))→((List (Bs×(List Bs))))→((List Bs))→Option (Bool))(Q7:∀(a0:u5) (a1:(List Bs)) (B7:Int) (M6:Bs) (M7:(List Bs)) (D7:(List u5)) (L3:(List Bs)) (M4:(List Bs)) (M8:(List Bs)) (cQ:Int) (cR:Bs) (cS:(List Bs)) (K0:(List u5)) (m2:(List (Bs×(List Bs)))) (Y9:(List Bs)) (r:Bool) (h:B5 a0 a1 B7 M6 M7 D7 L3 M4 M8 cQ cR cS K0 m2 Y9=some r),∀(st:St) (o0 o1 o2 o3 o4:Nat) (hnd: [o0,o1,o2,o3,o4].Nodup) (M9:Am.look st o0=some (.arr 0 11 0 [[.int .i64 B7,.str M6,.sl false 1 16 (rows w7 M7),.sl false 4 72 (rows u5.cells D7),.sl false 1 16 (rows w7 L3),.sl false 1 16 (rows w7 M4),.sl false 1 16 (rows w7 M8),.int .i64 cQ,.str cR,.sl false 1 16 (rows w7 cS),.sl false 4 72 (rows u5.cells K0)]])) (Z6:Am.look st o1=some (.arr 0 1 0 [[.mp o2]])) (bY:Am.look st o2=some (.mps false (mrw (slc 1 16 w7) m2))) (jx:Am.look st o3=some (.arr 0 1 0 [[.sl false 1 16 (rows w7 Y9)]])) (ou:Am.look st o4=some (.arr 0 1 0 [[.fn 58 [] [.ptr o0 0 0 0,.ptr o1 0 0 0,.ptr o3 0 0 0,.ptr o4 0 0 0]]])),Am.Spec Tryz.prog gl 58 [.agg [.int .i64 a0.kind,.str a0.name,.sl false 1 16 (rows w7 a0.words),.sl false 4 72 (rows u5.cells a0.subs)],.sl false 1 16 (rows w7 a1),.ptr o0 0 0 0,.ptr o1 0 0 0,.ptr o3 0 0 0,.ptr o4 0 0 0] st (fun d st'=>d= .bool r∧st'=puts st []))(a0:(List u5))(V4:Int)(tJ:Bs)(tK:(List Bs))(tL:(List u5))(tM:(List Bs))(tN:(List Bs))(tO:(List Bs))(tP:Int)(tQ:Bs)(tR:(List Bs))(iN:(List u5))(m3:(List (Bs×(List Bs))))(V6:(List Bs))(aQ:(List Bs))(r:Bool)(h:F8 B5 a0 V4 tJ tK tL tM tN tO tP tQ tR iN m3 V6 aQ=some r):∀(st:St) (o0 o1 o2 o3 o4 o5:Nat) (hnd: [o0,o1,o2,o3,o4,o5].Nodup) (M9:Am.look st o0=some (.arr 0 1 0 [[.fn 58 [] [.ptr o1 0 0 0,.ptr o2 0 0 0,.ptr o4 0 0 0,.ptr o0 0 0 0]]])) (Z6:Am.look st o1=some (.arr 0 11 0 [[.int .i64 V4,.str tJ,.sl false 1 16 (rows w7 tK),.sl false 4 72 (rows u5.cells tL),.sl false 1 16 (rows w7 tM),.sl false 1 16 (rows w7 tN),.sl false 1 16 (rows w7 tO),.int .i64 tP,.str tQ,.sl false 1 16 (rows w7 tR),.sl false 4 72 (rows u5.cells iN)]])) (bY:Am.look st o2=some (.arr 0 1 0 [[.mp o3]])) (jx:Am.look st o3=some (.mps false (mrw (slc 1 16 w7) m3))) (ou:Am.look st o4=some (.arr 0 1 0 [[.sl false 1 16 (rows w7 V6)]])) (wX:Am.look st o5=some (.arr 0 1 0 [[.sl false 1 16 (rows w7 aQ)]])),Am.Spec Tryz.prog gl 60 [.sl false 4 72 (rows u5.cells a0),.fn 61 [] [.ptr o0 0 0 0,.ptr o5 0 0 0]] st (fun d st'=>d= .bool r∧st'=puts st []):=by
 intro st o0 o1 o2 o3 o4 o5 hnd M9 Z6 bY jx ou wX
 unfold F8 at h
 have ho0:=B3 M9
 have ho1:=B3 Z6
 have ho2:=B3 bY
 have ho3:=B3 jx
 have ho4:=B3 ou
 have ho5:=B3 wX
 have fx:=fa (fa (fa (fa (fa (fa (idf ho0) (idf ho1)) (idf ho2)) (idf ho3)) (idf ho4)) (idf ho5)) (nd6 hnd)
 refine fb 9 [.tmp 4] [0,1,4] Tryz.func60 fun hsc=>?_
 refine bD (s':=(B8 st [(o0,(.arr 0 1 0 [[.fn 58 [] [.ptr o1 0 0 0,.ptr o2 0 0 0,.ptr o4 0 0 0,.ptr o0 0 0 0]]])),(o1,(.arr 0 11 0 [[.int .i64 V4,.str tJ,.sl false 1 16 (rows w7 tK),.sl false 4 72 (rows u5.cells tL),.sl false 1 16 (rows w7 tM),.sl false 1 16 (rows w7 tN),.sl false 1 16 (rows w7 tO),.int .i64 tP,.str tQ,.sl false 1 16 (rows w7 tR),.sl false 4 72 (rows u5.cells iN)]])),(o2,(.arr 0 1 0 [[.mp o3]])),(o3,(.mps false (mrw (slc 1 16 w7) m3))),(o4,(.arr 0 1 0 [[.sl false 1 16 (rows w7 V6)]])),(o5,(.arr 0 1 0 [[.sl false 1 16 (rows w7 aQ)]]))])) (C7 (by simp[M9,Z6,bY,jx,ou,wX])) ?_
 refine rn ?_
 obtain⟨v1,hv1,h⟩:=P8 h
 refine(fF B5 Q7 _ _ _ _ _ _ _ _ _ _ _ _ _ _ _ _ hv1 _ _ _ _ _ _ _ hnd (by simp only[go_sem,fx]) (by simp only[go_sem,fx]) (by simp only[go_sem,fx]) (by simp only[go_sem,fx]) (by simp only[go_sem,fx]) (by simp only[go_sem,fx])).mono ?_
 rintro d1 st1 ⟨rfl,rfl⟩
 refine rr ?_
 exact fus (.bool (decide (0≤v1))) (.same _) h hsc (hr:=by rintro rfl;exact⟨rfl,C7 (by simp[M9,Z6,bY,jx,ou,wX])⟩)
theorem mT:∀(n:Nat) (a0:u5) (a1:(List Bs)) (B7:Int) (M6:Bs) (M7:(List Bs)) (D7:(List u5)) (L3:(List Bs)) (M4:(List Bs)) (M8:(List Bs)) (cQ:Int) (cR:Bs) (cS:(List Bs)) (K0:(List u5)) (m2:(List (Bs×(List Bs)))) (Y9:(List Bs)) (r:Bool) (h:E8 n a0 a1 B7 M6 M7 D7 L3 M4 M8 cQ cR cS K0 m2 Y9=some r),∀(st:St) (o0 o1 o2 o3 o4:Nat) (hnd: [o0,o1,o2,o3,o4].Nodup) (M9:Am.look st o0=some (.arr 0 11 0 [[.int .i64 B7,.str M6,.sl false 1 16 (rows w7 M7),.sl false 4 72 (rows u5.cells D7),.sl false 1 16 (rows w7 L3),.sl false 1 16 (rows w7 M4),.sl false 1 16 (rows w7 M8),.int .i64 cQ,.str cR,.sl false 1 16 (rows w7 cS),.sl false 4 72 (rows u5.cells K0)]])) (Z6:Am.look st o1=some (.arr 0 1 0 [[.mp o2]])) (bY:Am.look st o2=some (.mps false (mrw (slc 1 16 w7) m2))) (jx:Am.look st o3=some (.arr 0 1 0 [[.sl false 1 16 (rows w7 Y9)]])) (ou:Am.look st o4=some (.arr 0 1 0 [[.fn 58 [] [.ptr o0 0 0 0,.ptr o1 0 0 0,.ptr o3 0 0 0,.ptr o4 0 0 0]]])),Am.Spec Tryz.prog gl 58 [.agg [.int .i64 a0.kind,.str a0.name,.sl false 1 16 (rows w7 a0.words),.sl false 4 72 (rows u5.cells a0.subs)],.sl false 1 16 (rows w7 a1),.ptr o0 0 0 0,.ptr o1 0 0 0,.ptr o3 0 0 0,.ptr o4 0 0 0] st (fun d st'=>d= .bool r∧st'=puts st []):=by
 intro n
 induction n with
 |zero=>intro a0 a1 B7 M6 M7 D7 L3 M4 M8 cQ cR cS K0 m2 Y9 r h;cases h
 |succ n ih=>
  intro a0 a1 B7 M6 M7 D7 L3 M4 M8 cQ cR cS K0 m2 Y9 r h st o0 o1 o2 o3 o4 hnd M9 Z6 bY jx ou
  unfold E8 at h
  have ho0:=B3 M9
  have ho1:=B3 Z6
  have ho2:=B3 bY
  have ho3:=B3 jx
  have ho4:=B3 ou
  have fx:=fa (fa (fa (fa (fa (idf ho0) (idf ho1)) (idf ho2)) (idf ho3)) (idf ho4)) (nd5 hnd)
  refine fb 60 [.tmp 8] [0,1,2,3,4,5,6,7,8,10,12,16,20,21,22,23,29,32,33,34,35,42,43,44,45,46,49] Tryz.func58 fun hsc=>?_
  refine bD (s':=(B8 st [(o0,(.arr 0 11 0 [[.int .i64 B7,.str M6,.sl false 1 16 (rows w7 M7),.sl false 4 72 (rows u5.cells D7),.sl false 1 16 (rows w7 L3),.sl false 1 16 (rows w7 M4),.sl false 1 16 (rows w7 M8),.int .i64 cQ,.str cR,.sl false 1 16 (rows w7 cS),.sl false 4 72 (rows u5.cells K0)]])),(o1,(.arr 0 1 0 [[.mp o2]])),(o2,(.mps false (mrw (slc 1 16 w7) m2))),(o3,(.arr 0 1 0 [[.sl false 1 16 (rows w7 Y9)]])),(o4,(.arr 0 1 0 [[.fn 58 [] [.ptr o0 0 0 0,.ptr o1 0 0 0,.ptr o3 0 0 0,.ptr o4 0 0 0]]]))])) (C7 (by simp[M9,Z6,bY,jx,ou])) ?_
  refine cl h (S0 _ _) fun v1 h=>?_
  refine rn ?_
  refine eC (P2 (E8 n) Y9 a0 a1 B7 M6 M7 D7 L3 M4 M8 cQ cR cS K0 m2) r (fun(gj0:Unit) (j0:Unit)=>[(4,.ptr o3 0 0 0),(5,.ptr o4 0 0 0),(6,.ptr st.length 0 0 0),(7,.ptr (st.length+1) 0 0 0)]) (fun(gj0:Unit) (j0:Unit)=>(B8 st [(o0,(.arr 0 11 0 [[.int .i64 B7,.str M6,.sl false 1 16 (rows w7 M7),.sl false 4 72 (rows u5.cells D7),.sl false 1 16 (rows w7 L3),.sl false 1 16 (rows w7 M4),.sl false 1 16 (rows w7 M8),.int .i64 cQ,.str cR,.sl false 1 16 (rows w7 cS),.sl false 4 72 (rows u5.cells K0)]])),(o1,(.arr 0 1 0 [[.mp o2]])),(o2,(.mps false (mrw (slc 1 16 w7) m2))),(o3,(.arr 0 1 0 [[.sl false 1 16 (rows w7 Y9)]])),(o4,(.arr 0 1 0 [[.fn 58 [] [.ptr o0 0 0 0,.ptr o1 0 0 0,.ptr o3 0 0 0,.ptr o4 0 0 0]]]))])++[some (.arr 0 4 0 [[.int .i64 a0.kind,.str a0.name,.sl false 1 16 (rows w7 a0.words),.sl false 4 72 (rows u5.cells a0.subs)]]),some (.arr 0 1 0 [[.sl false 1 16 (rows w7 a1)]])]) (fun gj0 j0 fr1 st1 h hb=>?_) (fun hj0=>?_)
  ·try simp only[go_sem,fx]
   unfold P2 at h
   refine Q9 hb ?_
   refine aln 32 fun hl2=>?_
   refine rng (body:=U6 Y9 a0 a1) (kk:=U7 (E8 n) a0 a1 B7 M6 M7 D7 L3 M4 M8 cQ cR cS K0 m2 Y9) (n:=a0.words.length) (s0:=())
    (fun(gs2:Unit) (k2:Nat) (s2:Unit)=>[(4,.ptr o3 0 0 0),(5,.ptr o4 0 0 0),(6,.ptr st.length 0 0 0),(7,.ptr (st.length+1) 0 0 0),(32,.sl false 1 16 (rows w7 a0.words)),(33,.int .i64 (↑a0.words.length:Int)),(34,.int .i64 (↑k2:Int))])
    (fun(gs2:Unit) (k2:Nat) (s2:Unit)=>(B8 st [(o0,(.arr 0 11 0 [[.int .i64 B7,.str M6,.sl false 1 16 (rows w7 M7),.sl false 4 72 (rows u5.cells D7),.sl false 1 16 (rows w7 L3),.sl false 1 16 (rows w7 M4),.sl false 1 16 (rows w7 M8),.int .i64 cQ,.str cR,.sl false 1 16 (rows w7 cS),.sl false 4 72 (rows u5.cells K0)]])),(o1,(.arr 0 1 0 [[.mp o2]])),(o2,(.mps false (mrw (slc 1 16 w7) m2))),(o3,(.arr 0 1 0 [[.sl false 1 16 (rows w7 Y9)]])),(o4,(.arr 0 1 0 [[.fn 58 [] [.ptr o0 0 0 0,.ptr o1 0 0 0,.ptr o3 0 0 0,.ptr o4 0 0 0]]]))])++[some (.arr 0 4 0 [[.int .i64 a0.kind,.str a0.name,.sl false 1 16 (rows w7 a0.words),.sl false 4 72 (rows u5.cells a0.subs)]]),some (.arr 0 1 0 [[.sl false 1 16 (rows w7 a1)]])])
    (fun(gt2:Unit) (t2:Unit)=>[(5,.ptr o4 0 0 0),(6,.ptr st.length 0 0 0),(7,.ptr (st.length+1) 0 0 0)])
    (fun(gt2:Unit) (t2:Unit)=>(B8 st [(o0,(.arr 0 11 0 [[.int .i64 B7,.str M6,.sl false 1 16 (rows w7 M7),.sl false 4 72 (rows u5.cells D7),.sl false 1 16 (rows w7 L3),.sl false 1 16 (rows w7 M4),.sl false 1 16 (rows w7 M8),.int .i64 cQ,.str cR,.sl false 1 16 (rows w7 cS),.sl false 4 72 (rows u5.cells K0)]])),(o1,(.arr 0 1 0 [[.mp o2]])),(o2,(.mps false (mrw (slc 1 16 w7) m2))),(o3,(.arr 0 1 0 [[.sl false 1 16 (rows w7 Y9)]])),(o4,(.arr 0 1 0 [[.fn 58 [] [.ptr o0 0 0 0,.ptr o1 0 0 0,.ptr o3 0 0 0,.ptr o4 0 0 0]]]))])++[some (.arr 0 4 0 [[.int .i64 a0.kind,.str a0.name,.sl false 1 16 (rows w7 a0.words),.sl false 4 72 (rows u5.cells a0.subs)]]),some (.arr 0 1 0 [[.sl false 1 16 (rows w7 a1)]])])
    () fx hl2 h (bu hsc)
    (fun gs2 k2 s2 b2 fx h hx2=>?_) (fun gs2 s2=>?_) (fun gt2 t2 fr1 st1 h hb=>?_)
   ·unfold U6 at h
    refine ct ?_
    refine cl h (A8 _ _) fun v5 h=>?_
    refine rn ?_
    obtain⟨v6,hv6,h⟩:=P8 h
    refine aV (fun hG=>(A8 _ _ _ (qj hv6 (by simpa using hG)))) ?_
    refine cd h (fun hc h=>?_) fun hc h=>?_
    ·refine ra ?_
     cases h
     refine L0 ?_;have h:=congrArg some (hx2 _ rfl)
     refine rr ?_
     exact fuo (.bool true) (.same _) h hsc (hr:=by rintro rfl;exact⟨rfl,C7 (by simp[M9,Z6,bY,jx,ou])⟩)
    ·refine rn ?_
     cases h
     exact eE () (bu hsc)
   ·refine cf ?_
    refine fA ?_;simp only[go_sem,fx]
    exact⟨(),(bu hsc)⟩
   ·try simp only[go_sem,fx]
    unfold U7 at h
    refine Q9 hb ?_
    refine cl h (E0 _) fun v7 h=>?_
    refine rn ?_
    refine eC (L1 (E8 n) a0 B7 M6 M7 D7 L3 M4 M8 cQ cR cS K0 m2 Y9) r (fun(gj3:Unit) (j3:(List Bs))=>[(5,.ptr o4 0 0 0),(6,.ptr st.length 0 0 0),(7,.ptr (st.length+1) 0 0 0)]) (fun(gj3:Unit) (j3:(List Bs))=>(B8 st [(o0,(.arr 0 11 0 [[.int .i64 B7,.str M6,.sl false 1 16 (rows w7 M7),.sl false 4 72 (rows u5.cells D7),.sl false 1 16 (rows w7 L3),.sl false 1 16 (rows w7 M4),.sl false 1 16 (rows w7 M8),.int .i64 cQ,.str cR,.sl false 1 16 (rows w7 cS),.sl false 4 72 (rows u5.cells K0)]])),(o1,(.arr 0 1 0 [[.mp o2]])),(o2,(.mps false (mrw (slc 1 16 w7) m2))),(o3,(.arr 0 1 0 [[.sl false 1 16 (rows w7 Y9)]])),(o4,(.arr 0 1 0 [[.fn 58 [] [.ptr o0 0 0 0,.ptr o1 0 0 0,.ptr o3 0 0 0,.ptr o4 0 0 0]]]))])++[some (.arr 0 4 0 [[.int .i64 a0.kind,.str a0.name,.sl false 1 16 (rows w7 a0.words),.sl false 4 72 (rows u5.cells a0.subs)]]),some (.arr 0 1 0 [[.sl false 1 16 (rows w7 j3)]])]) (fun gj3 j3 fr1 st1 h hb=>?_) (fun hj3=>?_)
    ·try simp only[go_sem,fx]
     unfold L1 at h
     refine Q9 hb ?_
     refine rn ?_
     obtain⟨v15,hv15,h⟩:=P8 h
     refine(dP (E8 n) ih _ _ _ _ _ _ _ _ _ _ _ _ _ _ _ _ hv15 _ o4 o0 o1 o2 o3 (st.length+1) (by simp[fx]<;>omega) (by simp only[go_sem,fx]) (by simp only[go_sem,fx]) (by simp only[go_sem,fx]) (by simp only[go_sem,fx]) (by simp only[go_sem,fx]) (D2.trans rfl)).mono ?_
     rintro d1 st1 ⟨rfl,rfl⟩
     refine rr ?_
     exact fuo (.bool v15) (.same _) h hsc (hr:=by rintro rfl;exact⟨rfl,C7 (by simp[M9,Z6,bY,jx,ou])⟩)
    ·refine cd h (fun hc h=>?_) fun hc h=>?_
     ·(repeat apply sq_)
      refine W6 1 16 ?_
      try simp only[List.append_assoc,List.cons_append,List.nil_append]
      refine Q9 (F:=[(5,.ptr o4 0 0 0),(6,.ptr st.length 0 0 0),(7,.ptr (st.length+1) 0 0 0),(49,.bool v7)]) (T:=(B8 st [(o0,(.arr 0 11 0 [[.int .i64 B7,.str M6,.sl false 1 16 (rows w7 M7),.sl false 4 72 (rows u5.cells D7),.sl false 1 16 (rows w7 L3),.sl false 1 16 (rows w7 M4),.sl false 1 16 (rows w7 M8),.int .i64 cQ,.str cR,.sl false 1 16 (rows w7 cS),.sl false 4 72 (rows u5.cells K0)]])),(o1,(.arr 0 1 0 [[.mp o2]])),(o2,(.mps false (mrw (slc 1 16 w7) m2))),(o3,(.arr 0 1 0 [[.sl false 1 16 (rows w7 Y9)]])),(o4,(.arr 0 1 0 [[.fn 58 [] [.ptr o0 0 0 0,.ptr o1 0 0 0,.ptr o3 0 0 0,.ptr o4 0 0 0]]]))])++[some (.arr 0 4 0 [[.int .i64 a0.kind,.str a0.name,.sl false 1 16 (rows w7 a0.words),.sl false 4 72 (rows u5.cells a0.subs)]]),some (.arr 0 1 0 [[.sl false 1 16 (rows w7 a1)]]),some (.arr 0 1 16 (rows w7 []))]) (eG (by simp) (R6 hsc (by simp<;>omega)) (.lv (.lv (.lv (.nil _)))) (by simp<;>omega) ⟨.s,.s,.s,.s,trivial⟩ (by simp<;>omega)) ?_
      refine rs ?_
      refine dw [1,3] 2 ?_
      obtain⟨v8,hv8,h⟩:=P8 h
      refine gO [(st.length+2)] (fun st2 h2=>(K3 _ _ _ hv8 st2 (st.length+2) 0 (by simp) ((h2 _ (by simp)).trans (D2.trans rfl)))) (by simp) (by simp only[List.mem_cons,List.not_mem_nil,or_false,forall_eq_or_imp,forall_eq];exact⟨by first|omega|(simp<;>omega),_,(D2.trans rfl),Ob.noConfusion⟩) (by simp) ?_
      obtain⟨c10,He,h⟩:=gX h
      have fy:=(show rows w7 v8++[[.str a0.name]]=rows w7 c10 from by rw[He];first|exact E1 (E:=w7) v8 [a0.name]|simp only[go_sem,rows,List.map_append,List.map_cons,List.map_nil])
      have fy:=fa fy (show v8.length+1=c10.length from by rw[He];simp)
      obtain⟨fx,h⟩:=ck fx h
      try simp only[go_sem,fx,fy]
      try refine⟨by first|omega|(simp<;>omega),?_⟩
      refine hj3 () _ _ _ h ?_;exact(bu hsc (hu:=(.lv (.live _ _ _ _ (.arr _ _ _ _ _ (.cons _ _ _ _ (.cons _ _ _ _ (.ref _ _ _ _ _ _ _ _ _ (D3.trans rfl) (fK (by first|decide|simp)) (by decide) (jS _) (by simp only[go_sem])) .nil) (.same _))) (.nil _)))))
     ·refine r0 ?_
      refine hj3 () _ _ _ h ?_;exact(bu hsc)
  ·refine cd h (fun hc h=>?_) fun hc h=>?_
   ·refine aln 20 fun hl1=>?_
    refine rng (body:=dM a1 a0 m2) (kk:=dN (E8 n) Y9 a0 a1 B7 M6 M7 D7 L3 M4 M8 cQ cR cS K0 m2) (n:=((assoc a0.name m2).getD default).length) (s0:=())
     (fun(gs1:Unit) (k1:Nat) (s1:Unit)=>[(4,.ptr o3 0 0 0),(5,.ptr o4 0 0 0),(6,.ptr st.length 0 0 0),(7,.ptr (st.length+1) 0 0 0),(20,.sl false 1 16 (rows w7 ((assoc a0.name m2).getD default))),(21,.int .i64 (↑(((assoc a0.name m2).getD default).length):Int)),(22,.int .i64 (↑k1:Int))])
     (fun(gs1:Unit) (k1:Nat) (s1:Unit)=>(B8 st [(o0,(.arr 0 11 0 [[.int .i64 B7,.str M6,.sl false 1 16 (rows w7 M7),.sl false 4 72 (rows u5.cells D7),.sl false 1 16 (rows w7 L3),.sl false 1 16 (rows w7 M4),.sl false 1 16 (rows w7 M8),.int .i64 cQ,.str cR,.sl false 1 16 (rows w7 cS),.sl false 4 72 (rows u5.cells K0)]])),(o1,(.arr 0 1 0 [[.mp o2]])),(o2,(.mps false (mrw (slc 1 16 w7) m2))),(o3,(.arr 0 1 0 [[.sl false 1 16 (rows w7 Y9)]])),(o4,(.arr 0 1 0 [[.fn 58 [] [.ptr o0 0 0 0,.ptr o1 0 0 0,.ptr o3 0 0 0,.ptr o4 0 0 0]]]))])++[some (.arr 0 4 0 [[.int .i64 a0.kind,.str a0.name,.sl false 1 16 (rows w7 a0.words),.sl false 4 72 (rows u5.cells a0.subs)]]),some (.arr 0 1 0 [[.sl false 1 16 (rows w7 a1)]])])
     (fun(gt1:Unit) (t1:Unit)=>[(4,.ptr o3 0 0 0),(5,.ptr o4 0 0 0),(6,.ptr st.length 0 0 0),(7,.ptr (st.length+1) 0 0 0)])
     (fun(gt1:Unit) (t1:Unit)=>(B8 st [(o0,(.arr 0 11 0 [[.int .i64 B7,.str M6,.sl false 1 16 (rows w7 M7),.sl false 4 72 (rows u5.cells D7),.sl false 1 16 (rows w7 L3),.sl false 1 16 (rows w7 M4),.sl false 1 16 (rows w7 M8),.int .i64 cQ,.str cR,.sl false 1 16 (rows w7 cS),.sl false 4 72 (rows u5.cells K0)]])),(o1,(.arr 0 1 0 [[.mp o2]])),(o2,(.mps false (mrw (slc 1 16 w7) m2))),(o3,(.arr 0 1 0 [[.sl false 1 16 (rows w7 Y9)]])),(o4,(.arr 0 1 0 [[.fn 58 [] [.ptr o0 0 0 0,.ptr o1 0 0 0,.ptr o3 0 0 0,.ptr o4 0 0 0]]]))])++[some (.arr 0 4 0 [[.int .i64 a0.kind,.str a0.name,.sl false 1 16 (rows w7 a0.words),.sl false 4 72 (rows u5.cells a0.subs)]]),some (.arr 0 1 0 [[.sl false 1 16 (rows w7 a1)]])])
     () fx hl1 h (bu hsc)
     (fun gs1 k1 s1 b1 fx h hx1=>?_) (fun gs1 s1=>?_) (fun gt1 t1 fr1 st1 h hb=>?_)
    ·unfold dM at h
     refine ct ?_
     refine cl h (A8 _ _) fun v2 h=>?_
     refine cd h (fun hc h=>?_) fun hc h=>?_
     ·refine ra ?_
      cases h
      refine L0 ?_;have h:=congrArg some (hx1 _ rfl)
      refine rr ?_
      exact fuo (.bool true) (.same _) h hsc (hr:=by rintro rfl;exact⟨rfl,C7 (by simp[M9,Z6,bY,jx,ou])⟩)
     ·refine rn ?_
      cases h
      exact eE () (bu hsc)
    ·refine cf ?_
     refine fA ?_;simp only[go_sem,fx]
     exact⟨(),(bu hsc)⟩
    ·try simp only[go_sem,fx]
     unfold dN at h
     refine hj0 () _ _ _ h ?_;exact(hb.trans (bu hsc))
   ·refine r0 ?_
    refine hj0 () _ _ _ h ?_;exact(bu hsc)
end Go.Proofs.YtfacbpehlibilaaGreatDoor
