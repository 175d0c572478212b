import Derived.Test.YtoekkdodipnmpaaGreatDoorSWalk5
set_option linter.unusedVariables false
set_option linter.unusedSimpArgs false
set_option maxHeartbeats 2000000
set_option maxRecDepth 100000
namespace Go.Proofs.YtoekkdodipnmpaaGreatDoor
open Go Go.Am
theorem vu(n:Nat)(a0:y7)(l0:(List B5))(r:C4×w5)(h:pA n a0 l0=some r):∀(st:St) (o0 q0:Nat) (hnd: [o0].Nodup) (fY:Am.look st o0=some (.arr q0 3 40 (rows B5.cells l0))),Am.Spec Tryz.prog gl 10 [.agg [.sl false 2 40 (rows x5.cells a0.hierarchy.types),.sl false 3 32 (rows A0.cells a0.hierarchy.C2),.sl false 10 152 (rows w8.cells a0.rules),.sl false 9 144 (rows D0.cells a0.B3),.sl false 2 32 (rows y4.cells a0.start.nodes)],.ref true o0 q0 0 l0.length] st (fun d st'=>d= .tup [.agg [.sl false 1 8 (rows E1 r.1.rules),.sl false 1 8 (rows E1 r.1.B3)],.agg [.int .i64 r.2.code,.int .i64 r.2.index]]∧st'=puts st []):=by
 intro st o0 q0 hnd fY
 unfold pA at h
 have ho0:=S9 fY
 have fx:=idf ho0
 refine fb 58 [.cell 4 35,.cell 5 39] [0,1,2,4,5,6,7,8,9,10,11,16,21,34,35,36,37,46] Tryz.func10 fun hsc=>?_
 refine kS (s':=(U1 st [(o0,(.arr q0 3 40 (rows B5.cells l0)))])) (K5 (by simp[fY])) ?_
 refine cl h (iR n _) fun v1 h=>?_
 refine cd h (fun hc h=>?_) fun hc h=>?_
 ·refine rs ?_
  refine dw [1,2] 0 ?_
  try refine⟨by(simp<;>omega),?_⟩
  refine rr ?_
  exact fuo (.tup [.agg [.sl false 1 8 (rows E1 []),.sl false 1 8 (rows E1 [])],.agg [.int .i64 v1.code,.int .i64 v1.index]]) (.tup _ _ (.cons _ _ _ _ (.agg _ _ (.cons _ _ _ _ (.D3 _ _ _ (by decide)) (.cons _ _ _ _ (.D3 _ _ _ (by decide)) .nil))) (.cons _ _ _ _ .s .nil)) rfl) h hsc (hr:=by rintro rfl;exact⟨rfl,K5 (by simp[fY])⟩)
 ·refine cd h (fun hc h=>?_) fun hc h=>?_
  ·refine cl h (cJ _ _) fun v2 h=>?_
   refine rr ?_
   exact fuo (.tup [.agg [.sl false 1 8 (rows E1 []),.sl false 1 8 (rows E1 [])],.agg [.int .i64 v2.code,.int .i64 v2.index]]) (.tup _ _ (.cons _ _ _ _ (.agg _ _ (.cons _ _ _ _ (.D3 _ _ _ (by decide)) (.cons _ _ _ _ (.D3 _ _ _ (by decide)) .nil))) (.cons _ _ _ _ .s .nil)) rfl) h hsc (hr:=by rintro rfl;exact⟨rfl,K5 (by simp[fY])⟩)
  ·refine rn ?_
   obtain⟨fx,h⟩:=ck fx h
   have fy:=(show List.replicate a0.rules.length [.int .i64 0]=rows E1 (List.replicate a0.rules.length (default:Int))from iJ (E:=E1) _ default)
   obtain⟨fx,h⟩:=ck fx h
   have fy:=fa fy (show List.replicate a0.B3.length [.int .i64 0]=rows E1 (List.replicate a0.B3.length (default:Int))from iJ (E:=E1) _ default)
   refine dwy [] 3 ?_
   obtain⟨fx,h⟩:=ck fx h
   refine rn ?_
   refine rng (body:=ke n a0 l0) (kk:=kf) (n:=l0.length) (s0:=((List.replicate a0.rules.length (default:Int)),(List.replicate a0.B3.length (default:Int))))
    (fun(gs0:Nat×Nat) (k0:Nat) (s0:(List Int)×(List Int))=>[(2,.ptr st.length 0 0 0),(4,.ptr (st.length+1) 0 0 0),(5,.ptr (st.length+2) 0 0 0),(7,.ptr (st.length+6) 0 0 0),(8,.ptr (st.length+7) 0 0 0),(34,.ref true o0 q0 0 l0.length),(35,.int .i64 (↑l0.length:Int)),(36,.int .i64 (↑k0:Int))])
    (fun(gs0:Nat×Nat) (k0:Nat) (s0:(List Int)×(List Int))=>(U1 st [(o0,(.arr q0 3 40 (rows B5.cells l0)))])++[some (.arr 0 5 0 [[.sl false 2 40 (rows x5.cells a0.hierarchy.types),.sl false 3 32 (rows A0.cells a0.hierarchy.C2),.sl false 10 152 (rows w8.cells a0.rules),.sl false 9 144 (rows D0.cells a0.B3),.sl false 2 32 (rows y4.cells a0.start.nodes)]]),some (.arr 0 2 0 [[.D3,.D3]]),some (.arr 0 2 0 [[.int .i64 0,.int .i64 0]]),none,some (.arr gs0.1 1 8 (rows E1 s0.1)),some (.arr gs0.2 1 8 (rows E1 s0.2)),some (.arr 0 2 0 [[.ref true (st.length+4) gs0.1 0 s0.1.length,.ref true (st.length+5) gs0.2 0 s0.2.length]]),some (.arr 0 1 0 [[.fn 31 [] [.ptr (st.length+6) 0 0 0,.ptr (st.length+7) 0 0 0]]])])
    (fun(gt0:Nat×Nat) (t0:(List Int)×(List Int))=>[(4,.ptr (st.length+1) 0 0 0),(5,.ptr (st.length+2) 0 0 0),(7,.ptr (st.length+6) 0 0 0)])
    (fun(gt0:Nat×Nat) (t0:(List Int)×(List Int))=>(U1 st [(o0,(.arr q0 3 40 (rows B5.cells l0)))])++[none,some (.arr 0 2 0 [[.D3,.D3]]),some (.arr 0 2 0 [[.int .i64 0,.int .i64 0]]),none,some (.arr gt0.1 1 8 (rows E1 t0.1)),some (.arr gt0.2 1 8 (rows E1 t0.2)),some (.arr 0 2 0 [[.ref true (st.length+4) gt0.1 0 t0.1.length,.ref true (st.length+5) gt0.2 0 t0.2.length]])])
    (0,0) fx fx.2 h (bu hsc (hu:=(.lv (.lv (.lv (.dead _ _ _ (.lv (.lv (.live _ _ _ _ (.arr _ _ _ _ _ (.cons _ _ _ _ (.cons _ _ _ _ (vZ (by first|(simp;done)|simp[Fr.get])) (.cons _ _ _ _ (vZ (by first|(simp;done)|simp[Fr.get])) .nil)) (.same _))) (.lv (.nil _)))))))))))
    (fun gs0 k0 s0 b0 fx h hx0=>?_) (fun gs0 s0=>?_) (fun gt0 t0 fr1 st1 h hb=>?_)
   ·unfold ke at h
    refine ct ?_
    refine r0 ?_
    refine r0 ?_
    have fy:=(show(rows B5.cells l0).getD k0 []=B5.cells (get l0 k0)from jk (E:=B5.cells) (l:=l0) (k:=k0) (by first|omega|(simp;omega)))
    have fy:=fa fy (show k0<l0.length from by first|omega|(simp;omega))
    refine r1 ?_
    refine cl h (oo n _ _) fun v17 h=>?_
    refine cd h (fun hc h=>?_) fun hc h=>?_
    ·refine cl h (cJ _ _) fun v18 h=>?_
     refine ra ?_
     cases h
     refine D4 ?_;have h:=congrArg some (hx0 _ rfl)
     refine rr ?_
     exact fuo (.tup [.agg [.sl false 1 8 (rows E1 []),.sl false 1 8 (rows E1 [])],.agg [.int .i64 v18.code,.int .i64 v18.index]]) (.tup _ _ (.cons _ _ _ _ (.agg _ _ (.cons _ _ _ _ (.D3 _ _ _ (by decide)) (.cons _ _ _ _ (.D3 _ _ _ (by decide)) .nil))) (.cons _ _ _ _ .s .nil)) rfl) h hsc (hr:=by rintro rfl;exact⟨rfl,K5 (by simp[fY])⟩)
    ·refine rn ?_
     obtain⟨v19,hv19,h⟩:=E7 h
     refine(td n _ _ _ _ hv19 _ _ _ _ _ gs0.1 gs0.2 (by simp) (R5.trans rfl) (R5.trans rfl) (R5.trans rfl) (R5.trans rfl)).mono ?_
     rintro d1 st1 ⟨rfl,rfl⟩
     refine rn ?_
     cases h
     exact dc (gs0.1,gs0.2) (bu hsc)
   ·refine cf ?_
    refine cP ?_;simp only[go_sem,fx]
    exact⟨(gs0.1,gs0.2),(bu hsc)⟩
   ·try simp only[go_sem,fx]
    unfold kf at h
    refine R8 hb ?_
    refine rr ?_
    exact fuo (.tup [.agg [.sl false 1 8 (rows E1 t0.1),.sl false 1 8 (rows E1 t0.2)],.agg [.int .i64 0,.int .i64 0]]) (.tup _ _ (.cons _ _ _ _ (.agg _ _ (.cons _ _ _ _ (.ref _ _ _ _ _ _ _ _ _ (nL.trans rfl) nN (by decide) (sD _) (by simp only[go_sem])) (.cons _ _ _ _ (.ref _ _ _ _ _ _ _ _ _ (nL.trans rfl) nN (by decide) (sD _) (by simp only[go_sem])) .nil))) (.cons _ _ _ _ .s .nil)) rfl) h hsc (hr:=by rintro rfl;exact⟨rfl,K5 (by simp[fY])⟩)
theorem oq(n:Nat)(a0:y7)(a1:C4)(r:w5)(h:gJ n a0 a1=some r):Pure Tryz.prog gl 12 [.agg [.sl false 2 40 (rows x5.cells a0.hierarchy.types),.sl false 3 32 (rows A0.cells a0.hierarchy.C2),.sl false 10 152 (rows w8.cells a0.rules),.sl false 9 144 (rows D0.cells a0.B3),.sl false 2 32 (rows y4.cells a0.start.nodes)],.agg [.sl false 1 8 (rows E1 a1.rules),.sl false 1 8 (rows E1 a1.B3)]] (.agg [.int .i64 r.code,.int .i64 r.index]):=by
 intro st
 unfold gJ at h
 have fx:=trivial
 refine fb 72 [.cell 4 39] [0,1,2,3,4,5,6,7,8,9,14,24,25,26,27,28,29,30,31,34,35,36,37,44,45,46,51,52,53,54,61,62,63] Tryz.func12 fun hsc=>?_
 refine cl h (iR n _) fun v1 h=>?_
 refine cd h (fun hc h=>?_) fun hc h=>?_
 ·exact rt
 ·refine cd h (fun hc h=>?_) fun hc h=>?_
  ·refine cl h (cJ _ _) fun v2 h=>?_
   exact rt
  ·refine aln 34 fun hl0=>?_
   refine rng (body:=eI a1) (kk:=eJ a1) (n:=a1.rules.length) (s0:=())
    (fun(gs0:Unit) (k0:Nat) (s0:Unit)=>[(3,.ptr (st.length+1) 0 0 0),(4,.ptr (st.length+2) 0 0 0),(34,.sl false 1 8 (rows E1 a1.rules)),(35,.int .i64 (↑a1.rules.length:Int)),(36,.int .i64 (↑k0:Int))])
    (fun(gs0:Unit) (k0:Nat) (s0:Unit)=>st++[none,some (.arr 0 2 0 [[.sl false 1 8 (rows E1 a1.rules),.sl false 1 8 (rows E1 a1.B3)]]),some (.arr 0 2 0 [[.int .i64 0,.int .i64 0]])])
    (fun(gt0:Unit) (t0:Unit)=>[(3,.ptr (st.length+1) 0 0 0),(4,.ptr (st.length+2) 0 0 0)])
    (fun(gt0:Unit) (t0:Unit)=>st++[none,some (.arr 0 2 0 [[.sl false 1 8 (rows E1 a1.rules),.sl false 1 8 (rows E1 a1.B3)]]),some (.arr 0 2 0 [[.int .i64 0,.int .i64 0]])])
    () fx hl0 h (bm hsc)
    (fun gs0 k0 s0 b0 fx h hx0=>?_) (fun gs0 s0=>?_) (fun gt0 t0 fr1 st1 h hb=>?_)
   ·unfold eI at h
    refine ct ?_
    refine cd h (fun hc h=>?_) fun hc h=>?_
    ·refine cl h (cJ _ _) fun v4 h=>?_
     refine ra ?_
     cases h
     refine D4 ?_;have h:=congrArg some (hx0 _ rfl)
     exact rt
    ·refine rn ?_
     cases h
     exact dc () (bm hsc)
   ·refine cf ?_
    refine cP ?_;simp only[go_sem,fx]
    exact⟨(),(bm hsc)⟩
   ·try simp only[go_sem,fx]
    unfold eJ at h
    refine R8 hb ?_
    refine aln 51 fun hl1=>?_
    refine rng (body:=gC a1) (kk:=kg) (n:=a1.B3.length) (s0:=())
     (fun(gs1:Unit) (k1:Nat) (s1:Unit)=>[(3,.ptr (st.length+1) 0 0 0),(4,.ptr (st.length+2) 0 0 0),(51,.sl false 1 8 (rows E1 a1.B3)),(52,.int .i64 (↑a1.B3.length:Int)),(53,.int .i64 (↑k1:Int))])
     (fun(gs1:Unit) (k1:Nat) (s1:Unit)=>st++[none,some (.arr 0 2 0 [[.sl false 1 8 (rows E1 a1.rules),.sl false 1 8 (rows E1 a1.B3)]]),some (.arr 0 2 0 [[.int .i64 0,.int .i64 0]])])
     (fun(gt1:Unit) (t1:Unit)=>[(4,.ptr (st.length+2) 0 0 0)])
     (fun(gt1:Unit) (t1:Unit)=>st++[none,none,some (.arr 0 2 0 [[.int .i64 0,.int .i64 0]])])
     () fx hl1 h (bm hsc)
     (fun gs1 k1 s1 b1 fx h hx1=>?_) (fun gs1 s1=>?_) (fun gt1 t1 fr1 st1 h hb=>?_)
    ·unfold gC at h
     refine ct ?_
     refine cd h (fun hc h=>?_) fun hc h=>?_
     ·refine cl h (cJ _ _) fun v6 h=>?_
      refine ra ?_
      cases h
      refine D4 ?_;have h:=congrArg some (hx1 _ rfl)
      exact rt
     ·refine rn ?_
      cases h
      exact dc () (bm hsc)
    ·refine cf ?_
     refine cP ?_;simp only[go_sem,fx]
     exact⟨(),(bm hsc)⟩
    ·try simp only[go_sem,fx]
     unfold kg at h
     refine R8 hb ?_
     exact rt
theorem dN(a0:Int)(r:Int)(h:eD a0=some r):Pure Tryz.prog gl 43 [.int .i64 a0] (.int .u64 r):=by
 intro st
 unfold eD at h
 have fx:=trivial
 refine fb 12 [.tmp 2] [0,2,4] Tryz.func43 fun hsc=>?_
 refine cd h (fun hc h=>?_) fun hc h=>?_
 ·exact rt
 ·exact rt
theorem gK(n:Nat)(a0:Int)(a1:Int)(r:Int)(h:hH n a0 a1=some r):Pure Tryz.prog gl 42 [.int .u64 a0,.int .u64 a1] (.int .u64 r):=by
 intro st
 unfold hH at h
 have fx:=trivial
 refine fb 12 [.tmp 4] [0,1,4,6] Tryz.func42 fun hsc=>?_
 refine rn ?_
 refine I3 (body:=lS) (kk:=pB) (n:=n) (s0:=(a0,a1))
  (fun(gs0:Unit) (s0:Int×Int)=>[(0,.int .u64 s0.1),(1,.int .u64 s0.2)])
  (fun(gs0:Unit) (s0:Int×Int)=>st)
  (fun(gt0:Unit) (t0:Int)=>[(0,.int .u64 t0)])
  (fun(gt0:Unit) (t0:Int)=>st)
  () h (cT hsc)
  (fun gs0 s0 b0 h hx0=>?_) (fun gt0 t0 fr1 st1 h hb=>?_)
 ·unfold lS at h
  refine cd h (fun hc h=>?_) fun hc h=>?_
  ·refine rn ?_
   obtain⟨fx,h⟩:=ck fx h
   refine dw [] 0 ?_
   cases h
   exact J2 () (cT hsc)
  ·refine rn ?_
   cases h
   exact U0 () (cT hsc)
 ·try simp only[go_sem,fx]
  unfold pB at h
  refine R8 hb ?_
  exact rt
theorem sA(a0:Bool)(a1:Int)(a2:Int)(r:w7×w5)(h:rR a0 a1 a2=some r):Pure Tryz.prog gl 49 [.bool a0,.int .u64 a1,.int .u64 a2] (.tup [.agg [.int .i64 r.1.num,.int .i64 r.1.den],.agg [.int .i64 r.2.code,.int .i64 r.2.index]]):=by
 intro st
 unfold rR at h
 have fx:=trivial
 refine fb 29 [.cell 6 45,.cell 7 39] [0,1,2,6,7,8,12,13,14,22] Tryz.func49 fun hsc=>?_
 refine cd h (fun hc h=>?_) fun hc h=>?_
 ·exact rt
 ·refine cd h (fun hc h=>?_) fun hc h=>?_
  ·exact rt
  ·exact rt
theorem yW(n:Nat)(a0:Int)(a1:Int)(r:w7×w5)(h:oa n a0 a1=some r):Pure Tryz.prog gl 36 [.int .i64 a0,.int .i64 a1] (.tup [.agg [.int .i64 r.1.num,.int .i64 r.1.den],.agg [.int .i64 r.2.code,.int .i64 r.2.index]]):=by
 intro st
 unfold oa at h
 have fx:=trivial
 refine fb 34 [.cell 4 45,.cell 5 39] [0,1,4,5,6,7,8,10] Tryz.func36 fun hsc=>?_
 refine cd h (fun hc h=>?_) fun hc h=>?_
 ·exact rt
 ·refine cl h (dN _) fun v1 h=>?_
  refine cl h (dN _) fun v2 h=>?_
  refine cl h (gK n _ _) fun v3 h=>?_
  refine rn ?_
  obtain⟨fx,h⟩:=ck fx h
  obtain⟨fx,h⟩:=ck fx h
  refine dw [] 0 ?_
  obtain⟨v7,hv7,h⟩:=E7 h
  refine y9 (sA _ _ _ _ hv7) ?_
  try simp only[go_sem,fx]
  exact rt
theorem kD(n:Nat)(a1:(List Int))(l0:(List Int))(l2:(List Int))(r:(List w7))(h:cF n a1 l0 l2=some r):∀(st:St) (o0 o1 o2 q0 q2:Nat) (hnd: [o0,o1,o2].Nodup) (fY:Am.look st o0=some (.arr q0 1 8 (rows E1 l0))) (ot:Am.look st o1=some (.arr 0 1 0 [[.ref true o2 q2 0 l2.length]])) (tX:Am.look st o2=some (.arr q2 1 8 (rows E1 l2))),Am.Spec Tryz.prog gl 35 [.ref false o0 q0 0 l0.length,.sl false 1 8 (rows E1 a1),.ptr o1 0 0 0] st (fun d st'=>d= .sl false 2 16 (rows w7.cells r)∧st'=puts st []):=by
 intro st o0 o1 o2 q0 q2 hnd fY ot tX
 unfold cF at h
 have ho0:=S9 fY
 have ho1:=S9 ot
 have ho2:=S9 tX
 have fx:=fa (fa (fa (idf ho0) (idf ho1)) (idf ho2)) (nd3 hnd)
 refine fb 41 [.tmp 5] [0,1,2,5,6,7,8,9,10,11,12,13,22] Tryz.func35 fun hsc=>?_
 refine kS (s':=(U1 st [(o0,(.arr q0 1 8 (rows E1 l0))),(o1,(.arr 0 1 0 [[.ref true o2 q2 0 l2.length]])),(o2,(.arr q2 1 8 (rows E1 l2)))])) (K5 (by simp[fY,ot,tX])) ?_
 refine r0 ?_
 refine r0 ?_
 refine r0 ?_
 (repeat apply sq_)
 refine nJ 2 16 ?_
 try simp only[List.append_assoc,List.cons_append,List.nil_append]
 refine R8 (F:=[(1,.sl false 1 8 (rows E1 a1)),(2,.ptr o1 0 0 0),(6,.ref false st.length 0 0 0),(10,.ref false o0 q0 0 l0.length),(11,.int .i64 (↑l0.length:Int)),(12,.int .i64 0)]) (T:=(U1 st [(o0,(.arr q0 1 8 (rows E1 l0))),(o1,(.arr 0 1 0 [[.ref true o2 q2 0 l2.length]])),(o2,(.arr q2 1 8 (rows E1 l2)))])++[some (.arr 0 2 16 (rows w7.cells []))]) (Ft (by simp) (mQ hsc (by simp<;>omega)) (.lv (.nil _)) (by simp<;>omega) ⟨.s,.s,.nref _ _ _ _ _ _ (tJ.trans rfl),.s,.s,.s,trivial⟩ (by simp<;>omega)) ?_
 obtain⟨fx,h⟩:=ck fx h
 (repeat apply sq_)
 refine rng (body:=dr n l0 l2 a1) (kk:=fR) (n:=l0.length) (s0:=[])
  (fun(gs0:Nat) (k0:Nat) (s0:(List w7))=>[(1,.sl false 1 8 (rows E1 a1)),(2,.ptr o1 0 0 0),(6,.ref false st.length gs0 0 s0.length),(10,.ref false o0 q0 0 l0.length),(11,.int .i64 (↑l0.length:Int)),(12,.int .i64 (↑k0:Int))])
  (fun(gs0:Nat) (k0:Nat) (s0:(List w7))=>(U1 st [(o0,(.arr q0 1 8 (rows E1 l0))),(o1,(.arr 0 1 0 [[.ref true o2 q2 0 l2.length]])),(o2,(.arr q2 1 8 (rows E1 l2)))])++[some (.arr gs0 2 16 (rows w7.cells s0))])
  (fun(gt0:Nat) (t0:(List w7))=>[(6,.ref false st.length gt0 0 t0.length)])
  (fun(gt0:Nat) (t0:(List w7))=>(U1 st [(o0,(.arr q0 1 8 (rows E1 l0))),(o1,(.arr 0 1 0 [[.ref true o2 q2 0 l2.length]])),(o2,(.arr q2 1 8 (rows E1 l2)))])++[some (.arr gt0 2 16 (rows w7.cells t0))])
  0 fx fx.2 h (bu hsc)
  (fun gs0 k0 s0 b0 fx h hx0=>?_) (fun gs0 s0=>?_) (fun gt0 t0 fr1 st1 h hb=>?_)
 ·unfold dr at h
  refine ct ?_
  refine r0 ?_
  refine r0 ?_
  have fy:=(show(rows E1 l0).getD k0 []=E1 (get l0 k0)from jk (E:=E1) (l:=l0) (k:=k0) (by first|omega|(simp;omega)))
  have fy:=fa fy (show k0<l0.length from by first|omega|(simp;omega))
  refine r1 ?_
  refine r0 ?_
  obtain⟨fx,h⟩:=ck fx h
  have fy:=(show(rows E1 l2).getD ((get l0 k0).toNat) []=E1 (get l2 ((get l0 k0).toNat))from jk (E:=E1) (l:=l2) (k:=(get l0 k0).toNat) (by first|omega|(simp;omega)))
  have fy:=fa fy (show(get l0 k0).toNat<l2.length from by first|omega|(simp;omega))
  refine r1 ?_
  refine cd h (fun hc h=>?_) fun hc h=>?_
  ·refine rs ?_
   obtain⟨fx,h⟩:=ck fx h
   have fy:=(show(rows E1 l2).getD ((get l0 k0).toNat) []=E1 (get l2 ((get l0 k0).toNat))from jk (E:=E1) (l:=l2) (k:=(get l0 k0).toNat) (by first|omega|(simp;omega)))
   have fy:=fa fy (show(get l0 k0).toNat<l2.length from by first|omega|(simp;omega))
   refine dwy [] 0 ?_
   obtain⟨v33,hv33,h⟩:=E7 h
   refine y9 (yW n _ _ _ hv33) ?_
   try simp only[go_sem,fx,fy]
   obtain⟨c35,Na,h⟩:=lK h
   have fy:=(show rows w7.cells s0++[[.int .i64 v33.1.num,.int .i64 v33.1.den]]=rows w7.cells c35 from by rw[Na];first|exact bA (E:=w7.cells) s0 [v33.1]|simp only[go_sem,rows,List.map_append,List.map_cons,List.map_nil])
   have fy:=fa fy (show s0.length+1=c35.length from by rw[Na];simp)
   obtain⟨fx,h⟩:=ck fx h
   refine r1 ?_
   refine rn ?_
   cases h
   exact dc (gs0+1) (bu hsc)
  ·refine r0 ?_
   obtain⟨c41,Nb,h⟩:=lK h
   have fy:=(show rows w7.cells s0++[[.int .i64 0,.int .i64 1]]=rows w7.cells c41 from by rw[Nb];first|exact bA (E:=w7.cells) s0 [(w7.mk 0 1)]|simp only[go_sem,rows,List.map_append,List.map_cons,List.map_nil])
   have fy:=fa fy (show s0.length+1=c41.length from by rw[Nb];simp)
   obtain⟨fx,h⟩:=ck fx h
   refine r1 ?_
   refine rn ?_
   cases h
   exact dc (gs0+1) (bu hsc)
 ·refine cf ?_
  refine cP ?_;simp only[go_sem,fx]
  exact⟨gs0,(bu hsc)⟩
 ·try simp only[go_sem,fx]
  unfold fR at h
  refine R8 hb ?_
  refine rr ?_
  exact fuo (.sl false 2 16 (rows w7.cells t0)) (.ref _ _ _ _ _ _ _ _ _ (tJ.trans rfl) Ax (by decide) (sD _) (by simp only[go_sem])) h hsc (hr:=by rintro rfl;exact⟨rfl,K5 (by simp[fY,ot,tX])⟩)
theorem lA(n:Nat)(a0:y7)(a1:C4)(r:(List w7)×(List w7))(h:dQ n a0 a1=some r):Pure Tryz.prog gl 13 [.agg [.sl false 2 40 (rows x5.cells a0.hierarchy.types),.sl false 3 32 (rows A0.cells a0.hierarchy.C2),.sl false 10 152 (rows w8.cells a0.rules),.sl false 9 144 (rows D0.cells a0.B3),.sl false 2 32 (rows y4.cells a0.start.nodes)],.agg [.sl false 1 8 (rows E1 a1.rules),.sl false 1 8 (rows E1 a1.B3)]] (.tup [.sl false 2 16 (rows w7.cells r.1),.sl false 2 16 (rows w7.cells r.2)]):=by
 intro st
 unfold dQ at h
 have fx:=trivial
 refine fb 95 [.tmp 4,.tmp 5] [0,1,2,3,4,5,6,7,8,9,10,11,12,13,14,15,22,23,24,25,55,56,57,58] Tryz.func13 fun hsc=>?_
 refine r0 ?_
 obtain⟨fx,h⟩:=ck fx h
 have fy:=(show List.replicate a0.hierarchy.types.length [.int .i64 0]=rows E1 (List.replicate a0.hierarchy.types.length (default:Int))from iJ (E:=E1) _ default)
 refine r1 ?_
 refine r0 ?_
 refine r0 ?_
 (repeat apply sq_)
 refine nJ 1 8 ?_
 try simp only[List.append_assoc,List.cons_append,List.nil_append]
 refine R8 (F:=[(2,.ptr st.length 0 0 0),(3,.ptr (st.length+1) 0 0 0),(6,.ptr (st.length+3) 0 0 0),(7,.ref false (st.length+4) 0 0 0),(8,.D3),(22,.sl false 10 152 (rows w8.cells a0.rules)),(23,.int .i64 (↑a0.rules.length:Int)),(24,.int .i64 0)]) (T:=st++[some (.arr 0 5 0 [[.sl false 2 40 (rows x5.cells a0.hierarchy.types),.sl false 3 32 (rows A0.cells a0.hierarchy.C2),.sl false 10 152 (rows w8.cells a0.rules),.sl false 9 144 (rows D0.cells a0.B3),.sl false 2 32 (rows y4.cells a0.start.nodes)]]),some (.arr 0 2 0 [[.sl false 1 8 (rows E1 a1.rules),.sl false 1 8 (rows E1 a1.B3)]]),some (.arr 0 1 8 (rows E1 (List.replicate a0.hierarchy.types.length (default:Int)))),some (.arr 0 1 0 [[.ref true (st.length+2) 0 0 a0.hierarchy.types.length]]),some (.arr 0 1 8 (rows E1 []))]) (yu hsc (.lv (.lv (.lv (.lv (.lv (.nil _)))))) (by simp) ⟨.s,.s,.s,.nref _ _ _ _ _ _ (nK.trans rfl),.s,.s,.s,.s,trivial⟩ (by simp)) ?_
 refine aln 22 fun hl0=>?_
 refine rng (body:=eE n a0 a1) (kk:=eF n a0 a1) (n:=a0.rules.length) (s0:=((List.replicate a0.hierarchy.types.length (default:Int)),[]))
  (fun(gs0:Nat×Nat) (k0:Nat) (s0:(List Int)×(List Int))=>[(2,.ptr st.length 0 0 0),(3,.ptr (st.length+1) 0 0 0),(6,.ptr (st.length+3) 0 0 0),(7,.ref false (st.length+4) gs0.2 0 s0.2.length),(8,.D3),(22,.sl false 10 152 (rows w8.cells a0.rules)),(23,.int .i64 (↑a0.rules.length:Int)),(24,.int .i64 (↑k0:Int))])
  (fun(gs0:Nat×Nat) (k0:Nat) (s0:(List Int)×(List Int))=>st++[some (.arr 0 5 0 [[.sl false 2 40 (rows x5.cells a0.hierarchy.types),.sl false 3 32 (rows A0.cells a0.hierarchy.C2),.sl false 10 152 (rows w8.cells a0.rules),.sl false 9 144 (rows D0.cells a0.B3),.sl false 2 32 (rows y4.cells a0.start.nodes)]]),some (.arr 0 2 0 [[.sl false 1 8 (rows E1 a1.rules),.sl false 1 8 (rows E1 a1.B3)]]),some (.arr gs0.1 1 8 (rows E1 s0.1)),some (.arr 0 1 0 [[.ref true (st.length+2) gs0.1 0 s0.1.length]]),some (.arr gs0.2 1 8 (rows E1 s0.2))])
  (fun(gt0:Nat×Nat) (t0:(List Int)×(List Int))=>[(2,.ptr st.length 0 0 0),(3,.ptr (st.length+1) 0 0 0),(6,.ptr (st.length+3) 0 0 0),(7,.ref false (st.length+4) gt0.2 0 t0.2.length),(8,.D3)])
  (fun(gt0:Nat×Nat) (t0:(List Int)×(List Int))=>st++[some (.arr 0 5 0 [[.sl false 2 40 (rows x5.cells a0.hierarchy.types),.sl false 3 32 (rows A0.cells a0.hierarchy.C2),.sl false 10 152 (rows w8.cells a0.rules),.sl false 9 144 (rows D0.cells a0.B3),.sl false 2 32 (rows y4.cells a0.start.nodes)]]),some (.arr 0 2 0 [[.sl false 1 8 (rows E1 a1.rules),.sl false 1 8 (rows E1 a1.B3)]]),some (.arr gt0.1 1 8 (rows E1 t0.1)),some (.arr 0 1 0 [[.ref true (st.length+2) gt0.1 0 t0.1.length]]),some (.arr gt0.2 1 8 (rows E1 t0.2))])
  (0,0) fx hl0 h (bm hsc (hu:=(.lv (.lv (.lv (.live _ _ _ _ (.arr _ _ _ _ _ (.cons _ _ _ _ (.cons _ _ _ _ (vZ (by first|(simp;done)|simp[Fr.get])) .nil) (.same _))) (.lv (.nil _))))))))
  (fun gs0 k0 s0 b0 fx h hx0=>?_) (fun gs0 s0=>?_) (fun gt0 t0 fr1 st1 h hb=>?_)
 ·unfold eE at h
  refine ct ?_
  refine rn ?_
  refine dw [] 0 ?_
  obtain⟨v23,hv23,h⟩:=E7 h
  refine y9 (mJ n _ _ _ _ hv23) ?_
  obtain⟨fx,h⟩:=ck fx h
  try simp only[go_sem,fx]
  obtain⟨c27,Nc,h⟩:=lK h
  have fy:=(show rows E1 s0.2++[[.int .i64 ((get ((get a0.rules k0).graph.nodes) v23.toNat).type)]]=rows E1 c27 from by rw[Nc];first|exact bA (E:=E1) s0.2 [(get ((get a0.rules k0).graph.nodes) v23.toNat).type]|simp only[go_sem,rows,List.map_append,List.map_cons,List.map_nil])
  have fy:=fa fy (show s0.2.length+1=c27.length from by rw[Nc];simp)
  obtain⟨fx,h⟩:=ck fx h
  refine r1 ?_
  refine rs ?_
  obtain⟨fx,h⟩:=ck fx h
  have fy:=(show(rows E1 s0.1).getD (((get ((get a0.rules k0).graph.nodes) v23.toNat).type).toNat) []=E1 (get s0.1 (((get ((get a0.rules k0).graph.nodes) v23.toNat).type).toNat))from jk (E:=E1) (l:=s0.1) (k:=((get ((get a0.rules k0).graph.nodes) v23.toNat).type).toNat) (by first|omega|(simp;omega)))
  have fy:=fa fy (show((get ((get a0.rules k0).graph.nodes) v23.toNat).type).toNat<s0.1.length from by first|omega|(simp;omega))
  obtain⟨fx,h⟩:=ck fx h
  have fy:=fa fy (show(rows E1 s0.1).getD (((get ((get a0.rules k0).graph.nodes) v23.toNat).type).toNat) []=E1 (get s0.1 (((get ((get a0.rules k0).graph.nodes) v23.toNat).type).toNat))from jk (E:=E1) (l:=s0.1) (k:=((get ((get a0.rules k0).graph.nodes) v23.toNat).type).toNat) (by first|omega|(simp;omega)))
  have fy:=fa fy (show((get ((get a0.rules k0).graph.nodes) v23.toNat).type).toNat<s0.1.length from by first|omega|(simp;omega))
  obtain⟨c39,Nd,h⟩:=lK h
  have fy:=fa fy (show(rows E1 s0.1).set (((get ((get a0.rules k0).graph.nodes) v23.toNat).type).toNat) [.int .i64 (wr .i64 ((get s0.1 (((get ((get a0.rules k0).graph.nodes) v23.toNat).type).toNat))+(get a1.rules k0)))]=rows E1 c39 from by rw[Nd];first|exact vY (E:=E1) _ _ _|simp only[go_sem,rows,List.map_set])
  refine dwy [] 0 ?_
  have e41:D.ref true (st.length+2) gs0.1 0 s0.1.length=D.ref true (st.length+2) gs0.1 0 c39.length:=by simp[Nd]
  simp only[e41]
  refine rn ?_
  cases h
  exact dc (gs0.1,(gs0.2+1)) (bm hsc)
 ·refine cf ?_
  refine cP ?_;simp only[go_sem,fx]
  exact⟨(gs0.1,gs0.2),(bm hsc)⟩
 ·try simp only[go_sem,fx]
  unfold eF at h
  refine R8 hb ?_
  refine r0 ?_
  (repeat apply sq_)
  refine nJ 1 8 ?_
  try simp only[List.append_assoc,List.cons_append,List.nil_append]
  refine R8 (F:=[(3,.ptr (st.length+1) 0 0 0),(6,.ptr (st.length+3) 0 0 0),(7,.ref false (st.length+4) gt0.2 0 t0.2.length),(8,.ref false (st.length+5) 0 0 0),(55,.sl false 9 144 (rows D0.cells a0.B3)),(56,.int .i64 (↑a0.B3.length:Int)),(57,.int .i64 0)]) (T:=st++[some (.arr 0 5 0 [[.sl false 2 40 (rows x5.cells a0.hierarchy.types),.sl false 3 32 (rows A0.cells a0.hierarchy.C2),.sl false 10 152 (rows w8.cells a0.rules),.sl false 9 144 (rows D0.cells a0.B3),.sl false 2 32 (rows y4.cells a0.start.nodes)]]),some (.arr 0 2 0 [[.sl false 1 8 (rows E1 a1.rules),.sl false 1 8 (rows E1 a1.B3)]]),some (.arr gt0.1 1 8 (rows E1 t0.1)),some (.arr 0 1 0 [[.ref true (st.length+2) gt0.1 0 t0.1.length]]),some (.arr gt0.2 1 8 (rows E1 t0.2)),some (.arr 0 1 8 (rows E1 []))]) (yu hsc (.lv (.lv (.lv (.lv (.lv (.lv (.nil _))))))) (by simp) ⟨.s,.s,.s,.nref _ _ _ _ _ _ (nK.trans rfl),.s,.s,.s,trivial⟩ (by simp)) ?_
  refine aln 55 fun hl1=>?_
  refine rng (body:=eG a0 a1) (kk:=eH n a1 t0) (n:=a0.B3.length) (s0:=(t0.1,[]))
   (fun(gs1:Nat×Nat) (k1:Nat) (s1:(List Int)×(List Int))=>[(3,.ptr (st.length+1) 0 0 0),(6,.ptr (st.length+3) 0 0 0),(7,.ref false (st.length+4) gt0.2 0 t0.2.length),(8,.ref false (st.length+5) gs1.2 0 s1.2.length),(55,.sl false 9 144 (rows D0.cells a0.B3)),(56,.int .i64 (↑a0.B3.length:Int)),(57,.int .i64 (↑k1:Int))])
   (fun(gs1:Nat×Nat) (k1:Nat) (s1:(List Int)×(List Int))=>st++[none,some (.arr 0 2 0 [[.sl false 1 8 (rows E1 a1.rules),.sl false 1 8 (rows E1 a1.B3)]]),some (.arr gs1.1 1 8 (rows E1 s1.1)),some (.arr 0 1 0 [[.ref true (st.length+2) gs1.1 0 s1.1.length]]),some (.arr gt0.2 1 8 (rows E1 t0.2)),some (.arr gs1.2 1 8 (rows E1 s1.2))])
   (fun(gt1:Nat×Nat) (t1:(List Int)×(List Int))=>[(3,.ptr (st.length+1) 0 0 0),(6,.ptr (st.length+3) 0 0 0),(7,.ref false (st.length+4) gt0.2 0 t0.2.length),(8,.ref false (st.length+5) gt1.2 0 t1.2.length)])
   (fun(gt1:Nat×Nat) (t1:(List Int)×(List Int))=>st++[none,some (.arr 0 2 0 [[.sl false 1 8 (rows E1 a1.rules),.sl false 1 8 (rows E1 a1.B3)]]),some (.arr gt1.1 1 8 (rows E1 t1.1)),some (.arr 0 1 0 [[.ref true (st.length+2) gt1.1 0 t1.1.length]]),some (.arr gt0.2 1 8 (rows E1 t0.2)),some (.arr gt1.2 1 8 (rows E1 t1.2))])
   (gt0.1,0) fx hl1 h (bm hsc)
   (fun gs1 k1 s1 b1 fx h hx1=>?_) (fun gs1 s1=>?_) (fun gt1 t1 fr1 st1 h hb=>?_)
  ·unfold eG at h
   refine ct ?_
   obtain⟨fx,h⟩:=ck fx h
   refine r0 ?_
   refine r0 ?_
   refine r0 ?_
   refine r0 ?_
   obtain⟨c61,Nf,h⟩:=lK h
   have fy:=(show rows E1 s1.2++[[.int .i64 ((get ((get a0.B3 k1).graph.nodes) 0).type)]]=rows E1 c61 from by rw[Nf];first|exact bA (E:=E1) s1.2 [(get ((get a0.B3 k1).graph.nodes) 0).type]|simp only[go_sem,rows,List.map_append,List.map_cons,List.map_nil])
   have fy:=fa fy (show s1.2.length+1=c61.length from by rw[Nf];simp)
   obtain⟨fx,h⟩:=ck fx h
   refine r1 ?_
   refine rs ?_
   obtain⟨fx,h⟩:=ck fx h
   have fy:=(show(rows E1 s1.1).getD (((get ((get a0.B3 k1).graph.nodes) 0).type).toNat) []=E1 (get s1.1 (((get ((get a0.B3 k1).graph.nodes) 0).type).toNat))from jk (E:=E1) (l:=s1.1) (k:=((get ((get a0.B3 k1).graph.nodes) 0).type).toNat) (by first|omega|(simp;omega)))
   have fy:=fa fy (show((get ((get a0.B3 k1).graph.nodes) 0).type).toNat<s1.1.length from by first|omega|(simp;omega))
   obtain⟨fx,h⟩:=ck fx h
   have fy:=fa fy (show(rows E1 s1.1).getD (((get ((get a0.B3 k1).graph.nodes) 0).type).toNat) []=E1 (get s1.1 (((get ((get a0.B3 k1).graph.nodes) 0).type).toNat))from jk (E:=E1) (l:=s1.1) (k:=((get ((get a0.B3 k1).graph.nodes) 0).type).toNat) (by first|omega|(simp;omega)))
   have fy:=fa fy (show((get ((get a0.B3 k1).graph.nodes) 0).type).toNat<s1.1.length from by first|omega|(simp;omega))
   obtain⟨c73,Ng,h⟩:=lK h
   have fy:=fa fy (show(rows E1 s1.1).set (((get ((get a0.B3 k1).graph.nodes) 0).type).toNat) [.int .i64 (wr .i64 ((get s1.1 (((get ((get a0.B3 k1).graph.nodes) 0).type).toNat))+(get a1.B3 k1)))]=rows E1 c73 from by rw[Ng];first|exact vY (E:=E1) _ _ _|simp only[go_sem,rows,List.map_set])
   refine dwy [] 0 ?_
   have e75:D.ref true (st.length+2) gs1.1 0 s1.1.length=D.ref true (st.length+2) gs1.1 0 c73.length:=by simp[Ng]
   simp only[e75]
   refine rn ?_
   cases h
   exact dc (gs1.1,(gs1.2+1)) (bm hsc)
  ·refine cf ?_
   refine cP ?_;simp only[go_sem,fx]
   exact⟨(gs1.1,gs1.2),(bm hsc)⟩
  ·try simp only[go_sem,fx]
   unfold eH at h
   refine R8 hb ?_
   refine rn ?_
   refine dw [4,8,9] 0 ?_
   obtain⟨v76,hv76,h⟩:=E7 h
   refine pN [(st.length+4),(st.length+3),(st.length+2)] (fun st2 h2=>(kD n _ _ _ _ hv76 st2 _ _ _ gt0.2 gt1.1 (by simp) ((h2 _ (by simp)).trans (U5.trans rfl)) ((h2 _ (by simp)).trans (U5.trans rfl)) ((h2 _ (by simp)).trans (U5.trans rfl)))) (by simp) (by simp only[List.mem_cons,List.not_mem_nil,or_false,forall_eq_or_imp,forall_eq];exact⟨⟨by first|omega|(simp<;>omega),_,(U5.trans rfl),Ob.noConfusion⟩,⟨by first|omega|(simp<;>omega),_,(U5.trans rfl),Ob.noConfusion⟩,⟨by first|omega|(simp<;>omega),_,(U5.trans rfl),Ob.noConfusion⟩⟩) (by simp) ?_
   try simp only[go_sem,fx]
   obtain⟨v77,hv77,h⟩:=E7 h
   refine pN [(st.length+5),(st.length+3),(st.length+2)] (fun st2 h2=>(kD n _ _ _ _ hv77 st2 _ _ _ gt1.2 gt1.1 (by simp) ((h2 _ (by simp)).trans (U5.trans rfl)) ((h2 _ (by simp)).trans (U5.trans rfl)) ((h2 _ (by simp)).trans (U5.trans rfl)))) (by simp) (by simp only[List.mem_cons,List.not_mem_nil,or_false,forall_eq_or_imp,forall_eq];exact⟨⟨by first|omega|(simp<;>omega),_,(U5.trans rfl),Ob.noConfusion⟩,⟨by first|omega|(simp<;>omega),_,(U5.trans rfl),Ob.noConfusion⟩,⟨by first|omega|(simp<;>omega),_,(U5.trans rfl),Ob.noConfusion⟩⟩) (by simp) ?_
   try simp only[go_sem,fx]
   try refine⟨by(simp<;>omega),?_⟩
   exact rt
end Go.Proofs.YtoekkdodipnmpaaGreatDoor
