import Derived.Test.YtgaeiccgdpnkkaaGreatDoorWWalk19
set_option linter.unusedVariables false
set_option linter.unusedSimpArgs false
set_option maxHeartbeats 2000000
set_option maxRecDepth 100000
namespace Go.Proofs.YtgaeiccgdpnkkaaGreatDoor
open Go Go.Am
theorem d2W (n : Nat) (a0 : Xa) (a1 : Xt) (r : Bool) (h : Yn n a0 a1 = some r) : Pure Tryz.prog gl 7 [.agg [.sl false 2 40 (rows WT.cells a0.hierarchy.types), .sl false 3 32 (rows Xf.cells a0.hierarchy.Xw), .sl false 10 152 (rows WQ.cells a0.rules), .sl false 9 144 (rows XE.cells a0.Xj), .sl false 2 32 (rows WX.cells a0.start.nodes)], .agg [.sl false 1 8 (rows XM a1.rules), .sl false 1 8 (rows XM a1.Xj)]] (.bool r) := by
 intro st
 unfold Yn at h
 have fx := trivial
 refine fb 88 [.tmp 4] [0, 1, 2, 3, 4, 5, 6, 7, 8, 9, 10, 12, 25, 30, 31, 32, 35, 36, 37, 43, 44, 45, 46, 47, 48, 51, 52, 53, 54, 55, 56, 57, 61, 72, 76, 87] Tryz.func7 fun hsc => ?_
 refine cl h (d6d n) fun v1 h => ?_
 refine cd h (fun hc h => ?_) fun hc h => ?_
 ·exact rt
 ·refine cl h (i1p n _ _) fun v2 h => ?_
  refine cl h (d5L n _ _) fun v3 h => ?_
  refine cd h (fun hc h => ?_) fun hc h => ?_
  ·exact rt
  ·refine cd h (fun hc h => ?_) fun hc h => ?_
   ·exact rt
   ·refine rn ?_
    refine XV (body := Yd n v2 a0 a1) (kk := Ye n v2 a0 a1) (n := n) (s0 := 0)
     (fun (gs0 : Unit) (s0 : Int) => [(2, .ptr st.length 0 0 0), (3, .ptr (st.length + 1) 0 0 0), (5, .sl false 2 16 (rows WZ.cells v2.1)), (6, .sl false 2 16 (rows WZ.cells v2.2.1)), (9, .int .i64 s0)])
     (fun (gs0 : Unit) (s0 : Int) => st ++ [some (.arr 0 5 0 [[.sl false 2 40 (rows WT.cells a0.hierarchy.types), .sl false 3 32 (rows Xf.cells a0.hierarchy.Xw), .sl false 10 152 (rows WQ.cells a0.rules), .sl false 9 144 (rows XE.cells a0.Xj), .sl false 2 32 (rows WX.cells a0.start.nodes)]]), some (.arr 0 2 0 [[.sl false 1 8 (rows XM a1.rules), .sl false 1 8 (rows XM a1.Xj)]])])
     (fun (gt0 : Unit) (t0 : Unit) => [(2, .ptr st.length 0 0 0), (3, .ptr (st.length + 1) 0 0 0), (6, .sl false 2 16 (rows WZ.cells v2.2.1))])
     (fun (gt0 : Unit) (t0 : Unit) => st ++ [some (.arr 0 5 0 [[.sl false 2 40 (rows WT.cells a0.hierarchy.types), .sl false 3 32 (rows Xf.cells a0.hierarchy.Xw), .sl false 10 152 (rows WQ.cells a0.rules), .sl false 9 144 (rows XE.cells a0.Xj), .sl false 2 32 (rows WX.cells a0.start.nodes)]]), some (.arr 0 2 0 [[.sl false 1 8 (rows XM a1.rules), .sl false 1 8 (rows XM a1.Xj)]])])
     () h (bm hsc)
     (fun gs0 s0 b0 h hx0 => ?_) (fun gt0 t0 fr1 st1 h hb => ?_)
    ·unfold Yd at h
     refine cd h (fun hc h => ?_) fun hc h => ?_
     ·refine rn ?_
      obtain ⟨fx, h⟩ := ck fx h
      refine dw [] 0 ?_
      obtain ⟨v8, hv8, h⟩ := XT h
      refine Xe (d3X n _ _ _ _ _ hv8) ?_
      try simp only [go_sem, fx]
      refine cd h (fun hc h => ?_) fun hc h => ?_
      ·refine ra ?_
       cases h
       refine d2c ?_; have h := congrArg some (hx0 _ rfl)
       exact rt
      ·refine rn ?_
       cases h
       exact Yg () (bm hsc)
     ·refine rn ?_
      cases h
      exact Zq () (bm hsc)
    ·try simp only [go_sem, fx]
     unfold Ye at h
     refine d0s hb ?_
     refine rn ?_
     refine XV (body := Yf n v2 a0 a1) (kk := YQ) (n := n) (s0 := 0)
      (fun (gs1 : Unit) (s1 : Int) => [(2, .ptr st.length 0 0 0), (3, .ptr (st.length + 1) 0 0 0), (6, .sl false 2 16 (rows WZ.cells v2.2.1)), (10, .int .i64 s1)])
      (fun (gs1 : Unit) (s1 : Int) => st ++ [some (.arr 0 5 0 [[.sl false 2 40 (rows WT.cells a0.hierarchy.types), .sl false 3 32 (rows Xf.cells a0.hierarchy.Xw), .sl false 10 152 (rows WQ.cells a0.rules), .sl false 9 144 (rows XE.cells a0.Xj), .sl false 2 32 (rows WX.cells a0.start.nodes)]]), some (.arr 0 2 0 [[.sl false 1 8 (rows XM a1.rules), .sl false 1 8 (rows XM a1.Xj)]])])
      (fun (gt1 : Unit) (t1 : Unit) => [])
      (fun (gt1 : Unit) (t1 : Unit) => st)
      () h (bm hsc)
      (fun gs1 s1 b1 h hx1 => ?_) (fun gt1 t1 fr1 st1 h hb => ?_)
     ·unfold Yf at h
      refine cd h (fun hc h => ?_) fun hc h => ?_
      ·refine rn ?_
       obtain ⟨fx, h⟩ := ck fx h
       refine dw [] 0 ?_
       obtain ⟨v13, hv13, h⟩ := XT h
       refine Xe (d3X n _ _ _ _ _ hv13) ?_
       try simp only [go_sem, fx]
       refine cd h (fun hc h => ?_) fun hc h => ?_
       ·refine ra ?_
        cases h
        refine d2c ?_; have h := congrArg some (hx1 _ rfl)
        exact rt
       ·refine rn ?_
        cases h
        exact Yg () (bm hsc)
      ·refine rn ?_
       cases h
       exact Zq () (bm0 hsc)
     ·try simp only [go_sem, fx]
      unfold YQ at h
      refine d0s hb ?_
      exact rt
end Go.Proofs.YtgaeiccgdpnkkaaGreatDoor
