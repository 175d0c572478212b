import Derived.Test.YtgaeiccgdpnkkaaGreatDoorPWalk4
set_option linter.unusedVariables false
set_option linter.unusedSimpArgs false
set_option maxHeartbeats 2000000
set_option maxRecDepth 100000
namespace Go.Proofs.YtgaeiccgdpnkkaaGreatDoor
open Go Go.Am
theorem i0F (n : Nat) (a0 : Bs) (a1 : Bs) (r : Bool) (h : d2G n a0 a1 = some r) : Pure Tryz.prog gl 218 [.str a0, .str a1] (.bool r) := by
 intro st
 unfold d2G at h
 have fx := trivial
 refine fb 9 [.tmp 4] [0, 1, 4] Tryz.func218 fun hsc => ?_
 refine cl h (i2y n _ _) fun v1 h => ?_
 exact rt
theorem i5O (n : Nat) (a0 : Bs) (r : Bool) (h : d8j n a0 = some r) : Pure Tryz.prog gl 176 [.str a0] (.bool r) := by
 intro st
 unfold d8j at h
 have fx := trivial
 refine fb 21 [.tmp 2] [0, 2, 3, 9, 10, 13, 14, 17, 18, 19] Tryz.func176 fun hsc => ?_
 refine cl h (d6X n _) fun v1 h => ?_
 refine rn ?_
 obtain ⟨v2, hv2, h⟩ := Zg h
 refine d8Z (fun hG => (d9e n _ _ (i5y hv2 (by simpa using hG)))) ?_
 refine rn ?_
 obtain ⟨v3, hv3, h⟩ := Zg h
 refine d8Z (fun hG => (i0F n _ _ _ (i5y hv3 (by simpa using hG)))) ?_
 exact rt
theorem i5p (n : Nat) (a0 : Yo) (a1 : YB) (a2 : YT) (r : Int) (h : d7o n a0 a1 a2 = some r) : Pure Tryz.prog gl 118 [.agg [.sl false 2 40 (rows Yl.cells a0.types), .sl false 3 32 (rows Yw.cells a0.YL)], .agg [.sl false 1 8 (rows d3L a1.up), .sl false 1 8 (rows d3L a1.down)], .agg [.str a2.word, .sl false 2 32 (rows Yq.cells a2.graph.nodes), .int .i64 a2.weight, .int .i64 a2.meaning.kind, .str a2.meaning.name, .int .i64 a2.meaning.index, .str a2.meaning.type.base, .sl false 2 40 (rows Ye.cells a2.meaning.type.args), .sl false 6 96 (rows Yh.cells a2.meaning.args)]] (.int .i64 r) := by
 intro st
 unfold d7o at h
 have fx := trivial
 refine fb 34 [.tmp 6] [0, 1, 2, 3, 4, 5, 6, 7, 11, 16, 17, 18, 19, 27] Tryz.func118 fun hsc => ?_
 refine cl h (i5O n _) fun v1 h => ?_
 refine cd h (fun hc h => ?_) fun hc h => ?_
 ·exact rt
 ·refine cd h (fun hc h => ?_) fun hc h => ?_
  ·exact rt
  ·refine cl h (d9d n _ _ _) fun v2 h => ?_
   refine cd h (fun hc h => ?_) fun hc h => ?_
   ·exact rt
   ·refine cl h (i0E n _) fun v3 h => ?_
    exact rt
theorem d8Q (n : Nat) (a0 : Yn) (r : Yg) (h : d4j n a0 = some r) : Pure Tryz.prog gl 51 [.agg [.sl false 2 40 (rows Yl.cells a0.hierarchy.types), .sl false 3 32 (rows Yw.cells a0.hierarchy.YL), .sl false 10 152 (rows Yi.cells a0.rules), .sl false 9 144 (rows YT.cells a0.Yy), .sl false 2 32 (rows Yq.cells a0.start.nodes)]] (.agg [.int .i64 r.code, .int .i64 r.index]) := by
 intro st
 unfold d4j at h
 have fx := trivial
 refine fb 112 [.cell 2 41] [0, 1, 2, 3, 4, 5, 6, 7, 8, 10, 11, 12, 13, 14, 15, 22, 27, 34, 35, 36, 37, 38, 45, 46, 47, 48, 55, 65, 77, 83, 84, 85, 86, 95, 107] Tryz.func51 fun hsc => ?_
 refine cl h (i1c _) fun v1 h => ?_
 refine cd h (fun hc h => ?_) fun hc h => ?_
 ·exact rt
 ·refine cd h (fun hc h => ?_) fun hc h => ?_
  ·refine cl h (d3o _ _) fun v2 h => ?_
   exact rt
  ·refine cd h (fun hc h => ?_) fun hc h => ?_
   ·refine cl h (d3o _ _) fun v3 h => ?_
    exact rt
   ·refine cl h (d8R _) fun v4 h => ?_
    refine aln 45 fun hl0 => ?_
    refine rng (body := d4Z n a0 v4) (kk := d5a n a0 v4) (n := a0.rules.length) (s0 := [])
     (fun (gs0 : Unit) (k0 : Nat) (s0 : (List (Bs × Int))) => [(1, .ptr st.length 0 0 0), (2, .ptr (st.length + 1) 0 0 0), (3, .ptr (st.length + 2) 0 0 0), (5, .ptr (st.length + 4) 0 0 0), (6, .mp (st.length + 5)), (45, .sl false 10 152 (rows Yi.cells a0.rules)), (46, .int .i64 (↑a0.rules.length : Int)), (47, .int .i64 (↑k0 : Int))])
     (fun (gs0 : Unit) (k0 : Nat) (s0 : (List (Bs × Int))) => st ++ [some (.arr 0 5 0 [[.sl false 2 40 (rows Yl.cells a0.hierarchy.types), .sl false 3 32 (rows Yw.cells a0.hierarchy.YL), .sl false 10 152 (rows Yi.cells a0.rules), .sl false 9 144 (rows YT.cells a0.Yy), .sl false 2 32 (rows Yq.cells a0.start.nodes)]]), some (.arr 0 2 0 [[.int .i64 0, .int .i64 0]]), some (.arr 0 2 0 [[.sl false 2 40 (rows Yl.cells a0.hierarchy.types), .sl false 3 32 (rows Yw.cells a0.hierarchy.YL)]]), none, some (.arr 0 2 0 [[.sl false 1 8 (rows d3L v4.up), .sl false 1 8 (rows d3L v4.down)]]), some (.mps false (mrw Zj s0))])
     (fun (gt0 : Unit) (t0 : (List (Bs × Int))) => [(1, .ptr st.length 0 0 0), (2, .ptr (st.length + 1) 0 0 0), (3, .ptr (st.length + 2) 0 0 0), (5, .ptr (st.length + 4) 0 0 0)])
     (fun (gt0 : Unit) (t0 : (List (Bs × Int))) => st ++ [some (.arr 0 5 0 [[.sl false 2 40 (rows Yl.cells a0.hierarchy.types), .sl false 3 32 (rows Yw.cells a0.hierarchy.YL), .sl false 10 152 (rows Yi.cells a0.rules), .sl false 9 144 (rows YT.cells a0.Yy), .sl false 2 32 (rows Yq.cells a0.start.nodes)]]), some (.arr 0 2 0 [[.int .i64 0, .int .i64 0]]), some (.arr 0 2 0 [[.sl false 2 40 (rows Yl.cells a0.hierarchy.types), .sl false 3 32 (rows Yw.cells a0.hierarchy.YL)]]), none, some (.arr 0 2 0 [[.sl false 1 8 (rows d3L v4.up), .sl false 1 8 (rows d3L v4.down)]])])
     () fx hl0 h (bm hsc)
     (fun gs0 k0 s0 b0 fx h hx0 => ?_) (fun gs0 s0 => ?_) (fun gt0 t0 fr1 st1 h hb => ?_)
    ·unfold d4Z at h
     refine ct ?_
     refine cl h (d9V _) fun v12 h => ?_
     refine cd h (fun hc h => ?_) fun hc h => ?_
     ·refine cl h (d3o _ _) fun v13 h => ?_
      refine ra ?_
      cases h
      refine Za ?_; have h := congrArg some (hx0 _ rfl)
      exact rt
     ·refine cd h (fun hc h => ?_) fun hc h => ?_
      ·refine cl h (d3o _ _) fun v14 h => ?_
       refine ra ?_
       cases h
       refine Za ?_; have h := congrArg some (hx0 _ rfl)
       exact rt
      ·refine r0 ?_
       obtain ⟨c15, r1k, h⟩ := i1k h
       have fy := (show d0c ((get a0.rules k0).name) [.int .i64 (↑k0 : Int)] (mrw Zj s0) = mrw Zj c15 from by rw [r1k]; exact i9i (E := Zj) _ _ _)
       refine r1 ?_
       refine cl h (i5N n _ _ _) fun v17 h => ?_
       refine cd h (fun hc h => ?_) fun hc h => ?_
       ·refine cl h (d3o _ _) fun v18 h => ?_
        refine ra ?_
        cases h
        refine Za ?_; have h := congrArg some (hx0 _ rfl)
        exact rt
       ·refine rn ?_
        cases h
        exact d6b () (bm hsc)
    ·refine cf ?_
     refine d5I ?_; simp only [go_sem, fx]
     exact ⟨(), (bm hsc)⟩
    ·try simp only [go_sem, fx]
     unfold d5a at h
     refine d1F hb ?_
     refine aln 83 fun hl1 => ?_
     refine rng (body := d5b n a0 v4) (kk := d5c n a0 v4) (n := a0.Yy.length) (s0 := ())
      (fun (gs1 : Unit) (k1 : Nat) (s1 : Unit) => [(1, .ptr st.length 0 0 0), (2, .ptr (st.length + 1) 0 0 0), (3, .ptr (st.length + 2) 0 0 0), (5, .ptr (st.length + 4) 0 0 0), (83, .sl false 9 144 (rows YT.cells a0.Yy)), (84, .int .i64 (↑a0.Yy.length : Int)), (85, .int .i64 (↑k1 : Int))])
      (fun (gs1 : Unit) (k1 : Nat) (s1 : Unit) => st ++ [some (.arr 0 5 0 [[.sl false 2 40 (rows Yl.cells a0.hierarchy.types), .sl false 3 32 (rows Yw.cells a0.hierarchy.YL), .sl false 10 152 (rows Yi.cells a0.rules), .sl false 9 144 (rows YT.cells a0.Yy), .sl false 2 32 (rows Yq.cells a0.start.nodes)]]), some (.arr 0 2 0 [[.int .i64 0, .int .i64 0]]), some (.arr 0 2 0 [[.sl false 2 40 (rows Yl.cells a0.hierarchy.types), .sl false 3 32 (rows Yw.cells a0.hierarchy.YL)]]), none, some (.arr 0 2 0 [[.sl false 1 8 (rows d3L v4.up), .sl false 1 8 (rows d3L v4.down)]])])
      (fun (gt1 : Unit) (t1 : Unit) => [(1, .ptr st.length 0 0 0), (2, .ptr (st.length + 1) 0 0 0), (3, .ptr (st.length + 2) 0 0 0), (5, .ptr (st.length + 4) 0 0 0)])
      (fun (gt1 : Unit) (t1 : Unit) => st ++ [some (.arr 0 5 0 [[.sl false 2 40 (rows Yl.cells a0.hierarchy.types), .sl false 3 32 (rows Yw.cells a0.hierarchy.YL), .sl false 10 152 (rows Yi.cells a0.rules), .sl false 9 144 (rows YT.cells a0.Yy), .sl false 2 32 (rows Yq.cells a0.start.nodes)]]), some (.arr 0 2 0 [[.int .i64 0, .int .i64 0]]), some (.arr 0 2 0 [[.sl false 2 40 (rows Yl.cells a0.hierarchy.types), .sl false 3 32 (rows Yw.cells a0.hierarchy.YL)]]), none, some (.arr 0 2 0 [[.sl false 1 8 (rows d3L v4.up), .sl false 1 8 (rows d3L v4.down)]])])
      () fx hl1 h (bm hsc)
      (fun gs1 k1 s1 b1 fx h hx1 => ?_) (fun gs1 s1 => ?_) (fun gt1 t1 fr1 st1 h hb => ?_)
     ·unfold d5b at h
      refine ct ?_
      refine cl h (i5p n _ _ _) fun v19 h => ?_
      refine cd h (fun hc h => ?_) fun hc h => ?_
      ·refine cl h (d3o _ _) fun v20 h => ?_
       refine ra ?_
       cases h
       refine Za ?_; have h := congrArg some (hx1 _ rfl)
       exact rt
      ·refine rn ?_
       cases h
       exact d6b () (bm hsc)
     ·refine cf ?_
      refine d5I ?_; simp only [go_sem, fx]
      exact ⟨(), (bm hsc)⟩
     ·try simp only [go_sem, fx]
      unfold d5c at h
      refine d1F hb ?_
      refine cl h (d9d n _ _ _) fun v21 h => ?_
      refine cd h (fun hc h => ?_) fun hc h => ?_
      ·refine cl h (d3o _ _) fun v22 h => ?_
       exact rt
      ·exact rt
end Go.Proofs.YtgaeiccgdpnkkaaGreatDoor
