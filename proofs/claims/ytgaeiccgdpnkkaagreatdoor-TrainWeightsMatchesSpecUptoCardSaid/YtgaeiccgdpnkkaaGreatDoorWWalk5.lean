import Derived.Test.YtgaeiccgdpnkkaaGreatDoorWWalk4
set_option linter.unusedVariables false
set_option linter.unusedSimpArgs false
set_option maxHeartbeats 2000000
set_option maxRecDepth 100000
namespace Go.Proofs.YtgaeiccgdpnkkaaGreatDoor
open Go Go.Am
theorem d8O (n : Nat) (a0 : Bs) (a1 : Bs) (r : Bool) (h : d0Z n a0 a1 = some r) : Pure Tryz.prog gl 218 [.str a0, .str a1] (.bool r) := by
 intro st
 unfold d0Z at h
 have fx := trivial
 refine fb 9 [.tmp 4] [0, 1, 4] Tryz.func218 fun hsc => ?_
 refine cl h (i0E n _ _) fun v1 h => ?_
 exact rt
theorem i3N (n : Nat) (a0 : Bs) (r : Bool) (h : d6w n a0 = some r) : Pure Tryz.prog gl 176 [.str a0] (.bool r) := by
 intro st
 unfold d6w at h
 have fx := trivial
 refine fb 21 [.tmp 2] [0, 2, 3, 9, 10, 13, 14, 17, 18, 19] Tryz.func176 fun hsc => ?_
 refine cl h (d5h n _) fun v1 h => ?_
 refine rn ?_
 obtain ⟨v2, hv2, h⟩ := XT h
 refine d7h (fun hG => (d7p n _ _ (i3x hv2 (by simpa using hG)))) ?_
 refine rn ?_
 obtain ⟨v3, hv3, h⟩ := XT h
 refine d7h (fun hG => (d8O n _ _ _ (i3x hv3 (by simpa using hG)))) ?_
 exact rt
theorem i3o (n : Nat) (a0 : WU) (a1 : Xi) (a2 : XE) (r : Int) (h : d5y n a0 a1 a2 = some r) : Pure Tryz.prog gl 118 [.agg [.sl false 2 40 (rows WT.cells a0.types), .sl false 3 32 (rows Xf.cells a0.Xw)], .agg [.sl false 1 8 (rows d2a a1.up), .sl false 1 8 (rows d2a a1.down)], .agg [.str a2.word, .sl false 2 32 (rows WX.cells a2.graph.nodes), .int .i64 a2.weight, .int .i64 a2.meaning.kind, .str a2.meaning.name, .int .i64 a2.meaning.index, .str a2.meaning.type.base, .sl false 2 40 (rows WK.cells a2.meaning.type.args), .sl false 6 96 (rows WO.cells a2.meaning.args)]] (.int .i64 r) := by
 intro st
 unfold d5y at h
 have fx := trivial
 refine fb 34 [.tmp 6] [0, 1, 2, 3, 4, 5, 6, 7, 11, 16, 17, 18, 19, 27] Tryz.func118 fun hsc => ?_
 refine cl h (i3N n _) fun v1 h => ?_
 refine cd h (fun hc h => ?_) fun hc h => ?_
 ·exact rt
 ·refine cd h (fun hc h => ?_) fun hc h => ?_
  ·exact rt
  ·refine cl h (d7o n _ _ _) fun v2 h => ?_
   refine cd h (fun hc h => ?_) fun hc h => ?_
   ·exact rt
   ·refine cl h (d8N n _) fun v3 h => ?_
    exact rt
theorem d6Y (n : Nat) (a0 : Xa) (r : WM) (h : d2v n a0 = some r) : Pure Tryz.prog gl 51 [.agg [.sl false 2 40 (rows WT.cells a0.hierarchy.types), .sl false 3 32 (rows Xf.cells a0.hierarchy.Xw), .sl false 10 152 (rows WQ.cells a0.rules), .sl false 9 144 (rows XE.cells a0.Xj), .sl false 2 32 (rows WX.cells a0.start.nodes)]] (.agg [.int .i64 r.code, .int .i64 r.index]) := by
 intro st
 unfold d2v at h
 have fx := trivial
 refine fb 112 [.cell 2 41] [0, 1, 2, 3, 4, 5, 6, 7, 8, 10, 11, 12, 13, 14, 15, 22, 27, 34, 35, 36, 37, 38, 45, 46, 47, 48, 55, 65, 77, 83, 84, 85, 86, 95, 107] Tryz.func51 fun hsc => ?_
 refine cl h (d9l _) fun v1 h => ?_
 refine cd h (fun hc h => ?_) fun hc h => ?_
 ·exact rt
 ·refine cd h (fun hc h => ?_) fun hc h => ?_
  ·refine cl h (d1E _ _) fun v2 h => ?_
   exact rt
  ·refine cd h (fun hc h => ?_) fun hc h => ?_
   ·refine cl h (d1E _ _) fun v3 h => ?_
    exact rt
   ·refine cl h (d6Z _) fun v4 h => ?_
    refine aln 45 fun hl0 => ?_
    refine rng (body := d3j n a0 v4) (kk := d3k n a0 v4) (n := a0.rules.length) (s0 := [])
     (fun (gs0 : Unit) (k0 : Nat) (s0 : (List (Bs × Int))) => [(1, .ptr st.length 0 0 0), (2, .ptr (st.length + 1) 0 0 0), (3, .ptr (st.length + 2) 0 0 0), (5, .ptr (st.length + 4) 0 0 0), (6, .mp (st.length + 5)), (45, .sl false 10 152 (rows WQ.cells a0.rules)), (46, .int .i64 (↑a0.rules.length : Int)), (47, .int .i64 (↑k0 : Int))])
     (fun (gs0 : Unit) (k0 : Nat) (s0 : (List (Bs × Int))) => st ++ [some (.arr 0 5 0 [[.sl false 2 40 (rows WT.cells a0.hierarchy.types), .sl false 3 32 (rows Xf.cells a0.hierarchy.Xw), .sl false 10 152 (rows WQ.cells a0.rules), .sl false 9 144 (rows XE.cells a0.Xj), .sl false 2 32 (rows WX.cells a0.start.nodes)]]), some (.arr 0 2 0 [[.int .i64 0, .int .i64 0]]), some (.arr 0 2 0 [[.sl false 2 40 (rows WT.cells a0.hierarchy.types), .sl false 3 32 (rows Xf.cells a0.hierarchy.Xw)]]), none, some (.arr 0 2 0 [[.sl false 1 8 (rows d2a v4.up), .sl false 1 8 (rows d2a v4.down)]]), some (.mps false (mrw XM s0))])
     (fun (gt0 : Unit) (t0 : (List (Bs × Int))) => [(1, .ptr st.length 0 0 0), (2, .ptr (st.length + 1) 0 0 0), (3, .ptr (st.length + 2) 0 0 0), (5, .ptr (st.length + 4) 0 0 0)])
     (fun (gt0 : Unit) (t0 : (List (Bs × Int))) => st ++ [some (.arr 0 5 0 [[.sl false 2 40 (rows WT.cells a0.hierarchy.types), .sl false 3 32 (rows Xf.cells a0.hierarchy.Xw), .sl false 10 152 (rows WQ.cells a0.rules), .sl false 9 144 (rows XE.cells a0.Xj), .sl false 2 32 (rows WX.cells a0.start.nodes)]]), some (.arr 0 2 0 [[.int .i64 0, .int .i64 0]]), some (.arr 0 2 0 [[.sl false 2 40 (rows WT.cells a0.hierarchy.types), .sl false 3 32 (rows Xf.cells a0.hierarchy.Xw)]]), none, some (.arr 0 2 0 [[.sl false 1 8 (rows d2a v4.up), .sl false 1 8 (rows d2a v4.down)]])])
     () fx hl0 h (bm hsc)
     (fun gs0 k0 s0 b0 fx h hx0 => ?_) (fun gs0 s0 => ?_) (fun gt0 t0 fr1 st1 h hb => ?_)
    ·unfold d3j at h
     refine ct ?_
     refine cl h (d8d _) fun v12 h => ?_
     refine cd h (fun hc h => ?_) fun hc h => ?_
     ·refine cl h (d1E _ _) fun v13 h => ?_
      refine ra ?_
      cases h
      refine XI ?_; have h := congrArg some (hx0 _ rfl)
      exact rt
     ·refine cd h (fun hc h => ?_) fun hc h => ?_
      ·refine cl h (d1E _ _) fun v14 h => ?_
       refine ra ?_
       cases h
       refine XI ?_; have h := congrArg some (hx0 _ rfl)
       exact rt
      ·refine r0 ?_
       obtain ⟨c15, p8S, h⟩ := d9t h
       have fy := (show YH ((get a0.rules k0).name) [.int .i64 (↑k0 : Int)] (mrw XM s0) = mrw XM c15 from by rw [p8S]; exact i7e (E := XM) _ _ _)
       refine r1 ?_
       refine cl h (i3M n _ _ _) fun v17 h => ?_
       refine cd h (fun hc h => ?_) fun hc h => ?_
       ·refine cl h (d1E _ _) fun v18 h => ?_
        refine ra ?_
        cases h
        refine XI ?_; have h := congrArg some (hx0 _ rfl)
        exact rt
       ·refine rn ?_
        cases h
        exact d4u () (bm hsc)
    ·refine cf ?_
     refine d4b ?_; simp only [go_sem, fx]
     exact ⟨(), (bm hsc)⟩
    ·try simp only [go_sem, fx]
     unfold d3k at h
     refine d0s hb ?_
     refine aln 83 fun hl1 => ?_
     refine rng (body := d3l n a0 v4) (kk := d3m n a0 v4) (n := a0.Xj.length) (s0 := ())
      (fun (gs1 : Unit) (k1 : Nat) (s1 : Unit) => [(1, .ptr st.length 0 0 0), (2, .ptr (st.length + 1) 0 0 0), (3, .ptr (st.length + 2) 0 0 0), (5, .ptr (st.length + 4) 0 0 0), (83, .sl false 9 144 (rows XE.cells a0.Xj)), (84, .int .i64 (↑a0.Xj.length : Int)), (85, .int .i64 (↑k1 : Int))])
      (fun (gs1 : Unit) (k1 : Nat) (s1 : Unit) => st ++ [some (.arr 0 5 0 [[.sl false 2 40 (rows WT.cells a0.hierarchy.types), .sl false 3 32 (rows Xf.cells a0.hierarchy.Xw), .sl false 10 152 (rows WQ.cells a0.rules), .sl false 9 144 (rows XE.cells a0.Xj), .sl false 2 32 (rows WX.cells a0.start.nodes)]]), some (.arr 0 2 0 [[.int .i64 0, .int .i64 0]]), some (.arr 0 2 0 [[.sl false 2 40 (rows WT.cells a0.hierarchy.types), .sl false 3 32 (rows Xf.cells a0.hierarchy.Xw)]]), none, some (.arr 0 2 0 [[.sl false 1 8 (rows d2a v4.up), .sl false 1 8 (rows d2a v4.down)]])])
      (fun (gt1 : Unit) (t1 : Unit) => [(1, .ptr st.length 0 0 0), (2, .ptr (st.length + 1) 0 0 0), (3, .ptr (st.length + 2) 0 0 0), (5, .ptr (st.length + 4) 0 0 0)])
      (fun (gt1 : Unit) (t1 : Unit) => st ++ [some (.arr 0 5 0 [[.sl false 2 40 (rows WT.cells a0.hierarchy.types), .sl false 3 32 (rows Xf.cells a0.hierarchy.Xw), .sl false 10 152 (rows WQ.cells a0.rules), .sl false 9 144 (rows XE.cells a0.Xj), .sl false 2 32 (rows WX.cells a0.start.nodes)]]), some (.arr 0 2 0 [[.int .i64 0, .int .i64 0]]), some (.arr 0 2 0 [[.sl false 2 40 (rows WT.cells a0.hierarchy.types), .sl false 3 32 (rows Xf.cells a0.hierarchy.Xw)]]), none, some (.arr 0 2 0 [[.sl false 1 8 (rows d2a v4.up), .sl false 1 8 (rows d2a v4.down)]])])
      () fx hl1 h (bm hsc)
      (fun gs1 k1 s1 b1 fx h hx1 => ?_) (fun gs1 s1 => ?_) (fun gt1 t1 fr1 st1 h hb => ?_)
     ·unfold d3l at h
      refine ct ?_
      refine cl h (i3o n _ _ _) fun v19 h => ?_
      refine cd h (fun hc h => ?_) fun hc h => ?_
      ·refine cl h (d1E _ _) fun v20 h => ?_
       refine ra ?_
       cases h
       refine XI ?_; have h := congrArg some (hx1 _ rfl)
       exact rt
      ·refine rn ?_
       cases h
       exact d4u () (bm hsc)
     ·refine cf ?_
      refine d4b ?_; simp only [go_sem, fx]
      exact ⟨(), (bm hsc)⟩
     ·try simp only [go_sem, fx]
      unfold d3m at h
      refine d0s hb ?_
      refine cl h (d7o n _ _ _) fun v21 h => ?_
      refine cd h (fun hc h => ?_) fun hc h => ?_
      ·refine cl h (d1E _ _) fun v22 h => ?_
       exact rt
      ·exact rt
end Go.Proofs.YtgaeiccgdpnkkaaGreatDoor
