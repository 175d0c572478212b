import Derived.Test.YtgaeiccgdpnkkaaGreatDoorPWalk18
set_option linter.unusedVariables false
set_option linter.unusedSimpArgs false
set_option maxHeartbeats 2000000
set_option maxRecDepth 100000
namespace Go.Proofs.YtgaeiccgdpnkkaaGreatDoor
open Go Go.Am
theorem d5R (n : Nat) (a0 : Yf) (a1 : Yf) (r : Yf) (h : d0T n a0 a1 = some r) : Pure Tryz.prog gl 198 [.agg [.int .u64 a0.hi, .int .u64 a0.lo], .agg [.int .u64 a1.hi, .int .u64 a1.lo]] (.agg [.int .u64 r.hi, .int .u64 r.lo]) := by
 intro st
 unfold d0T at h
 have fx := trivial
 refine fb 49 [.cell 4 232] [0, 1, 2, 3, 4, 5, 6, 7, 8, 12, 18, 40] Tryz.func198 fun hsc => ?_
 refine rn ?_
 refine Zt (body := d0f a1 a0) (kk := d3R) (n := n) (s0 := (0, 0, 0, 0, 127))
  (fun (gs0 : Unit) (s0 : Int × Int × Int × Int × Int) => [(2, .ptr st.length 0 0 0), (3, .ptr (st.length + 1) 0 0 0), (4, .ptr (st.length + 2) 0 0 0), (5, .ptr (st.length + 3) 0 0 0), (6, .ptr (st.length + 4) 0 0 0), (7, .int .i64 s0.2.2.2.2)])
  (fun (gs0 : Unit) (s0 : Int × Int × Int × Int × Int) => st ++ [some (.arr 0 2 0 [[.int .u64 a0.hi, .int .u64 a0.lo]]), some (.arr 0 2 0 [[.int .u64 a1.hi, .int .u64 a1.lo]]), some (.arr 0 2 0 [[.int .u64 0, .int .u64 0]]), some (.arr 0 2 0 [[.int .u64 s0.1, .int .u64 s0.2.1]]), some (.arr 0 2 0 [[.int .u64 s0.2.2.1, .int .u64 s0.2.2.2.1]])])
  (fun (gt0 : Unit) (t0 : Int × Int) => [(4, .ptr (st.length + 2) 0 0 0), (5, .ptr (st.length + 3) 0 0 0)])
  (fun (gt0 : Unit) (t0 : Int × Int) => st ++ [none, none, some (.arr 0 2 0 [[.int .u64 0, .int .u64 0]]), some (.arr 0 2 0 [[.int .u64 t0.1, .int .u64 t0.2]])])
  () h (bm hsc)
  (fun gs0 s0 b0 h hx0 => ?_) (fun gt0 t0 fr1 st1 h hb => ?_)
 ·unfold d0f at h
  refine cd h (fun hc h => ?_) fun hc h => ?_
  ·refine cl h (d1X _) fun v6 h => ?_
   refine rn ?_
   refine d6o (d0g s0 v6 a1) b0 (fun (gj2 : Unit) (j2 : Int) => [(2, .ptr st.length 0 0 0), (3, .ptr (st.length + 1) 0 0 0), (4, .ptr (st.length + 2) 0 0 0), (5, .ptr (st.length + 3) 0 0 0), (6, .ptr (st.length + 4) 0 0 0), (7, .int .i64 s0.2.2.2.2), (8, .int .u64 j2)]) (fun (gj2 : Unit) (j2 : Int) => st ++ [some (.arr 0 2 0 [[.int .u64 a0.hi, .int .u64 a0.lo]]), some (.arr 0 2 0 [[.int .u64 a1.hi, .int .u64 a1.lo]]), some (.arr 0 2 0 [[.int .u64 0, .int .u64 0]]), some (.arr 0 2 0 [[.int .u64 s0.1, .int .u64 s0.2.1]]), some (.arr 0 2 0 [[.int .u64 v6.hi, .int .u64 v6.lo]])]) (fun gj2 j2 fr1 st1 h hb => ?_) (fun hj2 => ?_)
   ·try simp only [go_sem, fx]
    unfold d0g at h
    refine d1F hb ?_
    refine cl h (d1X _) fun v9 h => ?_
    refine cl h (d0K _ _) fun v10 h => ?_
    refine cd h (fun hc h => ?_) fun hc h => ?_
    ·refine cl h (d1i _ _) fun v11 h => ?_
     refine rn ?_
     cases h
     exact ZE () (bm hsc)
    ·refine rn ?_
     cases h
     exact ZE () (bm hsc)
   ·refine cd h (fun hc h => ?_) fun hc h => ?_
    ·obtain ⟨fx, h⟩ := ck fx h
     refine r0 ?_
     refine hj2 () _ _ _ h ?_; exact (bm hsc)
    ·obtain ⟨fx, h⟩ := ck fx h
     refine r0 ?_
     refine hj2 () _ _ _ h ?_; exact (bm hsc)
  ·refine rn ?_
   cases h
   exact d0V () (bm hsc)
 ·try simp only [go_sem, fx]
  unfold d3R at h
  refine d1F hb ?_
  exact rt
theorem d0A (n : Nat) (a0 : Bool) (a1 : Yf) (a2 : Yf) (r : Ym × Yg) (h : Zo n a0 a1 a2 = some r) : Pure Tryz.prog gl 151 [.bool a0, .agg [.int .u64 a1.hi, .int .u64 a1.lo], .agg [.int .u64 a2.hi, .int .u64 a2.lo]] (.tup [.agg [.int .i64 r.1.num, .int .i64 r.1.den], .agg [.int .i64 r.2.code, .int .i64 r.2.index]]) := by
 intro st
 unfold Zo at h
 have fx := trivial
 refine fb 45 [.cell 6 71, .cell 7 41] [0, 1, 2, 4, 5, 6, 7, 8, 9, 10, 25, 26, 27, 28, 38] Tryz.func151 fun hsc => ?_
 refine cl h (d5Q n _ _) fun v1 h => ?_
 refine rn ?_
 refine dw [] 0 ?_
 obtain ⟨v2, hv2, h⟩ := Zg h
 refine Yt (d5R n _ _ _ hv2) ?_
 try simp only [go_sem, fx]
 obtain ⟨v3, hv3, h⟩ := Zg h
 refine Yt (d5R n _ _ _ hv3) ?_
 try simp only [go_sem, fx]
 refine cl h (d0K _ _) fun v4 h => ?_
 refine rn ?_
 obtain ⟨v5, hv5, h⟩ := Zg h
 refine d8Z (fun hG => (d0K _ _ _ (i5y hv5 (by simpa using hG)))) ?_
 refine cd h (fun hc h => ?_) fun hc h => ?_
 ·exact rt
 ·refine cd h (fun hc h => ?_) fun hc h => ?_
  ·exact rt
  ·exact rt
theorem d8C (n : Nat) (a0 : Int) (a1 : Int) (r : Ym × Yg) (h : d1V n a0 a1 = some r) : Pure Tryz.prog gl 86 [.int .i64 a0, .int .i64 a1] (.tup [.agg [.int .i64 r.1.num, .int .i64 r.1.den], .agg [.int .i64 r.2.code, .int .i64 r.2.index]]) := by
 intro st
 unfold d1V at h
 have fx := trivial
 refine fb 24 [.cell 4 71, .cell 5 41] [0, 1, 4, 5, 7] Tryz.func86 fun hsc => ?_
 refine cd h (fun hc h => ?_) fun hc h => ?_
 ·exact rt
 ·refine cl h (ZC _) fun v1 h => ?_
  refine cl h (ZC _) fun v2 h => ?_
  refine cl h (d0A n _ _ _) fun v3 h => ?_
  exact rt
theorem d9c (n : Nat) (a0 : Yn) (a1 : YH) (a2 : Int) (a3 : Int) (r : Ym) (h : Zq n a0 a1 a2 a3 = some r) : Pure Tryz.prog gl 34 [.agg [.sl false 2 40 (rows Yl.cells a0.hierarchy.types), .sl false 3 32 (rows Yw.cells a0.hierarchy.YL), .sl false 10 152 (rows Yi.cells a0.rules), .sl false 9 144 (rows YT.cells a0.Yy), .sl false 2 32 (rows Yq.cells a0.start.nodes)], .agg [.sl false 1 8 (rows Zj a1.rules), .sl false 1 8 (rows Zj a1.Yy)], .int .i64 a2, .int .i64 a3] (.agg [.int .i64 r.num, .int .i64 r.den]) := by
 intro st
 unfold Zq at h
 have fx := trivial
 refine fb 80 [.cell 8 71] [0, 1, 2, 3, 4, 5, 8, 9, 10, 11, 12, 13, 14, 24, 31, 43, 50, 59, 71] Tryz.func34 fun hsc => ?_
 refine cl h (d3T _ _ _) fun v1 h => ?_
 refine rn ?_
 refine Zt (body := d1g a0 v1 a1) (kk := d1h n a0 v1 a1 a2 a3) (n := n) (s0 := (0, 0))
  (fun (gs0 : Unit) (s0 : Int × Int) => [(2, .int .i64 a2), (3, .int .i64 a3), (4, .ptr st.length 0 0 0), (5, .ptr (st.length + 1) 0 0 0), (8, .ptr (st.length + 2) 0 0 0), (9, .int .i64 v1), (10, .int .i64 s0.1), (12, .int .i64 s0.2)])
  (fun (gs0 : Unit) (s0 : Int × Int) => st ++ [some (.arr 0 5 0 [[.sl false 2 40 (rows Yl.cells a0.hierarchy.types), .sl false 3 32 (rows Yw.cells a0.hierarchy.YL), .sl false 10 152 (rows Yi.cells a0.rules), .sl false 9 144 (rows YT.cells a0.Yy), .sl false 2 32 (rows Yq.cells a0.start.nodes)]]), some (.arr 0 2 0 [[.sl false 1 8 (rows Zj a1.rules), .sl false 1 8 (rows Zj a1.Yy)]]), some (.arr 0 2 0 [[.int .i64 0, .int .i64 0]])])
  (fun (gt0 : Unit) (t0 : Int) => [(2, .int .i64 a2), (3, .int .i64 a3), (4, .ptr st.length 0 0 0), (5, .ptr (st.length + 1) 0 0 0), (8, .ptr (st.length + 2) 0 0 0), (9, .int .i64 v1), (10, .int .i64 t0)])
  (fun (gt0 : Unit) (t0 : Int) => st ++ [some (.arr 0 5 0 [[.sl false 2 40 (rows Yl.cells a0.hierarchy.types), .sl false 3 32 (rows Yw.cells a0.hierarchy.YL), .sl false 10 152 (rows Yi.cells a0.rules), .sl false 9 144 (rows YT.cells a0.Yy), .sl false 2 32 (rows Yq.cells a0.start.nodes)]]), some (.arr 0 2 0 [[.sl false 1 8 (rows Zj a1.rules), .sl false 1 8 (rows Zj a1.Yy)]]), some (.arr 0 2 0 [[.int .i64 0, .int .i64 0]])])
  () h (bm hsc)
  (fun gs0 s0 b0 h hx0 => ?_) (fun gt0 t0 fr1 st1 h hb => ?_)
 ·unfold d1g at h
  refine cd h (fun hc h => ?_) fun hc h => ?_
  ·refine cl h (d3T _ _ _) fun v4 h => ?_
   refine cd h (fun hc h => ?_) fun hc h => ?_
   ·obtain ⟨fx, h⟩ := ck fx h
    refine rn ?_
    cases h
    exact ZE () (bm hsc)
   ·refine rn ?_
    cases h
    exact ZE () (bm hsc)
  ·refine rn ?_
   cases h
   exact d0V () (bm hsc)
 ·try simp only [go_sem, fx]
  unfold d1h at h
  refine d1F hb ?_
  refine rn ?_
  refine Zt (body := d2u a0 v1 a1) (kk := d2v n a2 a1 a3) (n := n) (s0 := (t0, 0))
   (fun (gs1 : Unit) (s1 : Int × Int) => [(2, .int .i64 a2), (3, .int .i64 a3), (4, .ptr st.length 0 0 0), (5, .ptr (st.length + 1) 0 0 0), (8, .ptr (st.length + 2) 0 0 0), (9, .int .i64 v1), (10, .int .i64 s1.1), (13, .int .i64 s1.2)])
   (fun (gs1 : Unit) (s1 : Int × Int) => st ++ [some (.arr 0 5 0 [[.sl false 2 40 (rows Yl.cells a0.hierarchy.types), .sl false 3 32 (rows Yw.cells a0.hierarchy.YL), .sl false 10 152 (rows Yi.cells a0.rules), .sl false 9 144 (rows YT.cells a0.Yy), .sl false 2 32 (rows Yq.cells a0.start.nodes)]]), some (.arr 0 2 0 [[.sl false 1 8 (rows Zj a1.rules), .sl false 1 8 (rows Zj a1.Yy)]]), some (.arr 0 2 0 [[.int .i64 0, .int .i64 0]])])
   (fun (gt1 : Unit) (t1 : Int) => [(2, .int .i64 a2), (3, .int .i64 a3), (5, .ptr (st.length + 1) 0 0 0), (8, .ptr (st.length + 2) 0 0 0), (10, .int .i64 t1)])
   (fun (gt1 : Unit) (t1 : Int) => st ++ [none, some (.arr 0 2 0 [[.sl false 1 8 (rows Zj a1.rules), .sl false 1 8 (rows Zj a1.Yy)]]), some (.arr 0 2 0 [[.int .i64 0, .int .i64 0]])])
   () h (bm hsc)
   (fun gs1 s1 b1 h hx1 => ?_) (fun gt1 t1 fr1 st1 h hb => ?_)
  ·unfold d2u at h
   refine cd h (fun hc h => ?_) fun hc h => ?_
   ·refine cl h (d3T _ _ _) fun v9 h => ?_
    refine cd h (fun hc h => ?_) fun hc h => ?_
    ·obtain ⟨fx, h⟩ := ck fx h
     refine rn ?_
     cases h
     exact ZE () (bm hsc)
    ·refine rn ?_
     cases h
     exact ZE () (bm hsc)
   ·refine rn ?_
    cases h
    exact d0V () (bm hsc)
  ·try simp only [go_sem, fx]
   unfold d2v at h
   refine d1F hb ?_
   refine rn ?_
   refine d6o (d0i n t1) r (fun (gj2 : Unit) (j2 : Int) => [(8, .ptr (st.length + 2) 0 0 0), (10, .int .i64 t1), (11, .int .i64 j2)]) (fun (gj2 : Unit) (j2 : Int) => st ++ [none, none, some (.arr 0 2 0 [[.int .i64 0, .int .i64 0]])]) (fun gj2 j2 fr1 st1 h hb => ?_) (fun hj2 => ?_)
   ·try simp only [go_sem, fx]
    unfold d0i at h
    refine d1F hb ?_
    refine cd h (fun hc h => ?_) fun hc h => ?_
    ·exact rt
    ·refine cl h (d8C n _ _) fun v16 h => ?_
     exact rt
   ·refine cd h (fun hc h => ?_) fun hc h => ?_
    ·obtain ⟨fx, h⟩ := ck fx h
     refine r0 ?_
     refine hj2 () _ _ _ h ?_; exact (bm hsc)
    ·obtain ⟨fx, h⟩ := ck fx h
     refine r0 ?_
     refine hj2 () _ _ _ h ?_; exact (bm hsc)
theorem d5m (n : Nat) (a0 : Ym) (a1 : Int) (r : Yg) (h : d0z n a0 a1 = some r) : Pure Tryz.prog gl 193 [.agg [.int .i64 a0.num, .int .i64 a0.den], .int .i64 a1] (.agg [.int .i64 r.code, .int .i64 r.index]) := by
 intro st
 unfold d0z at h
 have fx := trivial
 refine fb 41 [.cell 4 41] [0, 1, 2, 4, 5, 10, 11, 12, 15, 16, 17, 20, 21, 22, 23, 37] Tryz.func193 fun hsc => ?_
 refine cd h (fun hc h => ?_) fun hc h => ?_
 ·exact rt
 ·refine rn ?_
  refine dw [] 1 ?_
  obtain ⟨v1, hv1, h⟩ := Zg h
  refine Yt (ZC _ _ hv1) ?_
  try simp only [go_sem, fx]
  obtain ⟨v2, hv2, h⟩ := Zg h
  refine Yt (d5Q n _ _ _ hv2) ?_
  try simp only [go_sem, fx]
  refine cd h (fun hc h => ?_) fun hc h => ?_
  ·exact rt
  ·exact rt
theorem d8D (n : Nat) (a0 : Ym) (a1 : Ym) (r : Yg) (h : d2W n a0 a1 = some r) : Pure Tryz.prog gl 149 [.agg [.int .i64 a0.num, .int .i64 a0.den], .agg [.int .i64 a1.num, .int .i64 a1.den]] (.agg [.int .i64 r.code, .int .i64 r.index]) := by
 intro st
 unfold d2W at h
 have fx := trivial
 refine fb 14 [.cell 4 41] [0, 1, 2, 3, 4, 5, 10] Tryz.func149 fun hsc => ?_
 refine cl h (d5m n _ _) fun v1 h => ?_
 refine cd h (fun hc h => ?_) fun hc h => ?_
 ·exact rt
 ·refine cl h (d5m n _ _) fun v2 h => ?_
  exact rt
theorem ZK (n : Nat) (a0 : Int) (a1 : Int) (r : Yf) (h : YZ n a0 a1 = some r) : Pure Tryz.prog gl 152 [.int .u64 a0, .int .u64 a1] (.agg [.int .u64 r.hi, .int .u64 r.lo]) := by
 intro st
 unfold YZ at h
 have fx := trivial
 refine fb 23 [.cell 4 232] [0, 1, 4, 5, 6, 11, 14] Tryz.func152 fun hsc => ?_
 refine rn ?_
 refine Zt (body := d1e) (kk := d3S) (n := n) (s0 := (0, 0, 0, a0, a1))
  (fun (gs0 : Unit) (s0 : Int × Int × Int × Int × Int) => [(1, .int .u64 s0.2.2.2.2), (4, .ptr st.length 0 0 0), (5, .ptr (st.length + 1) 0 0 0), (6, .ptr (st.length + 2) 0 0 0)])
  (fun (gs0 : Unit) (s0 : Int × Int × Int × Int × Int) => st ++ [some (.arr 0 2 0 [[.int .u64 0, .int .u64 0]]), some (.arr 0 2 0 [[.int .u64 s0.1, .int .u64 s0.2.1]]), some (.arr 0 2 0 [[.int .u64 s0.2.2.1, .int .u64 s0.2.2.2.1]])])
  (fun (gt0 : Unit) (t0 : Int × Int) => [(4, .ptr st.length 0 0 0), (5, .ptr (st.length + 1) 0 0 0)])
  (fun (gt0 : Unit) (t0 : Int × Int) => st ++ [some (.arr 0 2 0 [[.int .u64 0, .int .u64 0]]), some (.arr 0 2 0 [[.int .u64 t0.1, .int .u64 t0.2]])])
  () h (bm hsc)
  (fun gs0 s0 b0 h hx0 => ?_) (fun gt0 t0 fr1 st1 h hb => ?_)
 ·unfold d1e at h
  refine cd h (fun hc h => ?_) fun hc h => ?_
  ·refine rn ?_
   refine d6o (d0h s0) b0 (fun (gj2 : Unit) (j2 : Int × Int) => [(1, .int .u64 s0.2.2.2.2), (4, .ptr st.length 0 0 0), (5, .ptr (st.length + 1) 0 0 0), (6, .ptr (st.length + 2) 0 0 0)]) (fun (gj2 : Unit) (j2 : Int × Int) => st ++ [some (.arr 0 2 0 [[.int .u64 0, .int .u64 0]]), some (.arr 0 2 0 [[.int .u64 j2.1, .int .u64 j2.2]]), some (.arr 0 2 0 [[.int .u64 s0.2.2.1, .int .u64 s0.2.2.2.1]])]) (fun gj2 j2 fr1 st1 h hb => ?_) (fun hj2 => ?_)
   ·try simp only [go_sem, fx]
    unfold d0h at h
    refine d1F hb ?_
    refine cl h (d1X _) fun v5 h => ?_
    obtain ⟨fx, h⟩ := ck fx h
    refine rn ?_
    cases h
    exact ZE () (bm hsc)
   ·refine cd h (fun hc h => ?_) fun hc h => ?_
    ·refine cl h (d3U _ _) fun v4 h => ?_
     try simp only [go_sem, fx]
     refine hj2 () _ _ _ h ?_; exact (bm hsc)
    ·refine r0 ?_
     refine hj2 () _ _ _ h ?_; exact (bm hsc)
  ·refine rn ?_
   cases h
   exact d0V () (bm hsc)
 ·try simp only [go_sem, fx]
  unfold d3S at h
  refine d1F hb ?_
  exact rt
theorem d5S (n : Nat) (a0 : Ym) (a1 : Ym) (r : Ym × Yg) (h : d3x n a0 a1 = some r) : Pure Tryz.prog gl 150 [.agg [.int .i64 a0.num, .int .i64 a0.den], .agg [.int .i64 a1.num, .int .i64 a1.den]] (.tup [.agg [.int .i64 r.1.num, .int .i64 r.1.den], .agg [.int .i64 r.2.code, .int .i64 r.2.index]]) := by
 intro st
 unfold d3x at h
 have fx := trivial
 refine fb 75 [.cell 4 71, .cell 5 41] [0, 1, 2, 3, 4, 5, 6, 7, 8, 36, 49, 62] Tryz.func150 fun hsc => ?_
 refine rn ?_
 refine dw [] 2 ?_
 obtain ⟨v1, hv1, h⟩ := Zg h
 refine Yt (ZC _ _ hv1) ?_
 try simp only [go_sem, fx]
 obtain ⟨v2, hv2, h⟩ := Zg h
 refine Yt (ZK n _ _ _ hv2) ?_
 try simp only [go_sem, fx]
 obtain ⟨v3, hv3, h⟩ := Zg h
 refine Yt (ZC _ _ hv3) ?_
 try simp only [go_sem, fx]
 obtain ⟨v4, hv4, h⟩ := Zg h
 refine Yt (ZK n _ _ _ hv4) ?_
 try simp only [go_sem, fx]
 refine cl h (ZK n _ _) fun v5 h => ?_
 refine cd h (fun hc h => ?_) fun hc h => ?_
 ·refine rs ?_
  refine dw [] 0 ?_
  obtain ⟨v6, hv6, h⟩ := Zg h
  refine Yt (d3U _ _ _ hv6) ?_
  try simp only [go_sem, fx]
  obtain ⟨v7, hv7, h⟩ := Zg h
  refine Yt (d0A n _ _ _ _ hv7) ?_
  try simp only [go_sem, fx]
  exact rt
 ·refine cl h (d0K _ _) fun v8 h => ?_
  refine cd h (fun hc h => ?_) fun hc h => ?_
  ·refine rs ?_
   refine dw [] 0 ?_
   obtain ⟨v9, hv9, h⟩ := Zg h
   refine Yt (d1i _ _ _ hv9) ?_
   try simp only [go_sem, fx]
   obtain ⟨v10, hv10, h⟩ := Zg h
   refine Yt (d0A n _ _ _ _ hv10) ?_
   try simp only [go_sem, fx]
   exact rt
  ·refine cd h (fun hc h => ?_) fun hc h => ?_
   ·exact rt
   ·refine rn ?_
    refine dw [] 0 ?_
    obtain ⟨v11, hv11, h⟩ := Zg h
    refine Yt (d1i _ _ _ hv11) ?_
    try simp only [go_sem, fx]
    obtain ⟨v12, hv12, h⟩ := Zg h
    refine Yt (d0A n _ _ _ _ hv12) ?_
    try simp only [go_sem, fx]
    exact rt
theorem d9D (n : Nat) (a0 : Int) (a1 : Ym) (a2 : Ym) (r : Ym × Yg) (h : d2A n a0 a1 a2 = some r) : Pure Tryz.prog gl 85 [.int .i64 a0, .agg [.int .i64 a1.num, .int .i64 a1.den], .agg [.int .i64 a2.num, .int .i64 a2.den]] (.tup [.agg [.int .i64 r.1.num, .int .i64 r.1.den], .agg [.int .i64 r.2.code, .int .i64 r.2.index]]) := by
 intro st
 unfold d2A at h
 have fx := trivial
 refine fb 91 [.cell 6 71, .cell 7 41] [0, 1, 2, 4, 5, 6, 7, 8, 14, 18, 25, 37, 64] Tryz.func85 fun hsc => ?_
 refine cl h (d8D n _ _) fun v1 h => ?_
 refine cd h (fun hc h => ?_) fun hc h => ?_
 ·refine rs ?_
  refine dw [1, 2] 0 ?_
  try refine ⟨by (simp <;> omega), ?_⟩
  exact rt
 ·refine cd h (fun hc h => ?_) fun hc h => ?_
  ·refine cl h (d5S n _ _) fun v2 h => ?_
   exact rt
  ·refine cd h (fun hc h => ?_) fun hc h => ?_
   ·refine cl h (d5S n _ _) fun v3 h => ?_
    exact rt
   ·refine cd h (fun hc h => ?_) fun hc h => ?_
    ·refine rs ?_
     refine dw [] 0 ?_
     obtain ⟨v4, hv4, h⟩ := Zg h
     refine Yt (ZC _ _ hv4) ?_
     try simp only [go_sem, fx]
     obtain ⟨v5, hv5, h⟩ := Zg h
     refine Yt (ZC _ _ hv5) ?_
     try simp only [go_sem, fx]
     obtain ⟨v6, hv6, h⟩ := Zg h
     refine Yt (ZK n _ _ _ hv6) ?_
     try simp only [go_sem, fx]
     obtain ⟨v7, hv7, h⟩ := Zg h
     refine Yt (ZK n _ _ _ hv7) ?_
     try simp only [go_sem, fx]
     obtain ⟨v8, hv8, h⟩ := Zg h
     refine Yt (d0A n _ _ _ _ hv8) ?_
     try simp only [go_sem, fx]
     exact rt
    ·refine cd h (fun hc h => ?_) fun hc h => ?_
     ·exact rt
     ·refine rn ?_
      refine dw [] 0 ?_
      obtain ⟨v9, hv9, h⟩ := Zg h
      refine Yt (ZC _ _ hv9) ?_
      try simp only [go_sem, fx]
      obtain ⟨v10, hv10, h⟩ := Zg h
      refine Yt (ZK n _ _ _ hv10) ?_
      try simp only [go_sem, fx]
      obtain ⟨v11, hv11, h⟩ := Zg h
      refine Yt (ZC _ _ hv11) ?_
      try simp only [go_sem, fx]
      obtain ⟨v12, hv12, h⟩ := Zg h
      refine Yt (ZK n _ _ _ hv12) ?_
      try simp only [go_sem, fx]
      obtain ⟨v13, hv13, h⟩ := Zg h
      refine Yt (d0A n _ _ _ _ hv13) ?_
      try simp only [go_sem, fx]
      exact rt
theorem d8v : ∀ (n : Nat) (a0 : Yn) (a1 : YH) (a2 : Yr) (a3 : Ym) (r : Ym × Bool) (h : Zp n a0 a1 a2 a3 = some r), Pure Tryz.prog gl 32 [.agg [.sl false 2 40 (rows Yl.cells a0.hierarchy.types), .sl false 3 32 (rows Yw.cells a0.hierarchy.YL), .sl false 10 152 (rows Yi.cells a0.rules), .sl false 9 144 (rows YT.cells a0.Yy), .sl false 2 32 (rows Yq.cells a0.start.nodes)], .agg [.sl false 1 8 (rows Zj a1.rules), .sl false 1 8 (rows Zj a1.Yy)], .agg [.int .i64 a2.rule, .int .i64 a2.lex, .sl false 3 40 (rows Yr.cells a2.kids)], .agg [.int .i64 a3.num, .int .i64 a3.den]] (.tup [.agg [.int .i64 r.1.num, .int .i64 r.1.den], .bool r.2]) := by
 intro n
 induction n with
 | zero => intro a0 a1 a2 a3 r h; cases h
 | succ n ih =>
  intro a0 a1 a2 a3 r h st
  unfold Zp at h
  have fx := trivial
  refine fb 53 [.cell 8 71, .tmp 9] [0, 1, 2, 3, 4, 5, 6, 7, 8, 9, 10, 11, 12, 13, 28, 34, 50] Tryz.func32 fun hsc => ?_
  refine rn ?_
  refine dw [] 2 ?_
  obtain ⟨v1, hv1, h⟩ := Zg h
  refine Yt (d9c n _ _ _ _ _ hv1) ?_
  try simp only [go_sem, fx]
  obtain ⟨v2, hv2, h⟩ := Zg h
  refine Yt (d9D n _ _ _ _ hv2) ?_
  try simp only [go_sem, fx]
  refine cd h (fun hc h => ?_) fun hc h => ?_
  ·exact rt
  ·refine rn ?_
   refine Zt (body := d1W (Zp n) a2 a0 a1) (kk := d3m) (n := n) (s0 := (v2.1.num, v2.1.den, 0))
    (fun (gs0 : Unit) (s0 : Int × Int × Int) => [(4, .ptr st.length 0 0 0), (5, .ptr (st.length + 1) 0 0 0), (6, .ptr (st.length + 2) 0 0 0), (8, .ptr (st.length + 4) 0 0 0), (10, .ptr (st.length + 5) 0 0 0), (12, .int .i64 s0.2.2)])
    (fun (gs0 : Unit) (s0 : Int × Int × Int) => st ++ [some (.arr 0 5 0 [[.sl false 2 40 (rows Yl.cells a0.hierarchy.types), .sl false 3 32 (rows Yw.cells a0.hierarchy.YL), .sl false 10 152 (rows Yi.cells a0.rules), .sl false 9 144 (rows YT.cells a0.Yy), .sl false 2 32 (rows Yq.cells a0.start.nodes)]]), some (.arr 0 2 0 [[.sl false 1 8 (rows Zj a1.rules), .sl false 1 8 (rows Zj a1.Yy)]]), some (.arr 0 3 0 [[.int .i64 a2.rule, .int .i64 a2.lex, .sl false 3 40 (rows Yr.cells a2.kids)]]), none, some (.arr 0 2 0 [[.int .i64 0, .int .i64 0]]), some (.arr 0 2 0 [[.int .i64 s0.1, .int .i64 s0.2.1]])])
    (fun (gt0 : Unit) (t0 : Int × Int) => [(8, .ptr (st.length + 4) 0 0 0), (10, .ptr (st.length + 5) 0 0 0)])
    (fun (gt0 : Unit) (t0 : Int × Int) => st ++ [none, none, none, none, some (.arr 0 2 0 [[.int .i64 0, .int .i64 0]]), some (.arr 0 2 0 [[.int .i64 t0.1, .int .i64 t0.2]])])
    () h (bm hsc)
    (fun gs0 s0 b0 h hx0 => ?_) (fun gt0 t0 fr1 st1 h hb => ?_)
   ·unfold d1W at h
    refine cd h (fun hc h => ?_) fun hc h => ?_
    ·refine rn ?_
     obtain ⟨fx, h⟩ := ck fx h
     refine dw [] 0 ?_
     obtain ⟨v7, hv7, h⟩ := Zg h
     refine Yt (ih _ _ _ _ _ hv7) ?_
     try simp only [go_sem, fx]
     refine cd h (fun hc h => ?_) fun hc h => ?_
     ·refine ra ?_
      cases h
      refine d4e ?_; have h := congrArg some (hx0 _ rfl)
      exact rt
     ·refine rn ?_
      cases h
      exact ZE () (bm hsc)
    ·refine rn ?_
     cases h
     exact d0V () (bm hsc)
   ·try simp only [go_sem, fx]
    unfold d3m at h
    refine d1F hb ?_
    exact rt
theorem d4f (n : Nat) (a0 : Yn) (a1 : YH) (a2 : Yr) (r : Bool) (h : Zw n a0 a1 a2 = some r) : Pure Tryz.prog gl 6 [.agg [.sl false 2 40 (rows Yl.cells a0.hierarchy.types), .sl false 3 32 (rows Yw.cells a0.hierarchy.YL), .sl false 10 152 (rows Yi.cells a0.rules), .sl false 9 144 (rows YT.cells a0.Yy), .sl false 2 32 (rows Yq.cells a0.start.nodes)], .agg [.sl false 1 8 (rows Zj a1.rules), .sl false 1 8 (rows Zj a1.Yy)], .agg [.int .i64 a2.rule, .int .i64 a2.lex, .sl false 3 40 (rows Yr.cells a2.kids)]] (.bool r) := by
 intro st
 unfold Zw at h
 have fx := trivial
 refine fb 67 [.tmp 6] [0, 1, 2, 3, 4, 5, 6, 7, 8, 9, 10, 11, 13, 26, 32, 37, 38, 39, 50, 55, 56, 57, 63, 64, 65] Tryz.func6 fun hsc => ?_
 refine cl h (d7R n) fun v1 h => ?_
 refine cd h (fun hc h => ?_) fun hc h => ?_
 ·exact rt
 ·refine cl h (d8t n _ _ _) fun v2 h => ?_
  refine cl h (d7A n _ _) fun v3 h => ?_
  refine rn ?_
  refine d6o (YR n v2 a0 a1 a2) r (fun (gj0 : Unit) (j0 : Int × Int) => [(3, .ptr st.length 0 0 0), (4, .ptr (st.length + 1) 0 0 0), (5, .ptr (st.length + 2) 0 0 0), (7, .ptr (st.length + 3) 0 0 0), (8, .ptr (st.length + 4) 0 0 0), (9, .ptr (st.length + 5) 0 0 0)]) (fun (gj0 : Unit) (j0 : Int × Int) => st ++ [some (.arr 0 5 0 [[.sl false 2 40 (rows Yl.cells a0.hierarchy.types), .sl false 3 32 (rows Yw.cells a0.hierarchy.YL), .sl false 10 152 (rows Yi.cells a0.rules), .sl false 9 144 (rows YT.cells a0.Yy), .sl false 2 32 (rows Yq.cells a0.start.nodes)]]), some (.arr 0 2 0 [[.sl false 1 8 (rows Zj a1.rules), .sl false 1 8 (rows Zj a1.Yy)]]), some (.arr 0 3 0 [[.int .i64 a2.rule, .int .i64 a2.lex, .sl false 3 40 (rows Yr.cells a2.kids)]]), some (.arr 0 2 0 [[.int .i64 v2.1.num, .int .i64 v2.1.den]]), some (.arr 0 2 0 [[.int .i64 v2.2.code, .int .i64 v2.2.index]]), some (.arr 0 2 0 [[.int .i64 j0.1, .int .i64 j0.2]])]) (fun gj0 j0 fr1 st1 h hb => ?_) (fun hj0 => ?_)
  ·try simp only [go_sem, fx]
   unfold YR at h
   refine d1F hb ?_
   refine cd h (fun hc h => ?_) fun hc h => ?_
   ·exact rt
   ·refine cl h (d8v n _ _ _ _) fun v5 h => ?_
    refine cd h (fun hc h => ?_) fun hc h => ?_
    ·exact rt
    ·exact rt
  ·refine cd h (fun hc h => ?_) fun hc h => ?_
   ·refine cl h (d8u n _ _) fun v4 h => ?_
    try simp only [go_sem, fx]
    refine hj0 () _ _ _ h ?_; exact (bm hsc)
   ·refine r0 ?_
    refine hj0 () _ _ _ h ?_; exact (bm hsc)
end Go.Proofs.YtgaeiccgdpnkkaaGreatDoor
