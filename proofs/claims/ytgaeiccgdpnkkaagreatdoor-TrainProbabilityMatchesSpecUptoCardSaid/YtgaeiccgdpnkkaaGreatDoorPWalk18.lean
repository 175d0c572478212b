import Derived.Test.YtgaeiccgdpnkkaaGreatDoorPWalk17
set_option linter.unusedVariables false
set_option linter.unusedSimpArgs false
set_option maxHeartbeats 2000000
set_option maxRecDepth 100000
namespace Go.Proofs.YtgaeiccgdpnkkaaGreatDoor
open Go Go.Am
theorem d8u (n : Nat) (a0 : Yn) (a1 : Yr) (r : Yg) (h : d1w n a0 a1 = some r) : Pure Tryz.prog gl 28 [.agg [.sl false 2 40 (rows Yl.cells a0.hierarchy.types), .sl false 3 32 (rows Yw.cells a0.hierarchy.YL), .sl false 10 152 (rows Yi.cells a0.rules), .sl false 9 144 (rows YT.cells a0.Yy), .sl false 2 32 (rows Yq.cells a0.start.nodes)], .agg [.int .i64 a1.rule, .int .i64 a1.lex, .sl false 3 40 (rows Yr.cells a1.kids)]] (.agg [.int .i64 r.code, .int .i64 r.index]) := by
 intro st
 unfold d1w at h
 have fx := trivial
 refine fb 20 [.cell 4 41] [0, 1, 2, 3, 4, 5, 6, 7, 15, 16, 17] Tryz.func28 fun hsc => ?_
 refine rn ?_
 obtain ⟨v1, hv1, h⟩ := Zg h
 refine (i0h n _ _ _ _ _ _ _ hv1 _ _ _ (by simp) (d2H.trans rfl) (d2H.trans rfl)).mono ?_
 rintro d1 st1 ⟨rfl, rfl⟩
 refine cd h (fun hc h => ?_) fun hc h => ?_
 ·exact rt
 ·exact rt
theorem d7A (n : Nat) (a0 : Yn) (a1 : YH) (r : Yg) (h : d0I n a0 a1 = some r) : Pure Tryz.prog gl 31 [.agg [.sl false 2 40 (rows Yl.cells a0.hierarchy.types), .sl false 3 32 (rows Yw.cells a0.hierarchy.YL), .sl false 10 152 (rows Yi.cells a0.rules), .sl false 9 144 (rows YT.cells a0.Yy), .sl false 2 32 (rows Yq.cells a0.start.nodes)], .agg [.sl false 1 8 (rows Zj a1.rules), .sl false 1 8 (rows Zj a1.Yy)]] (.agg [.int .i64 r.code, .int .i64 r.index]) := by
 intro st
 unfold d0I at h
 have fx := trivial
 refine fb 70 [.cell 4 41] [0, 1, 2, 3, 4, 5, 6, 7, 12, 22, 23, 24, 25, 26, 27, 28, 29, 39, 46, 64, 65, 66] Tryz.func31 fun hsc => ?_
 refine cl h (d7r n _) fun v1 h => ?_
 refine cd h (fun hc h => ?_) fun hc h => ?_
 ·exact rt
 ·refine cd h (fun hc h => ?_) fun hc h => ?_
  ·exact rt
  ·refine rn ?_
   refine Zt (body := d0a a1) (kk := d1o) (n := n) (s0 := 0)
    (fun (gs0 : Unit) (s0 : Int) => [(3, .ptr (st.length + 1) 0 0 0), (4, .ptr (st.length + 2) 0 0 0), (6, .int .i64 s0)])
    (fun (gs0 : Unit) (s0 : Int) => st ++ [none, some (.arr 0 2 0 [[.sl false 1 8 (rows Zj a1.rules), .sl false 1 8 (rows Zj a1.Yy)]]), some (.arr 0 2 0 [[.int .i64 0, .int .i64 0]])])
    (fun (gt0 : Unit) (t0 : Unit) => [(4, .ptr (st.length + 2) 0 0 0)])
    (fun (gt0 : Unit) (t0 : Unit) => st ++ [none, none, some (.arr 0 2 0 [[.int .i64 0, .int .i64 0]])])
    () h (bm hsc)
    (fun gs0 s0 b0 h hx0 => ?_) (fun gt0 t0 fr1 st1 h hb => ?_)
   ·unfold d0a at h
    refine cd h (fun hc h => ?_) fun hc h => ?_
    ·refine rn ?_
     refine d6o (ZH s0) b0 (fun (gj2 : Unit) (j2 : Int) => [(3, .ptr (st.length + 1) 0 0 0), (4, .ptr (st.length + 2) 0 0 0), (6, .int .i64 s0), (7, .int .i64 j2)]) (fun (gj2 : Unit) (j2 : Int) => st ++ [none, some (.arr 0 2 0 [[.sl false 1 8 (rows Zj a1.rules), .sl false 1 8 (rows Zj a1.Yy)]]), some (.arr 0 2 0 [[.int .i64 0, .int .i64 0]])]) (fun gj2 j2 fr1 st1 h hb => ?_) (fun hj2 => ?_)
     ·try simp only [go_sem, fx]
      unfold ZH at h
      refine d1F hb ?_
      refine cd h (fun hc h => ?_) fun hc h => ?_
      ·refine ra ?_
       cases h
       refine d4e ?_; have h := congrArg some (hx0 _ rfl)
       exact rt
      ·refine rn ?_
       cases h
       exact ZE () (bm hsc)
     ·refine cd h (fun hc h => ?_) fun hc h => ?_
      ·obtain ⟨fx, h⟩ := ck fx h
       refine r0 ?_
       refine hj2 () _ _ _ h ?_; exact (bm hsc)
      ·obtain ⟨fx, h⟩ := ck fx h
       refine r0 ?_
       refine hj2 () _ _ _ h ?_; exact (bm hsc)
    ·refine rn ?_
     cases h
     exact d0V () (bm hsc)
   ·try simp only [go_sem, fx]
    unfold d1o at h
    refine d1F hb ?_
    exact rt
theorem d3T (a0 : Yn) (a1 : Int) (a2 : Int) (r : Int) (h : ZB a0 a1 a2 = some r) : Pure Tryz.prog gl 35 [.agg [.sl false 2 40 (rows Yl.cells a0.hierarchy.types), .sl false 3 32 (rows Yw.cells a0.hierarchy.YL), .sl false 10 152 (rows Yi.cells a0.rules), .sl false 9 144 (rows YT.cells a0.Yy), .sl false 2 32 (rows Yq.cells a0.start.nodes)], .int .i64 a1, .int .i64 a2] (.int .i64 r) := by
 intro st
 unfold ZB at h
 have fx := trivial
 refine fb 33 [.tmp 6] [0, 1, 2, 3, 6, 7, 9] Tryz.func35 fun hsc => ?_
 refine cd h (fun hc h => ?_) fun hc h => ?_
 ·obtain ⟨fx, h⟩ := ck fx h
  obtain ⟨fx, h⟩ := ck fx h
  exact rt
 ·obtain ⟨fx, h⟩ := ck fx h
  refine rn ?_
  refine dw [] 0 ?_
  obtain ⟨v6, hv6, h⟩ := Zg h
  refine Yt (d6q _ _ _ _ hv6) ?_
  obtain ⟨fx, h⟩ := ck fx h
  try simp only [go_sem, fx]
  exact rt
theorem ZC (a0 : Int) (r : Int) (h : Zc a0 = some r) : Pure Tryz.prog gl 153 [.int .i64 a0] (.int .u64 r) := by
 intro st
 unfold Zc at h
 have fx := trivial
 refine fb 10 [.tmp 2] [0, 2, 4] Tryz.func153 fun hsc => ?_
 refine cd h (fun hc h => ?_) fun hc h => ?_
 ·exact rt
 ·exact rt
theorem d2d (a0 : Yf) (r : Yf) (h : ZI a0 = some r) : Pure Tryz.prog gl 225 [.agg [.int .u64 a0.hi, .int .u64 a0.lo]] (.agg [.int .u64 r.hi, .int .u64 r.lo]) := by
 intro st
 unfold ZI at h
 have fx := trivial
 refine fb 15 [.cell 2 232] [0, 1, 2] Tryz.func225 fun hsc => ?_
 obtain ⟨fx, h⟩ := ck fx h
 obtain ⟨fx, h⟩ := ck fx h
 exact rt
theorem d0K (a0 : Yf) (a1 : Yf) (r : Bool) (h : Zs a0 a1 = some r) : Pure Tryz.prog gl 195 [.agg [.int .u64 a0.hi, .int .u64 a0.lo], .agg [.int .u64 a1.hi, .int .u64 a1.lo]] (.bool r) := by
 intro st
 unfold Zs at h
 have fx := trivial
 refine fb 24 [.tmp 4] [0, 1, 2, 3, 4, 11, 12, 13, 14, 15, 16, 17, 18, 19, 20, 21, 22] Tryz.func195 fun hsc => ?_
 exact rt
theorem d1i (a0 : Yf) (a1 : Yf) (r : Yf) (h : ZA a0 a1 = some r) : Pure Tryz.prog gl 196 [.agg [.int .u64 a0.hi, .int .u64 a0.lo], .agg [.int .u64 a1.hi, .int .u64 a1.lo]] (.agg [.int .u64 r.hi, .int .u64 r.lo]) := by
 intro st
 unfold ZA at h
 have fx := trivial
 refine fb 27 [.cell 4 232] [0, 1, 2, 3, 4, 5, 21] Tryz.func196 fun hsc => ?_
 refine cd h (fun hc h => ?_) fun hc h => ?_
 ·exact rt
 ·exact rt
theorem d3U (a0 : Yf) (a1 : Yf) (r : Yf) (h : d0p a0 a1 = some r) : Pure Tryz.prog gl 194 [.agg [.int .u64 a0.hi, .int .u64 a0.lo], .agg [.int .u64 a1.hi, .int .u64 a1.lo]] (.agg [.int .u64 r.hi, .int .u64 r.lo]) := by
 intro st
 unfold d0p at h
 have fx := trivial
 refine fb 27 [.cell 4 232] [0, 1, 2, 3, 4, 5, 21] Tryz.func194 fun hsc => ?_
 refine cd h (fun hc h => ?_) fun hc h => ?_
 ·exact rt
 ·exact rt
theorem d1X (a0 : Yf) (r : Yf) (h : ZD a0 = some r) : Pure Tryz.prog gl 199 [.agg [.int .u64 a0.hi, .int .u64 a0.lo]] (.agg [.int .u64 r.hi, .int .u64 r.lo]) := by
 intro st
 unfold ZD at h
 have fx := trivial
 refine fb 6 [.cell 2 232] [0, 1, 2] Tryz.func199 fun hsc => ?_
 refine cl h (d3U _ _) fun v1 h => ?_
 exact rt
theorem d5Q (n : Nat) (a0 : Yf) (a1 : Yf) (r : Yf) (h : d0q n a0 a1 = some r) : Pure Tryz.prog gl 197 [.agg [.int .u64 a0.hi, .int .u64 a0.lo], .agg [.int .u64 a1.hi, .int .u64 a1.lo]] (.agg [.int .u64 r.hi, .int .u64 r.lo]) := by
 intro st
 unfold d0q at h
 have fx := trivial
 refine fb 64 [.cell 4 232] [0, 1, 2, 3, 4, 5, 6, 7, 11, 15, 22, 23, 24, 25, 26, 36, 41, 45, 50, 58] Tryz.func197 fun hsc => ?_
 refine cd h (fun hc h => ?_) fun hc h => ?_
 ·exact rt
 ·refine cd h (fun hc h => ?_) fun hc h => ?_
  ·exact rt
  ·refine rn ?_
   refine Zt (body := d1a) (kk := d2q n) (n := n) (s0 := (a0.hi, a0.lo, a1.hi, a1.lo, 0))
    (fun (gs0 : Unit) (s0 : Int × Int × Int × Int × Int) => [(2, .ptr st.length 0 0 0), (3, .ptr (st.length + 1) 0 0 0), (4, .ptr (st.length + 2) 0 0 0), (5, .ptr (st.length + 3) 0 0 0), (6, .int .i64 s0.2.2.2.2)])
    (fun (gs0 : Unit) (s0 : Int × Int × Int × Int × Int) => st ++ [some (.arr 0 2 0 [[.int .u64 s0.1, .int .u64 s0.2.1]]), some (.arr 0 2 0 [[.int .u64 s0.2.2.1, .int .u64 s0.2.2.2.1]]), some (.arr 0 2 0 [[.int .u64 0, .int .u64 0]]), some (.arr 0 2 0 [[.int .u64 0, .int .u64 0]])])
    (fun (gt0 : Unit) (t0 : Int × Int × Int × Int × Int) => [(2, .ptr st.length 0 0 0), (3, .ptr (st.length + 1) 0 0 0), (4, .ptr (st.length + 2) 0 0 0), (5, .ptr (st.length + 3) 0 0 0), (6, .int .i64 t0.2.2.2.2)])
    (fun (gt0 : Unit) (t0 : Int × Int × Int × Int × Int) => st ++ [some (.arr 0 2 0 [[.int .u64 t0.1, .int .u64 t0.2.1]]), some (.arr 0 2 0 [[.int .u64 t0.2.2.1, .int .u64 t0.2.2.2.1]]), some (.arr 0 2 0 [[.int .u64 0, .int .u64 0]]), some (.arr 0 2 0 [[.int .u64 0, .int .u64 0]])])
    () h (bm hsc)
    (fun gs0 s0 b0 h hx0 => ?_) (fun gt0 t0 fr1 st1 h hb => ?_)
   ·unfold d1a at h
    refine cd h (fun hc h => ?_) fun hc h => ?_
    ·refine rn ?_
     refine dw [] 0 ?_
     obtain ⟨v3, hv3, h⟩ := Zg h
     refine Yt (d2d _ _ hv3) ?_
     try simp only [go_sem, fx]
     obtain ⟨v4, hv4, h⟩ := Zg h
     refine Yt (d2d _ _ hv4) ?_
     try simp only [go_sem, fx]
     refine rn ?_
     cases h
     exact ZE () (bm hsc)
    ·refine rn ?_
     cases h
     exact d0V () (bm hsc)
   ·try simp only [go_sem, fx]
    unfold d2q at h
    refine d1F hb ?_
    (repeat apply sq_)
    refine Zt (body := d1b) (kk := d2r n t0) (n := n) (s0 := (t0.1, t0.2.1))
     (fun (gs1 : Unit) (s1 : Int × Int) => [(2, .ptr st.length 0 0 0), (3, .ptr (st.length + 1) 0 0 0), (4, .ptr (st.length + 2) 0 0 0), (5, .ptr (st.length + 3) 0 0 0), (6, .int .i64 t0.2.2.2.2)])
     (fun (gs1 : Unit) (s1 : Int × Int) => st ++ [some (.arr 0 2 0 [[.int .u64 s1.1, .int .u64 s1.2]]), some (.arr 0 2 0 [[.int .u64 t0.2.2.1, .int .u64 t0.2.2.2.1]]), some (.arr 0 2 0 [[.int .u64 0, .int .u64 0]]), some (.arr 0 2 0 [[.int .u64 0, .int .u64 0]])])
     (fun (gt1 : Unit) (t1 : Int × Int) => [(2, .ptr st.length 0 0 0), (3, .ptr (st.length + 1) 0 0 0), (4, .ptr (st.length + 2) 0 0 0), (5, .ptr (st.length + 3) 0 0 0), (6, .int .i64 t0.2.2.2.2)])
     (fun (gt1 : Unit) (t1 : Int × Int) => st ++ [some (.arr 0 2 0 [[.int .u64 t1.1, .int .u64 t1.2]]), some (.arr 0 2 0 [[.int .u64 t0.2.2.1, .int .u64 t0.2.2.2.1]]), some (.arr 0 2 0 [[.int .u64 0, .int .u64 0]]), some (.arr 0 2 0 [[.int .u64 0, .int .u64 0]])])
     () h (bm hsc)
     (fun gs1 s1 b1 h hx1 => ?_) (fun gt1 t1 fr1 st1 h hb => ?_)
    ·unfold d1b at h
     refine cd h (fun hc h => ?_) fun hc h => ?_
     ·refine cl h (d2d _) fun v6 h => ?_
      refine rn ?_
      cases h
      exact ZE () (bm hsc)
     ·refine rn ?_
      cases h
      exact d0V () (bm hsc)
    ·try simp only [go_sem, fx]
     unfold d2r at h
     refine d1F hb ?_
     (repeat apply sq_)
     refine Zt (body := d1d n) (kk := d2s n t0) (n := n) (s0 := (t1.1, t1.2, t0.2.2.1, t0.2.2.2.1))
      (fun (gs2 : Unit) (s2 : Int × Int × Int × Int) => [(2, .ptr st.length 0 0 0), (3, .ptr (st.length + 1) 0 0 0), (4, .ptr (st.length + 2) 0 0 0), (5, .ptr (st.length + 3) 0 0 0), (6, .int .i64 t0.2.2.2.2)])
      (fun (gs2 : Unit) (s2 : Int × Int × Int × Int) => st ++ [some (.arr 0 2 0 [[.int .u64 s2.1, .int .u64 s2.2.1]]), some (.arr 0 2 0 [[.int .u64 s2.2.2.1, .int .u64 s2.2.2.2]]), some (.arr 0 2 0 [[.int .u64 0, .int .u64 0]]), some (.arr 0 2 0 [[.int .u64 0, .int .u64 0]])])
      (fun (gt2 : Unit) (t2 : Int × Int) => [(2, .ptr st.length 0 0 0), (4, .ptr (st.length + 2) 0 0 0), (6, .int .i64 t0.2.2.2.2)])
      (fun (gt2 : Unit) (t2 : Int × Int) => st ++ [some (.arr 0 2 0 [[.int .u64 t2.1, .int .u64 t2.2]]), none, some (.arr 0 2 0 [[.int .u64 0, .int .u64 0]])])
      () h (bm hsc)
      (fun gs2 s2 b2 h hx2 => ?_) (fun gt2 t2 fr1 st1 h hb => ?_)
     ·unfold d1d at h
      refine cd h (fun hc h => ?_) fun hc h => ?_
      ·refine rn ?_
       refine Zt (body := d1c) (kk := d2p s2) (n := n) (s0 := (s2.2.2.1, s2.2.2.2))
        (fun (gs4 : Unit) (s4 : Int × Int) => [(2, .ptr st.length 0 0 0), (3, .ptr (st.length + 1) 0 0 0), (4, .ptr (st.length + 2) 0 0 0), (5, .ptr (st.length + 3) 0 0 0), (6, .int .i64 t0.2.2.2.2)])
        (fun (gs4 : Unit) (s4 : Int × Int) => st ++ [some (.arr 0 2 0 [[.int .u64 s2.1, .int .u64 s2.2.1]]), some (.arr 0 2 0 [[.int .u64 s4.1, .int .u64 s4.2]]), some (.arr 0 2 0 [[.int .u64 0, .int .u64 0]]), some (.arr 0 2 0 [[.int .u64 0, .int .u64 0]])])
        (fun (gt4 : Unit) (t4 : Int × Int) => [(2, .ptr st.length 0 0 0), (3, .ptr (st.length + 1) 0 0 0), (4, .ptr (st.length + 2) 0 0 0), (5, .ptr (st.length + 3) 0 0 0), (6, .int .i64 t0.2.2.2.2)])
        (fun (gt4 : Unit) (t4 : Int × Int) => st ++ [some (.arr 0 2 0 [[.int .u64 s2.1, .int .u64 s2.2.1]]), some (.arr 0 2 0 [[.int .u64 t4.1, .int .u64 t4.2]]), some (.arr 0 2 0 [[.int .u64 0, .int .u64 0]]), some (.arr 0 2 0 [[.int .u64 0, .int .u64 0]])])
        () h (bm hsc)
        (fun gs4 s4 b4 h hx4 => ?_) (fun gt4 t4 fr1 st1 h hb => ?_)
       ·unfold d1c at h
        refine cd h (fun hc h => ?_) fun hc h => ?_
        ·refine cl h (d2d _) fun v13 h => ?_
         refine rn ?_
         cases h
         exact ZE () (bm hsc)
        ·refine rn ?_
         cases h
         exact d0V () (bm hsc)
       ·try simp only [go_sem, fx]
        unfold d2p at h
        refine d1F hb ?_
        refine cl h (d0K _ _) fun v14 h => ?_
        refine cd h (fun hc h => ?_) fun hc h => ?_
        ·refine cl h (d1i _ _) fun v15 h => ?_
         refine rn ?_
         cases h
         exact ZE () (bm hsc)
        ·refine cl h (d1i _ _) fun v16 h => ?_
         refine rn ?_
         cases h
         exact ZE () (bm hsc)
      ·refine rn ?_
       cases h
       exact d0V () (bm hsc)
     ·try simp only [go_sem, fx]
      unfold d2s at h
      refine d1F hb ?_
      refine rn ?_
      refine Zt (body := d2t t0) (kk := d3Q) (n := n) (s0 := (t2.1, t2.2, 0))
       (fun (gs5 : Unit) (s5 : Int × Int × Int) => [(2, .ptr st.length 0 0 0), (4, .ptr (st.length + 2) 0 0 0), (6, .int .i64 t0.2.2.2.2), (7, .int .i64 s5.2.2)])
       (fun (gs5 : Unit) (s5 : Int × Int × Int) => st ++ [some (.arr 0 2 0 [[.int .u64 s5.1, .int .u64 s5.2.1]]), none, some (.arr 0 2 0 [[.int .u64 0, .int .u64 0]])])
       (fun (gt5 : Unit) (t5 : Int × Int) => [(2, .ptr st.length 0 0 0), (4, .ptr (st.length + 2) 0 0 0)])
       (fun (gt5 : Unit) (t5 : Int × Int) => st ++ [some (.arr 0 2 0 [[.int .u64 t5.1, .int .u64 t5.2]]), none, some (.arr 0 2 0 [[.int .u64 0, .int .u64 0]])])
       () h (bm hsc)
       (fun gs5 s5 b5 h hx5 => ?_) (fun gt5 t5 fr1 st1 h hb => ?_)
      ·unfold d2t at h
       refine cd h (fun hc h => ?_) fun hc h => ?_
       ·refine cl h (d1X _) fun v18 h => ?_
        refine rn ?_
        cases h
        exact ZE () (bm hsc)
       ·refine rn ?_
        cases h
        exact d0V () (bm hsc)
      ·try simp only [go_sem, fx]
       unfold d3Q at h
       refine d1F hb ?_
       exact rt
end Go.Proofs.YtgaeiccgdpnkkaaGreatDoor
