import Derived.Test.YtgaeiccgdpnkkaaGreatDoorPWalk1
set_option linter.unusedVariables false
set_option linter.unusedSimpArgs false
set_option maxHeartbeats 2000000
set_option maxRecDepth 100000
namespace Go.Proofs.YtgaeiccgdpnkkaaGreatDoor
open Go Go.Am
theorem d8R (a0 : (List Yl)) (r : YB) (h : d4g a0 = some r) : Pure Tryz.prog gl 115 [.sl false 2 40 (rows Yl.cells a0)] (.agg [.sl false 1 8 (rows d3L r.up), .sl false 1 8 (rows d3L r.down)]) := by
 intro st
 unfold d4g at h
 have fx := trivial
 refine fb 75 [.cell 2 195] [0, 2, 3, 4, 5, 7, 8, 16, 17, 18, 19, 30, 31, 32, 33, 50, 51, 52, 62] Tryz.func115 fun hsc => ?_
 refine rn ?_
 obtain ⟨fx, h⟩ := ck fx h
 have fy := (show List.replicate a0.length [.int .u64 0] = rows d3L (List.replicate a0.length (default : Int)) from d8J (E := d3L) _ default)
 have fy := fa fy (show List.replicate a0.length [.int .u64 0] = rows d3L (List.replicate a0.length (default : Int)) from d8J (E := d3L) _ default)
 refine dwy [] 3 ?_
 refine aln 0 fun hl0 => ?_
 refine rng (body := d4R a0) (kk := d4W) (n := a0.length) (s0 := ((List.replicate a0.length (default : Int)), (List.replicate a0.length (default : Int))))
  (fun (gs0 : Nat × Nat) (k0 : Nat) (s0 : (List Int) × (List Int)) => [(0, .sl false 2 40 (rows Yl.cells a0)), (2, .ptr st.length 0 0 0), (3, .ptr (st.length + 3) 0 0 0), (16, .sl false 2 40 (rows Yl.cells a0)), (17, .int .i64 (↑a0.length : Int)), (18, .int .i64 (↑k0 : Int))])
  (fun (gs0 : Nat × Nat) (k0 : Nat) (s0 : (List Int) × (List Int)) => st ++ [some (.arr 0 2 0 [[.YU, .YU]]), some (.arr gs0.1 1 8 (rows d3L s0.1)), some (.arr gs0.2 1 8 (rows d3L s0.2)), some (.arr 0 2 0 [[.ref true (st.length + 1) gs0.1 0 s0.1.length, .ref true (st.length + 2) gs0.2 0 s0.2.length]])])
  (fun (gt0 : Nat × Nat) (t0 : (List Int) × (List Int)) => [(2, .ptr st.length 0 0 0), (3, .ptr (st.length + 3) 0 0 0)])
  (fun (gt0 : Nat × Nat) (t0 : (List Int) × (List Int)) => st ++ [some (.arr 0 2 0 [[.YU, .YU]]), some (.arr gt0.1 1 8 (rows d3L t0.1)), some (.arr gt0.2 1 8 (rows d3L t0.2)), some (.arr 0 2 0 [[.ref true (st.length + 1) gt0.1 0 t0.1.length, .ref true (st.length + 2) gt0.2 0 t0.2.length]])])
  (0, 0) fx hl0 h (bm hsc (hu := (.lv (.lv (.lv (.live _ _ _ _ (.arr _ _ _ _ _ (.cons _ _ _ _ (.cons _ _ _ _ (i7M (by first | (simp; done) | simp [Fr.get])) (.cons _ _ _ _ (i7M (by first | (simp; done) | simp [Fr.get])) .nil)) (.same _))) (.nil _)))))))
  (fun gs0 k0 s0 b0 fx h hx0 => ?_) (fun gs0 s0 => ?_) (fun gt0 t0 fr1 st1 h hb => ?_)
 ·unfold d4R at h
  refine ct ?_
  refine rn ?_
  obtain ⟨fx, h⟩ := ck fx h
  obtain ⟨fx, h⟩ := ck fx h
  have fy := (show (rows d3L s0.1).getD k0 [] = d3L (get s0.1 k0) from d9f (E := d3L) (l := s0.1) (k := k0) (by first | omega | (simp; omega)))
  have fy := fa fy (show k0 < s0.1.length from by first | omega | (simp; omega))
  obtain ⟨c62, r2i, h⟩ := i1k h
  have fy := fa fy (show (rows d3L s0.1).set k0 [.int .u64 (wr .u64 (1 * 2 ^ (min k0 64)))] = rows d3L c62 from by rw [r2i]; first | exact i7L (E := d3L) _ _ _ | simp only [go_sem, rows, List.map_set])
  refine dwy [] 0 ?_
  have e64 : D.ref true (st.length + 1) gs0.1 0 s0.1.length = D.ref true (st.length + 1) gs0.1 0 c62.length := by simp [r2i]
  simp only [e64]
  refine aln 30 fun hl3 => ?_
  refine rng (body := d4S k0 a0) (kk := d4T k0 a0 s0) (n := ((get a0 k0).parents).length) (s0 := c62)
   (fun (gs3 : Nat) (k3 : Nat) (s3 : (List Int)) => [(0, .sl false 2 40 (rows Yl.cells a0)), (2, .ptr st.length 0 0 0), (3, .ptr (st.length + 3) 0 0 0), (4, .int .i64 (↑k0 : Int)), (16, .sl false 2 40 (rows Yl.cells a0)), (17, .int .i64 (↑a0.length : Int)), (18, .int .i64 (↑k0 : Int)), (30, .sl false 1 8 (rows Zj ((get a0 k0).parents))), (31, .int .i64 (↑(((get a0 k0).parents).length) : Int)), (32, .int .i64 (↑k3 : Int))])
   (fun (gs3 : Nat) (k3 : Nat) (s3 : (List Int)) => st ++ [some (.arr 0 2 0 [[.YU, .YU]]), some (.arr gs3 1 8 (rows d3L s3)), some (.arr gs0.2 1 8 (rows d3L s0.2)), some (.arr 0 2 0 [[.ref true (st.length + 1) gs3 0 s3.length, .ref true (st.length + 2) gs0.2 0 s0.2.length]])])
   (fun (gt3 : Nat) (t3 : (List Int)) => [(0, .sl false 2 40 (rows Yl.cells a0)), (2, .ptr st.length 0 0 0), (3, .ptr (st.length + 3) 0 0 0), (4, .int .i64 (↑k0 : Int)), (16, .sl false 2 40 (rows Yl.cells a0)), (17, .int .i64 (↑a0.length : Int)), (18, .int .i64 (↑k0 : Int))])
   (fun (gt3 : Nat) (t3 : (List Int)) => st ++ [some (.arr 0 2 0 [[.YU, .YU]]), some (.arr gt3 1 8 (rows d3L t3)), some (.arr gs0.2 1 8 (rows d3L s0.2)), some (.arr 0 2 0 [[.ref true (st.length + 1) gt3 0 t3.length, .ref true (st.length + 2) gs0.2 0 s0.2.length]])])
   gs0.1 fx hl3 h (bm hsc)
   (fun gs3 k3 s3 b3 fx h hx3 => ?_) (fun gs3 s3 => ?_) (fun gt3 t3 fr1 st1 h hb => ?_)
  ·unfold d4S at h
   refine ct ?_
   refine rn ?_
   obtain ⟨fx, h⟩ := ck fx h
   have fy := (show (rows d3L s3).getD k0 [] = d3L (get s3 k0) from d9f (E := d3L) (l := s3) (k := k0) (by first | omega | (simp; omega)))
   have fy := fa fy (show k0 < s3.length from by first | omega | (simp; omega))
   obtain ⟨fx, h⟩ := ck fx h
   have fy := fa fy (show (rows d3L s3).getD ((get ((get a0 k0).parents) k3).toNat) [] = d3L (get s3 ((get ((get a0 k0).parents) k3).toNat)) from d9f (E := d3L) (l := s3) (k := (get ((get a0 k0).parents) k3).toNat) (by first | omega | (simp; omega)))
   have fy := fa fy (show (get ((get a0 k0).parents) k3).toNat < s3.length from by first | omega | (simp; omega))
   have fy := fa fy (show (rows d3L s3).getD k0 [] = d3L (get s3 k0) from d9f (E := d3L) (l := s3) (k := k0) (by first | omega | (simp; omega)))
   have fy := fa fy (show k0 < s3.length from by first | omega | (simp; omega))
   obtain ⟨c86, r2j, h⟩ := i1k h
   have fy := fa fy (show (rows d3L s3).set k0 [.int .u64 (d1G .or .u64 (get s3 k0) (get s3 ((get ((get a0 k0).parents) k3).toNat)))] = rows d3L c86 from by rw [r2j]; first | exact i7L (E := d3L) _ _ _ | simp only [go_sem, rows, List.map_set])
   refine dwy [] 0 ?_
   have e88 : D.ref true (st.length + 1) gs3 0 s3.length = D.ref true (st.length + 1) gs3 0 c86.length := by simp [r2j]
   simp only [e88]
   refine rn ?_
   cases h
   exact d6b gs3 (bm hsc)
  ·refine cf ?_
   refine d5I ?_; simp only [go_sem, fx]
   exact ⟨gs3, (bm hsc)⟩
  ·try simp only [go_sem, fx]
   unfold d4T at h
   refine d1F hb ?_
   refine aln 0 fun hl4 => ?_
   refine rng (body := d4U k0 t3) (kk := d4V t3) (n := a0.length) (s0 := s0.2)
    (fun (gs4 : Nat) (k4 : Nat) (s4 : (List Int)) => [(0, .sl false 2 40 (rows Yl.cells a0)), (2, .ptr st.length 0 0 0), (3, .ptr (st.length + 3) 0 0 0), (4, .int .i64 (↑k0 : Int)), (16, .sl false 2 40 (rows Yl.cells a0)), (17, .int .i64 (↑a0.length : Int)), (18, .int .i64 (↑k0 : Int)), (50, .int .i64 (↑a0.length : Int)), (51, .int .i64 (↑k4 : Int))])
    (fun (gs4 : Nat) (k4 : Nat) (s4 : (List Int)) => st ++ [some (.arr 0 2 0 [[.YU, .YU]]), some (.arr gt3 1 8 (rows d3L t3)), some (.arr gs4 1 8 (rows d3L s4)), some (.arr 0 2 0 [[.ref true (st.length + 1) gt3 0 t3.length, .ref true (st.length + 2) gs4 0 s4.length]])])
    (fun (gt4 : Nat) (t4 : (List Int)) => [(0, .sl false 2 40 (rows Yl.cells a0)), (2, .ptr st.length 0 0 0), (3, .ptr (st.length + 3) 0 0 0), (16, .sl false 2 40 (rows Yl.cells a0)), (17, .int .i64 (↑a0.length : Int)), (18, .int .i64 (↑k0 : Int))])
    (fun (gt4 : Nat) (t4 : (List Int)) => st ++ [some (.arr 0 2 0 [[.YU, .YU]]), some (.arr gt3 1 8 (rows d3L t3)), some (.arr gt4 1 8 (rows d3L t4)), some (.arr 0 2 0 [[.ref true (st.length + 1) gt3 0 t3.length, .ref true (st.length + 2) gt4 0 t4.length]])])
    gs0.2 fx hl4 h (bm hsc)
    (fun gs4 k4 s4 b4 fx h hx4 => ?_) (fun gs4 s4 => ?_) (fun gt4 t4 fr1 st1 h hb => ?_)
   ·unfold d4U at h
    refine ct ?_
    refine r0 ?_
    refine r0 ?_
    refine r0 ?_
    obtain ⟨fx, h⟩ := ck fx h
    have fy := (show (rows d3L t3).getD k0 [] = d3L (get t3 k0) from d9f (E := d3L) (l := t3) (k := k0) (by first | omega | (simp; omega)))
    have fy := fa fy (show k0 < t3.length from by first | omega | (simp; omega))
    obtain ⟨fx, h⟩ := ck fx h
    refine r1 ?_
    refine cd h (fun hc h => ?_) fun hc h => ?_
    ·refine rs ?_
     obtain ⟨fx, h⟩ := ck fx h
     have fy := (show (rows d3L s4).getD k4 [] = d3L (get s4 k4) from d9f (E := d3L) (l := s4) (k := k4) (by first | omega | (simp; omega)))
     have fy := fa fy (show k4 < s4.length from by first | omega | (simp; omega))
     have fy := fa fy (show (rows d3L s4).getD k4 [] = d3L (get s4 k4) from d9f (E := d3L) (l := s4) (k := k4) (by first | omega | (simp; omega)))
     have fy := fa fy (show k4 < s4.length from by first | omega | (simp; omega))
     obtain ⟨c110, p9z, h⟩ := i1k h
     have fy := fa fy (show (rows d3L s4).set k4 [.int .u64 (d1G .or .u64 (get s4 k4) (wr .u64 (1 * 2 ^ (min k0 64))))] = rows d3L c110 from by rw [p9z]; first | exact i7L (E := d3L) _ _ _ | simp only [go_sem, rows, List.map_set])
     refine dwy [] 0 ?_
     have e112 : D.ref true (st.length + 2) gs4 0 s4.length = D.ref true (st.length + 2) gs4 0 c110.length := by simp [p9z]
     simp only [e112]
     refine rn ?_
     cases h
     exact d6b gs4 (bm hsc)
    ·refine rn ?_
     cases h
     exact d6b gs4 (bm hsc)
   ·refine cf ?_
    refine d5I ?_; simp only [go_sem, fx]
    exact ⟨gs4, (bm hsc)⟩
   ·try simp only [go_sem, fx]
    unfold d4V at h
    refine d1F hb ?_
    refine rn ?_
    cases h
    exact d6b (gt3, gt4) (bm hsc)
 ·refine cf ?_
  refine d5I ?_; simp only [go_sem, fx]
  exact ⟨(gs0.1, gs0.2), (bm hsc)⟩
 ·try simp only [go_sem, fx]
  unfold d4W at h
  refine d1F hb ?_
  refine rr ?_
  exact fo (.agg [.sl false 1 8 (rows d3L t0.1), .sl false 1 8 (rows d3L t0.2)]) (.agg _ _ (.cons _ _ _ _ (.ref _ _ _ _ _ _ _ _ _ (i2z.trans rfl) p0h (by decide) (i5z _) (by simp only [go_sem])) (.cons _ _ _ _ (.ref _ _ _ _ _ _ _ _ _ (i2z.trans rfl) p0h (by decide) (i5z _) (by simp only [go_sem])) .nil))) h hsc
theorem d8E (a0 : Int) (r : Int) (h : d1I a0 = some r) : Pure Tryz.prog gl 210 [.int .u64 a0] (.int .i64 r) := by
 intro st
 unfold d1I at h
 have fx := trivial
 refine fb 14 [.tmp 2] [0, 2, 4] Tryz.func210 fun hsc => ?_
 refine cd h (fun hc h => ?_) fun hc h => ?_
 ·exact rt
 ·refine r0 ?_
  obtain ⟨fx, h⟩ := ck fx h
  have fy := (show Am.rowAt (d5J u8c p3w) ((Int.fdiv (wr .u64 ((d1G .and .u64 a0 (wr .u64 (0 - a0))) * 285870213051353865)) (2 ^ (min 58 64))).toNat) 1 = u8c (get p3w ((Int.fdiv (wr .u64 ((d1G .and .u64 a0 (wr .u64 (0 - a0))) * 285870213051353865)) (2 ^ (min 58 64))).toNat)) from i4y (fun _ => rfl) (show _ < p3w.length by rw [p4v]; first | omega | (simp; omega)))
  refine r1 ?_
  exact rt
theorem i0C (a0 : YB) (a1 : Int) (a2 : Int) (r : Int × Bool × Bool) (h : d3F a0 a1 a2 = some r) : Pure Tryz.prog gl 173 [.agg [.sl false 1 8 (rows d3L a0.up), .sl false 1 8 (rows d3L a0.down)], .int .i64 a1, .int .i64 a2] (.tup [.int .i64 r.1, .bool r.2.1, .bool r.2.2]) := by
 intro st
 unfold d3F at h
 have fx := trivial
 refine fb 33 [.tmp 6, .tmp 7, .tmp 8] [0, 1, 2, 3, 6, 7, 8, 9, 22, 31] Tryz.func173 fun hsc => ?_
 refine rn ?_
 obtain ⟨fx, h⟩ := ck fx h
 obtain ⟨fx, h⟩ := ck fx h
 refine dw [] 0 ?_
 refine cd h (fun hc h => ?_) fun hc h => ?_
 ·exact rt
 ·refine cl h (d8E _) fun v5 h => ?_
  obtain ⟨fx, h⟩ := ck fx h
  refine cd h (fun hc h => ?_) fun hc h => ?_
  ·exact rt
  ·exact rt
theorem i1c (a0 : Yo) (r : Yg) (h : d4h a0 = some r) : Pure Tryz.prog gl 113 [.agg [.sl false 2 40 (rows Yl.cells a0.types), .sl false 3 32 (rows Yw.cells a0.YL)]] (.agg [.int .i64 r.code, .int .i64 r.index]) := by
 intro st
 unfold d4h at h
 have fx := trivial
 refine fb 122 [.cell 2 41] [0, 1, 2, 3, 4, 5, 6, 9, 10, 11, 12, 14, 20, 21, 22, 23, 26, 27, 28, 29, 30, 37, 44, 45, 46, 48, 49, 50, 60, 67, 68, 69, 70, 77, 87, 98, 99, 100, 101, 102, 103, 106, 107, 108, 111, 112, 113, 114, 115, 116, 117] Tryz.func113 fun hsc => ?_
 refine cd h (fun hc h => ?_) fun hc h => ?_
 ·refine cl h (ZS _ _) fun v1 h => ?_
  exact rt
 ·refine cl h (i3i _) fun v2 h => ?_
  refine cd h (fun hc h => ?_) fun hc h => ?_
  ·exact rt
  ·refine cl h (d8R _) fun v3 h => ?_
   obtain ⟨fx, h⟩ := ck fx h
   refine rn ?_
   refine rng (body := d3W v3) (kk := d2O a0) (n := a0.types.length) (s0 := ())
    (fun (gs0 : Unit) (k0 : Nat) (s0 : Unit) => [(1, .ptr st.length 0 0 0), (2, .ptr (st.length + 1) 0 0 0), (4, .ptr (st.length + 3) 0 0 0), (44, .int .i64 (↑a0.types.length : Int)), (45, .int .i64 (↑k0 : Int))])
    (fun (gs0 : Unit) (k0 : Nat) (s0 : Unit) => st ++ [some (.arr 0 2 0 [[.sl false 2 40 (rows Yl.cells a0.types), .sl false 3 32 (rows Yw.cells a0.YL)]]), some (.arr 0 2 0 [[.int .i64 0, .int .i64 0]]), none, some (.arr 0 2 0 [[.sl false 1 8 (rows d3L v3.up), .sl false 1 8 (rows d3L v3.down)]])])
    (fun (gt0 : Unit) (t0 : Unit) => [(1, .ptr st.length 0 0 0), (2, .ptr (st.length + 1) 0 0 0)])
    (fun (gt0 : Unit) (t0 : Unit) => st ++ [some (.arr 0 2 0 [[.sl false 2 40 (rows Yl.cells a0.types), .sl false 3 32 (rows Yw.cells a0.YL)]]), some (.arr 0 2 0 [[.int .i64 0, .int .i64 0]])])
    () fx fx.2 h (bm hsc)
    (fun gs0 k0 s0 b0 fx h hx0 => ?_) (fun gs0 s0 => ?_) (fun gt0 t0 fr1 st1 h hb => ?_)
   ·unfold d3W at h
    refine ct ?_
    obtain ⟨fx, h⟩ := ck fx h
    refine rn ?_
    refine rng (body := d3X v3 k0) (kk := d3Y) (n := k0) (s0 := ())
     (fun (gs1 : Unit) (k1 : Nat) (s1 : Unit) => [(1, .ptr st.length 0 0 0), (2, .ptr (st.length + 1) 0 0 0), (4, .ptr (st.length + 3) 0 0 0), (5, .int .i64 (↑k0 : Int)), (44, .int .i64 (↑a0.types.length : Int)), (45, .int .i64 (↑k0 : Int)), (48, .int .i64 (↑k0 : Int)), (49, .int .i64 (↑k1 : Int))])
     (fun (gs1 : Unit) (k1 : Nat) (s1 : Unit) => st ++ [some (.arr 0 2 0 [[.sl false 2 40 (rows Yl.cells a0.types), .sl false 3 32 (rows Yw.cells a0.YL)]]), some (.arr 0 2 0 [[.int .i64 0, .int .i64 0]]), none, some (.arr 0 2 0 [[.sl false 1 8 (rows d3L v3.up), .sl false 1 8 (rows d3L v3.down)]])])
     (fun (gt1 : Unit) (t1 : Unit) => [(1, .ptr st.length 0 0 0), (2, .ptr (st.length + 1) 0 0 0), (4, .ptr (st.length + 3) 0 0 0), (44, .int .i64 (↑a0.types.length : Int)), (45, .int .i64 (↑k0 : Int))])
     (fun (gt1 : Unit) (t1 : Unit) => st ++ [some (.arr 0 2 0 [[.sl false 2 40 (rows Yl.cells a0.types), .sl false 3 32 (rows Yw.cells a0.YL)]]), some (.arr 0 2 0 [[.int .i64 0, .int .i64 0]]), none, some (.arr 0 2 0 [[.sl false 1 8 (rows d3L v3.up), .sl false 1 8 (rows d3L v3.down)]])])
     () fx fx.2 h (bm hsc)
     (fun gs1 k1 s1 b1 fx h hx1 => ?_) (fun gs1 s1 => ?_) (fun gt1 t1 fr1 st1 h hb => ?_)
    ·unfold d3X at h
     refine ct ?_
     refine cl h (i0C _ _ _) fun v6 h => ?_
     refine cd h (fun hc h => ?_) fun hc h => ?_
     ·refine cl h (ZS _ _) fun v7 h => ?_
      refine ra ?_
      cases h
      refine Za ?_; obtain rfl := hx1 _ rfl; try simp only [go_sem, fx]
      refine Za ?_; have h := congrArg some (hx0 _ rfl)
      exact rt
     ·refine rn ?_
      cases h
      exact d6b () (bm hsc)
    ·refine cf ?_
     refine d5I ?_; simp only [go_sem, fx]
     exact ⟨(), (bm hsc)⟩
    ·try simp only [go_sem, fx]
     unfold d3Y at h
     refine d1F hb ?_
     refine rn ?_
     cases h
     exact d6b () (bm hsc)
   ·refine cf ?_
    refine d5I ?_; simp only [go_sem, fx]
    exact ⟨(), (bm hsc)⟩
   ·try simp only [go_sem, fx]
    unfold d2O at h
    refine d1F hb ?_
    refine aln 67 fun hl2 => ?_
    refine rng (body := d3V a0) (kk := d5F) (n := a0.YL.length) (s0 := [])
     (fun (gs2 : Unit) (k2 : Nat) (s2 : (List (Bs × Int))) => [(1, .ptr st.length 0 0 0), (2, .ptr (st.length + 1) 0 0 0), (10, .mp (st.length + 2)), (67, .sl false 3 32 (rows Yw.cells a0.YL)), (68, .int .i64 (↑a0.YL.length : Int)), (69, .int .i64 (↑k2 : Int))])
     (fun (gs2 : Unit) (k2 : Nat) (s2 : (List (Bs × Int))) => st ++ [some (.arr 0 2 0 [[.sl false 2 40 (rows Yl.cells a0.types), .sl false 3 32 (rows Yw.cells a0.YL)]]), some (.arr 0 2 0 [[.int .i64 0, .int .i64 0]]), some (.mps false (mrw Zj s2))])
     (fun (gt2 : Unit) (t2 : (List (Bs × Int))) => [(2, .ptr (st.length + 1) 0 0 0)])
     (fun (gt2 : Unit) (t2 : (List (Bs × Int))) => st ++ [none, some (.arr 0 2 0 [[.int .i64 0, .int .i64 0]])])
     () fx hl2 h (bm hsc)
     (fun gs2 k2 s2 b2 fx h hx2 => ?_) (fun gs2 s2 => ?_) (fun gt2 t2 fr1 st1 h hb => ?_)
    ·unfold d3V at h
     refine ct ?_
     refine cl h (d9V _) fun v14 h => ?_
     refine cd h (fun hc h => ?_) fun hc h => ?_
     ·refine cl h (ZS _ _) fun v15 h => ?_
      refine ra ?_
      cases h
      refine Za ?_; have h := congrArg some (hx2 _ rfl)
      exact rt
     ·refine cd h (fun hc h => ?_) fun hc h => ?_
      ·refine cl h (ZS _ _) fun v16 h => ?_
       refine ra ?_
       cases h
       refine Za ?_; have h := congrArg some (hx2 _ rfl)
       exact rt
      ·refine r0 ?_
       obtain ⟨c17, r4S, h⟩ := i1k h
       have fy := (show d0c ((get a0.YL k2).name) [.int .i64 (↑k2 : Int)] (mrw Zj s2) = mrw Zj c17 from by rw [r4S]; exact i9i (E := Zj) _ _ _)
       refine r1 ?_
       refine cd h (fun hc h => ?_) fun hc h => ?_
       ·refine cl h (ZS _ _) fun v19 h => ?_
        refine ra ?_
        cases h
        refine Za ?_; have h := congrArg some (hx2 _ rfl)
        exact rt
       ·refine rn ?_
        cases h
        exact d6b () (bm hsc)
    ·refine cf ?_
     refine d5I ?_; simp only [go_sem, fx]
     exact ⟨(), (bm hsc)⟩
    ·try simp only [go_sem, fx]
     unfold d5F at h
     refine d1F hb ?_
     exact rt
theorem d3o (a0 : Int) (a1 : Int) (r : Yg) (h : d2Z a0 a1 = some r) : Pure Tryz.prog gl 114 [.int .i64 a0, .int .i64 a1] (.agg [.int .i64 r.code, .int .i64 r.index]) := by
 intro st
 unfold d2Z at h
 have fx := trivial
 refine fb 8 [.cell 4 41] [0, 1, 4] Tryz.func114 fun hsc => ?_
 exact rt
theorem d5D (a0 : Int) (a1 : Int) (r : Yg) (h : d5q a0 a1 = some r) : Pure Tryz.prog gl 179 [.int .i64 a0, .int .i64 a1] (.agg [.int .i64 r.code, .int .i64 r.index]) := by
 intro st
 unfold d5q at h
 have fx := trivial
 refine fb 8 [.cell 4 41] [0, 1, 4] Tryz.func179 fun hsc => ?_
 exact rt
theorem i7o (a0 : Yo) (a1 : Yz) (r : Yg) (h : d9q a0 a1 = some r) : Pure Tryz.prog gl 177 [.agg [.sl false 2 40 (rows Yl.cells a0.types), .sl false 3 32 (rows Yw.cells a0.YL)], .agg [.sl false 2 32 (rows Yq.cells a1.nodes)]] (.agg [.int .i64 r.code, .int .i64 r.index]) := by
 intro st
 unfold d9q at h
 have fx := trivial
 refine fb 86 [.cell 4 41] [0, 1, 2, 3, 4, 5, 6, 7, 9, 15, 16, 17, 18, 19, 22, 23, 24, 25, 33, 34, 35, 36, 37, 38, 39, 43, 44, 45, 46, 53, 54, 55, 56, 57, 58, 61, 62, 63, 66, 67, 68, 69, 70, 71, 72, 78] Tryz.func177 fun hsc => ?_
 refine cd h (fun hc h => ?_) fun hc h => ?_
 ·refine cl h (d5D _ _) fun v1 h => ?_
  exact rt
 ·refine aln 22 fun hl0 => ?_
  refine rng (body := d7I a1 a0) (kk := d9Q) (n := a1.nodes.length) (s0 := ())
   (fun (gs0 : Unit) (k0 : Nat) (s0 : Unit) => [(2, .ptr st.length 0 0 0), (3, .ptr (st.length + 1) 0 0 0), (4, .ptr (st.length + 2) 0 0 0), (22, .sl false 2 32 (rows Yq.cells a1.nodes)), (23, .int .i64 (↑a1.nodes.length : Int)), (24, .int .i64 (↑k0 : Int))])
   (fun (gs0 : Unit) (k0 : Nat) (s0 : Unit) => st ++ [some (.arr 0 2 0 [[.sl false 2 40 (rows Yl.cells a0.types), .sl false 3 32 (rows Yw.cells a0.YL)]]), some (.arr 0 1 0 [[.sl false 2 32 (rows Yq.cells a1.nodes)]]), some (.arr 0 2 0 [[.int .i64 0, .int .i64 0]])])
   (fun (gt0 : Unit) (t0 : Unit) => [(4, .ptr (st.length + 2) 0 0 0)])
   (fun (gt0 : Unit) (t0 : Unit) => st ++ [none, none, some (.arr 0 2 0 [[.int .i64 0, .int .i64 0]])])
   () fx hl0 h (bm hsc)
   (fun gs0 k0 s0 b0 fx h hx0 => ?_) (fun gs0 s0 => ?_) (fun gt0 t0 fr1 st1 h hb => ?_)
  ·unfold d7I at h
   refine ct ?_
   refine cd h (fun hc h => ?_) fun hc h => ?_
   ·refine cl h (d5D _ _) fun v7 h => ?_
    refine ra ?_
    cases h
    refine Za ?_; have h := congrArg some (hx0 _ rfl)
    exact rt
   ·refine aln 43 fun hl2 => ?_
    refine rng (body := d7J a1 k0 a0) (kk := d7K) (n := ((get a1.nodes k0).links).length) (s0 := -1)
     (fun (gs2 : Unit) (k2 : Nat) (s2 : Int) => [(2, .ptr st.length 0 0 0), (3, .ptr (st.length + 1) 0 0 0), (4, .ptr (st.length + 2) 0 0 0), (5, .int .i64 (↑k0 : Int)), (7, .int .i64 s2), (22, .sl false 2 32 (rows Yq.cells a1.nodes)), (23, .int .i64 (↑a1.nodes.length : Int)), (24, .int .i64 (↑k0 : Int)), (43, .sl false 2 16 (rows Zh.cells ((get a1.nodes k0).links))), (44, .int .i64 (↑(((get a1.nodes k0).links).length) : Int)), (45, .int .i64 (↑k2 : Int))])
     (fun (gs2 : Unit) (k2 : Nat) (s2 : Int) => st ++ [some (.arr 0 2 0 [[.sl false 2 40 (rows Yl.cells a0.types), .sl false 3 32 (rows Yw.cells a0.YL)]]), some (.arr 0 1 0 [[.sl false 2 32 (rows Yq.cells a1.nodes)]]), some (.arr 0 2 0 [[.int .i64 0, .int .i64 0]])])
     (fun (gt2 : Unit) (t2 : Int) => [(2, .ptr st.length 0 0 0), (3, .ptr (st.length + 1) 0 0 0), (4, .ptr (st.length + 2) 0 0 0), (22, .sl false 2 32 (rows Yq.cells a1.nodes)), (23, .int .i64 (↑a1.nodes.length : Int)), (24, .int .i64 (↑k0 : Int))])
     (fun (gt2 : Unit) (t2 : Int) => st ++ [some (.arr 0 2 0 [[.sl false 2 40 (rows Yl.cells a0.types), .sl false 3 32 (rows Yw.cells a0.YL)]]), some (.arr 0 1 0 [[.sl false 2 32 (rows Yq.cells a1.nodes)]]), some (.arr 0 2 0 [[.int .i64 0, .int .i64 0]])])
     () fx hl2 h (bm hsc)
     (fun gs2 k2 s2 b2 fx h hx2 => ?_) (fun gs2 s2 => ?_) (fun gt2 t2 fr1 st1 h hb => ?_)
    ·unfold d7J at h
     refine ct ?_
     refine cd h (fun hc h => ?_) fun hc h => ?_
     ·refine cl h (d5D _ _) fun v10 h => ?_
      refine ra ?_
      cases h
      refine Za ?_; obtain rfl := hx2 _ rfl; try simp only [go_sem, fx]
      refine Za ?_; have h := congrArg some (hx0 _ rfl)
      exact rt
     ·refine cd h (fun hc h => ?_) fun hc h => ?_
      ·refine cl h (d5D _ _) fun v11 h => ?_
       refine ra ?_
       cases h
       refine Za ?_; obtain rfl := hx2 _ rfl; try simp only [go_sem, fx]
       refine Za ?_; have h := congrArg some (hx0 _ rfl)
       exact rt
      ·refine rn ?_
       cases h
       exact d6b () (bm hsc)
    ·refine cf ?_
     refine d5I ?_; simp only [go_sem, fx]
     exact ⟨(), (bm hsc)⟩
    ·try simp only [go_sem, fx]
     unfold d7K at h
     refine d1F hb ?_
     refine rn ?_
     cases h
     exact d6b () (bm hsc)
  ·refine cf ?_
   refine d5I ?_; simp only [go_sem, fx]
   exact ⟨(), (bm hsc)⟩
  ·try simp only [go_sem, fx]
   unfold d9Q at h
   refine d1F hb ?_
   exact rt
theorem d7E (a0 : YB) (a1 : Int) (a2 : Int) (r : Bool) (h : d3c a0 a1 a2 = some r) : Pure Tryz.prog gl 178 [.agg [.sl false 1 8 (rows d3L a0.up), .sl false 1 8 (rows d3L a0.down)], .int .i64 a1, .int .i64 a2] (.bool r) := by
 intro st
 unfold d3c at h
 have fx := trivial
 refine fb 16 [.tmp 6] [0, 1, 2, 3, 6] Tryz.func178 fun hsc => ?_
 obtain ⟨fx, h⟩ := ck fx h
 obtain ⟨fx, h⟩ := ck fx h
 exact rt
theorem d6Q (a0 : (List Bool)) (a1 : Bool) (r : Int) (h : ZX a0 a1 = some r) : Pure Tryz.prog gl 187 [.sl false 1 1 (rows Zx a0), .bool a1] (.int .i64 r) := by
 intro st
 unfold ZX at h
 have fx := trivial
 refine fb 19 [.tmp 4] [0, 1, 4, 5, 7, 8, 9, 16] Tryz.func187 fun hsc => ?_
 refine aln 0 fun hl0 => ?_
 refine rng (body := d3r a1 a0) (kk := d4N) (n := a0.length) (s0 := ())
  (fun (gs0 : Unit) (k0 : Nat) (s0 : Unit) => [(0, .sl false 1 1 (rows Zx a0)), (1, .bool a1), (7, .int .i64 (↑a0.length : Int)), (8, .int .i64 (↑k0 : Int))])
  (fun (gs0 : Unit) (k0 : Nat) (s0 : Unit) => st)
  (fun (gt0 : Unit) (t0 : Unit) => [])
  (fun (gt0 : Unit) (t0 : Unit) => st)
  () fx hl0 h (d6c hsc)
  (fun gs0 k0 s0 b0 fx h hx0 => ?_) (fun gs0 s0 => ?_) (fun gt0 t0 fr1 st1 h hb => ?_)
 ·unfold d3r at h
  refine ct ?_
  refine cd h (fun hc h => ?_) fun hc h => ?_
  ·refine ra ?_
   cases h
   refine Za ?_; have h := congrArg some (hx0 _ rfl)
   exact rt
  ·refine rn ?_
   cases h
   exact d6b () (d6c hsc)
 ·refine cf ?_
  refine d5I ?_; simp only [go_sem, fx]
  exact ⟨(), (d6c hsc)⟩
 ·try simp only [go_sem, fx]
  unfold d4N at h
  refine d1F hb ?_
  exact rt
theorem i3j (n : Nat) (a0 : Yz) (r : Int) (h : d4I n a0 = some r) : Pure Tryz.prog gl 180 [.agg [.sl false 2 32 (rows Yq.cells a0.nodes)]] (.int .i64 r) := by
 intro st
 unfold d4I at h
 have fx := trivial
 refine p4t ?_; refine fb 58 [.tmp 2] [0, 1, 2, 3, 4, 5, 7, 17, 34, 35, 36, 37, 45] Tryz.func180 fun hsc => ?_
 refine r0 ?_
 obtain ⟨fx, h⟩ := ck fx h
 have fy := (show List.replicate a0.nodes.length [.bool false] = rows Zx (List.replicate a0.nodes.length (default : Bool)) from d8J (E := Zx) _ default)
 refine r1 ?_
 obtain ⟨fx, h⟩ := ck fx h
 have fy := (show (rows Zx (List.replicate a0.nodes.length (default : Bool))).getD 0 [] = Zx (get (List.replicate a0.nodes.length (default : Bool)) 0) from d9f (E := Zx) (l := (List.replicate a0.nodes.length (default : Bool))) (k := 0) (by first | omega | (simp; omega)))
 have fy := fa fy (show 0 < a0.nodes.length from by first | omega | (simp; omega))
 obtain ⟨c7, hc7, h⟩ := i1k h
 have fy := fa fy (show (rows Zx (List.replicate a0.nodes.length (default : Bool))).set 0 [.bool true] = rows Zx c7 from by rw [hc7]; first | exact i7L (E := Zx) _ _ _ | simp only [go_sem, rows, List.map_set])
 refine r1 ?_
 have e9 : D.ref true (st.length + 1) 0 0 a0.nodes.length = D.ref true (st.length + 1) 0 0 c7.length := by simp [hc7]
 simp only [e9]
 refine rn ?_
 refine Zt (body := d5u a0) (kk := d5x) (n := n) (s0 := (c7, [0], 1))
  (fun (gs0 : Nat × Nat) (s0 : (List Bool) × (List Int) × Nat) => [(1, .ptr st.length 0 0 0), (3, .ref true (st.length + 1) gs0.1 0 s0.1.length), (4, .ref false (st.length + 2) gs0.2 0 s0.2.2)])
  (fun (gs0 : Nat × Nat) (s0 : (List Bool) × (List Int) × Nat) => st ++ [some (.arr 0 1 0 [[.sl false 2 32 (rows Yq.cells a0.nodes)]]), some (.arr gs0.1 1 1 (rows Zx s0.1)), some (.arr gs0.2 1 8 (rows Zj s0.2.1))])
  (fun (gt0 : Nat) (t0 : (List Bool)) => [(3, .ref true (st.length + 1) gt0 0 t0.length)])
  (fun (gt0 : Nat) (t0 : (List Bool)) => st ++ [none, some (.arr gt0 1 1 (rows Zx t0))])
  (0, 0) h (bm hsc)
  (fun gs0 s0 b0 h hx0 => ?_) (fun gt0 t0 fr1 st1 h hb => ?_)
 ·unfold d5u at h
  refine cd h (fun hc h => ?_) fun hc h => ?_
  ·refine r0 ?_
   refine r0 ?_
   obtain ⟨fx, h⟩ := ck fx h
   obtain ⟨fx, h⟩ := ck fx h
   have fy := (show (rows Zj s0.2.1).getD ((wr .i64 ((↑s0.2.2 : Int) - 1)).toNat) [] = Zj (get s0.2.1 ((wr .i64 ((↑s0.2.2 : Int) - 1)).toNat)) from d9f (E := Zj) (l := s0.2.1) (k := (wr .i64 ((↑s0.2.2 : Int) - 1)).toNat) (by first | omega | (simp; omega)))
   have fy := fa fy (show (wr .i64 ((↑s0.2.2 : Int) - 1)).toNat < s0.2.1.length from by first | omega | (simp; omega))
   refine r1 ?_
   obtain ⟨fx, h⟩ := ck fx h
   obtain ⟨fx, h⟩ := ck fx h
   refine aln 34 fun hl2 => ?_
   refine rng (body := d5v a0 s0) (kk := d5w) (n := ((get a0.nodes ((get s0.2.1 ((wr .i64 ((↑s0.2.2 : Int) - 1)).toNat)).toNat)).links).length) (s0 := (s0.1, s0.2.1, (wr .i64 ((↑s0.2.2 : Int) - 1)).toNat))
    (fun (gs2 : Nat × Nat) (k2 : Nat) (s2 : (List Bool) × (List Int) × Nat) => [(1, .ptr st.length 0 0 0), (3, .ref true (st.length + 1) gs2.1 0 s2.1.length), (4, .ref false (st.length + 2) gs2.2 0 s2.2.2), (34, .sl false 2 16 (rows Zh.cells ((get a0.nodes ((get s0.2.1 ((wr .i64 ((↑s0.2.2 : Int) - 1)).toNat)).toNat)).links))), (35, .int .i64 (↑(((get a0.nodes ((get s0.2.1 ((wr .i64 ((↑s0.2.2 : Int) - 1)).toNat)).toNat)).links).length) : Int)), (36, .int .i64 (↑k2 : Int))])
    (fun (gs2 : Nat × Nat) (k2 : Nat) (s2 : (List Bool) × (List Int) × Nat) => st ++ [some (.arr 0 1 0 [[.sl false 2 32 (rows Yq.cells a0.nodes)]]), some (.arr gs2.1 1 1 (rows Zx s2.1)), some (.arr gs2.2 1 8 (rows Zj s2.2.1))])
    (fun (gt2 : Nat × Nat) (t2 : (List Bool) × (List Int) × Nat) => [(1, .ptr st.length 0 0 0), (3, .ref true (st.length + 1) gt2.1 0 t2.1.length), (4, .ref false (st.length + 2) gt2.2 0 t2.2.2)])
    (fun (gt2 : Nat × Nat) (t2 : (List Bool) × (List Int) × Nat) => st ++ [some (.arr 0 1 0 [[.sl false 2 32 (rows Yq.cells a0.nodes)]]), some (.arr gt2.1 1 1 (rows Zx t2.1)), some (.arr gt2.2 1 8 (rows Zj t2.2.1))])
    (gs0.1, gs0.2) fx hl2 h (bm hsc)
    (fun gs2 k2 s2 b2 fx h hx2 => ?_) (fun gs2 s2 => ?_) (fun gt2 t2 fr1 st1 h hb => ?_)
   ·unfold d5v at h
    refine ct ?_
    refine r0 ?_
    refine r0 ?_
    refine r0 ?_
    obtain ⟨fx, h⟩ := ck fx h
    have fy := (show (rows Zx s2.1).getD (((get ((get a0.nodes ((get s0.2.1 ((wr .i64 ((↑s0.2.2 : Int) - 1)).toNat)).toNat)).links) k2).to_).toNat) [] = Zx (get s2.1 (((get ((get a0.nodes ((get s0.2.1 ((wr .i64 ((↑s0.2.2 : Int) - 1)).toNat)).toNat)).links) k2).to_).toNat)) from d9f (E := Zx) (l := s2.1) (k := ((get ((get a0.nodes ((get s0.2.1 ((wr .i64 ((↑s0.2.2 : Int) - 1)).toNat)).toNat)).links) k2).to_).toNat) (by first | omega | (simp; omega)))
    have fy := fa fy (show ((get ((get a0.nodes ((get s0.2.1 ((wr .i64 ((↑s0.2.2 : Int) - 1)).toNat)).toNat)).links) k2).to_).toNat < s2.1.length from by first | omega | (simp; omega))
    refine r1 ?_
    refine cd h (fun hc h => ?_) fun hc h => ?_
    ·have fy := (show (rows Zx s2.1).getD (((get ((get a0.nodes ((get s0.2.1 ((wr .i64 ((↑s0.2.2 : Int) - 1)).toNat)).toNat)).links) k2).to_).toNat) [] = Zx (get s2.1 (((get ((get a0.nodes ((get s0.2.1 ((wr .i64 ((↑s0.2.2 : Int) - 1)).toNat)).toNat)).links) k2).to_).toNat)) from d9f (E := Zx) (l := s2.1) (k := ((get ((get a0.nodes ((get s0.2.1 ((wr .i64 ((↑s0.2.2 : Int) - 1)).toNat)).toNat)).links) k2).to_).toNat) (by first | omega | (simp; omega)))
     have fy := fa fy (show ((get ((get a0.nodes ((get s0.2.1 ((wr .i64 ((↑s0.2.2 : Int) - 1)).toNat)).toNat)).links) k2).to_).toNat < s2.1.length from by first | omega | (simp; omega))
     obtain ⟨c79, r2k, h⟩ := i1k h
     have fy := fa fy (show (rows Zx s2.1).set (((get ((get a0.nodes ((get s0.2.1 ((wr .i64 ((↑s0.2.2 : Int) - 1)).toNat)).toNat)).links) k2).to_).toNat) [.bool true] = rows Zx c79 from by rw [r2k]; first | exact i7L (E := Zx) _ _ _ | simp only [go_sem, rows, List.map_set])
     refine r1 ?_
     have e81 : D.ref true (st.length + 1) gs2.1 0 s2.1.length = D.ref true (st.length + 1) gs2.1 0 c79.length := by simp [r2k]
     simp only [e81]
     obtain ⟨fx, h⟩ := ck fx h
     obtain ⟨c84, r2l, h⟩ := i1k h
     have fy := (show rows Zj (s2.2.1.take s2.2.2) ++ [[.int .i64 ((get ((get a0.nodes ((get s0.2.1 ((wr .i64 ((↑s0.2.2 : Int) - 1)).toNat)).toNat)).links) k2).to_)]] = rows Zj c84 from by rw [r2l]; first | exact d5W (E := Zj) (s2.2.1.take s2.2.2) [(get ((get a0.nodes ((get s0.2.1 ((wr .i64 ((↑s0.2.2 : Int) - 1)).toNat)).toNat)).links) k2).to_] | simp only [go_sem, rows, List.map_append, List.map_cons, List.map_nil])
     have fy := fa fy (show s2.2.2 + 1 = c84.length from by rw [r2l]; simp <;> omega)
     obtain ⟨fx, h⟩ := ck fx h
     refine r1 ?_
     refine rn ?_
     cases h
     exact d6b (gs2.1, (gs2.2 + 1)) (bm hsc)
    ·refine rn ?_
     cases h
     exact d6b (gs2.1, gs2.2) (bm hsc)
   ·refine cf ?_
    refine d5I ?_; simp only [go_sem, fx]
    exact ⟨(gs2.1, gs2.2), (bm hsc)⟩
   ·try simp only [go_sem, fx]
    unfold d5w at h
    cases h
    exact ZE (gt2.1, gt2.2) (hb.trans (bm hsc))
  ·refine rn ?_
   cases h
   exact d0V gs0.1 (bm hsc)
 ·try simp only [go_sem, fx]
  unfold d5x at h
  refine d1F hb ?_
  refine rn ?_
  obtain ⟨v89, hv89, h⟩ := Zg h
  refine p4u ?_; refine ((d6Q _ _ _ hv89).borrow (args := [.ref true (st.length + 1) gt0 0 t0.length, .bool false]) (.cons _ _ _ _ (.ref _ _ _ _ _ _ _ _ _ (i2z.trans rfl) i7O (by decide) (i5z _) (by simp only [go_sem])) (.cons _ _ _ _ .s .nil)) (by simp) rfl ) ?_
  exact rt
end Go.Proofs.YtgaeiccgdpnkkaaGreatDoor
