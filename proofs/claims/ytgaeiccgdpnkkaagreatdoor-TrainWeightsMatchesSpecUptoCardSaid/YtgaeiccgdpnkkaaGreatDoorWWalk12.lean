import Derived.Test.YtgaeiccgdpnkkaaGreatDoorWWalk11
set_option linter.unusedVariables false
set_option linter.unusedSimpArgs false
set_option maxHeartbeats 2000000
set_option maxRecDepth 100000
namespace Go.Proofs.YtgaeiccgdpnkkaaGreatDoor
open Go Go.Am
theorem d4Y (n : Nat) (a0 : WU) (r : WM) (h : YE n a0 = some r) : Pure Tryz.prog gl 73 [.agg [.sl false 2 40 (rows WT.cells a0.types), .sl false 3 32 (rows Xf.cells a0.Xw)]] (.agg [.int .i64 r.code, .int .i64 r.index]) := by
 intro st
 unfold YE at h
 have fx := trivial
 refine fb 87 [.cell 2 41] [0, 1, 2, 3, 4, 5, 6, 8, 12, 19, 25, 29, 30, 31, 32, 39, 45, 46, 47, 48, 55, 63, 64, 65, 66, 67, 68, 71, 72, 73, 76, 77, 78, 79, 80, 81, 82] Tryz.func73 fun hsc => ?_
 refine cd h (fun hc h => ?_) fun hc h => ?_
 ·exact rt
 ·refine cl h (d6a _) fun v1 h => ?_
  refine cd h (fun hc h => ?_) fun hc h => ?_
  ·exact rt
  ·refine cl h (d8e n _) fun v2 h => ?_
   refine cd h (fun hc h => ?_) fun hc h => ?_
   ·exact rt
   ·refine aln 29 fun hl0 => ?_
    refine rng (body := Yo a0) (kk := YW) (n := a0.Xw.length) (s0 := ())
     (fun (gs0 : Unit) (k0 : Nat) (s0 : Unit) => [(1, .ptr st.length 0 0 0), (2, .ptr (st.length + 1) 0 0 0), (29, .sl false 3 32 (rows Xf.cells a0.Xw)), (30, .int .i64 (↑a0.Xw.length : Int)), (31, .int .i64 (↑k0 : Int))])
     (fun (gs0 : Unit) (k0 : Nat) (s0 : Unit) => st ++ [some (.arr 0 2 0 [[.sl false 2 40 (rows WT.cells a0.types), .sl false 3 32 (rows Xf.cells a0.Xw)]]), some (.arr 0 2 0 [[.int .i64 0, .int .i64 0]])])
     (fun (gt0 : Unit) (t0 : Unit) => [(2, .ptr (st.length + 1) 0 0 0)])
     (fun (gt0 : Unit) (t0 : Unit) => st ++ [none, some (.arr 0 2 0 [[.int .i64 0, .int .i64 0]])])
     () fx hl0 h (bm hsc)
     (fun gs0 k0 s0 b0 fx h hx0 => ?_) (fun gs0 s0 => ?_) (fun gt0 t0 fr1 st1 h hb => ?_)
    ·unfold Yo at h
     refine ct ?_
     refine cl h (d3a _) fun v6 h => ?_
     refine cd h (fun hc h => ?_) fun hc h => ?_
     ·refine ra ?_
      cases h
      refine XI ?_; have h := congrArg some (hx0 _ rfl)
      exact rt
     ·obtain ⟨fx, h⟩ := ck fx h
      refine aln 45 fun hl2 => ?_
      refine rng (body := Yp a0 k0) (kk := YX a0 k0) (n := (a0.Xw.take k0).length) (s0 := ())
       (fun (gs2 : Unit) (k2 : Nat) (s2 : Unit) => [(1, .ptr st.length 0 0 0), (2, .ptr (st.length + 1) 0 0 0), (5, .int .i64 (↑k0 : Int)), (6, .ptr (st.length + 2) 0 0 0), (29, .sl false 3 32 (rows Xf.cells a0.Xw)), (30, .int .i64 (↑a0.Xw.length : Int)), (31, .int .i64 (↑k0 : Int)), (45, .sl false 3 32 (rows Xf.cells (a0.Xw.take k0))), (46, .int .i64 (↑((a0.Xw.take k0).length) : Int)), (47, .int .i64 (↑k2 : Int))])
       (fun (gs2 : Unit) (k2 : Nat) (s2 : Unit) => st ++ [some (.arr 0 2 0 [[.sl false 2 40 (rows WT.cells a0.types), .sl false 3 32 (rows Xf.cells a0.Xw)]]), some (.arr 0 2 0 [[.int .i64 0, .int .i64 0]]), some (.arr 0 3 0 [[.str ((get a0.Xw k0).name), .int .i64 ((get a0.Xw k0).of_), .int .i64 ((get a0.Xw k0).value)]])])
       (fun (gt2 : Unit) (t2 : Unit) => [(1, .ptr st.length 0 0 0), (2, .ptr (st.length + 1) 0 0 0), (5, .int .i64 (↑k0 : Int)), (6, .ptr (st.length + 2) 0 0 0), (29, .sl false 3 32 (rows Xf.cells a0.Xw)), (30, .int .i64 (↑a0.Xw.length : Int)), (31, .int .i64 (↑k0 : Int))])
       (fun (gt2 : Unit) (t2 : Unit) => st ++ [some (.arr 0 2 0 [[.sl false 2 40 (rows WT.cells a0.types), .sl false 3 32 (rows Xf.cells a0.Xw)]]), some (.arr 0 2 0 [[.int .i64 0, .int .i64 0]]), some (.arr 0 3 0 [[.str ((get a0.Xw k0).name), .int .i64 ((get a0.Xw k0).of_), .int .i64 ((get a0.Xw k0).value)]])])
       () fx hl2 h (bm hsc)
       (fun gs2 k2 s2 b2 fx h hx2 => ?_) (fun gs2 s2 => ?_) (fun gt2 t2 fr1 st1 h hb => ?_)
      ·unfold Yp at h
       refine ct ?_
       refine cd h (fun hc h => ?_) fun hc h => ?_
       ·refine ra ?_
        cases h
        refine XI ?_; obtain rfl := hx2 _ rfl; try simp only [go_sem, fx]
        refine XI ?_; have h := congrArg some (hx0 _ rfl)
        exact rt
       ·refine rn ?_
        cases h
        exact d4u () (bm hsc)
      ·refine cf ?_
       refine d4b ?_; simp only [go_sem, fx]
       exact ⟨(), (bm hsc)⟩
      ·try simp only [go_sem, fx]
       unfold YX at h
       refine d0s hb ?_
       refine cd h (fun hc h => ?_) fun hc h => ?_
       ·refine ra ?_
        cases h
        refine XI ?_; have h := congrArg some (hx0 _ rfl)
        exact rt
       ·refine rn ?_
        cases h
        exact d4u () (bm hsc)
    ·refine cf ?_
     refine d4b ?_; simp only [go_sem, fx]
     exact ⟨(), (bm hsc)⟩
    ·try simp only [go_sem, fx]
     unfold YW at h
     refine d0s hb ?_
     exact rt
theorem d6b (a0 : WU) (a1 : Xg) (r : WM) (h : Zr a0 a1 = some r) : Pure Tryz.prog gl 139 [.agg [.sl false 2 40 (rows WT.cells a0.types), .sl false 3 32 (rows Xf.cells a0.Xw)], .agg [.sl false 2 32 (rows WX.cells a1.nodes)]] (.agg [.int .i64 r.code, .int .i64 r.index]) := by
 intro st
 unfold Zr at h
 have fx := trivial
 refine fb 94 [.cell 4 41] [0, 1, 2, 3, 4, 5, 6, 7, 8, 14, 15, 16, 17, 18, 21, 22, 23, 24, 32, 33, 34, 35, 36, 37, 38, 42, 43, 44, 45, 53, 54, 55, 56, 57, 58, 61, 62, 63, 66, 67, 68, 69, 70, 71, 72, 78, 79, 80, 81, 82, 83, 84, 85, 86, 87, 88] Tryz.func139 fun hsc => ?_
 refine cd h (fun hc h => ?_) fun hc h => ?_
 ·exact rt
 ·refine aln 21 fun hl0 => ?_
  refine rng (body := ZT a1 a0) (kk := d1p) (n := a1.nodes.length) (s0 := ())
   (fun (gs0 : Unit) (k0 : Nat) (s0 : Unit) => [(2, .ptr st.length 0 0 0), (3, .ptr (st.length + 1) 0 0 0), (4, .ptr (st.length + 2) 0 0 0), (21, .sl false 2 32 (rows WX.cells a1.nodes)), (22, .int .i64 (↑a1.nodes.length : Int)), (23, .int .i64 (↑k0 : Int))])
   (fun (gs0 : Unit) (k0 : Nat) (s0 : Unit) => st ++ [some (.arr 0 2 0 [[.sl false 2 40 (rows WT.cells a0.types), .sl false 3 32 (rows Xf.cells a0.Xw)]]), some (.arr 0 1 0 [[.sl false 2 32 (rows WX.cells a1.nodes)]]), some (.arr 0 2 0 [[.int .i64 0, .int .i64 0]])])
   (fun (gt0 : Unit) (t0 : Unit) => [(4, .ptr (st.length + 2) 0 0 0)])
   (fun (gt0 : Unit) (t0 : Unit) => st ++ [none, none, some (.arr 0 2 0 [[.int .i64 0, .int .i64 0]])])
   () fx hl0 h (bm hsc)
   (fun gs0 k0 s0 b0 fx h hx0 => ?_) (fun gs0 s0 => ?_) (fun gt0 t0 fr1 st1 h hb => ?_)
  ·unfold ZT at h
   refine ct ?_
   refine cd h (fun hc h => ?_) fun hc h => ?_
   ·refine ra ?_
    cases h
    refine XI ?_; have h := congrArg some (hx0 _ rfl)
    exact rt
   ·refine aln 42 fun hl2 => ?_
    refine rng (body := ZU a1 k0 a0) (kk := ZV) (n := ((get a1.nodes k0).links).length) (s0 := ())
     (fun (gs2 : Unit) (k2 : Nat) (s2 : Unit) => [(2, .ptr st.length 0 0 0), (3, .ptr (st.length + 1) 0 0 0), (4, .ptr (st.length + 2) 0 0 0), (5, .int .i64 (↑k0 : Int)), (6, .ptr (st.length + 3) 0 0 0), (21, .sl false 2 32 (rows WX.cells a1.nodes)), (22, .int .i64 (↑a1.nodes.length : Int)), (23, .int .i64 (↑k0 : Int)), (42, .sl false 2 16 (rows XL.cells ((get a1.nodes k0).links))), (43, .int .i64 (↑(((get a1.nodes k0).links).length) : Int)), (44, .int .i64 (↑k2 : Int))])
     (fun (gs2 : Unit) (k2 : Nat) (s2 : Unit) => st ++ [some (.arr 0 2 0 [[.sl false 2 40 (rows WT.cells a0.types), .sl false 3 32 (rows Xf.cells a0.Xw)]]), some (.arr 0 1 0 [[.sl false 2 32 (rows WX.cells a1.nodes)]]), some (.arr 0 2 0 [[.int .i64 0, .int .i64 0]]), some (.arr 0 2 0 [[.int .i64 ((get a1.nodes k0).type), .sl false 2 16 (rows XL.cells ((get a1.nodes k0).links))]])])
     (fun (gt2 : Unit) (t2 : Unit) => [(2, .ptr st.length 0 0 0), (3, .ptr (st.length + 1) 0 0 0), (4, .ptr (st.length + 2) 0 0 0), (21, .sl false 2 32 (rows WX.cells a1.nodes)), (22, .int .i64 (↑a1.nodes.length : Int)), (23, .int .i64 (↑k0 : Int))])
     (fun (gt2 : Unit) (t2 : Unit) => st ++ [some (.arr 0 2 0 [[.sl false 2 40 (rows WT.cells a0.types), .sl false 3 32 (rows Xf.cells a0.Xw)]]), some (.arr 0 1 0 [[.sl false 2 32 (rows WX.cells a1.nodes)]]), some (.arr 0 2 0 [[.int .i64 0, .int .i64 0]])])
     () fx hl2 h (bm hsc)
     (fun gs2 k2 s2 b2 fx h hx2 => ?_) (fun gs2 s2 => ?_) (fun gt2 t2 fr1 st1 h hb => ?_)
    ·unfold ZU at h
     refine ct ?_
     refine cd h (fun hc h => ?_) fun hc h => ?_
     ·refine ra ?_
      cases h
      refine XI ?_; obtain rfl := hx2 _ rfl; try simp only [go_sem, fx]
      refine XI ?_; have h := congrArg some (hx0 _ rfl)
      exact rt
     ·refine rn ?_
      obtain ⟨fx, h⟩ := ck fx h
      refine dw [] 0 ?_
      refine cd h (fun hc h => ?_) fun hc h => ?_
      ·refine ra ?_
       cases h
       refine XI ?_; obtain rfl := hx2 _ rfl; try simp only [go_sem, fx]
       refine XI ?_; have h := congrArg some (hx0 _ rfl)
       exact rt
      ·refine rn ?_
       cases h
       exact d4u () (bm hsc)
    ·refine cf ?_
     refine d4b ?_; simp only [go_sem, fx]
     exact ⟨(), (bm hsc)⟩
    ·try simp only [go_sem, fx]
     unfold ZV at h
     refine d0s hb ?_
     refine rn ?_
     cases h
     exact d4u () (bm hsc)
  ·refine cf ?_
   refine d4b ?_; simp only [go_sem, fx]
   exact ⟨(), (bm hsc)⟩
  ·try simp only [go_sem, fx]
   unfold d1p at h
   refine d0s hb ?_
   exact rt
theorem d6A (a0 : Xg) (r : Int) (h : YU a0 = some r) : Pure Tryz.prog gl 141 [.agg [.sl false 2 32 (rows WX.cells a0.nodes)]] (.int .i64 r) := by
 intro st
 unfold YU at h
 have fx := trivial
 refine fb 47 [.tmp 2] [0, 1, 2, 3, 4, 5, 7, 16, 17, 18, 20, 21, 22, 23, 28, 29, 30, 31, 37] Tryz.func141 fun hsc => ?_
 refine r0 ?_
 obtain ⟨fx, h⟩ := ck fx h
 have fy := (show List.replicate a0.nodes.length [.bool false] = rows XZ (List.replicate a0.nodes.length (default : Bool)) from d6R (E := XZ) _ default)
 refine r1 ?_
 obtain ⟨fx, h⟩ := ck fx h
 have fy := (show (rows XZ (List.replicate a0.nodes.length (default : Bool))).getD 0 [] = XZ (get (List.replicate a0.nodes.length (default : Bool)) 0) from d7q (E := XZ) (l := (List.replicate a0.nodes.length (default : Bool))) (k := 0) (by first | omega | (simp; omega)))
 have fy := fa fy (show 0 < a0.nodes.length from by first | omega | (simp; omega))
 obtain ⟨c7, hc7, h⟩ := d9t h
 have fy := fa fy (show (rows XZ (List.replicate a0.nodes.length (default : Bool))).set 0 [.bool true] = rows XZ c7 from by rw [hc7]; first | exact i5K (E := XZ) _ _ _ | simp only [go_sem, rows, List.map_set])
 refine r1 ?_
 have e9 : D.ref true (st.length + 1) 0 0 a0.nodes.length = D.ref true (st.length + 1) 0 0 c7.length := by simp [hc7]
 simp only [e9]
 obtain ⟨fx, h⟩ := ck fx h
 refine rn ?_
 refine rng (body := d0b a0) (kk := d0g) (n := a0.nodes.length) (s0 := c7)
  (fun (gs0 : Nat) (k0 : Nat) (s0 : (List Bool)) => [(1, .ptr st.length 0 0 0), (3, .ref true (st.length + 1) gs0 0 s0.length), (16, .int .i64 (↑a0.nodes.length : Int)), (17, .int .i64 (↑k0 : Int))])
  (fun (gs0 : Nat) (k0 : Nat) (s0 : (List Bool)) => st ++ [some (.arr 0 1 0 [[.sl false 2 32 (rows WX.cells a0.nodes)]]), some (.arr gs0 1 1 (rows XZ s0))])
  (fun (gt0 : Nat) (t0 : (List Bool)) => [(3, .ref true (st.length + 1) gt0 0 t0.length)])
  (fun (gt0 : Nat) (t0 : (List Bool)) => st ++ [none, some (.arr gt0 1 1 (rows XZ t0))])
  0 fx fx.2 h (bm hsc)
  (fun gs0 k0 s0 b0 fx h hx0 => ?_) (fun gs0 s0 => ?_) (fun gt0 t0 fr1 st1 h hb => ?_)
 ·unfold d0b at h
  refine ct ?_
  refine aln 20 fun hl4 => ?_
  refine rng (body := d0c a0) (kk := d0f) (n := a0.nodes.length) (s0 := s0)
   (fun (gs4 : Nat) (k4 : Nat) (s4 : (List Bool)) => [(1, .ptr st.length 0 0 0), (3, .ref true (st.length + 1) gs4 0 s4.length), (16, .int .i64 (↑a0.nodes.length : Int)), (17, .int .i64 (↑k0 : Int)), (20, .sl false 2 32 (rows WX.cells a0.nodes)), (21, .int .i64 (↑a0.nodes.length : Int)), (22, .int .i64 (↑k4 : Int))])
   (fun (gs4 : Nat) (k4 : Nat) (s4 : (List Bool)) => st ++ [some (.arr 0 1 0 [[.sl false 2 32 (rows WX.cells a0.nodes)]]), some (.arr gs4 1 1 (rows XZ s4))])
   (fun (gt4 : Nat) (t4 : (List Bool)) => [(1, .ptr st.length 0 0 0), (3, .ref true (st.length + 1) gt4 0 t4.length), (16, .int .i64 (↑a0.nodes.length : Int)), (17, .int .i64 (↑k0 : Int))])
   (fun (gt4 : Nat) (t4 : (List Bool)) => st ++ [some (.arr 0 1 0 [[.sl false 2 32 (rows WX.cells a0.nodes)]]), some (.arr gt4 1 1 (rows XZ t4))])
   gs0 fx hl4 h (bm hsc)
   (fun gs4 k4 s4 b4 fx h hx4 => ?_) (fun gs4 s4 => ?_) (fun gt4 t4 fr1 st1 h hb => ?_)
  ·unfold d0c at h
   refine ct ?_
   refine aln 28 fun hl6 => ?_
   refine rng (body := d0d k4 a0) (kk := d0e) (n := ((get a0.nodes k4).links).length) (s0 := s4)
    (fun (gs6 : Nat) (k6 : Nat) (s6 : (List Bool)) => [(1, .ptr st.length 0 0 0), (3, .ref true (st.length + 1) gs6 0 s6.length), (4, .int .i64 (↑k4 : Int)), (16, .int .i64 (↑a0.nodes.length : Int)), (17, .int .i64 (↑k0 : Int)), (20, .sl false 2 32 (rows WX.cells a0.nodes)), (21, .int .i64 (↑a0.nodes.length : Int)), (22, .int .i64 (↑k4 : Int)), (28, .sl false 2 16 (rows XL.cells ((get a0.nodes k4).links))), (29, .int .i64 (↑(((get a0.nodes k4).links).length) : Int)), (30, .int .i64 (↑k6 : Int))])
    (fun (gs6 : Nat) (k6 : Nat) (s6 : (List Bool)) => st ++ [some (.arr 0 1 0 [[.sl false 2 32 (rows WX.cells a0.nodes)]]), some (.arr gs6 1 1 (rows XZ s6))])
    (fun (gt6 : Nat) (t6 : (List Bool)) => [(1, .ptr st.length 0 0 0), (3, .ref true (st.length + 1) gt6 0 t6.length), (16, .int .i64 (↑a0.nodes.length : Int)), (17, .int .i64 (↑k0 : Int)), (20, .sl false 2 32 (rows WX.cells a0.nodes)), (21, .int .i64 (↑a0.nodes.length : Int)), (22, .int .i64 (↑k4 : Int))])
    (fun (gt6 : Nat) (t6 : (List Bool)) => st ++ [some (.arr 0 1 0 [[.sl false 2 32 (rows WX.cells a0.nodes)]]), some (.arr gt6 1 1 (rows XZ t6))])
    gs4 fx hl6 h (bm hsc)
    (fun gs6 k6 s6 b6 fx h hx6 => ?_) (fun gs6 s6 => ?_) (fun gt6 t6 fr1 st1 h hb => ?_)
   ·unfold d0d at h
    refine ct ?_
    refine r0 ?_
    refine r0 ?_
    refine r0 ?_
    obtain ⟨fx, h⟩ := ck fx h
    have fy := (show (rows XZ s6).getD k4 [] = XZ (get s6 k4) from d7q (E := XZ) (l := s6) (k := k4) (by first | omega | (simp; omega)))
    have fy := fa fy (show k4 < s6.length from by first | omega | (simp; omega))
    refine r1 ?_
    refine cd h (fun hc h => ?_) fun hc h => ?_
    ·obtain ⟨fx, h⟩ := ck fx h
     have fy := (show (rows XZ s6).getD (((get ((get a0.nodes k4).links) k6).to_).toNat) [] = XZ (get s6 (((get ((get a0.nodes k4).links) k6).to_).toNat)) from d7q (E := XZ) (l := s6) (k := ((get ((get a0.nodes k4).links) k6).to_).toNat) (by first | omega | (simp; omega)))
     have fy := fa fy (show ((get ((get a0.nodes k4).links) k6).to_).toNat < s6.length from by first | omega | (simp; omega))
     obtain ⟨c88, p9D, h⟩ := d9t h
     have fy := fa fy (show (rows XZ s6).set (((get ((get a0.nodes k4).links) k6).to_).toNat) [.bool true] = rows XZ c88 from by rw [p9D]; first | exact i5K (E := XZ) _ _ _ | simp only [go_sem, rows, List.map_set])
     refine r1 ?_
     have e90 : D.ref true (st.length + 1) gs6 0 s6.length = D.ref true (st.length + 1) gs6 0 c88.length := by simp [p9D]
     simp only [e90]
     refine rn ?_
     cases h
     exact d4u gs6 (bm hsc)
    ·refine rn ?_
     cases h
     exact d4u gs6 (bm hsc)
   ·refine cf ?_
    refine d4b ?_; simp only [go_sem, fx]
    exact ⟨gs6, (bm hsc)⟩
   ·try simp only [go_sem, fx]
    unfold d0e at h
    refine d0s hb ?_
    refine rn ?_
    cases h
    exact d4u gt6 (bm hsc)
  ·refine cf ?_
   refine d4b ?_; simp only [go_sem, fx]
   exact ⟨gs4, (bm hsc)⟩
  ·try simp only [go_sem, fx]
   unfold d0f at h
   refine d0s hb ?_
   refine rn ?_
   cases h
   exact d4u gt4 (bm hsc)
 ·refine cf ?_
  refine d4b ?_; simp only [go_sem, fx]
  exact ⟨gs0, (bm hsc)⟩
 ·try simp only [go_sem, fx]
  unfold d0g at h
  refine d0s hb ?_
  refine rn ?_
  obtain ⟨v91, hv91, h⟩ := XT h
  refine ((d5a _ _ _ hv91).borrow (args := [.ref true (st.length + 1) gt0 0 t0.length, .bool false]) (.cons _ _ _ _ (.ref _ _ _ _ _ _ _ _ _ (i0F.trans rfl) i5N (by decide) (i3y _) (by simp only [go_sem])) (.cons _ _ _ _ .s .nil)) (by simp) rfl ) ?_
  exact rt
theorem d1d (n : Nat) (a0 : WU) (a1 : Xg) (r : WM) (h : Yh n a0 a1 = some r) : Pure Tryz.prog gl 77 [.agg [.sl false 2 40 (rows WT.cells a0.types), .sl false 3 32 (rows Xf.cells a0.Xw)], .agg [.sl false 2 32 (rows WX.cells a1.nodes)]] (.agg [.int .i64 r.code, .int .i64 r.index]) := by
 intro st
 unfold Yh at h
 have fx := trivial
 refine fb 74 [.cell 4 41] [0, 1, 2, 3, 4, 5, 6, 7, 9, 10, 11, 17, 20, 21, 22, 23, 28, 29, 30, 31, 49, 50, 51, 52, 53, 54, 55, 56, 57, 58, 59, 60, 61, 62, 70] Tryz.func77 fun hsc => ?_
 refine cl h (d6b _ _) fun v1 h => ?_
 refine cd h (fun hc h => ?_) fun hc h => ?_
 ·exact rt
 ·refine aln 20 fun hl0 => ?_
  refine rng (body := ZD n a1 a0) (kk := ZG a1) (n := a1.nodes.length) (s0 := ())
   (fun (gs0 : Unit) (k0 : Nat) (s0 : Unit) => [(2, .ptr st.length 0 0 0), (3, .ptr (st.length + 1) 0 0 0), (4, .ptr (st.length + 2) 0 0 0), (20, .sl false 2 32 (rows WX.cells a1.nodes)), (21, .int .i64 (↑a1.nodes.length : Int)), (22, .int .i64 (↑k0 : Int))])
   (fun (gs0 : Unit) (k0 : Nat) (s0 : Unit) => st ++ [some (.arr 0 2 0 [[.sl false 2 40 (rows WT.cells a0.types), .sl false 3 32 (rows Xf.cells a0.Xw)]]), some (.arr 0 1 0 [[.sl false 2 32 (rows WX.cells a1.nodes)]]), some (.arr 0 2 0 [[.int .i64 0, .int .i64 0]])])
   (fun (gt0 : Unit) (t0 : Unit) => [(3, .ptr (st.length + 1) 0 0 0), (4, .ptr (st.length + 2) 0 0 0)])
   (fun (gt0 : Unit) (t0 : Unit) => st ++ [none, some (.arr 0 1 0 [[.sl false 2 32 (rows WX.cells a1.nodes)]]), some (.arr 0 2 0 [[.int .i64 0, .int .i64 0]])])
   () fx hl0 h (bm hsc)
   (fun gs0 k0 s0 b0 fx h hx0 => ?_) (fun gs0 s0 => ?_) (fun gt0 t0 fr1 st1 h hb => ?_)
  ·unfold ZD at h
   refine ct ?_
   refine aln 28 fun hl2 => ?_
   refine rng (body := ZE n a1 k0 a0) (kk := ZF) (n := ((get a1.nodes k0).links).length) (s0 := ())
    (fun (gs2 : Unit) (k2 : Nat) (s2 : Unit) => [(2, .ptr st.length 0 0 0), (3, .ptr (st.length + 1) 0 0 0), (4, .ptr (st.length + 2) 0 0 0), (6, .int .i64 (↑k0 : Int)), (7, .ptr (st.length + 3) 0 0 0), (20, .sl false 2 32 (rows WX.cells a1.nodes)), (21, .int .i64 (↑a1.nodes.length : Int)), (22, .int .i64 (↑k0 : Int)), (28, .sl false 2 16 (rows XL.cells ((get a1.nodes k0).links))), (29, .int .i64 (↑(((get a1.nodes k0).links).length) : Int)), (30, .int .i64 (↑k2 : Int))])
    (fun (gs2 : Unit) (k2 : Nat) (s2 : Unit) => st ++ [some (.arr 0 2 0 [[.sl false 2 40 (rows WT.cells a0.types), .sl false 3 32 (rows Xf.cells a0.Xw)]]), some (.arr 0 1 0 [[.sl false 2 32 (rows WX.cells a1.nodes)]]), some (.arr 0 2 0 [[.int .i64 0, .int .i64 0]]), some (.arr 0 2 0 [[.int .i64 ((get a1.nodes k0).type), .sl false 2 16 (rows XL.cells ((get a1.nodes k0).links))]])])
    (fun (gt2 : Unit) (t2 : Unit) => [(2, .ptr st.length 0 0 0), (3, .ptr (st.length + 1) 0 0 0), (4, .ptr (st.length + 2) 0 0 0), (20, .sl false 2 32 (rows WX.cells a1.nodes)), (21, .int .i64 (↑a1.nodes.length : Int)), (22, .int .i64 (↑k0 : Int))])
    (fun (gt2 : Unit) (t2 : Unit) => st ++ [some (.arr 0 2 0 [[.sl false 2 40 (rows WT.cells a0.types), .sl false 3 32 (rows Xf.cells a0.Xw)]]), some (.arr 0 1 0 [[.sl false 2 32 (rows WX.cells a1.nodes)]]), some (.arr 0 2 0 [[.int .i64 0, .int .i64 0]])])
    () fx hl2 h (bm hsc)
    (fun gs2 k2 s2 b2 fx h hx2 => ?_) (fun gs2 s2 => ?_) (fun gt2 t2 fr1 st1 h hb => ?_)
   ·unfold ZE at h
    refine ct ?_
    obtain ⟨fx, h⟩ := ck fx h
    refine rn ?_
    refine dw [] 0 ?_
    obtain ⟨v25, hv25, h⟩ := XT h
    refine Xe (d3w n _ _ _ _ hv25) ?_
    obtain ⟨fx, h⟩ := ck fx h
    try simp only [go_sem, fx]
    obtain ⟨v29, hv29, h⟩ := XT h
    refine d4H (fun hG => (d3w n _ _ _ _ (i3x hv29 (by simpa using hG)))) ?_
    try simp only [go_sem, fx]
    refine cd h (fun hc h => ?_) fun hc h => ?_
    ·refine ra ?_
     cases h
     refine XI ?_; obtain rfl := hx2 _ rfl; try simp only [go_sem, fx]
     refine XI ?_; have h := congrArg some (hx0 _ rfl)
     exact rt
    ·refine rn ?_
     cases h
     exact d4u () (bm hsc)
   ·refine cf ?_
    refine d4b ?_; simp only [go_sem, fx]
    exact ⟨(), (bm hsc)⟩
   ·try simp only [go_sem, fx]
    unfold ZF at h
    refine d0s hb ?_
    refine rn ?_
    cases h
    exact d4u () (bm hsc)
  ·refine cf ?_
   refine d4b ?_; simp only [go_sem, fx]
   exact ⟨(), (bm hsc)⟩
  ·try simp only [go_sem, fx]
   unfold ZG at h
   refine d0s hb ?_
   refine cl h (d6A _) fun v30 h => ?_
   refine cd h (fun hc h => ?_) fun hc h => ?_
   ·exact rt
   ·exact rt
theorem d4x (a0 : Xg) (a1 : Int) (a2 : Int) (r : Int) (h : Za a0 a1 a2 = some r) : Pure Tryz.prog gl 87 [.agg [.sl false 2 32 (rows WX.cells a0.nodes)], .int .i64 a1, .int .i64 a2] (.int .i64 r) := by
 intro st
 unfold Za at h
 have fx := trivial
 refine fb 27 [.tmp 6] [0, 1, 2, 3, 6, 8, 14, 15, 16, 17, 23] Tryz.func87 fun hsc => ?_
 obtain ⟨fx, h⟩ := ck fx h
 refine aln 14 fun hl0 => ?_
 refine rng (body := d0W a0 a1 a2) (kk := d0X) (n := ((get a0.nodes a1.toNat).links).length) (s0 := ())
  (fun (gs0 : Unit) (k0 : Nat) (s0 : Unit) => [(2, .int .i64 a2), (14, .sl false 2 16 (rows XL.cells ((get a0.nodes a1.toNat).links))), (15, .int .i64 (↑(((get a0.nodes a1.toNat).links).length) : Int)), (16, .int .i64 (↑k0 : Int))])
  (fun (gs0 : Unit) (k0 : Nat) (s0 : Unit) => st)
  (fun (gt0 : Unit) (t0 : Unit) => [])
  (fun (gt0 : Unit) (t0 : Unit) => st)
  () fx hl0 h (bm0 hsc)
  (fun gs0 k0 s0 b0 fx h hx0 => ?_) (fun gs0 s0 => ?_) (fun gt0 t0 fr1 st1 h hb => ?_)
 ·unfold d0W at h
  refine ct ?_
  refine cd h (fun hc h => ?_) fun hc h => ?_
  ·refine ra ?_
   cases h
   refine XI ?_; have h := congrArg some (hx0 _ rfl)
   exact rt
  ·refine rn ?_
   cases h
   exact d4u () (bm0 hsc)
 ·refine cf ?_
  refine d4b ?_; simp only [go_sem, fx]
  exact ⟨(), (d4i hsc)⟩
 ·try simp only [go_sem, fx]
  unfold d0X at h
  refine d0s hb ?_
  exact rt
theorem d7H (a0 : WK) (r : Bool) (h : d0R a0 = some r) : Pure Tryz.prog gl 220 [.agg [.str a0.base, .sl false 2 40 (rows WK.cells a0.args)]] (.bool r) := by
 intro st
 unfold d0R at h
 have fx := trivial
 refine fb 12 [.tmp 2] [0, 1, 2, 7, 8, 9, 10] Tryz.func220 fun hsc => ?_
 exact rt
theorem d8n (n : Nat) (a0 : Bs) (r : Bool) (h : d1x n a0 = some r) : Pure Tryz.prog gl 221 [.str a0] (.bool r) := by
 intro st
 unfold d1x at h
 have fx := trivial
 refine fb 62 [.tmp 2] [0, 2, 3, 4, 5, 10, 11, 12, 13, 17, 25, 26, 27, 28, 35, 36, 37, 38, 41, 42, 43, 44, 47, 48, 49, 50, 55, 56, 57, 58, 59, 60, 61] Tryz.func221 fun hsc => ?_
 refine cd h (fun hc h => ?_) fun hc h => ?_
 ·exact rt
 ·refine rn ?_
  refine XV (body := d1I a0) (kk := d2Y) (n := n) (s0 := 0)
   (fun (gs0 : Unit) (s0 : Int) => [(0, .str a0), (3, .int .i64 s0)])
   (fun (gs0 : Unit) (s0 : Int) => st)
   (fun (gt0 : Unit) (t0 : Unit) => [])
   (fun (gt0 : Unit) (t0 : Unit) => st)
   () h (d4i hsc)
   (fun gs0 s0 b0 h hx0 => ?_) (fun gt0 t0 fr1 st1 h hb => ?_)
  ·unfold d1I at h
   refine cd h (fun hc h => ?_) fun hc h => ?_
   ·obtain ⟨fx, h⟩ := ck fx h
    refine cd h (fun hc h => ?_) fun hc h => ?_
    ·refine ra ?_
     cases h
     refine d2c ?_; have h := congrArg some (hx0 _ rfl)
     exact rt
    ·refine rn ?_
     cases h
     exact Yg () (d4i hsc)
   ·refine rn ?_
    cases h
    exact Zq () (d4i hsc)
  ·try simp only [go_sem, fx]
   unfold d2Y at h
   refine d0s hb ?_
   exact rt
theorem d5K (n : Nat) (a0 : WK) (r : Int) (h : Zg n a0 = some r) : Pure Tryz.prog gl 222 [.agg [.str a0.base, .sl false 2 40 (rows WK.cells a0.args)]] (.int .i64 r) := by
 intro st
 unfold Zg at h
 have fx := trivial
 refine fb 79 [.tmp 2] [0, 1, 2, 3, 4, 5, 11, 28, 29, 30, 31, 35, 40, 67, 68, 69, 70, 73, 74, 75, 76, 77, 78] Tryz.func222 fun hsc => ?_
 refine rn ?_
 refine XV (body := XH) (kk := ZH) (n := n) (s0 := ([(WW.mk a0 1)], 0, 1))
  (fun (gs0 : Nat) (s0 : (List WW) × Int × Nat) => [(3, .ref false (st.length + 1) gs0 0 s0.2.2), (4, .int .i64 s0.2.1)])
  (fun (gs0 : Nat) (s0 : (List WW) × Int × Nat) => st ++ [none, some (.arr gs0 3 48 (rows WW.cells s0.1))])
  (fun (gt0 : Unit) (t0 : Unit) => [])
  (fun (gt0 : Unit) (t0 : Unit) => st)
  0 h (bm hsc)
  (fun gs0 s0 b0 h hx0 => ?_) (fun gt0 t0 fr1 st1 h hb => ?_)
 ·unfold XH at h
  refine cd h (fun hc h => ?_) fun hc h => ?_
  ·refine r0 ?_
   refine r0 ?_
   obtain ⟨fx, h⟩ := ck fx h
   obtain ⟨fx, h⟩ := ck fx h
   have fy := (show (rows WW.cells s0.1).getD ((wr .i64 ((↑s0.2.2 : Int) - 1)).toNat) [] = WW.cells (get s0.1 ((wr .i64 ((↑s0.2.2 : Int) - 1)).toNat)) from d7q (E := WW.cells) (l := s0.1) (k := (wr .i64 ((↑s0.2.2 : Int) - 1)).toNat) (by first | omega | (simp; omega)))
   have fy := fa fy (show (wr .i64 ((↑s0.2.2 : Int) - 1)).toNat < s0.1.length from by first | omega | (simp; omega))
   refine r1 ?_
   obtain ⟨fx, h⟩ := ck fx h
   refine cd h (fun hc h => ?_) fun hc h => ?_
   ·refine ra ?_
    cases h
    refine d2c ?_; have h := congrArg some (hx0 _ rfl)
    exact rt
   ·refine cd h (fun hc h => ?_) fun hc h => ?_
    ·refine cd h (fun hc h => ?_) fun hc h => ?_
     ·refine ra ?_
      cases h
      refine d2c ?_; have h := congrArg some (hx0 _ rfl)
      exact rt
     ·refine rn ?_
      obtain ⟨fx, h⟩ := ck fx h
      obtain ⟨fx, h⟩ := ck fx h
      obtain ⟨fx, h⟩ := ck fx h
      obtain ⟨c25, p9E, h⟩ := d9t h
      have fy := (show rows WW.cells (s0.1.take ((wr .i64 ((↑s0.2.2 : Int) - 1)).toNat)) ++ [[.str ((get ((get s0.1 ((wr .i64 ((↑s0.2.2 : Int) - 1)).toNat)).s.args) 1).base), .sl false 2 40 (rows WK.cells ((get ((get s0.1 ((wr .i64 ((↑s0.2.2 : Int) - 1)).toNat)).s.args) 1).args)), .int .i64 (wr .i64 (((get s0.1 ((wr .i64 ((↑s0.2.2 : Int) - 1)).toNat)).depth) + 1))], [.str ((get ((get s0.1 ((wr .i64 ((↑s0.2.2 : Int) - 1)).toNat)).s.args) 0).base), .sl false 2 40 (rows WK.cells ((get ((get s0.1 ((wr .i64 ((↑s0.2.2 : Int) - 1)).toNat)).s.args) 0).args)), .int .i64 (wr .i64 (((get s0.1 ((wr .i64 ((↑s0.2.2 : Int) - 1)).toNat)).depth) + 1))]] = rows WW.cells c25 from by rw [p9E]; first | exact d4c (E := WW.cells) (s0.1.take ((wr .i64 ((↑s0.2.2 : Int) - 1)).toNat)) [(WW.mk (get ((get s0.1 ((wr .i64 ((↑s0.2.2 : Int) - 1)).toNat)).s.args) 1) (wr .i64 (((get s0.1 ((wr .i64 ((↑s0.2.2 : Int) - 1)).toNat)).depth) + 1))), (WW.mk (get ((get s0.1 ((wr .i64 ((↑s0.2.2 : Int) - 1)).toNat)).s.args) 0) (wr .i64 (((get s0.1 ((wr .i64 ((↑s0.2.2 : Int) - 1)).toNat)).depth) + 1)))] | simp only [go_sem, rows, List.map_append, List.map_cons, List.map_nil])
      have fy := fa fy (show (wr .i64 ((↑s0.2.2 : Int) - 1)).toNat + 2 = c25.length from by rw [p9E]; simp <;> omega)
      obtain ⟨fx, h⟩ := ck fx h
      refine dwy [] 2 ?_
      cases h
      exact Yg (gs0 + 1) (bm hsc)
    ·refine cd h (fun hc h => ?_) fun hc h => ?_
     ·refine ra ?_
      cases h
      refine d2c ?_; have h := congrArg some (hx0 _ rfl)
      exact rt
     ·refine rn ?_
      cases h
      exact Yg gs0 (bm hsc)
  ·refine rn ?_
   cases h
   exact Zq () (bm0 hsc)
 ·try simp only [go_sem, fx]
  unfold ZH at h
  refine d0s hb ?_
  exact rt
end Go.Proofs.YtgaeiccgdpnkkaaGreatDoor
