import Derived.Test.YtgaeiccgdpnkkaaGreatDoorPWalk11
set_option linter.unusedVariables false
set_option linter.unusedSimpArgs false
set_option maxHeartbeats 2000000
set_option maxRecDepth 100000
namespace Go.Proofs.YtgaeiccgdpnkkaaGreatDoor
open Go Go.Am
theorem d6P (n : Nat) (a0 : Yo) (r : Yg) (h : ZY n a0 = some r) : Pure Tryz.prog gl 73 [.agg [.sl false 2 40 (rows Yl.cells a0.types), .sl false 3 32 (rows Yw.cells a0.YL)]] (.agg [.int .i64 r.code, .int .i64 r.index]) := by
 intro st
 unfold ZY at h
 have fx := trivial
 refine fb 87 [.cell 2 41] [0, 1, 2, 3, 4, 5, 6, 8, 12, 19, 25, 29, 30, 31, 32, 39, 45, 46, 47, 48, 55, 63, 64, 65, 66, 67, 68, 71, 72, 73, 76, 77, 78, 79, 80, 81, 82] Tryz.func73 fun hsc => ?_
 refine cd h (fun hc h => ?_) fun hc h => ?_
 ·exact rt
 ·refine cl h (d7O _) fun v1 h => ?_
  refine cd h (fun hc h => ?_) fun hc h => ?_
  ·exact rt
  ·refine cl h (d9W n _) fun v2 h => ?_
   refine cd h (fun hc h => ?_) fun hc h => ?_
   ·exact rt
   ·refine aln 29 fun hl0 => ?_
    refine rng (body := ZL a0) (kk := d0B) (n := a0.YL.length) (s0 := ())
     (fun (gs0 : Unit) (k0 : Nat) (s0 : Unit) => [(1, .ptr st.length 0 0 0), (2, .ptr (st.length + 1) 0 0 0), (29, .sl false 3 32 (rows Yw.cells a0.YL)), (30, .int .i64 (↑a0.YL.length : Int)), (31, .int .i64 (↑k0 : Int))])
     (fun (gs0 : Unit) (k0 : Nat) (s0 : Unit) => st ++ [some (.arr 0 2 0 [[.sl false 2 40 (rows Yl.cells a0.types), .sl false 3 32 (rows Yw.cells a0.YL)]]), some (.arr 0 2 0 [[.int .i64 0, .int .i64 0]])])
     (fun (gt0 : Unit) (t0 : Unit) => [(2, .ptr (st.length + 1) 0 0 0)])
     (fun (gt0 : Unit) (t0 : Unit) => st ++ [none, some (.arr 0 2 0 [[.int .i64 0, .int .i64 0]])])
     () fx hl0 h (bm hsc)
     (fun gs0 k0 s0 b0 fx h hx0 => ?_) (fun gs0 s0 => ?_) (fun gt0 t0 fr1 st1 h hb => ?_)
    ·unfold ZL at h
     refine ct ?_
     refine cl h (d4Q _) fun v6 h => ?_
     refine cd h (fun hc h => ?_) fun hc h => ?_
     ·refine ra ?_
      cases h
      refine Za ?_; have h := congrArg some (hx0 _ rfl)
      exact rt
     ·obtain ⟨fx, h⟩ := ck fx h
      refine aln 45 fun hl2 => ?_
      refine rng (body := ZM a0 k0) (kk := d0C a0 k0) (n := (a0.YL.take k0).length) (s0 := ())
       (fun (gs2 : Unit) (k2 : Nat) (s2 : Unit) => [(1, .ptr st.length 0 0 0), (2, .ptr (st.length + 1) 0 0 0), (5, .int .i64 (↑k0 : Int)), (6, .ptr (st.length + 2) 0 0 0), (29, .sl false 3 32 (rows Yw.cells a0.YL)), (30, .int .i64 (↑a0.YL.length : Int)), (31, .int .i64 (↑k0 : Int)), (45, .sl false 3 32 (rows Yw.cells (a0.YL.take k0))), (46, .int .i64 (↑((a0.YL.take k0).length) : Int)), (47, .int .i64 (↑k2 : Int))])
       (fun (gs2 : Unit) (k2 : Nat) (s2 : Unit) => st ++ [some (.arr 0 2 0 [[.sl false 2 40 (rows Yl.cells a0.types), .sl false 3 32 (rows Yw.cells a0.YL)]]), some (.arr 0 2 0 [[.int .i64 0, .int .i64 0]]), some (.arr 0 3 0 [[.str ((get a0.YL k0).name), .int .i64 ((get a0.YL k0).of_), .int .i64 ((get a0.YL k0).value)]])])
       (fun (gt2 : Unit) (t2 : Unit) => [(1, .ptr st.length 0 0 0), (2, .ptr (st.length + 1) 0 0 0), (5, .int .i64 (↑k0 : Int)), (6, .ptr (st.length + 2) 0 0 0), (29, .sl false 3 32 (rows Yw.cells a0.YL)), (30, .int .i64 (↑a0.YL.length : Int)), (31, .int .i64 (↑k0 : Int))])
       (fun (gt2 : Unit) (t2 : Unit) => st ++ [some (.arr 0 2 0 [[.sl false 2 40 (rows Yl.cells a0.types), .sl false 3 32 (rows Yw.cells a0.YL)]]), some (.arr 0 2 0 [[.int .i64 0, .int .i64 0]]), some (.arr 0 3 0 [[.str ((get a0.YL k0).name), .int .i64 ((get a0.YL k0).of_), .int .i64 ((get a0.YL k0).value)]])])
       () fx hl2 h (bm hsc)
       (fun gs2 k2 s2 b2 fx h hx2 => ?_) (fun gs2 s2 => ?_) (fun gt2 t2 fr1 st1 h hb => ?_)
      ·unfold ZM at h
       refine ct ?_
       refine cd h (fun hc h => ?_) fun hc h => ?_
       ·refine ra ?_
        cases h
        refine Za ?_; obtain rfl := hx2 _ rfl; try simp only [go_sem, fx]
        refine Za ?_; have h := congrArg some (hx0 _ rfl)
        exact rt
       ·refine rn ?_
        cases h
        exact d6b () (bm hsc)
      ·refine cf ?_
       refine d5I ?_; simp only [go_sem, fx]
       exact ⟨(), (bm hsc)⟩
      ·try simp only [go_sem, fx]
       unfold d0C at h
       refine d1F hb ?_
       refine cd h (fun hc h => ?_) fun hc h => ?_
       ·refine ra ?_
        cases h
        refine Za ?_; have h := congrArg some (hx0 _ rfl)
        exact rt
       ·refine rn ?_
        cases h
        exact d6b () (bm hsc)
    ·refine cf ?_
     refine d5I ?_; simp only [go_sem, fx]
     exact ⟨(), (bm hsc)⟩
    ·try simp only [go_sem, fx]
     unfold d0B at h
     refine d1F hb ?_
     exact rt
theorem d7P (a0 : Yo) (a1 : Yz) (r : Yg) (h : d0W a0 a1 = some r) : Pure Tryz.prog gl 139 [.agg [.sl false 2 40 (rows Yl.cells a0.types), .sl false 3 32 (rows Yw.cells a0.YL)], .agg [.sl false 2 32 (rows Yq.cells a1.nodes)]] (.agg [.int .i64 r.code, .int .i64 r.index]) := by
 intro st
 unfold d0W at h
 have fx := trivial
 refine fb 94 [.cell 4 41] [0, 1, 2, 3, 4, 5, 6, 7, 8, 14, 15, 16, 17, 18, 21, 22, 23, 24, 32, 33, 34, 35, 36, 37, 38, 42, 43, 44, 45, 53, 54, 55, 56, 57, 58, 61, 62, 63, 66, 67, 68, 69, 70, 71, 72, 78, 79, 80, 81, 82, 83, 84, 85, 86, 87, 88] Tryz.func139 fun hsc => ?_
 refine cd h (fun hc h => ?_) fun hc h => ?_
 ·exact rt
 ·refine aln 21 fun hl0 => ?_
  refine rng (body := d1B a1 a0) (kk := d2Y) (n := a1.nodes.length) (s0 := ())
   (fun (gs0 : Unit) (k0 : Nat) (s0 : Unit) => [(2, .ptr st.length 0 0 0), (3, .ptr (st.length + 1) 0 0 0), (4, .ptr (st.length + 2) 0 0 0), (21, .sl false 2 32 (rows Yq.cells a1.nodes)), (22, .int .i64 (↑a1.nodes.length : Int)), (23, .int .i64 (↑k0 : Int))])
   (fun (gs0 : Unit) (k0 : Nat) (s0 : Unit) => st ++ [some (.arr 0 2 0 [[.sl false 2 40 (rows Yl.cells a0.types), .sl false 3 32 (rows Yw.cells a0.YL)]]), some (.arr 0 1 0 [[.sl false 2 32 (rows Yq.cells a1.nodes)]]), some (.arr 0 2 0 [[.int .i64 0, .int .i64 0]])])
   (fun (gt0 : Unit) (t0 : Unit) => [(4, .ptr (st.length + 2) 0 0 0)])
   (fun (gt0 : Unit) (t0 : Unit) => st ++ [none, none, some (.arr 0 2 0 [[.int .i64 0, .int .i64 0]])])
   () fx hl0 h (bm hsc)
   (fun gs0 k0 s0 b0 fx h hx0 => ?_) (fun gs0 s0 => ?_) (fun gt0 t0 fr1 st1 h hb => ?_)
  ·unfold d1B at h
   refine ct ?_
   refine cd h (fun hc h => ?_) fun hc h => ?_
   ·refine ra ?_
    cases h
    refine Za ?_; have h := congrArg some (hx0 _ rfl)
    exact rt
   ·refine aln 42 fun hl2 => ?_
    refine rng (body := d1C a1 k0 a0) (kk := d1D) (n := ((get a1.nodes k0).links).length) (s0 := ())
     (fun (gs2 : Unit) (k2 : Nat) (s2 : Unit) => [(2, .ptr st.length 0 0 0), (3, .ptr (st.length + 1) 0 0 0), (4, .ptr (st.length + 2) 0 0 0), (5, .int .i64 (↑k0 : Int)), (6, .ptr (st.length + 3) 0 0 0), (21, .sl false 2 32 (rows Yq.cells a1.nodes)), (22, .int .i64 (↑a1.nodes.length : Int)), (23, .int .i64 (↑k0 : Int)), (42, .sl false 2 16 (rows Zh.cells ((get a1.nodes k0).links))), (43, .int .i64 (↑(((get a1.nodes k0).links).length) : Int)), (44, .int .i64 (↑k2 : Int))])
     (fun (gs2 : Unit) (k2 : Nat) (s2 : Unit) => st ++ [some (.arr 0 2 0 [[.sl false 2 40 (rows Yl.cells a0.types), .sl false 3 32 (rows Yw.cells a0.YL)]]), some (.arr 0 1 0 [[.sl false 2 32 (rows Yq.cells a1.nodes)]]), some (.arr 0 2 0 [[.int .i64 0, .int .i64 0]]), some (.arr 0 2 0 [[.int .i64 ((get a1.nodes k0).type), .sl false 2 16 (rows Zh.cells ((get a1.nodes k0).links))]])])
     (fun (gt2 : Unit) (t2 : Unit) => [(2, .ptr st.length 0 0 0), (3, .ptr (st.length + 1) 0 0 0), (4, .ptr (st.length + 2) 0 0 0), (21, .sl false 2 32 (rows Yq.cells a1.nodes)), (22, .int .i64 (↑a1.nodes.length : Int)), (23, .int .i64 (↑k0 : Int))])
     (fun (gt2 : Unit) (t2 : Unit) => st ++ [some (.arr 0 2 0 [[.sl false 2 40 (rows Yl.cells a0.types), .sl false 3 32 (rows Yw.cells a0.YL)]]), some (.arr 0 1 0 [[.sl false 2 32 (rows Yq.cells a1.nodes)]]), some (.arr 0 2 0 [[.int .i64 0, .int .i64 0]])])
     () fx hl2 h (bm hsc)
     (fun gs2 k2 s2 b2 fx h hx2 => ?_) (fun gs2 s2 => ?_) (fun gt2 t2 fr1 st1 h hb => ?_)
    ·unfold d1C at h
     refine ct ?_
     refine cd h (fun hc h => ?_) fun hc h => ?_
     ·refine ra ?_
      cases h
      refine Za ?_; obtain rfl := hx2 _ rfl; try simp only [go_sem, fx]
      refine Za ?_; have h := congrArg some (hx0 _ rfl)
      exact rt
     ·refine rn ?_
      obtain ⟨fx, h⟩ := ck fx h
      refine dw [] 0 ?_
      refine cd h (fun hc h => ?_) fun hc h => ?_
      ·refine ra ?_
       cases h
       refine Za ?_; obtain rfl := hx2 _ rfl; try simp only [go_sem, fx]
       refine Za ?_; have h := congrArg some (hx0 _ rfl)
       exact rt
      ·refine rn ?_
       cases h
       exact d6b () (bm hsc)
    ·refine cf ?_
     refine d5I ?_; simp only [go_sem, fx]
     exact ⟨(), (bm hsc)⟩
    ·try simp only [go_sem, fx]
     unfold d1D at h
     refine d1F hb ?_
     refine rn ?_
     cases h
     exact d6b () (bm hsc)
  ·refine cf ?_
   refine d5I ?_; simp only [go_sem, fx]
   exact ⟨(), (bm hsc)⟩
  ·try simp only [go_sem, fx]
   unfold d2Y at h
   refine d1F hb ?_
   exact rt
theorem d8p (a0 : Yz) (r : Int) (h : d0x a0 = some r) : Pure Tryz.prog gl 141 [.agg [.sl false 2 32 (rows Yq.cells a0.nodes)]] (.int .i64 r) := by
 intro st
 unfold d0x at h
 have fx := trivial
 refine fb 47 [.tmp 2] [0, 1, 2, 3, 4, 5, 7, 16, 17, 18, 20, 21, 22, 23, 28, 29, 30, 31, 37] Tryz.func141 fun hsc => ?_
 refine r0 ?_
 obtain ⟨fx, h⟩ := ck fx h
 have fy := (show List.replicate a0.nodes.length [.bool false] = rows Zx (List.replicate a0.nodes.length (default : Bool)) from d8J (E := Zx) _ default)
 refine r1 ?_
 obtain ⟨fx, h⟩ := ck fx h
 have fy := (show (rows Zx (List.replicate a0.nodes.length (default : Bool))).getD 0 [] = Zx (get (List.replicate a0.nodes.length (default : Bool)) 0) from d9f (E := Zx) (l := (List.replicate a0.nodes.length (default : Bool))) (k := 0) (by first | omega | (simp; omega)))
 have fy := fa fy (show 0 < a0.nodes.length from by first | omega | (simp; omega))
 obtain ⟨c7, hc7, h⟩ := i1k h
 have fy := fa fy (show (rows Zx (List.replicate a0.nodes.length (default : Bool))).set 0 [.bool true] = rows Zx c7 from by rw [hc7]; first | exact i7L (E := Zx) _ _ _ | simp only [go_sem, rows, List.map_set])
 refine r1 ?_
 have e9 : D.ref true (st.length + 1) 0 0 a0.nodes.length = D.ref true (st.length + 1) 0 0 c7.length := by simp [hc7]
 simp only [e9]
 obtain ⟨fx, h⟩ := ck fx h
 refine rn ?_
 refine rng (body := d1J a0) (kk := d1O) (n := a0.nodes.length) (s0 := c7)
  (fun (gs0 : Nat) (k0 : Nat) (s0 : (List Bool)) => [(1, .ptr st.length 0 0 0), (3, .ref true (st.length + 1) gs0 0 s0.length), (16, .int .i64 (↑a0.nodes.length : Int)), (17, .int .i64 (↑k0 : Int))])
  (fun (gs0 : Nat) (k0 : Nat) (s0 : (List Bool)) => st ++ [some (.arr 0 1 0 [[.sl false 2 32 (rows Yq.cells a0.nodes)]]), some (.arr gs0 1 1 (rows Zx s0))])
  (fun (gt0 : Nat) (t0 : (List Bool)) => [(3, .ref true (st.length + 1) gt0 0 t0.length)])
  (fun (gt0 : Nat) (t0 : (List Bool)) => st ++ [none, some (.arr gt0 1 1 (rows Zx t0))])
  0 fx fx.2 h (bm hsc)
  (fun gs0 k0 s0 b0 fx h hx0 => ?_) (fun gs0 s0 => ?_) (fun gt0 t0 fr1 st1 h hb => ?_)
 ·unfold d1J at h
  refine ct ?_
  refine aln 20 fun hl4 => ?_
  refine rng (body := d1K a0) (kk := d1N) (n := a0.nodes.length) (s0 := s0)
   (fun (gs4 : Nat) (k4 : Nat) (s4 : (List Bool)) => [(1, .ptr st.length 0 0 0), (3, .ref true (st.length + 1) gs4 0 s4.length), (16, .int .i64 (↑a0.nodes.length : Int)), (17, .int .i64 (↑k0 : Int)), (20, .sl false 2 32 (rows Yq.cells a0.nodes)), (21, .int .i64 (↑a0.nodes.length : Int)), (22, .int .i64 (↑k4 : Int))])
   (fun (gs4 : Nat) (k4 : Nat) (s4 : (List Bool)) => st ++ [some (.arr 0 1 0 [[.sl false 2 32 (rows Yq.cells a0.nodes)]]), some (.arr gs4 1 1 (rows Zx s4))])
   (fun (gt4 : Nat) (t4 : (List Bool)) => [(1, .ptr st.length 0 0 0), (3, .ref true (st.length + 1) gt4 0 t4.length), (16, .int .i64 (↑a0.nodes.length : Int)), (17, .int .i64 (↑k0 : Int))])
   (fun (gt4 : Nat) (t4 : (List Bool)) => st ++ [some (.arr 0 1 0 [[.sl false 2 32 (rows Yq.cells a0.nodes)]]), some (.arr gt4 1 1 (rows Zx t4))])
   gs0 fx hl4 h (bm hsc)
   (fun gs4 k4 s4 b4 fx h hx4 => ?_) (fun gs4 s4 => ?_) (fun gt4 t4 fr1 st1 h hb => ?_)
  ·unfold d1K at h
   refine ct ?_
   refine aln 28 fun hl6 => ?_
   refine rng (body := d1L k4 a0) (kk := d1M) (n := ((get a0.nodes k4).links).length) (s0 := s4)
    (fun (gs6 : Nat) (k6 : Nat) (s6 : (List Bool)) => [(1, .ptr st.length 0 0 0), (3, .ref true (st.length + 1) gs6 0 s6.length), (4, .int .i64 (↑k4 : Int)), (16, .int .i64 (↑a0.nodes.length : Int)), (17, .int .i64 (↑k0 : Int)), (20, .sl false 2 32 (rows Yq.cells a0.nodes)), (21, .int .i64 (↑a0.nodes.length : Int)), (22, .int .i64 (↑k4 : Int)), (28, .sl false 2 16 (rows Zh.cells ((get a0.nodes k4).links))), (29, .int .i64 (↑(((get a0.nodes k4).links).length) : Int)), (30, .int .i64 (↑k6 : Int))])
    (fun (gs6 : Nat) (k6 : Nat) (s6 : (List Bool)) => st ++ [some (.arr 0 1 0 [[.sl false 2 32 (rows Yq.cells a0.nodes)]]), some (.arr gs6 1 1 (rows Zx s6))])
    (fun (gt6 : Nat) (t6 : (List Bool)) => [(1, .ptr st.length 0 0 0), (3, .ref true (st.length + 1) gt6 0 t6.length), (16, .int .i64 (↑a0.nodes.length : Int)), (17, .int .i64 (↑k0 : Int)), (20, .sl false 2 32 (rows Yq.cells a0.nodes)), (21, .int .i64 (↑a0.nodes.length : Int)), (22, .int .i64 (↑k4 : Int))])
    (fun (gt6 : Nat) (t6 : (List Bool)) => st ++ [some (.arr 0 1 0 [[.sl false 2 32 (rows Yq.cells a0.nodes)]]), some (.arr gt6 1 1 (rows Zx t6))])
    gs4 fx hl6 h (bm hsc)
    (fun gs6 k6 s6 b6 fx h hx6 => ?_) (fun gs6 s6 => ?_) (fun gt6 t6 fr1 st1 h hb => ?_)
   ·unfold d1L at h
    refine ct ?_
    refine r0 ?_
    refine r0 ?_
    refine r0 ?_
    obtain ⟨fx, h⟩ := ck fx h
    have fy := (show (rows Zx s6).getD k4 [] = Zx (get s6 k4) from d9f (E := Zx) (l := s6) (k := k4) (by first | omega | (simp; omega)))
    have fy := fa fy (show k4 < s6.length from by first | omega | (simp; omega))
    refine r1 ?_
    refine cd h (fun hc h => ?_) fun hc h => ?_
    ·obtain ⟨fx, h⟩ := ck fx h
     have fy := (show (rows Zx s6).getD (((get ((get a0.nodes k4).links) k6).to_).toNat) [] = Zx (get s6 (((get ((get a0.nodes k4).links) k6).to_).toNat)) from d9f (E := Zx) (l := s6) (k := ((get ((get a0.nodes k4).links) k6).to_).toNat) (by first | omega | (simp; omega)))
     have fy := fa fy (show ((get ((get a0.nodes k4).links) k6).to_).toNat < s6.length from by first | omega | (simp; omega))
     obtain ⟨c88, r1U, h⟩ := i1k h
     have fy := fa fy (show (rows Zx s6).set (((get ((get a0.nodes k4).links) k6).to_).toNat) [.bool true] = rows Zx c88 from by rw [r1U]; first | exact i7L (E := Zx) _ _ _ | simp only [go_sem, rows, List.map_set])
     refine r1 ?_
     have e90 : D.ref true (st.length + 1) gs6 0 s6.length = D.ref true (st.length + 1) gs6 0 c88.length := by simp [r1U]
     simp only [e90]
     refine rn ?_
     cases h
     exact d6b gs6 (bm hsc)
    ·refine rn ?_
     cases h
     exact d6b gs6 (bm hsc)
   ·refine cf ?_
    refine d5I ?_; simp only [go_sem, fx]
    exact ⟨gs6, (bm hsc)⟩
   ·try simp only [go_sem, fx]
    unfold d1M at h
    refine d1F hb ?_
    refine rn ?_
    cases h
    exact d6b gt6 (bm hsc)
  ·refine cf ?_
   refine d5I ?_; simp only [go_sem, fx]
   exact ⟨gs4, (bm hsc)⟩
  ·try simp only [go_sem, fx]
   unfold d1N at h
   refine d1F hb ?_
   refine rn ?_
   cases h
   exact d6b gt4 (bm hsc)
 ·refine cf ?_
  refine d5I ?_; simp only [go_sem, fx]
  exact ⟨gs0, (bm hsc)⟩
 ·try simp only [go_sem, fx]
  unfold d1O at h
  refine d1F hb ?_
  refine rn ?_
  obtain ⟨v91, hv91, h⟩ := Zg h
  refine ((d6Q _ _ _ hv91).borrow (args := [.ref true (st.length + 1) gt0 0 t0.length, .bool false]) (.cons _ _ _ _ (.ref _ _ _ _ _ _ _ _ _ (i2z.trans rfl) i7O (by decide) (i5z _) (by simp only [go_sem])) (.cons _ _ _ _ .s .nil)) (by simp) rfl ) ?_
  exact rt
theorem d2M (n : Nat) (a0 : Yo) (a1 : Yz) (r : Yg) (h : ZF n a0 a1 = some r) : Pure Tryz.prog gl 77 [.agg [.sl false 2 40 (rows Yl.cells a0.types), .sl false 3 32 (rows Yw.cells a0.YL)], .agg [.sl false 2 32 (rows Yq.cells a1.nodes)]] (.agg [.int .i64 r.code, .int .i64 r.index]) := by
 intro st
 unfold ZF at h
 have fx := trivial
 refine fb 74 [.cell 4 41] [0, 1, 2, 3, 4, 5, 6, 7, 9, 10, 11, 17, 20, 21, 22, 23, 28, 29, 30, 31, 49, 50, 51, 52, 53, 54, 55, 56, 57, 58, 59, 60, 61, 62, 70] Tryz.func77 fun hsc => ?_
 refine cl h (d7P _ _) fun v1 h => ?_
 refine cd h (fun hc h => ?_) fun hc h => ?_
 ·exact rt
 ·refine aln 20 fun hl0 => ?_
  refine rng (body := d1j n a1 a0) (kk := d1m a1) (n := a1.nodes.length) (s0 := ())
   (fun (gs0 : Unit) (k0 : Nat) (s0 : Unit) => [(2, .ptr st.length 0 0 0), (3, .ptr (st.length + 1) 0 0 0), (4, .ptr (st.length + 2) 0 0 0), (20, .sl false 2 32 (rows Yq.cells a1.nodes)), (21, .int .i64 (↑a1.nodes.length : Int)), (22, .int .i64 (↑k0 : Int))])
   (fun (gs0 : Unit) (k0 : Nat) (s0 : Unit) => st ++ [some (.arr 0 2 0 [[.sl false 2 40 (rows Yl.cells a0.types), .sl false 3 32 (rows Yw.cells a0.YL)]]), some (.arr 0 1 0 [[.sl false 2 32 (rows Yq.cells a1.nodes)]]), some (.arr 0 2 0 [[.int .i64 0, .int .i64 0]])])
   (fun (gt0 : Unit) (t0 : Unit) => [(3, .ptr (st.length + 1) 0 0 0), (4, .ptr (st.length + 2) 0 0 0)])
   (fun (gt0 : Unit) (t0 : Unit) => st ++ [none, some (.arr 0 1 0 [[.sl false 2 32 (rows Yq.cells a1.nodes)]]), some (.arr 0 2 0 [[.int .i64 0, .int .i64 0]])])
   () fx hl0 h (bm hsc)
   (fun gs0 k0 s0 b0 fx h hx0 => ?_) (fun gs0 s0 => ?_) (fun gt0 t0 fr1 st1 h hb => ?_)
  ·unfold d1j at h
   refine ct ?_
   refine aln 28 fun hl2 => ?_
   refine rng (body := d1k n a1 k0 a0) (kk := d1l) (n := ((get a1.nodes k0).links).length) (s0 := ())
    (fun (gs2 : Unit) (k2 : Nat) (s2 : Unit) => [(2, .ptr st.length 0 0 0), (3, .ptr (st.length + 1) 0 0 0), (4, .ptr (st.length + 2) 0 0 0), (6, .int .i64 (↑k0 : Int)), (7, .ptr (st.length + 3) 0 0 0), (20, .sl false 2 32 (rows Yq.cells a1.nodes)), (21, .int .i64 (↑a1.nodes.length : Int)), (22, .int .i64 (↑k0 : Int)), (28, .sl false 2 16 (rows Zh.cells ((get a1.nodes k0).links))), (29, .int .i64 (↑(((get a1.nodes k0).links).length) : Int)), (30, .int .i64 (↑k2 : Int))])
    (fun (gs2 : Unit) (k2 : Nat) (s2 : Unit) => st ++ [some (.arr 0 2 0 [[.sl false 2 40 (rows Yl.cells a0.types), .sl false 3 32 (rows Yw.cells a0.YL)]]), some (.arr 0 1 0 [[.sl false 2 32 (rows Yq.cells a1.nodes)]]), some (.arr 0 2 0 [[.int .i64 0, .int .i64 0]]), some (.arr 0 2 0 [[.int .i64 ((get a1.nodes k0).type), .sl false 2 16 (rows Zh.cells ((get a1.nodes k0).links))]])])
    (fun (gt2 : Unit) (t2 : Unit) => [(2, .ptr st.length 0 0 0), (3, .ptr (st.length + 1) 0 0 0), (4, .ptr (st.length + 2) 0 0 0), (20, .sl false 2 32 (rows Yq.cells a1.nodes)), (21, .int .i64 (↑a1.nodes.length : Int)), (22, .int .i64 (↑k0 : Int))])
    (fun (gt2 : Unit) (t2 : Unit) => st ++ [some (.arr 0 2 0 [[.sl false 2 40 (rows Yl.cells a0.types), .sl false 3 32 (rows Yw.cells a0.YL)]]), some (.arr 0 1 0 [[.sl false 2 32 (rows Yq.cells a1.nodes)]]), some (.arr 0 2 0 [[.int .i64 0, .int .i64 0]])])
    () fx hl2 h (bm hsc)
    (fun gs2 k2 s2 b2 fx h hx2 => ?_) (fun gs2 s2 => ?_) (fun gt2 t2 fr1 st1 h hb => ?_)
   ·unfold d1k at h
    refine ct ?_
    obtain ⟨fx, h⟩ := ck fx h
    refine rn ?_
    refine dw [] 0 ?_
    obtain ⟨v25, hv25, h⟩ := Zg h
    refine Yt (d5l n _ _ _ _ hv25) ?_
    obtain ⟨fx, h⟩ := ck fx h
    try simp only [go_sem, fx]
    obtain ⟨v29, hv29, h⟩ := Zg h
    refine d6z (fun hG => (d5l n _ _ _ _ (i5y hv29 (by simpa using hG)))) ?_
    try simp only [go_sem, fx]
    refine cd h (fun hc h => ?_) fun hc h => ?_
    ·refine ra ?_
     cases h
     refine Za ?_; obtain rfl := hx2 _ rfl; try simp only [go_sem, fx]
     refine Za ?_; have h := congrArg some (hx0 _ rfl)
     exact rt
    ·refine rn ?_
     cases h
     exact d6b () (bm hsc)
   ·refine cf ?_
    refine d5I ?_; simp only [go_sem, fx]
    exact ⟨(), (bm hsc)⟩
   ·try simp only [go_sem, fx]
    unfold d1l at h
    refine d1F hb ?_
    refine rn ?_
    cases h
    exact d6b () (bm hsc)
  ·refine cf ?_
   refine d5I ?_; simp only [go_sem, fx]
   exact ⟨(), (bm hsc)⟩
  ·try simp only [go_sem, fx]
   unfold d1m at h
   refine d1F hb ?_
   refine cl h (d8p _) fun v30 h => ?_
   refine cd h (fun hc h => ?_) fun hc h => ?_
   ·exact rt
   ·exact rt
theorem d6q (a0 : Yz) (a1 : Int) (a2 : Int) (r : Int) (h : d0D a0 a1 a2 = some r) : Pure Tryz.prog gl 87 [.agg [.sl false 2 32 (rows Yq.cells a0.nodes)], .int .i64 a1, .int .i64 a2] (.int .i64 r) := by
 intro st
 unfold d0D at h
 have fx := trivial
 refine fb 27 [.tmp 6] [0, 1, 2, 3, 6, 8, 14, 15, 16, 17, 23] Tryz.func87 fun hsc => ?_
 obtain ⟨fx, h⟩ := ck fx h
 refine aln 14 fun hl0 => ?_
 refine rng (body := d2D a0 a1 a2) (kk := d2E) (n := ((get a0.nodes a1.toNat).links).length) (s0 := ())
  (fun (gs0 : Unit) (k0 : Nat) (s0 : Unit) => [(2, .int .i64 a2), (14, .sl false 2 16 (rows Zh.cells ((get a0.nodes a1.toNat).links))), (15, .int .i64 (↑(((get a0.nodes a1.toNat).links).length) : Int)), (16, .int .i64 (↑k0 : Int))])
  (fun (gs0 : Unit) (k0 : Nat) (s0 : Unit) => st)
  (fun (gt0 : Unit) (t0 : Unit) => [])
  (fun (gt0 : Unit) (t0 : Unit) => st)
  () fx hl0 h (bm0 hsc)
  (fun gs0 k0 s0 b0 fx h hx0 => ?_) (fun gs0 s0 => ?_) (fun gt0 t0 fr1 st1 h hb => ?_)
 ·unfold d2D at h
  refine ct ?_
  refine cd h (fun hc h => ?_) fun hc h => ?_
  ·refine ra ?_
   cases h
   refine Za ?_; have h := congrArg some (hx0 _ rfl)
   exact rt
  ·refine rn ?_
   cases h
   exact d6b () (bm0 hsc)
 ·refine cf ?_
  refine d5I ?_; simp only [go_sem, fx]
  exact ⟨(), (d6c hsc)⟩
 ·try simp only [go_sem, fx]
  unfold d2E at h
  refine d1F hb ?_
  exact rt
theorem d9A (a0 : Ye) (r : Bool) (h : d2y a0 = some r) : Pure Tryz.prog gl 220 [.agg [.str a0.base, .sl false 2 40 (rows Ye.cells a0.args)]] (.bool r) := by
 intro st
 unfold d2y at h
 have fx := trivial
 refine fb 12 [.tmp 2] [0, 1, 2, 7, 8, 9, 10] Tryz.func220 fun hsc => ?_
 exact rt
theorem i0f (n : Nat) (a0 : Bs) (r : Bool) (h : d3h n a0 = some r) : Pure Tryz.prog gl 221 [.str a0] (.bool r) := by
 intro st
 unfold d3h at h
 have fx := trivial
 refine fb 62 [.tmp 2] [0, 2, 3, 4, 5, 10, 11, 12, 13, 17, 25, 26, 27, 28, 35, 36, 37, 38, 41, 42, 43, 44, 47, 48, 49, 50, 55, 56, 57, 58, 59, 60, 61] Tryz.func221 fun hsc => ?_
 refine cd h (fun hc h => ?_) fun hc h => ?_
 ·exact rt
 ·refine rn ?_
  refine Zt (body := d3s a0) (kk := d4O) (n := n) (s0 := 0)
   (fun (gs0 : Unit) (s0 : Int) => [(0, .str a0), (3, .int .i64 s0)])
   (fun (gs0 : Unit) (s0 : Int) => st)
   (fun (gt0 : Unit) (t0 : Unit) => [])
   (fun (gt0 : Unit) (t0 : Unit) => st)
   () h (d6c hsc)
   (fun gs0 s0 b0 h hx0 => ?_) (fun gt0 t0 fr1 st1 h hb => ?_)
  ·unfold d3s at h
   refine cd h (fun hc h => ?_) fun hc h => ?_
   ·obtain ⟨fx, h⟩ := ck fx h
    refine cd h (fun hc h => ?_) fun hc h => ?_
    ·refine ra ?_
     cases h
     refine d4e ?_; have h := congrArg some (hx0 _ rfl)
     exact rt
    ·refine rn ?_
     cases h
     exact ZE () (d6c hsc)
   ·refine rn ?_
    cases h
    exact d0V () (d6c hsc)
  ·try simp only [go_sem, fx]
   unfold d4O at h
   refine d1F hb ?_
   exact rt
theorem d7z (n : Nat) (a0 : Ye) (r : Int) (h : d0H n a0 = some r) : Pure Tryz.prog gl 222 [.agg [.str a0.base, .sl false 2 40 (rows Ye.cells a0.args)]] (.int .i64 r) := by
 intro st
 unfold d0H at h
 have fx := trivial
 refine fb 79 [.tmp 2] [0, 1, 2, 3, 4, 5, 11, 28, 29, 30, 31, 35, 40, 67, 68, 69, 70, 73, 74, 75, 76, 77, 78] Tryz.func222 fun hsc => ?_
 refine rn ?_
 refine Zt (body := Zb) (kk := d1n) (n := n) (s0 := ([(Yp.mk a0 1)], 0, 1))
  (fun (gs0 : Nat) (s0 : (List Yp) × Int × Nat) => [(3, .ref false (st.length + 1) gs0 0 s0.2.2), (4, .int .i64 s0.2.1)])
  (fun (gs0 : Nat) (s0 : (List Yp) × Int × Nat) => st ++ [none, some (.arr gs0 3 48 (rows Yp.cells s0.1))])
  (fun (gt0 : Unit) (t0 : Unit) => [])
  (fun (gt0 : Unit) (t0 : Unit) => st)
  0 h (bm hsc)
  (fun gs0 s0 b0 h hx0 => ?_) (fun gt0 t0 fr1 st1 h hb => ?_)
 ·unfold Zb at h
  refine cd h (fun hc h => ?_) fun hc h => ?_
  ·refine r0 ?_
   refine r0 ?_
   obtain ⟨fx, h⟩ := ck fx h
   obtain ⟨fx, h⟩ := ck fx h
   have fy := (show (rows Yp.cells s0.1).getD ((wr .i64 ((↑s0.2.2 : Int) - 1)).toNat) [] = Yp.cells (get s0.1 ((wr .i64 ((↑s0.2.2 : Int) - 1)).toNat)) from d9f (E := Yp.cells) (l := s0.1) (k := (wr .i64 ((↑s0.2.2 : Int) - 1)).toNat) (by first | omega | (simp; omega)))
   have fy := fa fy (show (wr .i64 ((↑s0.2.2 : Int) - 1)).toNat < s0.1.length from by first | omega | (simp; omega))
   refine r1 ?_
   obtain ⟨fx, h⟩ := ck fx h
   refine cd h (fun hc h => ?_) fun hc h => ?_
   ·refine ra ?_
    cases h
    refine d4e ?_; have h := congrArg some (hx0 _ rfl)
    exact rt
   ·refine cd h (fun hc h => ?_) fun hc h => ?_
    ·refine cd h (fun hc h => ?_) fun hc h => ?_
     ·refine ra ?_
      cases h
      refine d4e ?_; have h := congrArg some (hx0 _ rfl)
      exact rt
     ·refine rn ?_
      obtain ⟨fx, h⟩ := ck fx h
      obtain ⟨fx, h⟩ := ck fx h
      obtain ⟨fx, h⟩ := ck fx h
      obtain ⟨c25, r1V, h⟩ := i1k h
      have fy := (show rows Yp.cells (s0.1.take ((wr .i64 ((↑s0.2.2 : Int) - 1)).toNat)) ++ [[.str ((get ((get s0.1 ((wr .i64 ((↑s0.2.2 : Int) - 1)).toNat)).s.args) 1).base), .sl false 2 40 (rows Ye.cells ((get ((get s0.1 ((wr .i64 ((↑s0.2.2 : Int) - 1)).toNat)).s.args) 1).args)), .int .i64 (wr .i64 (((get s0.1 ((wr .i64 ((↑s0.2.2 : Int) - 1)).toNat)).depth) + 1))], [.str ((get ((get s0.1 ((wr .i64 ((↑s0.2.2 : Int) - 1)).toNat)).s.args) 0).base), .sl false 2 40 (rows Ye.cells ((get ((get s0.1 ((wr .i64 ((↑s0.2.2 : Int) - 1)).toNat)).s.args) 0).args)), .int .i64 (wr .i64 (((get s0.1 ((wr .i64 ((↑s0.2.2 : Int) - 1)).toNat)).depth) + 1))]] = rows Yp.cells c25 from by rw [r1V]; first | exact d5W (E := Yp.cells) (s0.1.take ((wr .i64 ((↑s0.2.2 : Int) - 1)).toNat)) [(Yp.mk (get ((get s0.1 ((wr .i64 ((↑s0.2.2 : Int) - 1)).toNat)).s.args) 1) (wr .i64 (((get s0.1 ((wr .i64 ((↑s0.2.2 : Int) - 1)).toNat)).depth) + 1))), (Yp.mk (get ((get s0.1 ((wr .i64 ((↑s0.2.2 : Int) - 1)).toNat)).s.args) 0) (wr .i64 (((get s0.1 ((wr .i64 ((↑s0.2.2 : Int) - 1)).toNat)).depth) + 1)))] | simp only [go_sem, rows, List.map_append, List.map_cons, List.map_nil])
      have fy := fa fy (show (wr .i64 ((↑s0.2.2 : Int) - 1)).toNat + 2 = c25.length from by rw [r1V]; simp <;> omega)
      obtain ⟨fx, h⟩ := ck fx h
      refine dwy [] 2 ?_
      cases h
      exact ZE (gs0 + 1) (bm hsc)
    ·refine cd h (fun hc h => ?_) fun hc h => ?_
     ·refine ra ?_
      cases h
      refine d4e ?_; have h := congrArg some (hx0 _ rfl)
      exact rt
     ·refine rn ?_
      cases h
      exact ZE gs0 (bm hsc)
  ·refine rn ?_
   cases h
   exact d0V () (bm0 hsc)
 ·try simp only [go_sem, fx]
  unfold d1n at h
  refine d1F hb ?_
  exact rt
end Go.Proofs.YtgaeiccgdpnkkaaGreatDoor
