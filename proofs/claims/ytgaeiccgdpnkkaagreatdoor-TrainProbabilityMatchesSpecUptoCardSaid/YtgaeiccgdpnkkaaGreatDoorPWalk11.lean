import Derived.Test.YtgaeiccgdpnkkaaGreatDoorPWalk10
set_option linter.unusedVariables false
set_option linter.unusedSimpArgs false
set_option maxHeartbeats 2000000
set_option maxRecDepth 100000
namespace Go.Proofs.YtgaeiccgdpnkkaaGreatDoor
open Go Go.Am
theorem d4Q (a0 : Bs) (r : Bool) (h : d1r a0 = some r) : Pure Tryz.prog gl 74 [.str a0] (.bool r) := by
 intro st
 unfold d1r at h
 have fx := trivial
 refine fb 54 [.tmp 2] [0, 2, 3, 4, 5, 6, 11, 12, 13, 14, 16, 17, 18, 19, 26, 27, 32, 33, 36, 37, 40, 41, 46, 47, 48, 49, 50, 51, 52] Tryz.func74 fun hsc => ?_
 refine cd h (fun hc h => ?_) fun hc h => ?_
 ·exact rt
 ·obtain ⟨fx, h⟩ := ck fx h
  refine aln 16 fun hl0 => ?_
  refine rng (body := d3p a0) (kk := d3q) (n := (bytesOf a0).length) (s0 := ())
   (fun (gs0 : Unit) (k0 : Nat) (s0 : Unit) => [(16, .sl false 1 1 (rows u8c (bytesOf a0))), (17, .int .i64 (↑((bytesOf a0).length) : Int)), (18, .int .i64 (↑k0 : Int))])
   (fun (gs0 : Unit) (k0 : Nat) (s0 : Unit) => st)
   (fun (gt0 : Unit) (t0 : Unit) => [])
   (fun (gt0 : Unit) (t0 : Unit) => st)
   () fx hl0 h (d6c hsc)
   (fun gs0 k0 s0 b0 fx h hx0 => ?_) (fun gs0 s0 => ?_) (fun gt0 t0 fr1 st1 h hb => ?_)
  ·unfold d3p at h
   refine ct ?_
   refine cd h (fun hc h => ?_) fun hc h => ?_
   ·refine ra ?_
    cases h
    refine Za ?_; have h := congrArg some (hx0 _ rfl)
    exact rt
   ·refine rn ?_
    cases h
    exact d6b () (d6c hsc)
  ·refine cf ?_
   refine d5I ?_; simp only [go_sem, fx]
   exact ⟨(), (d6c hsc)⟩
  ·try simp only [go_sem, fx]
   unfold d3q at h
   refine d1F hb ?_
   exact rt
theorem d7O (a0 : (List Yl)) (r : Yg) (h : ZJ a0 = some r) : Pure Tryz.prog gl 135 [.sl false 2 40 (rows Yl.cells a0)] (.agg [.int .i64 r.code, .int .i64 r.index]) := by
 intro st
 unfold ZJ at h
 have fx := trivial
 refine fb 90 [.cell 2 41] [0, 2, 3, 4, 6, 7, 8, 13, 14, 15, 16, 18, 19, 20, 21, 28, 33, 34, 35, 36, 43, 53, 57, 58, 59, 60, 67, 68, 69, 70, 76, 77, 78, 79, 80, 81, 82, 83, 84] Tryz.func135 fun hsc => ?_
 refine cd h (fun hc h => ?_) fun hc h => ?_
 ·exact rt
 ·refine aln 0 fun hl0 => ?_
  refine rng (body := d1x a0) (kk := d2X) (n := a0.length) (s0 := ())
   (fun (gs0 : Unit) (k0 : Nat) (s0 : Unit) => [(0, .sl false 2 40 (rows Yl.cells a0)), (2, .ptr st.length 0 0 0), (18, .sl false 2 40 (rows Yl.cells a0)), (19, .int .i64 (↑a0.length : Int)), (20, .int .i64 (↑k0 : Int))])
   (fun (gs0 : Unit) (k0 : Nat) (s0 : Unit) => st ++ [some (.arr 0 2 0 [[.int .i64 0, .int .i64 0]])])
   (fun (gt0 : Unit) (t0 : Unit) => [(2, .ptr st.length 0 0 0)])
   (fun (gt0 : Unit) (t0 : Unit) => st ++ [some (.arr 0 2 0 [[.int .i64 0, .int .i64 0]])])
   () fx hl0 h (bm hsc)
   (fun gs0 k0 s0 b0 fx h hx0 => ?_) (fun gs0 s0 => ?_) (fun gt0 t0 fr1 st1 h hb => ?_)
  ·unfold d1x at h
   refine ct ?_
   refine cl h (d4Q _) fun v10 h => ?_
   refine cd h (fun hc h => ?_) fun hc h => ?_
   ·refine ra ?_
    cases h
    refine Za ?_; have h := congrArg some (hx0 _ rfl)
    exact rt
   ·obtain ⟨fx, h⟩ := ck fx h
    refine aln 33 fun hl3 => ?_
    refine rng (body := d0v a0 k0) (kk := d1y k0 a0) (n := (a0.take k0).length) (s0 := ())
     (fun (gs3 : Unit) (k3 : Nat) (s3 : Unit) => [(0, .sl false 2 40 (rows Yl.cells a0)), (2, .ptr st.length 0 0 0), (3, .int .i64 (↑k0 : Int)), (4, .ptr (st.length + 1) 0 0 0), (18, .sl false 2 40 (rows Yl.cells a0)), (19, .int .i64 (↑a0.length : Int)), (20, .int .i64 (↑k0 : Int)), (33, .sl false 2 40 (rows Yl.cells (a0.take k0))), (34, .int .i64 (↑((a0.take k0).length) : Int)), (35, .int .i64 (↑k3 : Int))])
     (fun (gs3 : Unit) (k3 : Nat) (s3 : Unit) => st ++ [some (.arr 0 2 0 [[.int .i64 0, .int .i64 0]]), some (.arr 0 2 0 [[.str ((get a0 k0).name), .sl false 1 8 (rows Zj ((get a0 k0).parents))]])])
     (fun (gt3 : Unit) (t3 : Unit) => [(0, .sl false 2 40 (rows Yl.cells a0)), (2, .ptr st.length 0 0 0), (3, .int .i64 (↑k0 : Int)), (4, .ptr (st.length + 1) 0 0 0), (18, .sl false 2 40 (rows Yl.cells a0)), (19, .int .i64 (↑a0.length : Int)), (20, .int .i64 (↑k0 : Int))])
     (fun (gt3 : Unit) (t3 : Unit) => st ++ [some (.arr 0 2 0 [[.int .i64 0, .int .i64 0]]), some (.arr 0 2 0 [[.str ((get a0 k0).name), .sl false 1 8 (rows Zj ((get a0 k0).parents))]])])
     () fx hl3 h (bm hsc)
     (fun gs3 k3 s3 b3 fx h hx3 => ?_) (fun gs3 s3 => ?_) (fun gt3 t3 fr1 st1 h hb => ?_)
    ·unfold d0v at h
     refine ct ?_
     refine cd h (fun hc h => ?_) fun hc h => ?_
     ·refine ra ?_
      cases h
      refine Za ?_; obtain rfl := hx3 _ rfl; try simp only [go_sem, fx]
      refine Za ?_; have h := congrArg some (hx0 _ rfl)
      exact rt
     ·refine rn ?_
      cases h
      exact d6b () (bm hsc)
    ·refine cf ?_
     refine d5I ?_; simp only [go_sem, fx]
     exact ⟨(), (bm hsc)⟩
    ·try simp only [go_sem, fx]
     unfold d1y at h
     refine d1F hb ?_
     refine cd h (fun hc h => ?_) fun hc h => ?_
     ·refine ra ?_
      cases h
      refine Za ?_; have h := congrArg some (hx0 _ rfl)
      exact rt
     ·refine aln 57 fun hl4 => ?_
      refine rng (body := d1z a0 k0) (kk := d1A) (n := ((get a0 k0).parents).length) (s0 := ())
       (fun (gs4 : Unit) (k4 : Nat) (s4 : Unit) => [(0, .sl false 2 40 (rows Yl.cells a0)), (2, .ptr st.length 0 0 0), (3, .int .i64 (↑k0 : Int)), (4, .ptr (st.length + 1) 0 0 0), (18, .sl false 2 40 (rows Yl.cells a0)), (19, .int .i64 (↑a0.length : Int)), (20, .int .i64 (↑k0 : Int)), (57, .sl false 1 8 (rows Zj ((get a0 k0).parents))), (58, .int .i64 (↑(((get a0 k0).parents).length) : Int)), (59, .int .i64 (↑k4 : Int))])
       (fun (gs4 : Unit) (k4 : Nat) (s4 : Unit) => st ++ [some (.arr 0 2 0 [[.int .i64 0, .int .i64 0]]), some (.arr 0 2 0 [[.str ((get a0 k0).name), .sl false 1 8 (rows Zj ((get a0 k0).parents))]])])
       (fun (gt4 : Unit) (t4 : Unit) => [(0, .sl false 2 40 (rows Yl.cells a0)), (2, .ptr st.length 0 0 0), (18, .sl false 2 40 (rows Yl.cells a0)), (19, .int .i64 (↑a0.length : Int)), (20, .int .i64 (↑k0 : Int))])
       (fun (gt4 : Unit) (t4 : Unit) => st ++ [some (.arr 0 2 0 [[.int .i64 0, .int .i64 0]])])
       () fx hl4 h (bm hsc)
       (fun gs4 k4 s4 b4 fx h hx4 => ?_) (fun gs4 s4 => ?_) (fun gt4 t4 fr1 st1 h hb => ?_)
      ·unfold d1z at h
       refine ct ?_
       refine cd h (fun hc h => ?_) fun hc h => ?_
       ·refine ra ?_
        cases h
        refine Za ?_; obtain rfl := hx4 _ rfl; try simp only [go_sem, fx]
        refine Za ?_; have h := congrArg some (hx0 _ rfl)
        exact rt
       ·obtain ⟨fx, h⟩ := ck fx h
        refine cd h (fun hc h => ?_) fun hc h => ?_
        ·refine ra ?_
         cases h
         refine Za ?_; obtain rfl := hx4 _ rfl; try simp only [go_sem, fx]
         refine Za ?_; have h := congrArg some (hx0 _ rfl)
         exact rt
        ·refine rn ?_
         cases h
         exact d6b () (bm hsc)
      ·refine cf ?_
       refine d5I ?_; simp only [go_sem, fx]
       exact ⟨(), (bm hsc)⟩
      ·try simp only [go_sem, fx]
       unfold d1A at h
       refine d1F hb ?_
       refine rn ?_
       cases h
       exact d6b () (bm hsc)
  ·refine cf ?_
   refine d5I ?_; simp only [go_sem, fx]
   exact ⟨(), (bm hsc)⟩
  ·try simp only [go_sem, fx]
   unfold d2X at h
   refine d1F hb ?_
   exact rt
theorem d9W (n : Nat) (a0 : (List Yl)) (r : Int) (h : d2N n a0 = some r) : Pure Tryz.prog gl 136 [.sl false 2 40 (rows Yl.cells a0)] (.int .i64 r) := by
 intro st
 unfold d2N at h
 have fx := trivial
 refine fb 83 [.tmp 2] [0, 2, 3, 4, 5, 6, 7, 8, 9, 10, 15, 16, 17, 24, 25, 26, 40, 41, 42, 44, 45, 46, 48, 49, 50, 60, 61, 62, 63, 64, 65, 66, 67, 69, 78] Tryz.func136 fun hsc => ?_
 obtain ⟨v1, hv1, h⟩ := Zg h
 unfold i2h at hv1
 obtain ⟨ha, hv1⟩ := p8p hv1
 obtain ⟨hsub, hv1⟩ := p8p hv1
 have hv1 := Option.some.inj hv1
 have hl : a0.length ≤ 9223372036854775807 := by unfold top at ha; omega
 have ha2 : a0.length ≤ top := by omega
 obtain ⟨sb, hsb⟩ : ∃ f : Nat → Nat → Bool, f = fun (i j : Nat) => (Zd n a0 (i : Int) (j : Int)).getD false := ⟨_, rfl⟩
 rw [← hsb] at hv1
 have d9I : ∀ i j : Nat, i < a0.length → j < a0.length → Zd n a0 (i : Int) (j : Int) = some (sb i j) := fun i j hi hj => by
  obtain ⟨w, hw⟩ := Option.isSome_iff_exists.1 (List.all_eq_true.1 (List.all_eq_true.1 hsub i (List.mem_range.2 hi)) j (List.mem_range.2 hj))
  rw [hsb]
  show Zd n a0 (i : Int) (j : Int) = some ((Zd n a0 (i : Int) (j : Int)).getD false)
  rw [hw]; rfl
 have fx := fa ha ha2
 refine rn ?_
 have e0 : List.replicate a0.length [D.YU] = i1l st.length a0.length a0.length 0 := p2y.symm
 simp only [e0]
 refine arg_ (ρ := Unit) (body := fun _ (s : Unit) => some (.nxt s)) (kk := fun s => some s) (n := a0.length) (s0 := ()) (e := ())
  (fun (_ : Unit) (k0 : Nat) (_ : Unit) => [(0, .sl false 2 40 (rows Yl.cells a0)), (3, .int .i64 (↑a0.length : Int)), (4, .ref true st.length 0 0 a0.length), (15, .int .i64 (↑a0.length : Int)), (16, .int .i64 (↑k0 : Int))])
  (fun (_ : Unit) (k0 : Nat) (_ : Unit) => st ++ (some (.arr 0 1 24 (i1l st.length a0.length a0.length k0)) :: (tf k0 a0.length (pfl sb k0 0)).map (ine Zx 1)))
  (fun (_ : Unit) (_ : Unit) => [(0, .sl false 2 40 (rows Yl.cells a0)), (3, .int .i64 (↑a0.length : Int)), (4, .ref true st.length 0 0 a0.length)])
  (fun (_ : Unit) (_ : Unit) => st ++ (some (.arr 0 1 24 (i1l st.length a0.length a0.length a0.length)) :: (tf a0.length a0.length (pfl sb a0.length 0)).map (ine Zx 1)))
  () (i7Q _ _) (i6g hsc (by simp [tf]) ⟨.s, .s, .s, .s, .s, trivial⟩ (by simp))
  (fun _ k0 _ b0 hk0 hb0 _ => ?_) (fun _ _ => ?_) (fun _ _ fr1 st1 _ hb => ?_)
 ·cases hb0
  have hw0 : wr .i64 ((↑k0 : Int) + 1) = (↑(k0 + 1) : Int) := p4i hk0 hl
  have eo1 : (i1l st.length a0.length a0.length k0).length = a0.length := i0O (by omega)
  have eo2 : (i1l st.length a0.length a0.length k0).set k0 [.ref true (st.length + (k0 + 1)) 0 0 a0.length] = i1l st.length a0.length a0.length (k0 + 1) := p4o hk0
  have eo3 : (i1l st.length a0.length a0.length k0).getD k0 [] = [.YU] := p4p (Nat.le_refl _) hk0
  have ez : List.replicate a0.length [D.bool false] = rows Zx (rf a0.length fun _ => default) := by rw [← p8A]; simp [rows, Zx]
  have fx := fa fx hw0
  refine ct ?_
  refine r0 ?_
  refine r0 ?_
  refine r0 ?_
  (repeat apply sq_); apply er_; simp only [go_sem, fx, List.length_map, p0l, eo1, eo2, eo3, hk0, Nat.zero_add, ez, p6g, p6k]
  refine ⟨by omega, ?_⟩
  refine rn ?_
  refine arg_ (ρ := Unit) (body := fun _ (s : Unit) => some (.nxt s)) (kk := fun s => some s) (n := a0.length) (s0 := ()) (e := ())
   (fun (_ : Unit) (k1 : Nat) (_ : Unit) => [(0, .sl false 2 40 (rows Yl.cells a0)), (3, .int .i64 (↑a0.length : Int)), (4, .ref true st.length 0 0 a0.length), (5, .int .i64 (↑k0 : Int)), (15, .int .i64 (↑a0.length : Int)), (16, .int .i64 (↑k0 : Int)), (24, .int .i64 (↑a0.length : Int)), (25, .int .i64 (↑k1 : Int))])
   (fun (_ : Unit) (k1 : Nat) (_ : Unit) => st ++ (some (.arr 0 1 24 (i1l st.length a0.length a0.length (k0 + 1))) :: (tf (k0 + 1) a0.length (pfl sb k0 k1)).map (ine Zx 1)))
   (fun (_ : Unit) (_ : Unit) => [(0, .sl false 2 40 (rows Yl.cells a0)), (3, .int .i64 (↑a0.length : Int)), (4, .ref true st.length 0 0 a0.length), (15, .int .i64 (↑a0.length : Int)), (16, .int .i64 (↑k0 : Int))])
   (fun (_ : Unit) (_ : Unit) => st ++ (some (.arr 0 1 24 (i1l st.length a0.length a0.length (k0 + 1))) :: (tf (k0 + 1) a0.length (pfl sb k0 a0.length)).map (ine Zx 1)))
   () (i7Q _ _) ?_
   (fun _ k1 _ b1 hk1 hb1 _ => ?_) (fun _ _ => ?_) (fun _ _ fr2 st2 _ hb2 => ?_)
  ·exact i6g hsc (by simp [tf]) ⟨.s, .s, .s, .s, .s, .s, .s, .s, trivial⟩ (by simp)
  ·cases hb1
   have hw1 : wr .i64 ((↑k1 : Int) + 1) = (↑(k1 + 1) : Int) := p4i hk1 hl
   have g1 : (i1l st.length a0.length a0.length (k0 + 1)).getD k0 [] = [.ref true (st.length + (k0 + 1)) 0 0 a0.length] := p0k (by omega)
   have g2 : (i1l st.length a0.length a0.length (k0 + 1)).length = a0.length := i0O (by omega)
   have l1 : Am.look ((tf (k0 + 1) a0.length (pfl sb k0 k1)).map (ine Zx 1)) k0 = some (.arr 0 1 1 (rows Zx (rf a0.length (pfl sb k0 k1 k0)))) := p4r (by omega)
   have s1 : ∀ v, ((tf (k0 + 1) a0.length (pfl sb k0 k1)).map (ine Zx 1)).set k0 (some (.arr 0 1 1 ((rows Zx (rf a0.length (pfl sb k0 k1 k0))).set k1 [.bool v]))) = (tf (k0 + 1) a0.length (p6h (pfl sb k0 k1) k0 k1 v)).map (ine Zx 1) := fun v => by
    rw [← p6j]; simp [rows, Zx]
   have g3 : (rows Zx (rf a0.length (pfl sb k0 k1 k0))).length = a0.length := by simp [rows, rf]
   have g4 : (rows Zx (rf a0.length (pfl sb k0 k1 k0))).getD k1 [] = [.bool (pfl sb k0 k1 k0 k1)] := by rw [d9f (by rw [p2B]; exact hk1), p0m hk1]; rfl
   have fx := fa fx hw1
   refine ct ?_
   refine r0 ?_
   refine r0 ?_
   refine r0 ?_
   (repeat apply sq_); refine r0s [2, 3, 8] 0 follows (by kernel_rfl) (by rfl) ?_; simp only [go_sem, List.replicate_zero, fx, hk0, hk1, g1, g2, l1, g3, g4, Nat.zero_add]
   refine Yt (d5l n _ _ _ _ (d9I k0 k1 hk0 hk1)) ?_
   simp only [go_sem, fx, hk0, hk1, g1, g2, l1, g3, g4, Nat.zero_add, s1, p6l]
   try refine ⟨by (simp <;> omega), ?_⟩
   refine rn ?_
   exact d6b () (i6g hsc (by simp [tf]) ⟨.s, .s, .s, .s, .s, .s, .s, .s, trivial⟩ (by simp))
  ·refine cf ?_
   refine d5I ?_; simp only [go_sem, fx]
   exact ⟨(), i6g hsc (by simp [tf]) ⟨.s, .s, .s, .s, .s, trivial⟩ (by simp)⟩
  ·try simp only [go_sem, fx]
   refine d1F hb2 ?_
   simp only [p4s]
   refine rn ?_
   exact d6b () (i6g hsc (by simp [tf]) ⟨.s, .s, .s, .s, .s, trivial⟩ (by simp))
 ·refine cf ?_
  refine d5I ?_; simp only [go_sem, fx]
  exact ⟨(), i6g hsc (by simp [tf]) ⟨.s, .s, .s, trivial⟩ (by simp)⟩
 try simp only [go_sem, fx]
 refine d1F hb ?_
 simp only [p6m]
 refine d1F (p2A (F := [(0, .sl false 2 40 (rows Yl.cells a0)), (3, .int .i64 (↑a0.length : Int)), (4, .sl false 1 24 (rows (slc 1 1 Zx) (tf a0.length a0.length sb)))]) (by decide) hsc p6i p0l (fun _ _ => ⟨.s, .s, .s, trivial⟩) (fun _ _ u => ⟨.s, .s, u, trivial⟩) (by simp) (by simp)) ?_
 rw [hv1]
 obtain ⟨fx, h⟩ := ck fx h
 refine rn ?_
 refine rng (body := d2P a0 v1) (kk := d2U) (n := a0.length) (s0 := ())
  (fun (gs0 : Unit) (k0 : Nat) (s0 : Unit) => [(3, .int .i64 (↑a0.length : Int)), (4, .sl false 1 24 (rows (slc 1 1 Zx) v1)), (40, .int .i64 (↑a0.length : Int)), (41, .int .i64 (↑k0 : Int))])
  (fun (gs0 : Unit) (k0 : Nat) (s0 : Unit) => st)
  (fun (gt0 : Unit) (t0 : Unit) => [])
  (fun (gt0 : Unit) (t0 : Unit) => st)
  () fx fx.2 h (d6c hsc)
  (fun gs0 k0 s0 b0 fx h hx0 => ?_) (fun gs0 s0 => ?_) (fun gt0 t0 fr1 st1 h hb => ?_)
 ·unfold d2P at h
  refine ct ?_
  obtain ⟨fx, h⟩ := ck fx h
  refine rn ?_
  refine rng (body := d2Q a0 v1 k0) (kk := d2T) (n := k0) (s0 := ())
   (fun (gs4 : Unit) (k4 : Nat) (s4 : Unit) => [(3, .int .i64 (↑a0.length : Int)), (4, .sl false 1 24 (rows (slc 1 1 Zx) v1)), (7, .int .i64 (↑k0 : Int)), (40, .int .i64 (↑a0.length : Int)), (41, .int .i64 (↑k0 : Int)), (44, .int .i64 (↑k0 : Int)), (45, .int .i64 (↑k4 : Int))])
   (fun (gs4 : Unit) (k4 : Nat) (s4 : Unit) => st)
   (fun (gt4 : Unit) (t4 : Unit) => [(3, .int .i64 (↑a0.length : Int)), (4, .sl false 1 24 (rows (slc 1 1 Zx) v1)), (40, .int .i64 (↑a0.length : Int)), (41, .int .i64 (↑k0 : Int))])
   (fun (gt4 : Unit) (t4 : Unit) => st)
   () fx fx.2 h (d6c hsc)
   (fun gs4 k4 s4 b4 fx h hx4 => ?_) (fun gs4 s4 => ?_) (fun gt4 t4 fr1 st1 h hb => ?_)
  ·unfold d2Q at h
   refine ct ?_
   obtain ⟨fx, h⟩ := ck fx h
   refine rn ?_
   refine rng (body := d2R v1 k4 k0) (kk := d2S) (n := a0.length) (s0 := -1)
    (fun (gs5 : Unit) (k5 : Nat) (s5 : Int) => [(3, .int .i64 (↑a0.length : Int)), (4, .sl false 1 24 (rows (slc 1 1 Zx) v1)), (7, .int .i64 (↑k0 : Int)), (8, .int .i64 (↑k4 : Int)), (9, .int .i64 s5), (40, .int .i64 (↑a0.length : Int)), (41, .int .i64 (↑k0 : Int)), (44, .int .i64 (↑k0 : Int)), (45, .int .i64 (↑k4 : Int)), (48, .int .i64 (↑a0.length : Int)), (49, .int .i64 (↑k5 : Int))])
    (fun (gs5 : Unit) (k5 : Nat) (s5 : Int) => st)
    (fun (gt5 : Unit) (t5 : Int) => [(3, .int .i64 (↑a0.length : Int)), (4, .sl false 1 24 (rows (slc 1 1 Zx) v1)), (7, .int .i64 (↑k0 : Int)), (40, .int .i64 (↑a0.length : Int)), (41, .int .i64 (↑k0 : Int)), (44, .int .i64 (↑k0 : Int)), (45, .int .i64 (↑k4 : Int))])
    (fun (gt5 : Unit) (t5 : Int) => st)
    () fx fx.2 h (d6c hsc)
    (fun gs5 k5 s5 b5 fx h hx5 => ?_) (fun gs5 s5 => ?_) (fun gt5 t5 fr1 st1 h hb => ?_)
   ·unfold d2R at h
    refine ct ?_
    obtain ⟨fx, h⟩ := ck fx h
    obtain ⟨fx, h⟩ := ck fx h
    obtain ⟨fx, h⟩ := ck fx h
    refine cd h (fun hc h => ?_) fun hc h => ?_
    ·refine cd h (fun hc h => ?_) fun hc h => ?_
     ·refine rn ?_
      cases h
      exact d6b () (d6c hsc)
     ·obtain ⟨fx, h⟩ := ck fx h
      refine cd h (fun hc h => ?_) fun hc h => ?_
      ·refine ra ?_
       cases h
       refine Za ?_; obtain rfl := hx5 _ rfl; try simp only [go_sem, fx]
       refine Za ?_; obtain rfl := hx4 _ rfl; try simp only [go_sem, fx]
       refine Za ?_; have h := congrArg some (hx0 _ rfl)
       exact rt
      ·refine rn ?_
       cases h
       exact d6b () (d6c hsc)
    ·refine rn ?_
     cases h
     exact d6b () (d6c hsc)
   ·refine cf ?_
    refine d5I ?_; simp only [go_sem, fx]
    exact ⟨(), (d6c hsc)⟩
   ·try simp only [go_sem, fx]
    unfold d2S at h
    refine d1F hb ?_
    refine rn ?_
    cases h
    exact d6b () (d6c hsc)
  ·refine cf ?_
   refine d5I ?_; simp only [go_sem, fx]
   exact ⟨(), (d6c hsc)⟩
  ·try simp only [go_sem, fx]
   unfold d2T at h
   refine d1F hb ?_
   refine rn ?_
   cases h
   exact d6b () (d6c hsc)
 ·refine cf ?_
  refine d5I ?_; simp only [go_sem, fx]
  exact ⟨(), (d6c hsc)⟩
 ·try simp only [go_sem, fx]
  unfold d2U at h
  refine d1F hb ?_
  exact rt
end Go.Proofs.YtgaeiccgdpnkkaaGreatDoor
