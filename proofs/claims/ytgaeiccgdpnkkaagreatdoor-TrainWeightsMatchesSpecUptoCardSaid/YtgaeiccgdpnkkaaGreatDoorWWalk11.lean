import Derived.Test.YtgaeiccgdpnkkaaGreatDoorWWalk10
set_option linter.unusedVariables false
set_option linter.unusedSimpArgs false
set_option maxHeartbeats 2000000
set_option maxRecDepth 100000
namespace Go.Proofs.YtgaeiccgdpnkkaaGreatDoor
open Go Go.Am
theorem d3a (a0 : Bs) (r : Bool) (h : ZL a0 = some r) : Pure Tryz.prog gl 74 [.str a0] (.bool r) := by
 intro st
 unfold ZL at h
 have fx := trivial
 refine fb 54 [.tmp 2] [0, 2, 3, 4, 5, 6, 11, 12, 13, 14, 16, 17, 18, 19, 26, 27, 32, 33, 36, 37, 40, 41, 46, 47, 48, 49, 50, 51, 52] Tryz.func74 fun hsc => ?_
 refine cd h (fun hc h => ?_) fun hc h => ?_
 ·exact rt
 ·obtain ⟨fx, h⟩ := ck fx h
  refine aln 16 fun hl0 => ?_
  refine rng (body := d1F a0) (kk := d1G) (n := (bytesOf a0).length) (s0 := ())
   (fun (gs0 : Unit) (k0 : Nat) (s0 : Unit) => [(16, .sl false 1 1 (rows u8c (bytesOf a0))), (17, .int .i64 (↑((bytesOf a0).length) : Int)), (18, .int .i64 (↑k0 : Int))])
   (fun (gs0 : Unit) (k0 : Nat) (s0 : Unit) => st)
   (fun (gt0 : Unit) (t0 : Unit) => [])
   (fun (gt0 : Unit) (t0 : Unit) => st)
   () fx hl0 h (d4i hsc)
   (fun gs0 k0 s0 b0 fx h hx0 => ?_) (fun gs0 s0 => ?_) (fun gt0 t0 fr1 st1 h hb => ?_)
  ·unfold d1F at h
   refine ct ?_
   refine cd h (fun hc h => ?_) fun hc h => ?_
   ·refine ra ?_
    cases h
    refine XI ?_; have h := congrArg some (hx0 _ rfl)
    exact rt
   ·refine rn ?_
    cases h
    exact d4u () (d4i hsc)
  ·refine cf ?_
   refine d4b ?_; simp only [go_sem, fx]
   exact ⟨(), (d4i hsc)⟩
  ·try simp only [go_sem, fx]
   unfold d1G at h
   refine d0s hb ?_
   exact rt
theorem d6a (a0 : (List WT)) (r : WM) (h : Ym a0 = some r) : Pure Tryz.prog gl 135 [.sl false 2 40 (rows WT.cells a0)] (.agg [.int .i64 r.code, .int .i64 r.index]) := by
 intro st
 unfold Ym at h
 have fx := trivial
 refine fb 90 [.cell 2 41] [0, 2, 3, 4, 6, 7, 8, 13, 14, 15, 16, 18, 19, 20, 21, 28, 33, 34, 35, 36, 43, 53, 57, 58, 59, 60, 67, 68, 69, 70, 76, 77, 78, 79, 80, 81, 82, 83, 84] Tryz.func135 fun hsc => ?_
 refine cd h (fun hc h => ?_) fun hc h => ?_
 ·exact rt
 ·refine aln 0 fun hl0 => ?_
  refine rng (body := ZP a0) (kk := d1o) (n := a0.length) (s0 := ())
   (fun (gs0 : Unit) (k0 : Nat) (s0 : Unit) => [(0, .sl false 2 40 (rows WT.cells a0)), (2, .ptr st.length 0 0 0), (18, .sl false 2 40 (rows WT.cells a0)), (19, .int .i64 (↑a0.length : Int)), (20, .int .i64 (↑k0 : Int))])
   (fun (gs0 : Unit) (k0 : Nat) (s0 : Unit) => st ++ [some (.arr 0 2 0 [[.int .i64 0, .int .i64 0]])])
   (fun (gt0 : Unit) (t0 : Unit) => [(2, .ptr st.length 0 0 0)])
   (fun (gt0 : Unit) (t0 : Unit) => st ++ [some (.arr 0 2 0 [[.int .i64 0, .int .i64 0]])])
   () fx hl0 h (bm hsc)
   (fun gs0 k0 s0 b0 fx h hx0 => ?_) (fun gs0 s0 => ?_) (fun gt0 t0 fr1 st1 h hb => ?_)
  ·unfold ZP at h
   refine ct ?_
   refine cl h (d3a _) fun v10 h => ?_
   refine cd h (fun hc h => ?_) fun hc h => ?_
   ·refine ra ?_
    cases h
    refine XI ?_; have h := congrArg some (hx0 _ rfl)
    exact rt
   ·obtain ⟨fx, h⟩ := ck fx h
    refine aln 33 fun hl3 => ?_
    refine rng (body := YS a0 k0) (kk := ZQ k0 a0) (n := (a0.take k0).length) (s0 := ())
     (fun (gs3 : Unit) (k3 : Nat) (s3 : Unit) => [(0, .sl false 2 40 (rows WT.cells a0)), (2, .ptr st.length 0 0 0), (3, .int .i64 (↑k0 : Int)), (4, .ptr (st.length + 1) 0 0 0), (18, .sl false 2 40 (rows WT.cells a0)), (19, .int .i64 (↑a0.length : Int)), (20, .int .i64 (↑k0 : Int)), (33, .sl false 2 40 (rows WT.cells (a0.take k0))), (34, .int .i64 (↑((a0.take k0).length) : Int)), (35, .int .i64 (↑k3 : Int))])
     (fun (gs3 : Unit) (k3 : Nat) (s3 : Unit) => st ++ [some (.arr 0 2 0 [[.int .i64 0, .int .i64 0]]), some (.arr 0 2 0 [[.str ((get a0 k0).name), .sl false 1 8 (rows XM ((get a0 k0).parents))]])])
     (fun (gt3 : Unit) (t3 : Unit) => [(0, .sl false 2 40 (rows WT.cells a0)), (2, .ptr st.length 0 0 0), (3, .int .i64 (↑k0 : Int)), (4, .ptr (st.length + 1) 0 0 0), (18, .sl false 2 40 (rows WT.cells a0)), (19, .int .i64 (↑a0.length : Int)), (20, .int .i64 (↑k0 : Int))])
     (fun (gt3 : Unit) (t3 : Unit) => st ++ [some (.arr 0 2 0 [[.int .i64 0, .int .i64 0]]), some (.arr 0 2 0 [[.str ((get a0 k0).name), .sl false 1 8 (rows XM ((get a0 k0).parents))]])])
     () fx hl3 h (bm hsc)
     (fun gs3 k3 s3 b3 fx h hx3 => ?_) (fun gs3 s3 => ?_) (fun gt3 t3 fr1 st1 h hb => ?_)
    ·unfold YS at h
     refine ct ?_
     refine cd h (fun hc h => ?_) fun hc h => ?_
     ·refine ra ?_
      cases h
      refine XI ?_; obtain rfl := hx3 _ rfl; try simp only [go_sem, fx]
      refine XI ?_; have h := congrArg some (hx0 _ rfl)
      exact rt
     ·refine rn ?_
      cases h
      exact d4u () (bm hsc)
    ·refine cf ?_
     refine d4b ?_; simp only [go_sem, fx]
     exact ⟨(), (bm hsc)⟩
    ·try simp only [go_sem, fx]
     unfold ZQ at h
     refine d0s hb ?_
     refine cd h (fun hc h => ?_) fun hc h => ?_
     ·refine ra ?_
      cases h
      refine XI ?_; have h := congrArg some (hx0 _ rfl)
      exact rt
     ·refine aln 57 fun hl4 => ?_
      refine rng (body := ZR a0 k0) (kk := ZS) (n := ((get a0 k0).parents).length) (s0 := ())
       (fun (gs4 : Unit) (k4 : Nat) (s4 : Unit) => [(0, .sl false 2 40 (rows WT.cells a0)), (2, .ptr st.length 0 0 0), (3, .int .i64 (↑k0 : Int)), (4, .ptr (st.length + 1) 0 0 0), (18, .sl false 2 40 (rows WT.cells a0)), (19, .int .i64 (↑a0.length : Int)), (20, .int .i64 (↑k0 : Int)), (57, .sl false 1 8 (rows XM ((get a0 k0).parents))), (58, .int .i64 (↑(((get a0 k0).parents).length) : Int)), (59, .int .i64 (↑k4 : Int))])
       (fun (gs4 : Unit) (k4 : Nat) (s4 : Unit) => st ++ [some (.arr 0 2 0 [[.int .i64 0, .int .i64 0]]), some (.arr 0 2 0 [[.str ((get a0 k0).name), .sl false 1 8 (rows XM ((get a0 k0).parents))]])])
       (fun (gt4 : Unit) (t4 : Unit) => [(0, .sl false 2 40 (rows WT.cells a0)), (2, .ptr st.length 0 0 0), (18, .sl false 2 40 (rows WT.cells a0)), (19, .int .i64 (↑a0.length : Int)), (20, .int .i64 (↑k0 : Int))])
       (fun (gt4 : Unit) (t4 : Unit) => st ++ [some (.arr 0 2 0 [[.int .i64 0, .int .i64 0]])])
       () fx hl4 h (bm hsc)
       (fun gs4 k4 s4 b4 fx h hx4 => ?_) (fun gs4 s4 => ?_) (fun gt4 t4 fr1 st1 h hb => ?_)
      ·unfold ZR at h
       refine ct ?_
       refine cd h (fun hc h => ?_) fun hc h => ?_
       ·refine ra ?_
        cases h
        refine XI ?_; obtain rfl := hx4 _ rfl; try simp only [go_sem, fx]
        refine XI ?_; have h := congrArg some (hx0 _ rfl)
        exact rt
       ·obtain ⟨fx, h⟩ := ck fx h
        refine cd h (fun hc h => ?_) fun hc h => ?_
        ·refine ra ?_
         cases h
         refine XI ?_; obtain rfl := hx4 _ rfl; try simp only [go_sem, fx]
         refine XI ?_; have h := congrArg some (hx0 _ rfl)
         exact rt
        ·refine rn ?_
         cases h
         exact d4u () (bm hsc)
      ·refine cf ?_
       refine d4b ?_; simp only [go_sem, fx]
       exact ⟨(), (bm hsc)⟩
      ·try simp only [go_sem, fx]
       unfold ZS at h
       refine d0s hb ?_
       refine rn ?_
       cases h
       exact d4u () (bm hsc)
  ·refine cf ?_
   refine d4b ?_; simp only [go_sem, fx]
   exact ⟨(), (bm hsc)⟩
  ·try simp only [go_sem, fx]
   unfold d1o at h
   refine d0s hb ?_
   exact rt
theorem d8e (n : Nat) (a0 : (List WT)) (r : Int) (h : d1f n a0 = some r) : Pure Tryz.prog gl 136 [.sl false 2 40 (rows WT.cells a0)] (.int .i64 r) := by
 intro st
 unfold d1f at h
 have fx := trivial
 refine fb 83 [.tmp 2] [0, 2, 3, 4, 5, 6, 7, 8, 9, 10, 15, 16, 17, 24, 25, 26, 40, 41, 42, 44, 45, 46, 48, 49, 50, 60, 61, 62, 63, 64, 65, 66, 67, 69, 78] Tryz.func136 fun hsc => ?_
 obtain ⟨v1, hv1, h⟩ := XT h
 unfold i0p at hv1
 obtain ⟨ha, hv1⟩ := p5Z hv1
 obtain ⟨hsub, hv1⟩ := p5Z hv1
 have hv1 := Option.some.inj hv1
 have hl : a0.length ≤ 9223372036854775807 := by unfold top at ha; omega
 have ha2 : a0.length ≤ top := by omega
 obtain ⟨sb, hsb⟩ : ∃ f : Nat → Nat → Bool, f = fun (i j : Nat) => (XJ n a0 (i : Int) (j : Int)).getD false := ⟨_, rfl⟩
 rw [← hsb] at hv1
 have d7P : ∀ i j : Nat, i < a0.length → j < a0.length → XJ n a0 (i : Int) (j : Int) = some (sb i j) := fun i j hi hj => by
  obtain ⟨w, hw⟩ := Option.isSome_iff_exists.1 (List.all_eq_true.1 (List.all_eq_true.1 hsub i (List.mem_range.2 hi)) j (List.mem_range.2 hj))
  rw [hsb]
  show XJ n a0 (i : Int) (j : Int) = some ((XJ n a0 (i : Int) (j : Int)).getD false)
  rw [hw]; rfl
 have fx := fa ha ha2
 refine rn ?_
 have e0 : List.replicate a0.length [D.XC] = d9u st.length a0.length a0.length 0 := p0v.symm
 simp only [e0]
 refine arg_ (ρ := Unit) (body := fun _ (s : Unit) => some (.nxt s)) (kk := fun s => some s) (n := a0.length) (s0 := ()) (e := ())
  (fun (_ : Unit) (k0 : Nat) (_ : Unit) => [(0, .sl false 2 40 (rows WT.cells a0)), (3, .int .i64 (↑a0.length : Int)), (4, .ref true st.length 0 0 a0.length), (15, .int .i64 (↑a0.length : Int)), (16, .int .i64 (↑k0 : Int))])
  (fun (_ : Unit) (k0 : Nat) (_ : Unit) => st ++ (some (.arr 0 1 24 (d9u st.length a0.length a0.length k0)) :: (tf k0 a0.length (pfl sb k0 0)).map (ine XZ 1)))
  (fun (_ : Unit) (_ : Unit) => [(0, .sl false 2 40 (rows WT.cells a0)), (3, .int .i64 (↑a0.length : Int)), (4, .ref true st.length 0 0 a0.length)])
  (fun (_ : Unit) (_ : Unit) => st ++ (some (.arr 0 1 24 (d9u st.length a0.length a0.length a0.length)) :: (tf a0.length a0.length (pfl sb a0.length 0)).map (ine XZ 1)))
  () (i5P _ _) (i4f hsc (by simp [tf]) ⟨.s, .s, .s, .s, .s, trivial⟩ (by simp))
  (fun _ k0 _ b0 hk0 hb0 _ => ?_) (fun _ _ => ?_) (fun _ _ fr1 st1 _ hb => ?_)
 ·cases hb0
  have hw0 : wr .i64 ((↑k0 : Int) + 1) = (↑(k0 + 1) : Int) := p2a hk0 hl
  have eo1 : (d9u st.length a0.length a0.length k0).length = a0.length := d8X (by omega)
  have eo2 : (d9u st.length a0.length a0.length k0).set k0 [.ref true (st.length + (k0 + 1)) 0 0 a0.length] = d9u st.length a0.length a0.length (k0 + 1) := p2g hk0
  have eo3 : (d9u st.length a0.length a0.length k0).getD k0 [] = [.XC] := p2h (Nat.le_refl _) hk0
  have ez : List.replicate a0.length [D.bool false] = rows XZ (rf a0.length fun _ => default) := by rw [← p6k]; simp [rows, XZ]
  have fx := fa fx hw0
  refine ct ?_
  refine r0 ?_
  refine r0 ?_
  refine r0 ?_
  (repeat apply sq_); apply er_; simp only [go_sem, fx, List.length_map, i8i, eo1, eo2, eo3, hk0, Nat.zero_add, ez, p3S, p3W]
  refine ⟨by omega, ?_⟩
  refine rn ?_
  refine arg_ (ρ := Unit) (body := fun _ (s : Unit) => some (.nxt s)) (kk := fun s => some s) (n := a0.length) (s0 := ()) (e := ())
   (fun (_ : Unit) (k1 : Nat) (_ : Unit) => [(0, .sl false 2 40 (rows WT.cells a0)), (3, .int .i64 (↑a0.length : Int)), (4, .ref true st.length 0 0 a0.length), (5, .int .i64 (↑k0 : Int)), (15, .int .i64 (↑a0.length : Int)), (16, .int .i64 (↑k0 : Int)), (24, .int .i64 (↑a0.length : Int)), (25, .int .i64 (↑k1 : Int))])
   (fun (_ : Unit) (k1 : Nat) (_ : Unit) => st ++ (some (.arr 0 1 24 (d9u st.length a0.length a0.length (k0 + 1))) :: (tf (k0 + 1) a0.length (pfl sb k0 k1)).map (ine XZ 1)))
   (fun (_ : Unit) (_ : Unit) => [(0, .sl false 2 40 (rows WT.cells a0)), (3, .int .i64 (↑a0.length : Int)), (4, .ref true st.length 0 0 a0.length), (15, .int .i64 (↑a0.length : Int)), (16, .int .i64 (↑k0 : Int))])
   (fun (_ : Unit) (_ : Unit) => st ++ (some (.arr 0 1 24 (d9u st.length a0.length a0.length (k0 + 1))) :: (tf (k0 + 1) a0.length (pfl sb k0 a0.length)).map (ine XZ 1)))
   () (i5P _ _) ?_
   (fun _ k1 _ b1 hk1 hb1 _ => ?_) (fun _ _ => ?_) (fun _ _ fr2 st2 _ hb2 => ?_)
  ·exact i4f hsc (by simp [tf]) ⟨.s, .s, .s, .s, .s, .s, .s, .s, trivial⟩ (by simp)
  ·cases hb1
   have hw1 : wr .i64 ((↑k1 : Int) + 1) = (↑(k1 + 1) : Int) := p2a hk1 hl
   have g1 : (d9u st.length a0.length a0.length (k0 + 1)).getD k0 [] = [.ref true (st.length + (k0 + 1)) 0 0 a0.length] := i8h (by omega)
   have g2 : (d9u st.length a0.length a0.length (k0 + 1)).length = a0.length := d8X (by omega)
   have l1 : Am.look ((tf (k0 + 1) a0.length (pfl sb k0 k1)).map (ine XZ 1)) k0 = some (.arr 0 1 1 (rows XZ (rf a0.length (pfl sb k0 k1 k0)))) := p2j (by omega)
   have s1 : ∀ v, ((tf (k0 + 1) a0.length (pfl sb k0 k1)).map (ine XZ 1)).set k0 (some (.arr 0 1 1 ((rows XZ (rf a0.length (pfl sb k0 k1 k0))).set k1 [.bool v]))) = (tf (k0 + 1) a0.length (p3T (pfl sb k0 k1) k0 k1 v)).map (ine XZ 1) := fun v => by
    rw [← p3V]; simp [rows, XZ]
   have g3 : (rows XZ (rf a0.length (pfl sb k0 k1 k0))).length = a0.length := by simp [rows, rf]
   have g4 : (rows XZ (rf a0.length (pfl sb k0 k1 k0))).getD k1 [] = [.bool (pfl sb k0 k1 k0 k1)] := by rw [d7q (by rw [p0y]; exact hk1), i8j hk1]; rfl
   have fx := fa fx hw1
   refine ct ?_
   refine r0 ?_
   refine r0 ?_
   refine r0 ?_
   (repeat apply sq_); refine p7Z [2, 3, 8] 0 follows (by kernel_rfl) (by rfl) ?_; simp only [go_sem, List.replicate_zero, fx, hk0, hk1, g1, g2, l1, g3, g4, Nat.zero_add]
   refine Xe (d3w n _ _ _ _ (d7P k0 k1 hk0 hk1)) ?_
   simp only [go_sem, fx, hk0, hk1, g1, g2, l1, g3, g4, Nat.zero_add, s1, p3X]
   try refine ⟨by (simp <;> omega), ?_⟩
   refine rn ?_
   exact d4u () (i4f hsc (by simp [tf]) ⟨.s, .s, .s, .s, .s, .s, .s, .s, trivial⟩ (by simp))
  ·refine cf ?_
   refine d4b ?_; simp only [go_sem, fx]
   exact ⟨(), i4f hsc (by simp [tf]) ⟨.s, .s, .s, .s, .s, trivial⟩ (by simp)⟩
  ·try simp only [go_sem, fx]
   refine d0s hb2 ?_
   simp only [p2k]
   refine rn ?_
   exact d4u () (i4f hsc (by simp [tf]) ⟨.s, .s, .s, .s, .s, trivial⟩ (by simp))
 ·refine cf ?_
  refine d4b ?_; simp only [go_sem, fx]
  exact ⟨(), i4f hsc (by simp [tf]) ⟨.s, .s, .s, trivial⟩ (by simp)⟩
 try simp only [go_sem, fx]
 refine d0s hb ?_
 simp only [p3Y]
 refine d0s (p0x (F := [(0, .sl false 2 40 (rows WT.cells a0)), (3, .int .i64 (↑a0.length : Int)), (4, .sl false 1 24 (rows (slc 1 1 XZ) (tf a0.length a0.length sb)))]) (by decide) hsc p3U i8i (fun _ _ => ⟨.s, .s, .s, trivial⟩) (fun _ _ u => ⟨.s, .s, u, trivial⟩) (by simp) (by simp)) ?_
 rw [hv1]
 obtain ⟨fx, h⟩ := ck fx h
 refine rn ?_
 refine rng (body := d1h a0 v1) (kk := d1m) (n := a0.length) (s0 := ())
  (fun (gs0 : Unit) (k0 : Nat) (s0 : Unit) => [(3, .int .i64 (↑a0.length : Int)), (4, .sl false 1 24 (rows (slc 1 1 XZ) v1)), (40, .int .i64 (↑a0.length : Int)), (41, .int .i64 (↑k0 : Int))])
  (fun (gs0 : Unit) (k0 : Nat) (s0 : Unit) => st)
  (fun (gt0 : Unit) (t0 : Unit) => [])
  (fun (gt0 : Unit) (t0 : Unit) => st)
  () fx fx.2 h (d4i hsc)
  (fun gs0 k0 s0 b0 fx h hx0 => ?_) (fun gs0 s0 => ?_) (fun gt0 t0 fr1 st1 h hb => ?_)
 ·unfold d1h at h
  refine ct ?_
  obtain ⟨fx, h⟩ := ck fx h
  refine rn ?_
  refine rng (body := d1i a0 v1 k0) (kk := d1l) (n := k0) (s0 := ())
   (fun (gs4 : Unit) (k4 : Nat) (s4 : Unit) => [(3, .int .i64 (↑a0.length : Int)), (4, .sl false 1 24 (rows (slc 1 1 XZ) v1)), (7, .int .i64 (↑k0 : Int)), (40, .int .i64 (↑a0.length : Int)), (41, .int .i64 (↑k0 : Int)), (44, .int .i64 (↑k0 : Int)), (45, .int .i64 (↑k4 : Int))])
   (fun (gs4 : Unit) (k4 : Nat) (s4 : Unit) => st)
   (fun (gt4 : Unit) (t4 : Unit) => [(3, .int .i64 (↑a0.length : Int)), (4, .sl false 1 24 (rows (slc 1 1 XZ) v1)), (40, .int .i64 (↑a0.length : Int)), (41, .int .i64 (↑k0 : Int))])
   (fun (gt4 : Unit) (t4 : Unit) => st)
   () fx fx.2 h (d4i hsc)
   (fun gs4 k4 s4 b4 fx h hx4 => ?_) (fun gs4 s4 => ?_) (fun gt4 t4 fr1 st1 h hb => ?_)
  ·unfold d1i at h
   refine ct ?_
   obtain ⟨fx, h⟩ := ck fx h
   refine rn ?_
   refine rng (body := d1j v1 k4 k0) (kk := d1k) (n := a0.length) (s0 := -1)
    (fun (gs5 : Unit) (k5 : Nat) (s5 : Int) => [(3, .int .i64 (↑a0.length : Int)), (4, .sl false 1 24 (rows (slc 1 1 XZ) v1)), (7, .int .i64 (↑k0 : Int)), (8, .int .i64 (↑k4 : Int)), (9, .int .i64 s5), (40, .int .i64 (↑a0.length : Int)), (41, .int .i64 (↑k0 : Int)), (44, .int .i64 (↑k0 : Int)), (45, .int .i64 (↑k4 : Int)), (48, .int .i64 (↑a0.length : Int)), (49, .int .i64 (↑k5 : Int))])
    (fun (gs5 : Unit) (k5 : Nat) (s5 : Int) => st)
    (fun (gt5 : Unit) (t5 : Int) => [(3, .int .i64 (↑a0.length : Int)), (4, .sl false 1 24 (rows (slc 1 1 XZ) v1)), (7, .int .i64 (↑k0 : Int)), (40, .int .i64 (↑a0.length : Int)), (41, .int .i64 (↑k0 : Int)), (44, .int .i64 (↑k0 : Int)), (45, .int .i64 (↑k4 : Int))])
    (fun (gt5 : Unit) (t5 : Int) => st)
    () fx fx.2 h (d4i hsc)
    (fun gs5 k5 s5 b5 fx h hx5 => ?_) (fun gs5 s5 => ?_) (fun gt5 t5 fr1 st1 h hb => ?_)
   ·unfold d1j at h
    refine ct ?_
    obtain ⟨fx, h⟩ := ck fx h
    obtain ⟨fx, h⟩ := ck fx h
    obtain ⟨fx, h⟩ := ck fx h
    refine cd h (fun hc h => ?_) fun hc h => ?_
    ·refine cd h (fun hc h => ?_) fun hc h => ?_
     ·refine rn ?_
      cases h
      exact d4u () (d4i hsc)
     ·obtain ⟨fx, h⟩ := ck fx h
      refine cd h (fun hc h => ?_) fun hc h => ?_
      ·refine ra ?_
       cases h
       refine XI ?_; obtain rfl := hx5 _ rfl; try simp only [go_sem, fx]
       refine XI ?_; obtain rfl := hx4 _ rfl; try simp only [go_sem, fx]
       refine XI ?_; have h := congrArg some (hx0 _ rfl)
       exact rt
      ·refine rn ?_
       cases h
       exact d4u () (d4i hsc)
    ·refine rn ?_
     cases h
     exact d4u () (d4i hsc)
   ·refine cf ?_
    refine d4b ?_; simp only [go_sem, fx]
    exact ⟨(), (d4i hsc)⟩
   ·try simp only [go_sem, fx]
    unfold d1k at h
    refine d0s hb ?_
    refine rn ?_
    cases h
    exact d4u () (d4i hsc)
  ·refine cf ?_
   refine d4b ?_; simp only [go_sem, fx]
   exact ⟨(), (d4i hsc)⟩
  ·try simp only [go_sem, fx]
   unfold d1l at h
   refine d0s hb ?_
   refine rn ?_
   cases h
   exact d4u () (d4i hsc)
 ·refine cf ?_
  refine d4b ?_; simp only [go_sem, fx]
  exact ⟨(), (d4i hsc)⟩
 ·try simp only [go_sem, fx]
  unfold d1m at h
  refine d0s hb ?_
  exact rt
end Go.Proofs.YtgaeiccgdpnkkaaGreatDoor
