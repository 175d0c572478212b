/-
  Each Go function of this part does what its plain Lean function says.
-/
import Derived.Test.YtaohdfpcdfbnlaaDoorBase
import Derived.Test.YtaohdfpcdfbnlaaDoorHand
import Derived.Test.YtaohdfpcdfbnlaaDoorMirrors
set_option linter.unusedVariables false
set_option linter.unusedSimpArgs false
namespace Go.Proofs.YtaohdfpcdfbnlaaDoor
open Go Go.Am

set_option maxHeartbeats 2000000 in
set_option maxRecDepth 100000 in
theorem ok_hierarchyFault (a0 : Int) (a1 : Int) (r : ApiFault) (h : hierarchyFault a0 a1 = some r) : Pure Tryd.prog gl 42 [.int .i64 a0, .int .i64 a1] (.agg [.int .i64 r.code, .int .i64 r.index]) := by
  intro st
  unfold hierarchyFault at h
  refine spec_fb (N := 8) (rs := [.cell 4 41]) (keep := [0, 1, 4]) Tryd.func42 rfl rfl rfl (by kernel_rfl) rfl fun hsc => ?_
  (repeat refine awp_seq ?_); refine ev_region ?_; simp only [go_sem]
  (repeat refine awp_seq ?_); refine ev_region ?_; simp only [go_sem]
  (repeat refine awp_seq ?_); refine awp_ret ?_
  try simp only [go_sem]
  have hr := Option.some.inj h
  refine finb_of ?_; simp only [go_sem]
  exact fin_old' (d' := .agg [.int .i64 a0, .int .i64 a1]) hsc (.same _) (by simp) ⟨by subst hr; rfl, rfl⟩

set_option maxHeartbeats 2000000 in
set_option maxRecDepth 100000 in
theorem ok_termName (a0 : Bs) (r : Bool) (h : termName a0 = some r) : Pure Tryd.prog gl 31 [.str a0] (.bool r) := by
  intro st
  unfold termName at h
  refine spec_fb (N := 55) (rs := [.tmp 2]) (keep := [0, 2, 3, 4, 9, 10, 11, 14, 15, 16, 19, 20, 21, 22, 24, 25, 26, 34, 35, 38, 39, 40, 41, 42, 43, 46, 47, 50, 51, 53]) Tryd.func31 rfl rfl rfl (by kernel_rfl) rfl fun hsc => ?_
  (repeat refine awp_seq ?_); refine ev_region ?_; simp only [go_sem]
  obtain ⟨f2, h⟩ := chk_some h
  obtain ⟨f4, h⟩ := chk_some h
  (repeat refine awp_seq ?_); refine ev_region ?_; simp only [go_sem, f2, f4]
  (repeat refine awp_seq ?_); refine awp_cond (by rfl) (fun hc => ?_) fun hc => ?_
  · replace h := cond_t h (by first | exact hc | simpa using hc)
    (repeat refine awp_seq ?_); refine ev_region ?_; simp only [go_sem, f2, f4]
    (repeat refine awp_seq ?_); refine awp_ret ?_
    try simp only [go_sem, f2, f4]
    have hr := Option.some.inj h
    refine finb_of ?_; simp only [go_sem, f2, f4]
    exact fin_same' (d' := .bool false) hsc (.same _) (by simp) ⟨by subst hr; rfl, rfl⟩
  · replace h := cond_f h (by first | exact hc | simpa using hc)
    refine awp_skip ?_; try simp only [go_sem, f2, f4]
    (repeat refine awp_seq ?_); refine ev_region ?_; simp only [go_sem, f2, f4]
    obtain ⟨f5, h⟩ := chk_some h
    (repeat refine awp_seq ?_); refine awp_range (body := termName_b0 a0) (kk := termName_a0) (n := a0.length) (s0 := ())
      (fun (gs0 : Unit) (k0 : Nat) (s0 : Unit) => [(0, .str a0), (24, .int .i64 (↑a0.length : Int)), (25, .int .i64 (↑k0 : Int))])
      (fun (gs0 : Unit) (k0 : Nat) (s0 : Unit) => st)
      (fun (gt0 : Unit) (t0 : Unit) => [])
      (fun (gt0 : Unit) (t0 : Unit) => st)
      () h (bks_mk00 hsc ⟨.same _, .same _, .same _, trivial⟩ (by simp))
      (fun gs0 k0 s0 b0 hk0 h hx0 => ?_) (fun gs0 s0 => ?_) (fun gt0 t0 fr1 st1 h hb => ?_)
    · unfold termName_b0 at h
      have hw0 : wr .i64 ((↑k0 : Int) + 1) = (↑(k0 + 1) : Int) := wr_le hk0 f5
      (repeat refine awp_seq ?_); refine ev_region ?_; simp only [go_sem, f2, f4, f5]
      (repeat refine awp_seq ?_); refine awp_cond (by rfl) (fun hc => ?_) fun hc => ?_
      · refine awp_skip ?_; try simp only [go_sem, f2, f4, f5]
        (repeat refine awp_seq ?_); refine awp_block ?_
        (repeat refine awp_seq ?_); refine ev_region ?_; simp only [go_sem, f2, f4, f5, hk0, hw0]
        (repeat refine awp_seq ?_); refine ev_region ?_; simp only [go_sem, f2, f4, f5, hk0, hw0]
        (repeat refine awp_seq ?_); refine ev_region ?_; simp only [go_sem, f2, f4, f5, hk0, hw0]
        (repeat refine awp_seq ?_); refine awp_cond (by rfl) (fun hc => ?_) fun hc => ?_
        · replace h := cond_t h (by first | exact hc | simpa using hc)
          (repeat refine awp_seq ?_); refine ev_region ?_; simp only [go_sem, f2, f4, f5, hk0, hw0]
          (repeat refine awp_seq ?_); refine awp_ret ?_
          try simp only [go_sem, f2, f4, f5, hk0, hw0]
          obtain rfl := Option.some.inj h
          refine pbr_ret ?_; have hr := hx0 _ rfl; try simp only [go_sem, f2, f4, f5, hk0, hw0]
          refine finb_of ?_; simp only [go_sem, f2, f4, f5, hk0, hw0]
          exact fin_same' (d' := .bool false) hsc (.same _) (by simp) ⟨by subst hr; rfl, rfl⟩
        · replace h := cond_f h (by first | exact hc | simpa using hc)
          refine awp_skip ?_; try simp only [go_sem, f2, f4, f5, hk0, hw0]
          (repeat refine awp_seq ?_); refine ev_region ?_; simp only [go_sem, f2, f4, f5, hk0, hw0]
          cases h
          exact pbr_nxt () (bks_mk00 hsc ⟨.same _, .same _, .same _, trivial⟩ (by simp))
      · exfalso; have hc := of_decide_eq_false hc; omega
    · (repeat refine awp_seq ?_); refine ev_region ?_; simp only [go_sem, f2, f4, f5]
      (repeat refine awp_seq ?_); refine awp_cond (by rfl) (fun hc => ?_) fun hc => ?_
      · exfalso; first | exact Bool.noConfusion hc | (have hc := of_decide_eq_true hc; omega)
      · refine awp_exit ?_; simp only [go_sem, f2, f4, f5]
        exact ⟨(), (bks_mk00 hsc trivial (by simp))⟩
    · try simp only [go_sem, f2, f4, f5]
      unfold termName_a0 at h
      refine awp_bks hb ?_
      (repeat refine awp_seq ?_); refine ev_region ?_; simp only [go_sem, f2, f4, f5]
      (repeat refine awp_seq ?_); refine awp_ret ?_
      try simp only [go_sem, f2, f4, f5]
      have hr := Option.some.inj h
      refine finb_of ?_; simp only [go_sem, f2, f4, f5]
      exact fin_same' (d' := .bool true) hsc (.same _) (by simp) ⟨by subst hr; rfl, rfl⟩

set_option maxHeartbeats 2000000 in
set_option maxRecDepth 100000 in
theorem ok_hierarchyTypes (a0 : (List ApiType)) (r : ApiFault) (h : hierarchyTypes a0 = some r) : Pure Tryd.prog gl 43 [.sl false 2 40 (rows ApiType.cells a0)] (.agg [.int .i64 r.code, .int .i64 r.index]) := by
  intro st
  unfold hierarchyTypes at h
  refine spec_fb (N := 82) (rs := [.cell 2 41]) (keep := [0, 2, 3, 4, 5, 7, 8, 10, 15, 16, 17, 18, 21, 22, 23, 24, 31, 41, 54, 58, 59, 60, 61, 67, 68, 69, 70, 75]) Tryd.func43 rfl rfl rfl (by kernel_rfl) rfl fun hsc => ?_
  (repeat refine awp_seq ?_); refine ev_region ?_; simp only [go_sem]
  (repeat refine awp_seq ?_); refine ev_region ?_; simp only [go_sem]
  (repeat refine awp_seq ?_); refine awp_cond (by rfl) (fun hc => ?_) fun hc => ?_
  · replace h := cond_t h (by first | exact hc | simpa using hc)
    (repeat refine awp_seq ?_); refine ev_region ?_; simp only [go_sem]
    obtain ⟨v1, hv1, h⟩ := bind_some h
    refine ((ok_hierarchyFault _ _ _ hv1)).to ?_
    try simp only [go_sem]
    (repeat refine awp_seq ?_); refine awp_ret ?_
    try simp only [go_sem]
    have hr := Option.some.inj h
    refine finb_of ?_; simp only [go_sem]
    exact fin_old' (d' := .agg [.int .i64 v1.code, .int .i64 v1.index]) hsc (.same _) (by simp) ⟨by subst hr; rfl, rfl⟩
  · replace h := cond_f h (by first | exact hc | simpa using hc)
    refine awp_skip ?_; try simp only [go_sem]
    (repeat refine awp_seq ?_); refine ev_region ?_; simp only [go_sem]
    (repeat refine awp_seq ?_); refine ev_region ?_; simp only [go_sem]
    (repeat refine awp_seq ?_); refine awp_len (t := 21) rfl fun hl0 => ?_
    simp only [rows_len] at hl0
    (repeat refine awp_seq ?_); refine awp_range (body := hierarchyTypes_b0 a0) (kk := hierarchyTypes_a0) (n := a0.length) (s0 := [])
      (fun (gs0 : Unit) (k0 : Nat) (s0 : (List (Bs × Int))) => [(2, .ptr st.length 0 0 0), (3, .mp (st.length + 1)), (21, .sl false 2 40 (rows ApiType.cells a0)), (22, .int .i64 (↑a0.length : Int)), (23, .int .i64 (↑k0 : Int))])
      (fun (gs0 : Unit) (k0 : Nat) (s0 : (List (Bs × Int))) => st ++ [some (.arr 0 2 0 [[.int .i64 0, .int .i64 0]]), some (.mps false (mrw i64c s0))])
      (fun (gt0 : Unit) (t0 : (List (Bs × Int))) => [(2, .ptr st.length 0 0 0)])
      (fun (gt0 : Unit) (t0 : (List (Bs × Int))) => st ++ [some (.arr 0 2 0 [[.int .i64 0, .int .i64 0]])])
      () h (bks_mk hsc (.live _ _ _ _ (.same _) (.live _ _ _ _ (.same _) (.nil _))) (by simp) ⟨.same _, .same _, .same _, .same _, .same _, trivial⟩ (by simp))
      (fun gs0 k0 s0 b0 hk0 h hx0 => ?_) (fun gs0 s0 => ?_) (fun gt0 t0 fr1 st1 h hb => ?_)
    · unfold hierarchyTypes_b0 at h
      have hw0 : wr .i64 ((↑k0 : Int) + 1) = (↑(k0 + 1) : Int) := wr_succ hk0 hl0 (by decide)
      (repeat refine awp_seq ?_); refine ev_region ?_; simp only [go_sem]
      (repeat refine awp_seq ?_); refine awp_cond (by rfl) (fun hc => ?_) fun hc => ?_
      · refine awp_skip ?_; try simp only [go_sem]
        (repeat refine awp_seq ?_); refine awp_block ?_
        (repeat refine awp_seq ?_); refine ev_region ?_; simp only [go_sem, hk0, hw0]
        (repeat refine awp_seq ?_); refine ev_region ?_; simp only [go_sem, hk0, hw0]
        obtain ⟨v12, hv12, h⟩ := bind_some h
        refine ((ok_termName _ _ hv12)).to ?_
        try simp only [go_sem, hk0, hw0]
        (repeat refine awp_seq ?_); refine awp_cond (by rfl) (fun hc => ?_) fun hc => ?_
        · replace h := cond_t h (by first | exact hc | simpa using hc)
          (repeat refine awp_seq ?_); refine ev_region ?_; simp only [go_sem, hk0, hw0]
          obtain ⟨v13, hv13, h⟩ := bind_some h
          refine ((ok_hierarchyFault _ _ _ hv13)).to ?_
          try simp only [go_sem, hk0, hw0]
          (repeat refine awp_seq ?_); refine awp_ret ?_
          try simp only [go_sem, hk0, hw0]
          obtain rfl := Option.some.inj h
          refine pbr_ret ?_; have hr := hx0 _ rfl; try simp only [go_sem, hk0, hw0]
          refine finb_of ?_; simp only [go_sem, hk0, hw0]
          exact fin_old' (d' := .agg [.int .i64 v13.code, .int .i64 v13.index]) hsc (.same _) (by simp) ⟨by subst hr; rfl, rfl⟩
        · replace h := cond_f h (by first | exact hc | simpa using hc)
          refine awp_skip ?_; try simp only [go_sem, hk0, hw0]
          (repeat refine awp_seq ?_); refine ev_region ?_; simp only [go_sem, hk0, hw0]
          (repeat refine awp_seq ?_); refine ev_region ?_; simp only [go_sem, hk0, hw0]
          (repeat refine awp_seq ?_); refine awp_cond (by rfl) (fun hc => ?_) fun hc => ?_
          · replace h := cond_t h (by first | exact hc | simpa using hc)
            (repeat refine awp_seq ?_); refine ev_region ?_; simp only [go_sem, hk0, hw0]
            obtain ⟨v14, hv14, h⟩ := bind_some h
            refine ((ok_hierarchyFault _ _ _ hv14)).to ?_
            try simp only [go_sem, hk0, hw0]
            (repeat refine awp_seq ?_); refine awp_ret ?_
            try simp only [go_sem, hk0, hw0]
            obtain rfl := Option.some.inj h
            refine pbr_ret ?_; have hr := hx0 _ rfl; try simp only [go_sem, hk0, hw0]
            refine finb_of ?_; simp only [go_sem, hk0, hw0]
            exact fin_old' (d' := .agg [.int .i64 v14.code, .int .i64 v14.index]) hsc (.same _) (by simp) ⟨by subst hr; rfl, rfl⟩
          · replace h := cond_f h (by first | exact hc | simpa using hc)
            refine awp_skip ?_; try simp only [go_sem, hk0, hw0]
            obtain ⟨c15, hc15, h⟩ := let_some h
            have e16 : assocSet ((get a0 k0).name) [.int .i64 (↑k0 : Int)] (mrw i64c s0) = mrw i64c c15 := by rw [hc15]; exact mrw_set (E := i64c) _ _ _
            (repeat refine awp_seq ?_); refine ev_region ?_; simp only [go_sem, hk0, hw0, e16]
            (repeat refine awp_seq ?_); refine ev_region ?_; simp only [go_sem, hk0, hw0]
            (repeat refine awp_seq ?_); refine awp_cond (by rfl) (fun hc => ?_) fun hc => ?_
            · replace h := cond_t h (by first | exact hc | simpa using hc)
              (repeat refine awp_seq ?_); refine ev_region ?_; simp only [go_sem, hk0, hw0]
              obtain ⟨v17, hv17, h⟩ := bind_some h
              refine ((ok_hierarchyFault _ _ _ hv17)).to ?_
              try simp only [go_sem, hk0, hw0]
              (repeat refine awp_seq ?_); refine awp_ret ?_
              try simp only [go_sem, hk0, hw0]
              obtain rfl := Option.some.inj h
              refine pbr_ret ?_; have hr := hx0 _ rfl; try simp only [go_sem, hk0, hw0]
              refine finb_of ?_; simp only [go_sem, hk0, hw0]
              exact fin_old' (d' := .agg [.int .i64 v17.code, .int .i64 v17.index]) hsc (.same _) (by simp) ⟨by subst hr; rfl, rfl⟩
            · replace h := cond_f h (by first | exact hc | simpa using hc)
              refine awp_skip ?_; try simp only [go_sem, hk0, hw0]
              (repeat refine awp_seq ?_); refine ev_region ?_; simp only [go_sem, hk0, hw0]
              (repeat refine awp_seq ?_); refine ev_region ?_; simp only [go_sem, hk0, hw0]
              (repeat refine awp_seq ?_); refine awp_len (t := 58) rfl fun hl2 => ?_
              simp only [rows_len] at hl2
              (repeat refine awp_seq ?_); refine awp_range (body := hierarchyTypes_b2 a0 k0) (kk := hierarchyTypes_a2 c15) (n := ((get a0 k0).parents).length) (s0 := -1)
                (fun (gs2 : Unit) (k2 : Nat) (s2 : Int) => [(2, .ptr st.length 0 0 0), (3, .mp (st.length + 1)), (4, .int .i64 (↑k0 : Int)), (8, .int .i64 s2), (21, .sl false 2 40 (rows ApiType.cells a0)), (22, .int .i64 (↑a0.length : Int)), (23, .int .i64 (↑k0 : Int)), (58, .sl false 1 8 (rows i64c ((get a0 k0).parents))), (59, .int .i64 (↑(((get a0 k0).parents).length) : Int)), (60, .int .i64 (↑k2 : Int))])
                (fun (gs2 : Unit) (k2 : Nat) (s2 : Int) => st ++ [some (.arr 0 2 0 [[.int .i64 0, .int .i64 0]]), some (.mps false (mrw i64c c15))])
                (fun (gt2 : Unit) (t2 : Int) => [(2, .ptr st.length 0 0 0), (3, .mp (st.length + 1)), (21, .sl false 2 40 (rows ApiType.cells a0)), (22, .int .i64 (↑a0.length : Int)), (23, .int .i64 (↑k0 : Int))])
                (fun (gt2 : Unit) (t2 : Int) => st ++ [some (.arr 0 2 0 [[.int .i64 0, .int .i64 0]]), some (.mps false (mrw i64c c15))])
                () h (bks_mk hsc (.live _ _ _ _ (.same _) (.live _ _ _ _ (.same _) (.nil _))) (by simp) ⟨.same _, .same _, .same _, .same _, .same _, .same _, .same _, .same _, .same _, .same _, trivial⟩ (by simp))
                (fun gs2 k2 s2 b2 hk2 h hx2 => ?_) (fun gs2 s2 => ?_) (fun gt2 t2 fr1 st1 h hb => ?_)
              · unfold hierarchyTypes_b2 at h
                have hw2 : wr .i64 ((↑k2 : Int) + 1) = (↑(k2 + 1) : Int) := wr_succ hk2 hl2 (by decide)
                (repeat refine awp_seq ?_); refine ev_region ?_; simp only [go_sem, hk0, hw0]
                (repeat refine awp_seq ?_); refine awp_cond (by rfl) (fun hc => ?_) fun hc => ?_
                · refine awp_skip ?_; try simp only [go_sem, hk0, hw0]
                  (repeat refine awp_seq ?_); refine awp_block ?_
                  (repeat refine awp_seq ?_); refine ev_region ?_; simp only [go_sem, hk0, hw0, hk2, hw2]
                  (repeat refine awp_seq ?_); refine ev_region ?_; simp only [go_sem, hk0, hw0, hk2, hw2]
                  (repeat refine awp_seq ?_); refine awp_cond (by rfl) (fun hc => ?_) fun hc => ?_
                  · replace h := cond_t h (by first | exact hc | simpa using hc)
                    (repeat refine awp_seq ?_); refine ev_region ?_; simp only [go_sem, hk0, hw0, hk2, hw2]
                    obtain ⟨v20, hv20, h⟩ := bind_some h
                    refine ((ok_hierarchyFault _ _ _ hv20)).to ?_
                    try simp only [go_sem, hk0, hw0, hk2, hw2]
                    (repeat refine awp_seq ?_); refine awp_ret ?_
                    try simp only [go_sem, hk0, hw0, hk2, hw2]
                    obtain rfl := Option.some.inj h
                    refine pbr_ret ?_; obtain rfl := hx2 _ rfl; try simp only [go_sem, hk0, hw0, hk2, hw2]
                    refine pbr_ret ?_; have hr := hx0 _ rfl; try simp only [go_sem, hk0, hw0, hk2, hw2]
                    refine finb_of ?_; simp only [go_sem, hk0, hw0, hk2, hw2]
                    exact fin_old' (d' := .agg [.int .i64 v20.code, .int .i64 v20.index]) hsc (.same _) (by simp) ⟨by subst hr; rfl, rfl⟩
                  · replace h := cond_f h (by first | exact hc | simpa using hc)
                    refine awp_skip ?_; try simp only [go_sem, hk0, hw0, hk2, hw2]
                    (repeat refine awp_seq ?_); refine ev_region ?_; simp only [go_sem, hk0, hw0, hk2, hw2]
                    (repeat refine awp_seq ?_); refine awp_cond (by rfl) (fun hc => ?_) fun hc => ?_
                    · replace h := cond_t h (by first | exact hc | simpa using hc)
                      (repeat refine awp_seq ?_); refine ev_region ?_; simp only [go_sem, hk0, hw0, hk2, hw2]
                      obtain ⟨v21, hv21, h⟩ := bind_some h
                      refine ((ok_hierarchyFault _ _ _ hv21)).to ?_
                      try simp only [go_sem, hk0, hw0, hk2, hw2]
                      (repeat refine awp_seq ?_); refine awp_ret ?_
                      try simp only [go_sem, hk0, hw0, hk2, hw2]
                      obtain rfl := Option.some.inj h
                      refine pbr_ret ?_; obtain rfl := hx2 _ rfl; try simp only [go_sem, hk0, hw0, hk2, hw2]
                      refine pbr_ret ?_; have hr := hx0 _ rfl; try simp only [go_sem, hk0, hw0, hk2, hw2]
                      refine finb_of ?_; simp only [go_sem, hk0, hw0, hk2, hw2]
                      exact fin_old' (d' := .agg [.int .i64 v21.code, .int .i64 v21.index]) hsc (.same _) (by simp) ⟨by subst hr; rfl, rfl⟩
                    · replace h := cond_f h (by first | exact hc | simpa using hc)
                      refine awp_skip ?_; try simp only [go_sem, hk0, hw0, hk2, hw2]
                      (repeat refine awp_seq ?_); refine ev_region ?_; simp only [go_sem, hk0, hw0, hk2, hw2]
                      (repeat refine awp_seq ?_); refine ev_region ?_; simp only [go_sem, hk0, hw0, hk2, hw2]
                      cases h
                      exact pbr_nxt () (bks_mk hsc (.live _ _ _ _ (.same _) (.live _ _ _ _ (.same _) (.nil _))) (by simp) ⟨.same _, .same _, .same _, .same _, .same _, .same _, .same _, .same _, .same _, .same _, trivial⟩ (by simp))
                · exfalso; have hc := of_decide_eq_false hc; omega
              · (repeat refine awp_seq ?_); refine ev_region ?_; simp only [go_sem, hk0, hw0]
                (repeat refine awp_seq ?_); refine awp_cond (by rfl) (fun hc => ?_) fun hc => ?_
                · exfalso; first | exact Bool.noConfusion hc | (have hc := of_decide_eq_true hc; omega)
                · refine awp_exit ?_; simp only [go_sem, hk0, hw0]
                  exact ⟨(), (bks_mk hsc (.live _ _ _ _ (.same _) (.live _ _ _ _ (.same _) (.nil _))) (by simp) ⟨.same _, .same _, .same _, .same _, .same _, trivial⟩ (by simp))⟩
              · try simp only [go_sem, hk0, hw0]
                unfold hierarchyTypes_a2 at h
                refine awp_bks hb ?_
                (repeat refine awp_seq ?_); refine ev_region ?_; simp only [go_sem, hk0, hw0]
                cases h
                exact pbr_nxt () (bks_mk hsc (.live _ _ _ _ (.same _) (.live _ _ _ _ (.same _) (.nil _))) (by simp) ⟨.same _, .same _, .same _, .same _, .same _, trivial⟩ (by simp))
      · exfalso; have hc := of_decide_eq_false hc; omega
    · (repeat refine awp_seq ?_); refine ev_region ?_; simp only [go_sem]
      (repeat refine awp_seq ?_); refine awp_cond (by rfl) (fun hc => ?_) fun hc => ?_
      · exfalso; first | exact Bool.noConfusion hc | (have hc := of_decide_eq_true hc; omega)
      · refine awp_exit ?_; simp only [go_sem]
        exact ⟨(), (bks_mk hsc (.live _ _ _ _ (.same _) (.nil _)) (by simp) ⟨.same _, trivial⟩ (by simp))⟩
    · try simp only [go_sem]
      unfold hierarchyTypes_a0 at h
      refine awp_bks hb ?_
      (repeat refine awp_seq ?_); refine ev_region ?_; simp only [go_sem]
      (repeat refine awp_seq ?_); refine awp_ret ?_
      try simp only [go_sem]
      have hr := Option.some.inj h
      refine finb_of ?_; simp only [go_sem]
      exact fin_old' (d' := .agg [.int .i64 0, .int .i64 0]) hsc (.same _) (by simp) ⟨by subst hr; rfl, rfl⟩

set_option maxHeartbeats 2000000 in
set_option maxRecDepth 100000 in
theorem ok_hierarchyTables (a0 : (List ApiType)) (r : HierarchyTable) (h : hierarchyTables a0 = some r) : Pure Tryd.prog gl 30 [.sl false 2 40 (rows ApiType.cells a0)] (.agg [.sl false 1 8 (rows u64c r.up), .sl false 1 8 (rows u64c r.down)]) := by
  intro st
  unfold hierarchyTables at h
  refine spec_fb (N := 75) (rs := [.cell 2 91]) (keep := [0, 2, 3, 4, 5, 7, 8, 16, 17, 18, 19, 30, 31, 32, 33, 50, 51, 52, 62]) Tryd.func30 rfl rfl rfl (by kernel_rfl) rfl fun hsc => ?_
  (repeat refine awp_seq ?_); refine ev_region ?_; simp only [go_sem]
  obtain ⟨⟨f1, f2⟩, h⟩ := chk_some h
  have e3 : List.replicate a0.length [.int .u64 0] = rows u64c (List.replicate a0.length (default : Int)) := rows_rep (E := u64c) _ default
  have e4 : List.replicate a0.length [.int .u64 0] = rows u64c (List.replicate a0.length (default : Int)) := rows_rep (E := u64c) _ default
  (repeat refine awp_seq ?_); refine ev_draw_region [] 3 follows (by kernel_rfl) (by rfl) ?_; simp only [go_sem, List.replicate_succ, List.replicate_zero, f1, f2, e3, e4]
  (repeat refine awp_seq ?_); refine ev_region ?_; simp only [go_sem, f1, f2]
  (repeat refine awp_seq ?_); refine awp_len (t := 0) rfl fun hl0 => ?_
  simp only [rows_len] at hl0
  (repeat refine awp_seq ?_); refine awp_range (body := hierarchyTables_b0 a0) (kk := hierarchyTables_a0) (n := a0.length) (s0 := ((List.replicate a0.length (default : Int)), (List.replicate a0.length (default : Int))))
    (fun (gs0 : Nat × Nat) (k0 : Nat) (s0 : (List Int) × (List Int)) => [(0, .sl false 2 40 (rows ApiType.cells a0)), (2, .ptr st.length 0 0 0), (3, .ptr (st.length + 3) 0 0 0), (16, .sl false 2 40 (rows ApiType.cells a0)), (17, .int .i64 (↑a0.length : Int)), (18, .int .i64 (↑k0 : Int))])
    (fun (gs0 : Nat × Nat) (k0 : Nat) (s0 : (List Int) × (List Int)) => st ++ [some (.arr 0 2 0 [[.nils, .nils]]), some (.arr gs0.1 1 8 (rows u64c s0.1)), some (.arr gs0.2 1 8 (rows u64c s0.2)), some (.arr 0 2 0 [[.ref true (st.length + 1) gs0.1 0 s0.1.length, .ref true (st.length + 2) gs0.2 0 s0.2.length]])])
    (fun (gt0 : Nat × Nat) (t0 : (List Int) × (List Int)) => [(2, .ptr st.length 0 0 0), (3, .ptr (st.length + 3) 0 0 0)])
    (fun (gt0 : Nat × Nat) (t0 : (List Int) × (List Int)) => st ++ [some (.arr 0 2 0 [[.nils, .nils]]), some (.arr gt0.1 1 8 (rows u64c t0.1)), some (.arr gt0.2 1 8 (rows u64c t0.2)), some (.arr 0 2 0 [[.ref true (st.length + 1) gt0.1 0 t0.1.length, .ref true (st.length + 2) gt0.2 0 t0.2.length]])])
    (0, 0) h (bks_mk hsc (.live _ _ _ _ (.same _) (.live _ _ _ _ (.same _) (.live _ _ _ _ (.same _) (.live _ _ _ _ (.arr _ _ _ _ _ (.cons _ _ _ _ (.cons _ _ _ _ (up_eq (by simp)) (.cons _ _ _ _ (up_eq (by simp)) .nil)) (.same _))) (.nil _))))) (by simp) ⟨.same _, .same _, .same _, .same _, .same _, .same _, trivial⟩ (by simp))
    (fun gs0 k0 s0 b0 hk0 h hx0 => ?_) (fun gs0 s0 => ?_) (fun gt0 t0 fr1 st1 h hb => ?_)
  · unfold hierarchyTables_b0 at h
    have hw0 : wr .i64 ((↑k0 : Int) + 1) = (↑(k0 + 1) : Int) := wr_succ hk0 hl0 (by decide)
    (repeat refine awp_seq ?_); refine ev_region ?_; simp only [go_sem, f1, f2]
    (repeat refine awp_seq ?_); refine awp_cond (by rfl) (fun hc => ?_) fun hc => ?_
    · refine awp_skip ?_; try simp only [go_sem, f1, f2]
      (repeat refine awp_seq ?_); refine awp_block ?_
      (repeat refine awp_seq ?_); refine ev_region ?_; simp only [go_sem, f1, f2, hk0, hw0]
      obtain ⟨f58, h⟩ := chk_some h
      obtain ⟨f59, h⟩ := chk_some h
      have e60 : (rows u64c s0.1).getD k0 [] = u64c (get s0.1 k0) := rows_get (E := u64c) (l := s0.1) (k := k0) (by first | omega | (simp; omega))
      have e61 : k0 < s0.1.length := by first | omega | (simp; omega)
      obtain ⟨c62, hc62, h⟩ := let_some h
      have e63 : (rows u64c s0.1).set k0 [.int .u64 (wr .u64 (1 * 2 ^ (min k0 64)))] = rows u64c c62 := by rw [hc62]; first | exact rows_set (E := u64c) _ _ _ | simp only [go_sem, rows, List.map_set]
      (repeat refine awp_seq ?_); refine ev_draw_region [] 0 follows (by kernel_rfl) (by rfl) ?_; simp only [go_sem, List.replicate_succ, List.replicate_zero, f1, f2, hk0, hw0, f58, f59, e60, e61, e63]
      have e64 : D.ref true (st.length + 1) gs0.1 0 s0.1.length = D.ref true (st.length + 1) gs0.1 0 c62.length := by simp [hc62]
      simp only [e64]
      (repeat refine awp_seq ?_); refine ev_region ?_; simp only [go_sem, f1, f2, hk0, hw0, f58, f59]
      (repeat refine awp_seq ?_); refine awp_len (t := 30) rfl fun hl3 => ?_
      simp only [rows_len] at hl3
      (repeat refine awp_seq ?_); refine awp_range (body := hierarchyTables_b3 k0 a0) (kk := hierarchyTables_a3 k0 a0 s0) (n := ((get a0 k0).parents).length) (s0 := c62)
        (fun (gs3 : Nat) (k3 : Nat) (s3 : (List Int)) => [(0, .sl false 2 40 (rows ApiType.cells a0)), (2, .ptr st.length 0 0 0), (3, .ptr (st.length + 3) 0 0 0), (4, .int .i64 (↑k0 : Int)), (16, .sl false 2 40 (rows ApiType.cells a0)), (17, .int .i64 (↑a0.length : Int)), (18, .int .i64 (↑k0 : Int)), (30, .sl false 1 8 (rows i64c ((get a0 k0).parents))), (31, .int .i64 (↑(((get a0 k0).parents).length) : Int)), (32, .int .i64 (↑k3 : Int))])
        (fun (gs3 : Nat) (k3 : Nat) (s3 : (List Int)) => st ++ [some (.arr 0 2 0 [[.nils, .nils]]), some (.arr gs3 1 8 (rows u64c s3)), some (.arr gs0.2 1 8 (rows u64c s0.2)), some (.arr 0 2 0 [[.ref true (st.length + 1) gs3 0 s3.length, .ref true (st.length + 2) gs0.2 0 s0.2.length]])])
        (fun (gt3 : Nat) (t3 : (List Int)) => [(0, .sl false 2 40 (rows ApiType.cells a0)), (2, .ptr st.length 0 0 0), (3, .ptr (st.length + 3) 0 0 0), (4, .int .i64 (↑k0 : Int)), (16, .sl false 2 40 (rows ApiType.cells a0)), (17, .int .i64 (↑a0.length : Int)), (18, .int .i64 (↑k0 : Int))])
        (fun (gt3 : Nat) (t3 : (List Int)) => st ++ [some (.arr 0 2 0 [[.nils, .nils]]), some (.arr gt3 1 8 (rows u64c t3)), some (.arr gs0.2 1 8 (rows u64c s0.2)), some (.arr 0 2 0 [[.ref true (st.length + 1) gt3 0 t3.length, .ref true (st.length + 2) gs0.2 0 s0.2.length]])])
        gs0.1 h (bks_mk hsc (.live _ _ _ _ (.same _) (.live _ _ _ _ (.same _) (.live _ _ _ _ (.same _) (.live _ _ _ _ (.same _) (.nil _))))) (by simp) ⟨.same _, .same _, .same _, .same _, .same _, .same _, .same _, .same _, .same _, .same _, trivial⟩ (by simp))
        (fun gs3 k3 s3 b3 hk3 h hx3 => ?_) (fun gs3 s3 => ?_) (fun gt3 t3 fr1 st1 h hb => ?_)
      · unfold hierarchyTables_b3 at h
        have hw3 : wr .i64 ((↑k3 : Int) + 1) = (↑(k3 + 1) : Int) := wr_succ hk3 hl3 (by decide)
        (repeat refine awp_seq ?_); refine ev_region ?_; simp only [go_sem, f1, f2, hk0, hw0, f58, f59]
        (repeat refine awp_seq ?_); refine awp_cond (by rfl) (fun hc => ?_) fun hc => ?_
        · refine awp_skip ?_; try simp only [go_sem, f1, f2, hk0, hw0, f58, f59]
          (repeat refine awp_seq ?_); refine awp_block ?_
          (repeat refine awp_seq ?_); refine ev_region ?_; simp only [go_sem, f1, f2, hk0, hw0, f58, f59, hk3, hw3]
          obtain ⟨f77, h⟩ := chk_some h
          have e78 : (rows u64c s3).getD k0 [] = u64c (get s3 k0) := rows_get (E := u64c) (l := s3) (k := k0) (by first | omega | (simp; omega))
          have e79 : k0 < s3.length := by first | omega | (simp; omega)
          obtain ⟨⟨f80, f81⟩, h⟩ := chk_some h
          have e82 : (rows u64c s3).getD ((get ((get a0 k0).parents) k3).toNat) [] = u64c (get s3 ((get ((get a0 k0).parents) k3).toNat)) := rows_get (E := u64c) (l := s3) (k := (get ((get a0 k0).parents) k3).toNat) (by first | omega | (simp; omega))
          have e83 : (get ((get a0 k0).parents) k3).toNat < s3.length := by first | omega | (simp; omega)
          have e84 : (rows u64c s3).getD k0 [] = u64c (get s3 k0) := rows_get (E := u64c) (l := s3) (k := k0) (by first | omega | (simp; omega))
          have e85 : k0 < s3.length := by first | omega | (simp; omega)
          obtain ⟨c86, hc86, h⟩ := let_some h
          have e87 : (rows u64c s3).set k0 [.int .u64 (bitop .or .u64 (get s3 k0) (get s3 ((get ((get a0 k0).parents) k3).toNat)))] = rows u64c c86 := by rw [hc86]; first | exact rows_set (E := u64c) _ _ _ | simp only [go_sem, rows, List.map_set]
          (repeat refine awp_seq ?_); refine ev_draw_region [] 0 follows (by kernel_rfl) (by rfl) ?_; simp only [go_sem, List.replicate_succ, List.replicate_zero, f1, f2, hk0, hw0, f58, f59, hk3, hw3, f77, f80, f81, e78, e79, e82, e83, e84, e85, e87]
          have e88 : D.ref true (st.length + 1) gs3 0 s3.length = D.ref true (st.length + 1) gs3 0 c86.length := by simp [hc86]
          simp only [e88]
          (repeat refine awp_seq ?_); refine ev_region ?_; simp only [go_sem, f1, f2, hk0, hw0, f58, f59, hk3, hw3, f77, f80, f81]
          cases h
          exact pbr_nxt gs3 (bks_mk hsc (.live _ _ _ _ (.same _) (.live _ _ _ _ (.same _) (.live _ _ _ _ (.same _) (.live _ _ _ _ (.same _) (.nil _))))) (by simp) ⟨.same _, .same _, .same _, .same _, .same _, .same _, .same _, .same _, .same _, .same _, trivial⟩ (by simp))
        · exfalso; have hc := of_decide_eq_false hc; omega
      · (repeat refine awp_seq ?_); refine ev_region ?_; simp only [go_sem, f1, f2, hk0, hw0, f58, f59]
        (repeat refine awp_seq ?_); refine awp_cond (by rfl) (fun hc => ?_) fun hc => ?_
        · exfalso; first | exact Bool.noConfusion hc | (have hc := of_decide_eq_true hc; omega)
        · refine awp_exit ?_; simp only [go_sem, f1, f2, hk0, hw0, f58, f59]
          exact ⟨gs3, (bks_mk hsc (.live _ _ _ _ (.same _) (.live _ _ _ _ (.same _) (.live _ _ _ _ (.same _) (.live _ _ _ _ (.same _) (.nil _))))) (by simp) ⟨.same _, .same _, .same _, .same _, .same _, .same _, .same _, trivial⟩ (by simp))⟩
      · try simp only [go_sem, f1, f2, hk0, hw0, f58, f59]
        unfold hierarchyTables_a3 at h
        refine awp_bks hb ?_
        (repeat refine awp_seq ?_); refine ev_region ?_; simp only [go_sem, f1, f2, hk0, hw0, f58, f59]
        (repeat refine awp_seq ?_); refine awp_len (t := 0) rfl fun hl4 => ?_
        simp only [rows_len] at hl4
        (repeat refine awp_seq ?_); refine awp_range (body := hierarchyTables_b4 k0 t3) (kk := hierarchyTables_a4 t3) (n := a0.length) (s0 := s0.2)
          (fun (gs4 : Nat) (k4 : Nat) (s4 : (List Int)) => [(0, .sl false 2 40 (rows ApiType.cells a0)), (2, .ptr st.length 0 0 0), (3, .ptr (st.length + 3) 0 0 0), (4, .int .i64 (↑k0 : Int)), (16, .sl false 2 40 (rows ApiType.cells a0)), (17, .int .i64 (↑a0.length : Int)), (18, .int .i64 (↑k0 : Int)), (50, .int .i64 (↑a0.length : Int)), (51, .int .i64 (↑k4 : Int))])
          (fun (gs4 : Nat) (k4 : Nat) (s4 : (List Int)) => st ++ [some (.arr 0 2 0 [[.nils, .nils]]), some (.arr gt3 1 8 (rows u64c t3)), some (.arr gs4 1 8 (rows u64c s4)), some (.arr 0 2 0 [[.ref true (st.length + 1) gt3 0 t3.length, .ref true (st.length + 2) gs4 0 s4.length]])])
          (fun (gt4 : Nat) (t4 : (List Int)) => [(0, .sl false 2 40 (rows ApiType.cells a0)), (2, .ptr st.length 0 0 0), (3, .ptr (st.length + 3) 0 0 0), (16, .sl false 2 40 (rows ApiType.cells a0)), (17, .int .i64 (↑a0.length : Int)), (18, .int .i64 (↑k0 : Int))])
          (fun (gt4 : Nat) (t4 : (List Int)) => st ++ [some (.arr 0 2 0 [[.nils, .nils]]), some (.arr gt3 1 8 (rows u64c t3)), some (.arr gt4 1 8 (rows u64c t4)), some (.arr 0 2 0 [[.ref true (st.length + 1) gt3 0 t3.length, .ref true (st.length + 2) gt4 0 t4.length]])])
          gs0.2 h (bks_mk hsc (.live _ _ _ _ (.same _) (.live _ _ _ _ (.same _) (.live _ _ _ _ (.same _) (.live _ _ _ _ (.same _) (.nil _))))) (by simp) ⟨.same _, .same _, .same _, .same _, .same _, .same _, .same _, .same _, .same _, trivial⟩ (by simp))
          (fun gs4 k4 s4 b4 hk4 h hx4 => ?_) (fun gs4 s4 => ?_) (fun gt4 t4 fr1 st1 h hb => ?_)
        · unfold hierarchyTables_b4 at h
          have hw4 : wr .i64 ((↑k4 : Int) + 1) = (↑(k4 + 1) : Int) := wr_succ hk4 hl4 (by decide)
          (repeat refine awp_seq ?_); refine ev_region ?_; simp only [go_sem, f1, f2, hk0, hw0, f58, f59]
          (repeat refine awp_seq ?_); refine awp_cond (by rfl) (fun hc => ?_) fun hc => ?_
          · refine awp_skip ?_; try simp only [go_sem, f1, f2, hk0, hw0, f58, f59]
            (repeat refine awp_seq ?_); refine awp_block ?_
            (repeat refine awp_seq ?_); refine ev_region ?_; simp only [go_sem, f1, f2, hk0, hw0, f58, f59, hk4, hw4]
            obtain ⟨f101, h⟩ := chk_some h
            have e102 : (rows u64c t3).getD k0 [] = u64c (get t3 k0) := rows_get (E := u64c) (l := t3) (k := k0) (by first | omega | (simp; omega))
            have e103 : k0 < t3.length := by first | omega | (simp; omega)
            obtain ⟨f104, h⟩ := chk_some h
            (repeat refine awp_seq ?_); refine ev_region ?_; simp only [go_sem, f1, f2, hk0, hw0, f58, f59, hk4, hw4, f101, f104, e102, e103]
            (repeat refine awp_seq ?_); refine awp_cond (by rfl) (fun hc => ?_) fun hc => ?_
            · replace h := cond_t h (by first | exact hc | simpa using hc)
              obtain ⟨f105, h⟩ := chk_some h
              have e106 : (rows u64c s4).getD k4 [] = u64c (get s4 k4) := rows_get (E := u64c) (l := s4) (k := k4) (by first | omega | (simp; omega))
              have e107 : k4 < s4.length := by first | omega | (simp; omega)
              have e108 : (rows u64c s4).getD k4 [] = u64c (get s4 k4) := rows_get (E := u64c) (l := s4) (k := k4) (by first | omega | (simp; omega))
              have e109 : k4 < s4.length := by first | omega | (simp; omega)
              obtain ⟨c110, hc110, h⟩ := let_some h
              have e111 : (rows u64c s4).set k4 [.int .u64 (bitop .or .u64 (get s4 k4) (wr .u64 (1 * 2 ^ (min k0 64))))] = rows u64c c110 := by rw [hc110]; first | exact rows_set (E := u64c) _ _ _ | simp only [go_sem, rows, List.map_set]
              (repeat refine awp_seq ?_); refine ev_draw_region [] 0 follows (by kernel_rfl) (by rfl) ?_; simp only [go_sem, List.replicate_succ, List.replicate_zero, f1, f2, hk0, hw0, f58, f59, hk4, hw4, f101, f104, f105, e106, e107, e108, e109, e111]
              have e112 : D.ref true (st.length + 2) gs4 0 s4.length = D.ref true (st.length + 2) gs4 0 c110.length := by simp [hc110]
              simp only [e112]
              (repeat refine awp_seq ?_); refine ev_region ?_; simp only [go_sem, f1, f2, hk0, hw0, f58, f59, hk4, hw4, f101, f104, f105]
              cases h
              exact pbr_nxt gs4 (bks_mk hsc (.live _ _ _ _ (.same _) (.live _ _ _ _ (.same _) (.live _ _ _ _ (.same _) (.live _ _ _ _ (.same _) (.nil _))))) (by simp) ⟨.same _, .same _, .same _, .same _, .same _, .same _, .same _, .same _, .same _, trivial⟩ (by simp))
            · replace h := cond_f h (by first | exact hc | simpa using hc)
              refine awp_skip ?_; try simp only [go_sem, f1, f2, hk0, hw0, f58, f59, hk4, hw4, f101, f104]
              (repeat refine awp_seq ?_); refine ev_region ?_; simp only [go_sem, f1, f2, hk0, hw0, f58, f59, hk4, hw4, f101, f104]
              cases h
              exact pbr_nxt gs4 (bks_mk hsc (.live _ _ _ _ (.same _) (.live _ _ _ _ (.same _) (.live _ _ _ _ (.same _) (.live _ _ _ _ (.same _) (.nil _))))) (by simp) ⟨.same _, .same _, .same _, .same _, .same _, .same _, .same _, .same _, .same _, trivial⟩ (by simp))
          · exfalso; have hc := of_decide_eq_false hc; omega
        · (repeat refine awp_seq ?_); refine ev_region ?_; simp only [go_sem, f1, f2, hk0, hw0, f58, f59]
          (repeat refine awp_seq ?_); refine awp_cond (by rfl) (fun hc => ?_) fun hc => ?_
          · exfalso; first | exact Bool.noConfusion hc | (have hc := of_decide_eq_true hc; omega)
          · refine awp_exit ?_; simp only [go_sem, f1, f2, hk0, hw0, f58, f59]
            exact ⟨gs4, (bks_mk hsc (.live _ _ _ _ (.same _) (.live _ _ _ _ (.same _) (.live _ _ _ _ (.same _) (.live _ _ _ _ (.same _) (.nil _))))) (by simp) ⟨.same _, .same _, .same _, .same _, .same _, .same _, trivial⟩ (by simp))⟩
        · try simp only [go_sem, f1, f2, hk0, hw0, f58, f59]
          unfold hierarchyTables_a4 at h
          refine awp_bks hb ?_
          (repeat refine awp_seq ?_); refine ev_region ?_; simp only [go_sem, f1, f2, hk0, hw0, f58, f59]
          cases h
          exact pbr_nxt (gt3, gt4) (bks_mk hsc (.live _ _ _ _ (.same _) (.live _ _ _ _ (.same _) (.live _ _ _ _ (.same _) (.live _ _ _ _ (.same _) (.nil _))))) (by simp) ⟨.same _, .same _, .same _, .same _, .same _, .same _, trivial⟩ (by simp))
    · exfalso; have hc := of_decide_eq_false hc; omega
  · (repeat refine awp_seq ?_); refine ev_region ?_; simp only [go_sem, f1, f2]
    (repeat refine awp_seq ?_); refine awp_cond (by rfl) (fun hc => ?_) fun hc => ?_
    · exfalso; first | exact Bool.noConfusion hc | (have hc := of_decide_eq_true hc; omega)
    · refine awp_exit ?_; simp only [go_sem, f1, f2]
      exact ⟨(gs0.1, gs0.2), (bks_mk hsc (.live _ _ _ _ (.same _) (.live _ _ _ _ (.same _) (.live _ _ _ _ (.same _) (.live _ _ _ _ (.same _) (.nil _))))) (by simp) ⟨.same _, .same _, trivial⟩ (by simp))⟩
  · try simp only [go_sem, f1, f2]
    unfold hierarchyTables_a0 at h
    refine awp_bks hb ?_
    (repeat refine awp_seq ?_); refine ev_region ?_; simp only [go_sem, f1, f2]
    (repeat refine awp_seq ?_); refine awp_ret ?_
    try simp only [go_sem, f1, f2]
    have hr := Option.some.inj h
    refine finb_of ?_; simp only [go_sem, f1, f2]
    exact fin_old' (d' := .agg [.sl false 1 8 (rows u64c t0.1), .sl false 1 8 (rows u64c t0.2)]) hsc (.agg _ _ (.cons _ _ _ _ (.ref _ _ _ _ _ _ _ _ _ (get_new.trans rfl) look_out (by decide) (rows_imm _) (by simp only [go_sem])) (.cons _ _ _ _ (.ref _ _ _ _ _ _ _ _ _ (get_new.trans rfl) look_out (by decide) (rows_imm _) (by simp only [go_sem])) .nil))) (by simp) ⟨by subst hr; rfl, rfl⟩


end Go.Proofs.YtaohdfpcdfbnlaaDoor

