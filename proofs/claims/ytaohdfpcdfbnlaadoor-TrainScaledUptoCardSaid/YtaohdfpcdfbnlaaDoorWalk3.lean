/-
  Each Go function of this part does what its plain Lean function says.
-/
import Derived.Test.YtaohdfpcdfbnlaaDoorBase
import Derived.Test.YtaohdfpcdfbnlaaDoorHand
import Derived.Test.YtaohdfpcdfbnlaaDoorMirrors
import Derived.Test.YtaohdfpcdfbnlaaDoorWalk2
set_option linter.unusedVariables false
set_option linter.unusedSimpArgs false
namespace Go.Proofs.YtaohdfpcdfbnlaaDoor
open Go Go.Am

set_option maxHeartbeats 2000000 in
set_option maxRecDepth 100000 in
theorem ok_mathBitsTrailingZeros64 (a0 : Int) (r : Int) (h : mathBitsTrailingZeros64 a0 = some r) : Pure Tryd.prog gl 60 [.int .u64 a0] (.int .i64 r) := by
  intro st
  unfold mathBitsTrailingZeros64 at h
  refine spec_fb (N := 14) (rs := [.tmp 2]) (keep := [0, 2, 4]) Tryd.func60 rfl rfl rfl (by kernel_rfl) rfl fun hsc => ?_
  (repeat refine awp_seq ?_); refine ev_region ?_; simp only [go_sem]
  (repeat refine awp_seq ?_); refine ev_region ?_; simp only [go_sem]
  (repeat refine awp_seq ?_); refine awp_cond (by rfl) (fun hc => ?_) fun hc => ?_
  · replace h := cond_t h (by first | exact hc | simpa using hc)
    (repeat refine awp_seq ?_); refine ev_region ?_; simp only [go_sem]
    (repeat refine awp_seq ?_); refine awp_ret ?_
    try simp only [go_sem]
    have hr := Option.some.inj h
    refine finb_of ?_; simp only [go_sem]
    exact fin_same' (d' := .int .i64 64) hsc (.same _) (by simp) ⟨by subst hr; rfl, rfl⟩
  · replace h := cond_f h (by first | exact hc | simpa using hc)
    refine awp_skip ?_; try simp only [go_sem]
    obtain ⟨⟨f1, f2⟩, h⟩ := chk_some h
    have e3 : Am.rowAt (gcells u8c tab0) ((Int.fdiv (wr .u64 ((bitop .and .u64 a0 (wr .u64 (0 - a0))) * 285870213051353865)) (2 ^ (min 58 64))).toNat) 1 = u8c (get tab0 ((Int.fdiv (wr .u64 ((bitop .and .u64 a0 (wr .u64 (0 - a0))) * 285870213051353865)) (2 ^ (min 58 64))).toNat)) := rowAt_row (fun _ => rfl) (show _ < tab0.length by rw [tab0_len]; first | omega | (simp; omega))
    (repeat refine awp_seq ?_); refine ev_region ?_; simp only [go_sem, f1, f2, e3]
    (repeat refine awp_seq ?_); refine awp_ret ?_
    try simp only [go_sem, f1, f2]
    have hr := Option.some.inj h
    refine finb_of ?_; simp only [go_sem, f1, f2]
    exact fin_same' (d' := .int .i64 (wr .i64 (get tab0 ((Int.fdiv (wr .u64 ((bitop .and .u64 a0 (wr .u64 (0 - a0))) * 285870213051353865)) (2 ^ (min 58 64))).toNat)))) hsc (.same _) (by simp) ⟨by subst hr; rfl, rfl⟩

set_option maxHeartbeats 2000000 in
set_option maxRecDepth 100000 in
theorem ok_hierarchyTableMeet (a0 : HierarchyTable) (a1 : Int) (a2 : Int) (r : Int × Bool × Bool) (h : hierarchyTableMeet a0 a1 a2 = some r) : Pure Tryd.prog gl 44 [.agg [.sl false 1 8 (rows u64c a0.up), .sl false 1 8 (rows u64c a0.down)], .int .i64 a1, .int .i64 a2] (.tup [.int .i64 r.1, .bool r.2.1, .bool r.2.2]) := by
  intro st
  unfold hierarchyTableMeet at h
  refine spec_fb (N := 33) (rs := [.tmp 6, .tmp 7, .tmp 8]) (keep := [0, 1, 2, 3, 6, 7, 8, 9, 22, 31]) Tryd.func44 rfl rfl rfl (by kernel_rfl) rfl fun hsc => ?_
  (repeat refine awp_seq ?_); refine ev_region ?_; simp only [go_sem]
  obtain ⟨⟨f1, f2⟩, h⟩ := chk_some h
  obtain ⟨⟨f3, f4⟩, h⟩ := chk_some h
  (repeat refine awp_seq ?_); refine ev_draw_region [] 0 follows (by kernel_rfl) (by rfl) ?_; simp only [go_sem, List.replicate_succ, List.replicate_zero, f1, f2, f3, f4]
  (repeat refine awp_seq ?_); refine ev_region ?_; simp only [go_sem, f1, f2, f3, f4]
  (repeat refine awp_seq ?_); refine awp_cond (by rfl) (fun hc => ?_) fun hc => ?_
  · replace h := cond_t h (by first | exact hc | simpa using hc)
    (repeat refine awp_seq ?_); refine ev_region ?_; simp only [go_sem, f1, f2, f3, f4]
    (repeat refine awp_seq ?_); refine awp_ret ?_
    try simp only [go_sem, f1, f2, f3, f4]
    have hr := Option.some.inj h
    refine finb_of ?_; simp only [go_sem, f1, f2, f3, f4]
    exact fin_old' (d' := .tup [.int .i64 0, .bool false, .bool false]) hsc (.same _) (by simp) ⟨by subst hr; rfl, rfl⟩
  · replace h := cond_f h (by first | exact hc | simpa using hc)
    refine awp_skip ?_; try simp only [go_sem, f1, f2, f3, f4]
    (repeat refine awp_seq ?_); refine ev_region ?_; simp only [go_sem, f1, f2, f3, f4]
    obtain ⟨v5, hv5, h⟩ := bind_some h
    refine ((ok_mathBitsTrailingZeros64 _ _ hv5)).to ?_
    try simp only [go_sem, f1, f2, f3, f4]
    obtain ⟨⟨f6, f7⟩, h⟩ := chk_some h
    (repeat refine awp_seq ?_); refine ev_region ?_; simp only [go_sem, f1, f2, f3, f4, f6, f7]
    (repeat refine awp_seq ?_); refine awp_cond (by rfl) (fun hc => ?_) fun hc => ?_
    · replace h := cond_t h (by first | exact hc | simpa using hc)
      (repeat refine awp_seq ?_); refine ev_region ?_; simp only [go_sem, f1, f2, f3, f4, f6, f7]
      (repeat refine awp_seq ?_); refine awp_ret ?_
      try simp only [go_sem, f1, f2, f3, f4, f6, f7]
      have hr := Option.some.inj h
      refine finb_of ?_; simp only [go_sem, f1, f2, f3, f4, f6, f7]
      exact fin_old' (d' := .tup [.int .i64 0, .bool false, .bool true]) hsc (.same _) (by simp) ⟨by subst hr; rfl, rfl⟩
    · replace h := cond_f h (by first | exact hc | simpa using hc)
      refine awp_skip ?_; try simp only [go_sem, f1, f2, f3, f4, f6, f7]
      (repeat refine awp_seq ?_); refine ev_region ?_; simp only [go_sem, f1, f2, f3, f4, f6, f7]
      (repeat refine awp_seq ?_); refine awp_ret ?_
      try simp only [go_sem, f1, f2, f3, f4, f6, f7]
      have hr := Option.some.inj h
      refine finb_of ?_; simp only [go_sem, f1, f2, f3, f4, f6, f7]
      exact fin_old' (d' := .tup [.int .i64 v5, .bool true, .bool false]) hsc (.same _) (by simp) ⟨by subst hr; rfl, rfl⟩

set_option maxHeartbeats 2000000 in
set_option maxRecDepth 100000 in
theorem ok_hierarchyValidate (a0 : ApiHierarchy) (r : ApiFault) (h : hierarchyValidate a0 = some r) : Pure Tryd.prog gl 28 [.agg [.sl false 2 40 (rows ApiType.cells a0.types), .sl false 3 32 (rows ApiFeat.cells a0.feats)]] (.agg [.int .i64 r.code, .int .i64 r.index]) := by
  intro st
  unfold hierarchyValidate at h
  refine spec_fb (N := 122) (rs := [.cell 2 41]) (keep := [0, 1, 2, 3, 4, 5, 6, 9, 10, 11, 12, 14, 20, 21, 22, 23, 26, 27, 28, 29, 30, 37, 44, 45, 46, 48, 49, 50, 60, 67, 68, 69, 70, 77, 87, 98, 99, 100, 101, 102, 103, 106, 107, 108, 111, 112, 113, 114, 115, 116, 117]) Tryd.func28 rfl rfl rfl (by kernel_rfl) rfl fun hsc => ?_
  (repeat refine awp_seq ?_); refine ev_region ?_; simp only [go_sem]
  (repeat refine awp_seq ?_); refine ev_region ?_; simp only [go_sem]
  (repeat refine awp_seq ?_); refine awp_cond (by rfl) (fun hc => ?_) fun hc => ?_
  · replace h := cond_t h (by first | exact hc | simpa using hc)
    (repeat refine awp_seq ?_); refine ev_region ?_; simp only [go_sem]
    obtain ⟨v1, hv1, h⟩ := bind_some h
    refine ((ok_hierarchyFault _ _ _ hv1)).to ?_
    try simp only [go_sem]
    (repeat refine awp_seq ?_); refine awp_ret ?_
    try simp only [go_sem]
    have hr := Option.some.inj h
    refine finb_of ?_; simp only [go_sem]
    exact fin_old' (d' := .agg [.int .i64 v1.code, .int .i64 v1.index]) hsc (.same _) (by simp) ⟨by subst hr; rfl, rfl⟩
  · replace h := cond_f h (by first | exact hc | simpa using hc)
    refine awp_skip ?_; try simp only [go_sem]
    (repeat refine awp_seq ?_); refine ev_region ?_; simp only [go_sem]
    obtain ⟨v2, hv2, h⟩ := bind_some h
    refine ((ok_hierarchyTypes _ _ hv2)).to ?_
    try simp only [go_sem]
    (repeat refine awp_seq ?_); refine ev_region ?_; simp only [go_sem]
    (repeat refine awp_seq ?_); refine awp_cond (by rfl) (fun hc => ?_) fun hc => ?_
    · replace h := cond_t h (by first | exact hc | simpa using hc)
      (repeat refine awp_seq ?_); refine ev_region ?_; simp only [go_sem]
      (repeat refine awp_seq ?_); refine awp_ret ?_
      try simp only [go_sem]
      have hr := Option.some.inj h
      refine finb_of ?_; simp only [go_sem]
      exact fin_old' (d' := .agg [.int .i64 v2.code, .int .i64 v2.index]) hsc (.same _) (by simp) ⟨by subst hr; rfl, rfl⟩
    · replace h := cond_f h (by first | exact hc | simpa using hc)
      refine awp_skip ?_; try simp only [go_sem]
      (repeat refine awp_seq ?_); refine ev_region ?_; simp only [go_sem]
      obtain ⟨v3, hv3, h⟩ := bind_some h
      refine ((ok_hierarchyTables _ _ hv3)).to ?_
      try simp only [go_sem]
      (repeat refine awp_seq ?_); refine ev_region ?_; simp only [go_sem]
      obtain ⟨f4, h⟩ := chk_some h
      (repeat refine awp_seq ?_); refine awp_range (body := hierarchyValidate_b0 v3) (kk := hierarchyValidate_a0 a0) (n := a0.types.length) (s0 := ())
        (fun (gs0 : Unit) (k0 : Nat) (s0 : Unit) => [(1, .ptr st.length 0 0 0), (2, .ptr (st.length + 1) 0 0 0), (4, .ptr (st.length + 3) 0 0 0), (44, .int .i64 (↑a0.types.length : Int)), (45, .int .i64 (↑k0 : Int))])
        (fun (gs0 : Unit) (k0 : Nat) (s0 : Unit) => st ++ [some (.arr 0 2 0 [[.sl false 2 40 (rows ApiType.cells a0.types), .sl false 3 32 (rows ApiFeat.cells a0.feats)]]), some (.arr 0 2 0 [[.int .i64 0, .int .i64 0]]), none, some (.arr 0 2 0 [[.sl false 1 8 (rows u64c v3.up), .sl false 1 8 (rows u64c v3.down)]])])
        (fun (gt0 : Unit) (t0 : Unit) => [(1, .ptr st.length 0 0 0), (2, .ptr (st.length + 1) 0 0 0)])
        (fun (gt0 : Unit) (t0 : Unit) => st ++ [some (.arr 0 2 0 [[.sl false 2 40 (rows ApiType.cells a0.types), .sl false 3 32 (rows ApiFeat.cells a0.feats)]]), some (.arr 0 2 0 [[.int .i64 0, .int .i64 0]])])
        () h (bks_mk hsc (.live _ _ _ _ (.same _) (.live _ _ _ _ (.same _) (.dead _ _ _ (.live _ _ _ _ (.same _) (.nil _))))) (by simp) ⟨.same _, .same _, .same _, .same _, .same _, trivial⟩ (by simp))
        (fun gs0 k0 s0 b0 hk0 h hx0 => ?_) (fun gs0 s0 => ?_) (fun gt0 t0 fr1 st1 h hb => ?_)
      · unfold hierarchyValidate_b0 at h
        have hw0 : wr .i64 ((↑k0 : Int) + 1) = (↑(k0 + 1) : Int) := wr_le hk0 f4
        (repeat refine awp_seq ?_); refine ev_region ?_; simp only [go_sem, f4]
        (repeat refine awp_seq ?_); refine awp_cond (by rfl) (fun hc => ?_) fun hc => ?_
        · refine awp_skip ?_; try simp only [go_sem, f4]
          (repeat refine awp_seq ?_); refine awp_block ?_
          (repeat refine awp_seq ?_); refine ev_region ?_; simp only [go_sem, f4, hk0, hw0]
          (repeat refine awp_seq ?_); refine ev_region ?_; simp only [go_sem, f4, hk0, hw0]
          obtain ⟨f5, h⟩ := chk_some h
          (repeat refine awp_seq ?_); refine awp_range (body := hierarchyValidate_b1 v3 k0) (kk := hierarchyValidate_a1) (n := k0) (s0 := ())
            (fun (gs1 : Unit) (k1 : Nat) (s1 : Unit) => [(1, .ptr st.length 0 0 0), (2, .ptr (st.length + 1) 0 0 0), (4, .ptr (st.length + 3) 0 0 0), (5, .int .i64 (↑k0 : Int)), (44, .int .i64 (↑a0.types.length : Int)), (45, .int .i64 (↑k0 : Int)), (48, .int .i64 (↑k0 : Int)), (49, .int .i64 (↑k1 : Int))])
            (fun (gs1 : Unit) (k1 : Nat) (s1 : Unit) => st ++ [some (.arr 0 2 0 [[.sl false 2 40 (rows ApiType.cells a0.types), .sl false 3 32 (rows ApiFeat.cells a0.feats)]]), some (.arr 0 2 0 [[.int .i64 0, .int .i64 0]]), none, some (.arr 0 2 0 [[.sl false 1 8 (rows u64c v3.up), .sl false 1 8 (rows u64c v3.down)]])])
            (fun (gt1 : Unit) (t1 : Unit) => [(1, .ptr st.length 0 0 0), (2, .ptr (st.length + 1) 0 0 0), (4, .ptr (st.length + 3) 0 0 0), (44, .int .i64 (↑a0.types.length : Int)), (45, .int .i64 (↑k0 : Int))])
            (fun (gt1 : Unit) (t1 : Unit) => st ++ [some (.arr 0 2 0 [[.sl false 2 40 (rows ApiType.cells a0.types), .sl false 3 32 (rows ApiFeat.cells a0.feats)]]), some (.arr 0 2 0 [[.int .i64 0, .int .i64 0]]), none, some (.arr 0 2 0 [[.sl false 1 8 (rows u64c v3.up), .sl false 1 8 (rows u64c v3.down)]])])
            () h (bks_mk hsc (.live _ _ _ _ (.same _) (.live _ _ _ _ (.same _) (.dead _ _ _ (.live _ _ _ _ (.same _) (.nil _))))) (by simp) ⟨.same _, .same _, .same _, .same _, .same _, .same _, .same _, .same _, trivial⟩ (by simp))
            (fun gs1 k1 s1 b1 hk1 h hx1 => ?_) (fun gs1 s1 => ?_) (fun gt1 t1 fr1 st1 h hb => ?_)
          · unfold hierarchyValidate_b1 at h
            have hw1 : wr .i64 ((↑k1 : Int) + 1) = (↑(k1 + 1) : Int) := wr_le hk1 f5
            (repeat refine awp_seq ?_); refine ev_region ?_; simp only [go_sem, f4, hk0, hw0, f5]
            (repeat refine awp_seq ?_); refine awp_cond (by rfl) (fun hc => ?_) fun hc => ?_
            · refine awp_skip ?_; try simp only [go_sem, f4, hk0, hw0, f5]
              (repeat refine awp_seq ?_); refine awp_block ?_
              (repeat refine awp_seq ?_); refine ev_region ?_; simp only [go_sem, f4, hk0, hw0, f5, hk1, hw1]
              (repeat refine awp_seq ?_); refine ev_region ?_; simp only [go_sem, f4, hk0, hw0, f5, hk1, hw1]
              obtain ⟨v6, hv6, h⟩ := bind_some h
              refine ((ok_hierarchyTableMeet _ _ _ _ hv6)).to ?_
              try simp only [go_sem, f4, hk0, hw0, f5, hk1, hw1]
              (repeat refine awp_seq ?_); refine ev_region ?_; simp only [go_sem, f4, hk0, hw0, f5, hk1, hw1]
              (repeat refine awp_seq ?_); refine awp_cond (by rfl) (fun hc => ?_) fun hc => ?_
              · replace h := cond_t h (by first | exact hc | simpa using hc)
                (repeat refine awp_seq ?_); refine ev_region ?_; simp only [go_sem, f4, hk0, hw0, f5, hk1, hw1]
                obtain ⟨v7, hv7, h⟩ := bind_some h
                refine ((ok_hierarchyFault _ _ _ hv7)).to ?_
                try simp only [go_sem, f4, hk0, hw0, f5, hk1, hw1]
                (repeat refine awp_seq ?_); refine awp_ret ?_
                try simp only [go_sem, f4, hk0, hw0, f5, hk1, hw1]
                obtain rfl := Option.some.inj h
                refine pbr_ret ?_; obtain rfl := hx1 _ rfl; try simp only [go_sem, f4, hk0, hw0, f5, hk1, hw1]
                refine pbr_ret ?_; have hr := hx0 _ rfl; try simp only [go_sem, f4, hk0, hw0, f5, hk1, hw1]
                refine finb_of ?_; simp only [go_sem, f4, hk0, hw0, f5, hk1, hw1]
                exact fin_old' (d' := .agg [.int .i64 v7.code, .int .i64 v7.index]) hsc (.same _) (by simp) ⟨by subst hr; rfl, rfl⟩
              · replace h := cond_f h (by first | exact hc | simpa using hc)
                refine awp_skip ?_; try simp only [go_sem, f4, hk0, hw0, f5, hk1, hw1]
                (repeat refine awp_seq ?_); refine ev_region ?_; simp only [go_sem, f4, hk0, hw0, f5, hk1, hw1]
                cases h
                exact pbr_nxt () (bks_mk hsc (.live _ _ _ _ (.same _) (.live _ _ _ _ (.same _) (.dead _ _ _ (.live _ _ _ _ (.same _) (.nil _))))) (by simp) ⟨.same _, .same _, .same _, .same _, .same _, .same _, .same _, .same _, trivial⟩ (by simp))
            · exfalso; have hc := of_decide_eq_false hc; omega
          · (repeat refine awp_seq ?_); refine ev_region ?_; simp only [go_sem, f4, hk0, hw0, f5]
            (repeat refine awp_seq ?_); refine awp_cond (by rfl) (fun hc => ?_) fun hc => ?_
            · exfalso; first | exact Bool.noConfusion hc | (have hc := of_decide_eq_true hc; omega)
            · refine awp_exit ?_; simp only [go_sem, f4, hk0, hw0, f5]
              exact ⟨(), (bks_mk hsc (.live _ _ _ _ (.same _) (.live _ _ _ _ (.same _) (.dead _ _ _ (.live _ _ _ _ (.same _) (.nil _))))) (by simp) ⟨.same _, .same _, .same _, .same _, .same _, trivial⟩ (by simp))⟩
          · try simp only [go_sem, f4, hk0, hw0, f5]
            unfold hierarchyValidate_a1 at h
            refine awp_bks hb ?_
            (repeat refine awp_seq ?_); refine ev_region ?_; simp only [go_sem, f4, hk0, hw0, f5]
            cases h
            exact pbr_nxt () (bks_mk hsc (.live _ _ _ _ (.same _) (.live _ _ _ _ (.same _) (.dead _ _ _ (.live _ _ _ _ (.same _) (.nil _))))) (by simp) ⟨.same _, .same _, .same _, .same _, .same _, trivial⟩ (by simp))
        · exfalso; have hc := of_decide_eq_false hc; omega
      · (repeat refine awp_seq ?_); refine ev_region ?_; simp only [go_sem, f4]
        (repeat refine awp_seq ?_); refine awp_cond (by rfl) (fun hc => ?_) fun hc => ?_
        · exfalso; first | exact Bool.noConfusion hc | (have hc := of_decide_eq_true hc; omega)
        · refine awp_exit ?_; simp only [go_sem, f4]
          exact ⟨(), (bks_mk hsc (.live _ _ _ _ (.same _) (.live _ _ _ _ (.same _) (.nil _))) (by simp) ⟨.same _, .same _, trivial⟩ (by simp))⟩
      · try simp only [go_sem, f4]
        unfold hierarchyValidate_a0 at h
        refine awp_bks hb ?_
        (repeat refine awp_seq ?_); refine ev_region ?_; simp only [go_sem, f4]
        (repeat refine awp_seq ?_); refine ev_region ?_; simp only [go_sem, f4]
        (repeat refine awp_seq ?_); refine awp_len (t := 67) rfl fun hl2 => ?_
        simp only [rows_len] at hl2
        (repeat refine awp_seq ?_); refine awp_range (body := hierarchyValidate_b2 a0) (kk := hierarchyValidate_a2) (n := a0.feats.length) (s0 := [])
          (fun (gs2 : Unit) (k2 : Nat) (s2 : (List (Bs × Int))) => [(1, .ptr st.length 0 0 0), (2, .ptr (st.length + 1) 0 0 0), (10, .mp (st.length + 2)), (67, .sl false 3 32 (rows ApiFeat.cells a0.feats)), (68, .int .i64 (↑a0.feats.length : Int)), (69, .int .i64 (↑k2 : Int))])
          (fun (gs2 : Unit) (k2 : Nat) (s2 : (List (Bs × Int))) => st ++ [some (.arr 0 2 0 [[.sl false 2 40 (rows ApiType.cells a0.types), .sl false 3 32 (rows ApiFeat.cells a0.feats)]]), some (.arr 0 2 0 [[.int .i64 0, .int .i64 0]]), some (.mps false (mrw i64c s2))])
          (fun (gt2 : Unit) (t2 : (List (Bs × Int))) => [(2, .ptr (st.length + 1) 0 0 0)])
          (fun (gt2 : Unit) (t2 : (List (Bs × Int))) => st ++ [none, some (.arr 0 2 0 [[.int .i64 0, .int .i64 0]])])
          () h (bks_mk hsc (.live _ _ _ _ (.same _) (.live _ _ _ _ (.same _) (.live _ _ _ _ (.same _) (.nil _)))) (by simp) ⟨.same _, .same _, .same _, .same _, .same _, .same _, trivial⟩ (by simp))
          (fun gs2 k2 s2 b2 hk2 h hx2 => ?_) (fun gs2 s2 => ?_) (fun gt2 t2 fr1 st1 h hb => ?_)
        · unfold hierarchyValidate_b2 at h
          have hw2 : wr .i64 ((↑k2 : Int) + 1) = (↑(k2 + 1) : Int) := wr_succ hk2 hl2 (by decide)
          (repeat refine awp_seq ?_); refine ev_region ?_; simp only [go_sem, f4]
          (repeat refine awp_seq ?_); refine awp_cond (by rfl) (fun hc => ?_) fun hc => ?_
          · refine awp_skip ?_; try simp only [go_sem, f4]
            (repeat refine awp_seq ?_); refine awp_block ?_
            (repeat refine awp_seq ?_); refine ev_region ?_; simp only [go_sem, f4, hk2, hw2]
            (repeat refine awp_seq ?_); refine ev_region ?_; simp only [go_sem, f4, hk2, hw2]
            obtain ⟨v14, hv14, h⟩ := bind_some h
            refine ((ok_termName _ _ hv14)).to ?_
            try simp only [go_sem, f4, hk2, hw2]
            (repeat refine awp_seq ?_); refine awp_cond (by rfl) (fun hc => ?_) fun hc => ?_
            · replace h := cond_t h (by first | exact hc | simpa using hc)
              (repeat refine awp_seq ?_); refine ev_region ?_; simp only [go_sem, f4, hk2, hw2]
              obtain ⟨v15, hv15, h⟩ := bind_some h
              refine ((ok_hierarchyFault _ _ _ hv15)).to ?_
              try simp only [go_sem, f4, hk2, hw2]
              (repeat refine awp_seq ?_); refine awp_ret ?_
              try simp only [go_sem, f4, hk2, hw2]
              obtain rfl := Option.some.inj h
              refine pbr_ret ?_; have hr := hx2 _ rfl; try simp only [go_sem, f4, hk2, hw2]
              refine finb_of ?_; simp only [go_sem, f4, hk2, hw2]
              exact fin_old' (d' := .agg [.int .i64 v15.code, .int .i64 v15.index]) hsc (.same _) (by simp) ⟨by subst hr; rfl, rfl⟩
            · replace h := cond_f h (by first | exact hc | simpa using hc)
              refine awp_skip ?_; try simp only [go_sem, f4, hk2, hw2]
              (repeat refine awp_seq ?_); refine ev_region ?_; simp only [go_sem, f4, hk2, hw2]
              (repeat refine awp_seq ?_); refine ev_region ?_; simp only [go_sem, f4, hk2, hw2]
              (repeat refine awp_seq ?_); refine awp_cond (by rfl) (fun hc => ?_) fun hc => ?_
              · replace h := cond_t h (by first | exact hc | simpa using hc)
                (repeat refine awp_seq ?_); refine ev_region ?_; simp only [go_sem, f4, hk2, hw2]
                obtain ⟨v16, hv16, h⟩ := bind_some h
                refine ((ok_hierarchyFault _ _ _ hv16)).to ?_
                try simp only [go_sem, f4, hk2, hw2]
                (repeat refine awp_seq ?_); refine awp_ret ?_
                try simp only [go_sem, f4, hk2, hw2]
                obtain rfl := Option.some.inj h
                refine pbr_ret ?_; have hr := hx2 _ rfl; try simp only [go_sem, f4, hk2, hw2]
                refine finb_of ?_; simp only [go_sem, f4, hk2, hw2]
                exact fin_old' (d' := .agg [.int .i64 v16.code, .int .i64 v16.index]) hsc (.same _) (by simp) ⟨by subst hr; rfl, rfl⟩
              · replace h := cond_f h (by first | exact hc | simpa using hc)
                refine awp_skip ?_; try simp only [go_sem, f4, hk2, hw2]
                obtain ⟨c17, hc17, h⟩ := let_some h
                have e18 : assocSet ((get a0.feats k2).name) [.int .i64 (↑k2 : Int)] (mrw i64c s2) = mrw i64c c17 := by rw [hc17]; exact mrw_set (E := i64c) _ _ _
                (repeat refine awp_seq ?_); refine ev_region ?_; simp only [go_sem, f4, hk2, hw2, e18]
                (repeat refine awp_seq ?_); refine ev_region ?_; simp only [go_sem, f4, hk2, hw2]
                (repeat refine awp_seq ?_); refine awp_cond (by rfl) (fun hc => ?_) fun hc => ?_
                · replace h := cond_t h (by first | exact hc | simpa using hc)
                  (repeat refine awp_seq ?_); refine ev_region ?_; simp only [go_sem, f4, hk2, hw2]
                  obtain ⟨v19, hv19, h⟩ := bind_some h
                  refine ((ok_hierarchyFault _ _ _ hv19)).to ?_
                  try simp only [go_sem, f4, hk2, hw2]
                  (repeat refine awp_seq ?_); refine awp_ret ?_
                  try simp only [go_sem, f4, hk2, hw2]
                  obtain rfl := Option.some.inj h
                  refine pbr_ret ?_; have hr := hx2 _ rfl; try simp only [go_sem, f4, hk2, hw2]
                  refine finb_of ?_; simp only [go_sem, f4, hk2, hw2]
                  exact fin_old' (d' := .agg [.int .i64 v19.code, .int .i64 v19.index]) hsc (.same _) (by simp) ⟨by subst hr; rfl, rfl⟩
                · replace h := cond_f h (by first | exact hc | simpa using hc)
                  refine awp_skip ?_; try simp only [go_sem, f4, hk2, hw2]
                  (repeat refine awp_seq ?_); refine ev_region ?_; simp only [go_sem, f4, hk2, hw2]
                  cases h
                  exact pbr_nxt () (bks_mk hsc (.live _ _ _ _ (.same _) (.live _ _ _ _ (.same _) (.live _ _ _ _ (.same _) (.nil _)))) (by simp) ⟨.same _, .same _, .same _, .same _, .same _, .same _, trivial⟩ (by simp))
          · exfalso; have hc := of_decide_eq_false hc; omega
        · (repeat refine awp_seq ?_); refine ev_region ?_; simp only [go_sem, f4]
          (repeat refine awp_seq ?_); refine awp_cond (by rfl) (fun hc => ?_) fun hc => ?_
          · exfalso; first | exact Bool.noConfusion hc | (have hc := of_decide_eq_true hc; omega)
          · refine awp_exit ?_; simp only [go_sem, f4]
            exact ⟨(), (bks_mk hsc (.dead _ _ _ (.live _ _ _ _ (.same _) (.nil _))) (by simp) ⟨.same _, trivial⟩ (by simp))⟩
        · try simp only [go_sem, f4]
          unfold hierarchyValidate_a2 at h
          refine awp_bks hb ?_
          (repeat refine awp_seq ?_); refine ev_region ?_; simp only [go_sem, f4]
          (repeat refine awp_seq ?_); refine awp_ret ?_
          try simp only [go_sem, f4]
          have hr := Option.some.inj h
          refine finb_of ?_; simp only [go_sem, f4]
          exact fin_old' (d' := .agg [.int .i64 0, .int .i64 0]) hsc (.same _) (by simp) ⟨by subst hr; rfl, rfl⟩

set_option maxHeartbeats 2000000 in
set_option maxRecDepth 100000 in
theorem ok_grammarFault (a0 : Int) (a1 : Int) (r : ApiFault) (h : grammarFault a0 a1 = some r) : Pure Tryd.prog gl 29 [.int .i64 a0, .int .i64 a1] (.agg [.int .i64 r.code, .int .i64 r.index]) := by
  intro st
  unfold grammarFault at h
  refine spec_fb (N := 8) (rs := [.cell 4 41]) (keep := [0, 1, 4]) Tryd.func29 rfl rfl rfl (by kernel_rfl) rfl fun hsc => ?_
  (repeat refine awp_seq ?_); refine ev_region ?_; simp only [go_sem]
  (repeat refine awp_seq ?_); refine ev_region ?_; simp only [go_sem]
  (repeat refine awp_seq ?_); refine awp_ret ?_
  try simp only [go_sem]
  have hr := Option.some.inj h
  refine finb_of ?_; simp only [go_sem]
  exact fin_old' (d' := .agg [.int .i64 a0, .int .i64 a1]) hsc (.same _) (by simp) ⟨by subst hr; rfl, rfl⟩

set_option maxHeartbeats 2000000 in
set_option maxRecDepth 100000 in
theorem ok_graphFault (a0 : Int) (a1 : Int) (r : ApiFault) (h : graphFault a0 a1 = some r) : Pure Tryd.prog gl 50 [.int .i64 a0, .int .i64 a1] (.agg [.int .i64 r.code, .int .i64 r.index]) := by
  intro st
  unfold graphFault at h
  refine spec_fb (N := 8) (rs := [.cell 4 41]) (keep := [0, 1, 4]) Tryd.func50 rfl rfl rfl (by kernel_rfl) rfl fun hsc => ?_
  (repeat refine awp_seq ?_); refine ev_region ?_; simp only [go_sem]
  (repeat refine awp_seq ?_); refine ev_region ?_; simp only [go_sem]
  (repeat refine awp_seq ?_); refine awp_ret ?_
  try simp only [go_sem]
  have hr := Option.some.inj h
  refine finb_of ?_; simp only [go_sem]
  exact fin_old' (d' := .agg [.int .i64 a0, .int .i64 a1]) hsc (.same _) (by simp) ⟨by subst hr; rfl, rfl⟩

set_option maxHeartbeats 2000000 in
set_option maxRecDepth 100000 in
theorem ok_graphLoose (a0 : ApiHierarchy) (a1 : ApiGraph) (r : ApiFault) (h : graphLoose a0 a1 = some r) : Pure Tryd.prog gl 48 [.agg [.sl false 2 40 (rows ApiType.cells a0.types), .sl false 3 32 (rows ApiFeat.cells a0.feats)], .agg [.sl false 2 32 (rows ApiNode.cells a1.nodes)]] (.agg [.int .i64 r.code, .int .i64 r.index]) := by
  intro st
  unfold graphLoose at h
  refine spec_fb (N := 86) (rs := [.cell 4 41]) (keep := [0, 1, 2, 3, 4, 5, 6, 7, 9, 15, 16, 17, 18, 19, 22, 23, 24, 25, 33, 34, 35, 36, 37, 38, 39, 43, 44, 45, 46, 53, 54, 55, 56, 57, 58, 61, 62, 63, 66, 67, 68, 69, 70, 71, 72, 78]) Tryd.func48 rfl rfl rfl (by kernel_rfl) rfl fun hsc => ?_
  (repeat refine awp_seq ?_); refine ev_region ?_; simp only [go_sem]
  (repeat refine awp_seq ?_); refine ev_region ?_; simp only [go_sem]
  (repeat refine awp_seq ?_); refine awp_cond (by rfl) (fun hc => ?_) fun hc => ?_
  · replace h := cond_t h (by first | exact hc | simpa using hc)
    (repeat refine awp_seq ?_); refine ev_region ?_; simp only [go_sem]
    obtain ⟨v1, hv1, h⟩ := bind_some h
    refine ((ok_graphFault _ _ _ hv1)).to ?_
    try simp only [go_sem]
    (repeat refine awp_seq ?_); refine awp_ret ?_
    try simp only [go_sem]
    have hr := Option.some.inj h
    refine finb_of ?_; simp only [go_sem]
    exact fin_old' (d' := .agg [.int .i64 v1.code, .int .i64 v1.index]) hsc (.same _) (by simp) ⟨by subst hr; rfl, rfl⟩
  · replace h := cond_f h (by first | exact hc | simpa using hc)
    refine awp_skip ?_; try simp only [go_sem]
    (repeat refine awp_seq ?_); refine ev_region ?_; simp only [go_sem]
    (repeat refine awp_seq ?_); refine awp_len (t := 22) rfl fun hl0 => ?_
    simp only [rows_len] at hl0
    (repeat refine awp_seq ?_); refine awp_range (body := graphLoose_b0 a1 a0) (kk := graphLoose_a0) (n := a1.nodes.length) (s0 := ())
      (fun (gs0 : Unit) (k0 : Nat) (s0 : Unit) => [(2, .ptr st.length 0 0 0), (3, .ptr (st.length + 1) 0 0 0), (4, .ptr (st.length + 2) 0 0 0), (22, .sl false 2 32 (rows ApiNode.cells a1.nodes)), (23, .int .i64 (↑a1.nodes.length : Int)), (24, .int .i64 (↑k0 : Int))])
      (fun (gs0 : Unit) (k0 : Nat) (s0 : Unit) => st ++ [some (.arr 0 2 0 [[.sl false 2 40 (rows ApiType.cells a0.types), .sl false 3 32 (rows ApiFeat.cells a0.feats)]]), some (.arr 0 1 0 [[.sl false 2 32 (rows ApiNode.cells a1.nodes)]]), some (.arr 0 2 0 [[.int .i64 0, .int .i64 0]])])
      (fun (gt0 : Unit) (t0 : Unit) => [(4, .ptr (st.length + 2) 0 0 0)])
      (fun (gt0 : Unit) (t0 : Unit) => st ++ [none, none, some (.arr 0 2 0 [[.int .i64 0, .int .i64 0]])])
      () h (bks_mk hsc (.live _ _ _ _ (.same _) (.live _ _ _ _ (.same _) (.live _ _ _ _ (.same _) (.nil _)))) (by simp) ⟨.same _, .same _, .same _, .same _, .same _, .same _, trivial⟩ (by simp))
      (fun gs0 k0 s0 b0 hk0 h hx0 => ?_) (fun gs0 s0 => ?_) (fun gt0 t0 fr1 st1 h hb => ?_)
    · unfold graphLoose_b0 at h
      have hw0 : wr .i64 ((↑k0 : Int) + 1) = (↑(k0 + 1) : Int) := wr_succ hk0 hl0 (by decide)
      (repeat refine awp_seq ?_); refine ev_region ?_; simp only [go_sem]
      (repeat refine awp_seq ?_); refine awp_cond (by rfl) (fun hc => ?_) fun hc => ?_
      · refine awp_skip ?_; try simp only [go_sem]
        (repeat refine awp_seq ?_); refine awp_block ?_
        (repeat refine awp_seq ?_); refine ev_region ?_; simp only [go_sem, hk0, hw0]
        (repeat refine awp_seq ?_); refine ev_region ?_; simp only [go_sem, hk0, hw0]
        (repeat refine awp_seq ?_); refine awp_cond (by rfl) (fun hc => ?_) fun hc => ?_
        · replace h := cond_t h (by first | exact hc | simpa using hc)
          (repeat refine awp_seq ?_); refine ev_region ?_; simp only [go_sem, hk0, hw0]
          obtain ⟨v7, hv7, h⟩ := bind_some h
          refine ((ok_graphFault _ _ _ hv7)).to ?_
          try simp only [go_sem, hk0, hw0]
          (repeat refine awp_seq ?_); refine awp_ret ?_
          try simp only [go_sem, hk0, hw0]
          obtain rfl := Option.some.inj h
          refine pbr_ret ?_; have hr := hx0 _ rfl; try simp only [go_sem, hk0, hw0]
          refine finb_of ?_; simp only [go_sem, hk0, hw0]
          exact fin_old' (d' := .agg [.int .i64 v7.code, .int .i64 v7.index]) hsc (.same _) (by simp) ⟨by subst hr; rfl, rfl⟩
        · replace h := cond_f h (by first | exact hc | simpa using hc)
          refine awp_skip ?_; try simp only [go_sem, hk0, hw0]
          (repeat refine awp_seq ?_); refine ev_region ?_; simp only [go_sem, hk0, hw0]
          (repeat refine awp_seq ?_); refine ev_region ?_; simp only [go_sem, hk0, hw0]
          (repeat refine awp_seq ?_); refine awp_len (t := 43) rfl fun hl2 => ?_
          simp only [rows_len] at hl2
          (repeat refine awp_seq ?_); refine awp_range (body := graphLoose_b2 a1 k0 a0) (kk := graphLoose_a2) (n := ((get a1.nodes k0).links).length) (s0 := -1)
            (fun (gs2 : Unit) (k2 : Nat) (s2 : Int) => [(2, .ptr st.length 0 0 0), (3, .ptr (st.length + 1) 0 0 0), (4, .ptr (st.length + 2) 0 0 0), (5, .int .i64 (↑k0 : Int)), (7, .int .i64 s2), (22, .sl false 2 32 (rows ApiNode.cells a1.nodes)), (23, .int .i64 (↑a1.nodes.length : Int)), (24, .int .i64 (↑k0 : Int)), (43, .sl false 2 16 (rows ApiLink.cells ((get a1.nodes k0).links))), (44, .int .i64 (↑(((get a1.nodes k0).links).length) : Int)), (45, .int .i64 (↑k2 : Int))])
            (fun (gs2 : Unit) (k2 : Nat) (s2 : Int) => st ++ [some (.arr 0 2 0 [[.sl false 2 40 (rows ApiType.cells a0.types), .sl false 3 32 (rows ApiFeat.cells a0.feats)]]), some (.arr 0 1 0 [[.sl false 2 32 (rows ApiNode.cells a1.nodes)]]), some (.arr 0 2 0 [[.int .i64 0, .int .i64 0]])])
            (fun (gt2 : Unit) (t2 : Int) => [(2, .ptr st.length 0 0 0), (3, .ptr (st.length + 1) 0 0 0), (4, .ptr (st.length + 2) 0 0 0), (22, .sl false 2 32 (rows ApiNode.cells a1.nodes)), (23, .int .i64 (↑a1.nodes.length : Int)), (24, .int .i64 (↑k0 : Int))])
            (fun (gt2 : Unit) (t2 : Int) => st ++ [some (.arr 0 2 0 [[.sl false 2 40 (rows ApiType.cells a0.types), .sl false 3 32 (rows ApiFeat.cells a0.feats)]]), some (.arr 0 1 0 [[.sl false 2 32 (rows ApiNode.cells a1.nodes)]]), some (.arr 0 2 0 [[.int .i64 0, .int .i64 0]])])
            () h (bks_mk hsc (.live _ _ _ _ (.same _) (.live _ _ _ _ (.same _) (.live _ _ _ _ (.same _) (.nil _)))) (by simp) ⟨.same _, .same _, .same _, .same _, .same _, .same _, .same _, .same _, .same _, .same _, .same _, trivial⟩ (by simp))
            (fun gs2 k2 s2 b2 hk2 h hx2 => ?_) (fun gs2 s2 => ?_) (fun gt2 t2 fr1 st1 h hb => ?_)
          · unfold graphLoose_b2 at h
            have hw2 : wr .i64 ((↑k2 : Int) + 1) = (↑(k2 + 1) : Int) := wr_succ hk2 hl2 (by decide)
            (repeat refine awp_seq ?_); refine ev_region ?_; simp only [go_sem, hk0, hw0]
            (repeat refine awp_seq ?_); refine awp_cond (by rfl) (fun hc => ?_) fun hc => ?_
            · refine awp_skip ?_; try simp only [go_sem, hk0, hw0]
              (repeat refine awp_seq ?_); refine awp_block ?_
              (repeat refine awp_seq ?_); refine ev_region ?_; simp only [go_sem, hk0, hw0, hk2, hw2]
              (repeat refine awp_seq ?_); refine ev_region ?_; simp only [go_sem, hk0, hw0, hk2, hw2]
              (repeat refine awp_seq ?_); refine awp_cond (by rfl) (fun hc => ?_) fun hc => ?_
              · replace h := cond_t h (by first | exact hc | simpa using hc)
                (repeat refine awp_seq ?_); refine ev_region ?_; simp only [go_sem, hk0, hw0, hk2, hw2]
                obtain ⟨v10, hv10, h⟩ := bind_some h
                refine ((ok_graphFault _ _ _ hv10)).to ?_
                try simp only [go_sem, hk0, hw0, hk2, hw2]
                (repeat refine awp_seq ?_); refine awp_ret ?_
                try simp only [go_sem, hk0, hw0, hk2, hw2]
                obtain rfl := Option.some.inj h
                refine pbr_ret ?_; obtain rfl := hx2 _ rfl; try simp only [go_sem, hk0, hw0, hk2, hw2]
                refine pbr_ret ?_; have hr := hx0 _ rfl; try simp only [go_sem, hk0, hw0, hk2, hw2]
                refine finb_of ?_; simp only [go_sem, hk0, hw0, hk2, hw2]
                exact fin_old' (d' := .agg [.int .i64 v10.code, .int .i64 v10.index]) hsc (.same _) (by simp) ⟨by subst hr; rfl, rfl⟩
              · replace h := cond_f h (by first | exact hc | simpa using hc)
                refine awp_skip ?_; try simp only [go_sem, hk0, hw0, hk2, hw2]
                (repeat refine awp_seq ?_); refine ev_region ?_; simp only [go_sem, hk0, hw0, hk2, hw2]
                (repeat refine awp_seq ?_); refine awp_cond (by rfl) (fun hc => ?_) fun hc => ?_
                · replace h := cond_t h (by first | exact hc | simpa using hc)
                  (repeat refine awp_seq ?_); refine ev_region ?_; simp only [go_sem, hk0, hw0, hk2, hw2]
                  obtain ⟨v11, hv11, h⟩ := bind_some h
                  refine ((ok_graphFault _ _ _ hv11)).to ?_
                  try simp only [go_sem, hk0, hw0, hk2, hw2]
                  (repeat refine awp_seq ?_); refine awp_ret ?_
                  try simp only [go_sem, hk0, hw0, hk2, hw2]
                  obtain rfl := Option.some.inj h
                  refine pbr_ret ?_; obtain rfl := hx2 _ rfl; try simp only [go_sem, hk0, hw0, hk2, hw2]
                  refine pbr_ret ?_; have hr := hx0 _ rfl; try simp only [go_sem, hk0, hw0, hk2, hw2]
                  refine finb_of ?_; simp only [go_sem, hk0, hw0, hk2, hw2]
                  exact fin_old' (d' := .agg [.int .i64 v11.code, .int .i64 v11.index]) hsc (.same _) (by simp) ⟨by subst hr; rfl, rfl⟩
                · replace h := cond_f h (by first | exact hc | simpa using hc)
                  refine awp_skip ?_; try simp only [go_sem, hk0, hw0, hk2, hw2]
                  (repeat refine awp_seq ?_); refine ev_region ?_; simp only [go_sem, hk0, hw0, hk2, hw2]
                  (repeat refine awp_seq ?_); refine ev_region ?_; simp only [go_sem, hk0, hw0, hk2, hw2]
                  cases h
                  exact pbr_nxt () (bks_mk hsc (.live _ _ _ _ (.same _) (.live _ _ _ _ (.same _) (.live _ _ _ _ (.same _) (.nil _)))) (by simp) ⟨.same _, .same _, .same _, .same _, .same _, .same _, .same _, .same _, .same _, .same _, .same _, trivial⟩ (by simp))
            · exfalso; have hc := of_decide_eq_false hc; omega
          · (repeat refine awp_seq ?_); refine ev_region ?_; simp only [go_sem, hk0, hw0]
            (repeat refine awp_seq ?_); refine awp_cond (by rfl) (fun hc => ?_) fun hc => ?_
            · exfalso; first | exact Bool.noConfusion hc | (have hc := of_decide_eq_true hc; omega)
            · refine awp_exit ?_; simp only [go_sem, hk0, hw0]
              exact ⟨(), (bks_mk hsc (.live _ _ _ _ (.same _) (.live _ _ _ _ (.same _) (.live _ _ _ _ (.same _) (.nil _)))) (by simp) ⟨.same _, .same _, .same _, .same _, .same _, .same _, trivial⟩ (by simp))⟩
          · try simp only [go_sem, hk0, hw0]
            unfold graphLoose_a2 at h
            refine awp_bks hb ?_
            (repeat refine awp_seq ?_); refine ev_region ?_; simp only [go_sem, hk0, hw0]
            cases h
            exact pbr_nxt () (bks_mk hsc (.live _ _ _ _ (.same _) (.live _ _ _ _ (.same _) (.live _ _ _ _ (.same _) (.nil _)))) (by simp) ⟨.same _, .same _, .same _, .same _, .same _, .same _, trivial⟩ (by simp))
      · exfalso; have hc := of_decide_eq_false hc; omega
    · (repeat refine awp_seq ?_); refine ev_region ?_; simp only [go_sem]
      (repeat refine awp_seq ?_); refine awp_cond (by rfl) (fun hc => ?_) fun hc => ?_
      · exfalso; first | exact Bool.noConfusion hc | (have hc := of_decide_eq_true hc; omega)
      · refine awp_exit ?_; simp only [go_sem]
        exact ⟨(), (bks_mk hsc (.dead _ _ _ (.dead _ _ _ (.live _ _ _ _ (.same _) (.nil _)))) (by simp) ⟨.same _, trivial⟩ (by simp))⟩
    · try simp only [go_sem]
      unfold graphLoose_a0 at h
      refine awp_bks hb ?_
      (repeat refine awp_seq ?_); refine ev_region ?_; simp only [go_sem]
      (repeat refine awp_seq ?_); refine awp_ret ?_
      try simp only [go_sem]
      have hr := Option.some.inj h
      refine finb_of ?_; simp only [go_sem]
      exact fin_old' (d' := .agg [.int .i64 0, .int .i64 0]) hsc (.same _) (by simp) ⟨by subst hr; rfl, rfl⟩


end Go.Proofs.YtaohdfpcdfbnlaaDoor

