/-
  Each Go function of this part does what its plain Lean function says.
-/
import Derived.Test.YtaohdfpcdfbnlaaDoorBase
import Derived.Test.YtaohdfpcdfbnlaaDoorHand
import Derived.Test.YtaohdfpcdfbnlaaDoorMirrors
import Derived.Test.YtaohdfpcdfbnlaaDoorWalk10
import Derived.Test.YtaohdfpcdfbnlaaDoorWalk9
set_option linter.unusedVariables false
set_option linter.unusedSimpArgs false
namespace Go.Proofs.YtaohdfpcdfbnlaaDoor
open Go Go.Am

set_option maxHeartbeats 2000000 in
set_option maxRecDepth 100000 in
theorem ok_trainCheck (n : Nat) (a0 : ApiGrammar) (a1 : ApiCounts) (r : ApiFault) (h : trainCheck n a0 a1 = some r) : Pure Tryd.prog gl 14 [.agg [.sl false 2 40 (rows ApiType.cells a0.hierarchy.types), .sl false 3 32 (rows ApiFeat.cells a0.hierarchy.feats), .sl false 10 152 (rows ApiRule.cells a0.rules), .sl false 9 144 (rows ApiLex.cells a0.lexes), .sl false 2 32 (rows ApiNode.cells a0.start.nodes)], .agg [.sl false 1 8 (rows i64c a1.rules), .sl false 1 8 (rows i64c a1.lexes)]] (.agg [.int .i64 r.code, .int .i64 r.index]) := by
  intro st
  unfold trainCheck at h
  refine spec_fb (N := 72) (rs := [.cell 4 41]) (keep := [0, 1, 2, 3, 4, 5, 6, 7, 8, 9, 14, 24, 25, 26, 27, 28, 29, 30, 31, 34, 35, 36, 37, 44, 45, 46, 51, 52, 53, 54, 61, 62, 63]) Tryd.func14 rfl rfl rfl (by kernel_rfl) rfl fun hsc => ?_
  (repeat refine awp_seq ?_); refine ev_region ?_; simp only [go_sem]
  (repeat refine awp_seq ?_); refine ev_region ?_; simp only [go_sem]
  obtain ⟨v1, hv1, h⟩ := bind_some h
  refine ((ok_grammarValidate n _ _ hv1)).to ?_
  try simp only [go_sem]
  (repeat refine awp_seq ?_); refine ev_region ?_; simp only [go_sem]
  (repeat refine awp_seq ?_); refine awp_cond (by rfl) (fun hc => ?_) fun hc => ?_
  · replace h := cond_t h (by first | exact hc | simpa using hc)
    (repeat refine awp_seq ?_); refine ev_region ?_; simp only [go_sem]
    (repeat refine awp_seq ?_); refine awp_ret ?_
    try simp only [go_sem]
    have hr := Option.some.inj h
    refine finb_of ?_; simp only [go_sem]
    exact fin_old' (d' := .agg [.int .i64 v1.code, .int .i64 v1.index]) hsc (.same _) (by simp) ⟨by subst hr; rfl, rfl⟩
  · replace h := cond_f h (by first | exact hc | simpa using hc)
    refine awp_skip ?_; try simp only [go_sem]
    (repeat refine awp_seq ?_); refine ev_region ?_; simp only [go_sem]
    (repeat refine awp_seq ?_); refine awp_cond (by rfl) (fun hc => ?_) fun hc => ?_
    · replace h := cond_t h (by first | exact hc | simpa using hc)
      (repeat refine awp_seq ?_); refine ev_region ?_; simp only [go_sem]
      obtain ⟨v2, hv2, h⟩ := bind_some h
      refine ((ok_trainFault _ _ _ hv2)).to ?_
      try simp only [go_sem]
      (repeat refine awp_seq ?_); refine awp_ret ?_
      try simp only [go_sem]
      have hr := Option.some.inj h
      refine finb_of ?_; simp only [go_sem]
      exact fin_old' (d' := .agg [.int .i64 v2.code, .int .i64 v2.index]) hsc (.same _) (by simp) ⟨by subst hr; rfl, rfl⟩
    · replace h := cond_f h (by first | exact hc | simpa using hc)
      refine awp_skip ?_; try simp only [go_sem]
      (repeat refine awp_seq ?_); refine ev_region ?_; simp only [go_sem]
      (repeat refine awp_seq ?_); refine awp_len (t := 34) rfl fun hl0 => ?_
      simp only [rows_len] at hl0
      (repeat refine awp_seq ?_); refine awp_range (body := trainCheck_b0 a1) (kk := trainCheck_a0 a1) (n := a1.rules.length) (s0 := ())
        (fun (gs0 : Unit) (k0 : Nat) (s0 : Unit) => [(3, .ptr (st.length + 1) 0 0 0), (4, .ptr (st.length + 2) 0 0 0), (34, .sl false 1 8 (rows i64c a1.rules)), (35, .int .i64 (↑a1.rules.length : Int)), (36, .int .i64 (↑k0 : Int))])
        (fun (gs0 : Unit) (k0 : Nat) (s0 : Unit) => st ++ [none, some (.arr 0 2 0 [[.sl false 1 8 (rows i64c a1.rules), .sl false 1 8 (rows i64c a1.lexes)]]), some (.arr 0 2 0 [[.int .i64 0, .int .i64 0]])])
        (fun (gt0 : Unit) (t0 : Unit) => [(3, .ptr (st.length + 1) 0 0 0), (4, .ptr (st.length + 2) 0 0 0)])
        (fun (gt0 : Unit) (t0 : Unit) => st ++ [none, some (.arr 0 2 0 [[.sl false 1 8 (rows i64c a1.rules), .sl false 1 8 (rows i64c a1.lexes)]]), some (.arr 0 2 0 [[.int .i64 0, .int .i64 0]])])
        () h (bks_mk hsc (.dead _ _ _ (.live _ _ _ _ (.same _) (.live _ _ _ _ (.same _) (.nil _)))) (by simp) ⟨.same _, .same _, .same _, .same _, .same _, trivial⟩ (by simp))
        (fun gs0 k0 s0 b0 hk0 h hx0 => ?_) (fun gs0 s0 => ?_) (fun gt0 t0 fr1 st1 h hb => ?_)
      · unfold trainCheck_b0 at h
        have hw0 : wr .i64 ((↑k0 : Int) + 1) = (↑(k0 + 1) : Int) := wr_succ hk0 hl0 (by decide)
        (repeat refine awp_seq ?_); refine ev_region ?_; simp only [go_sem]
        (repeat refine awp_seq ?_); refine awp_cond (by rfl) (fun hc => ?_) fun hc => ?_
        · refine awp_skip ?_; try simp only [go_sem]
          (repeat refine awp_seq ?_); refine awp_block ?_
          (repeat refine awp_seq ?_); refine ev_region ?_; simp only [go_sem, hk0, hw0]
          (repeat refine awp_seq ?_); refine ev_region ?_; simp only [go_sem, hk0, hw0]
          (repeat refine awp_seq ?_); refine awp_cond (by rfl) (fun hc => ?_) fun hc => ?_
          · replace h := cond_t h (by first | exact hc | simpa using hc)
            (repeat refine awp_seq ?_); refine ev_region ?_; simp only [go_sem, hk0, hw0]
            obtain ⟨v4, hv4, h⟩ := bind_some h
            refine ((ok_trainFault _ _ _ hv4)).to ?_
            try simp only [go_sem, hk0, hw0]
            (repeat refine awp_seq ?_); refine awp_ret ?_
            try simp only [go_sem, hk0, hw0]
            obtain rfl := Option.some.inj h
            refine pbr_ret ?_; have hr := hx0 _ rfl; try simp only [go_sem, hk0, hw0]
            refine finb_of ?_; simp only [go_sem, hk0, hw0]
            exact fin_old' (d' := .agg [.int .i64 v4.code, .int .i64 v4.index]) hsc (.same _) (by simp) ⟨by subst hr; rfl, rfl⟩
          · replace h := cond_f h (by first | exact hc | simpa using hc)
            refine awp_skip ?_; try simp only [go_sem, hk0, hw0]
            (repeat refine awp_seq ?_); refine ev_region ?_; simp only [go_sem, hk0, hw0]
            cases h
            exact pbr_nxt () (bks_mk hsc (.dead _ _ _ (.live _ _ _ _ (.same _) (.live _ _ _ _ (.same _) (.nil _)))) (by simp) ⟨.same _, .same _, .same _, .same _, .same _, trivial⟩ (by simp))
        · exfalso; have hc := of_decide_eq_false hc; omega
      · (repeat refine awp_seq ?_); refine ev_region ?_; simp only [go_sem]
        (repeat refine awp_seq ?_); refine awp_cond (by rfl) (fun hc => ?_) fun hc => ?_
        · exfalso; first | exact Bool.noConfusion hc | (have hc := of_decide_eq_true hc; omega)
        · refine awp_exit ?_; simp only [go_sem]
          exact ⟨(), (bks_mk hsc (.dead _ _ _ (.live _ _ _ _ (.same _) (.live _ _ _ _ (.same _) (.nil _)))) (by simp) ⟨.same _, .same _, trivial⟩ (by simp))⟩
      · try simp only [go_sem]
        unfold trainCheck_a0 at h
        refine awp_bks hb ?_
        (repeat refine awp_seq ?_); refine ev_region ?_; simp only [go_sem]
        (repeat refine awp_seq ?_); refine awp_len (t := 51) rfl fun hl1 => ?_
        simp only [rows_len] at hl1
        (repeat refine awp_seq ?_); refine awp_range (body := trainCheck_b1 a1) (kk := trainCheck_a1) (n := a1.lexes.length) (s0 := ())
          (fun (gs1 : Unit) (k1 : Nat) (s1 : Unit) => [(3, .ptr (st.length + 1) 0 0 0), (4, .ptr (st.length + 2) 0 0 0), (51, .sl false 1 8 (rows i64c a1.lexes)), (52, .int .i64 (↑a1.lexes.length : Int)), (53, .int .i64 (↑k1 : Int))])
          (fun (gs1 : Unit) (k1 : Nat) (s1 : Unit) => st ++ [none, some (.arr 0 2 0 [[.sl false 1 8 (rows i64c a1.rules), .sl false 1 8 (rows i64c a1.lexes)]]), some (.arr 0 2 0 [[.int .i64 0, .int .i64 0]])])
          (fun (gt1 : Unit) (t1 : Unit) => [(4, .ptr (st.length + 2) 0 0 0)])
          (fun (gt1 : Unit) (t1 : Unit) => st ++ [none, none, some (.arr 0 2 0 [[.int .i64 0, .int .i64 0]])])
          () h (bks_mk hsc (.dead _ _ _ (.live _ _ _ _ (.same _) (.live _ _ _ _ (.same _) (.nil _)))) (by simp) ⟨.same _, .same _, .same _, .same _, .same _, trivial⟩ (by simp))
          (fun gs1 k1 s1 b1 hk1 h hx1 => ?_) (fun gs1 s1 => ?_) (fun gt1 t1 fr1 st1 h hb => ?_)
        · unfold trainCheck_b1 at h
          have hw1 : wr .i64 ((↑k1 : Int) + 1) = (↑(k1 + 1) : Int) := wr_succ hk1 hl1 (by decide)
          (repeat refine awp_seq ?_); refine ev_region ?_; simp only [go_sem]
          (repeat refine awp_seq ?_); refine awp_cond (by rfl) (fun hc => ?_) fun hc => ?_
          · refine awp_skip ?_; try simp only [go_sem]
            (repeat refine awp_seq ?_); refine awp_block ?_
            (repeat refine awp_seq ?_); refine ev_region ?_; simp only [go_sem, hk1, hw1]
            (repeat refine awp_seq ?_); refine ev_region ?_; simp only [go_sem, hk1, hw1]
            (repeat refine awp_seq ?_); refine awp_cond (by rfl) (fun hc => ?_) fun hc => ?_
            · replace h := cond_t h (by first | exact hc | simpa using hc)
              (repeat refine awp_seq ?_); refine ev_region ?_; simp only [go_sem, hk1, hw1]
              obtain ⟨v6, hv6, h⟩ := bind_some h
              refine ((ok_trainFault _ _ _ hv6)).to ?_
              try simp only [go_sem, hk1, hw1]
              (repeat refine awp_seq ?_); refine awp_ret ?_
              try simp only [go_sem, hk1, hw1]
              obtain rfl := Option.some.inj h
              refine pbr_ret ?_; have hr := hx1 _ rfl; try simp only [go_sem, hk1, hw1]
              refine finb_of ?_; simp only [go_sem, hk1, hw1]
              exact fin_old' (d' := .agg [.int .i64 v6.code, .int .i64 v6.index]) hsc (.same _) (by simp) ⟨by subst hr; rfl, rfl⟩
            · replace h := cond_f h (by first | exact hc | simpa using hc)
              refine awp_skip ?_; try simp only [go_sem, hk1, hw1]
              (repeat refine awp_seq ?_); refine ev_region ?_; simp only [go_sem, hk1, hw1]
              cases h
              exact pbr_nxt () (bks_mk hsc (.dead _ _ _ (.live _ _ _ _ (.same _) (.live _ _ _ _ (.same _) (.nil _)))) (by simp) ⟨.same _, .same _, .same _, .same _, .same _, trivial⟩ (by simp))
          · exfalso; have hc := of_decide_eq_false hc; omega
        · (repeat refine awp_seq ?_); refine ev_region ?_; simp only [go_sem]
          (repeat refine awp_seq ?_); refine awp_cond (by rfl) (fun hc => ?_) fun hc => ?_
          · exfalso; first | exact Bool.noConfusion hc | (have hc := of_decide_eq_true hc; omega)
          · refine awp_exit ?_; simp only [go_sem]
            exact ⟨(), (bks_mk hsc (.dead _ _ _ (.dead _ _ _ (.live _ _ _ _ (.same _) (.nil _)))) (by simp) ⟨.same _, trivial⟩ (by simp))⟩
        · try simp only [go_sem]
          unfold trainCheck_a1 at h
          refine awp_bks hb ?_
          (repeat refine awp_seq ?_); refine ev_region ?_; simp only [go_sem]
          (repeat refine awp_seq ?_); refine awp_ret ?_
          try simp only [go_sem]
          have hr := Option.some.inj h
          refine finb_of ?_; simp only [go_sem]
          exact fin_old' (d' := .agg [.int .i64 0, .int .i64 0]) hsc (.same _) (by simp) ⟨by subst hr; rfl, rfl⟩

set_option maxHeartbeats 2000000 in
set_option maxRecDepth 100000 in
theorem ok_fracSize (a0 : Int) (r : Int) (h : fracSize a0 = some r) : Pure Tryd.prog gl 55 [.int .i64 a0] (.int .u64 r) := by
  intro st
  unfold fracSize at h
  refine spec_fb (N := 12) (rs := [.tmp 2]) (keep := [0, 2, 4]) Tryd.func55 rfl rfl rfl (by kernel_rfl) rfl fun hsc => ?_
  (repeat refine awp_seq ?_); refine ev_region ?_; simp only [go_sem]
  (repeat refine awp_seq ?_); refine ev_region ?_; simp only [go_sem]
  (repeat refine awp_seq ?_); refine awp_cond (by rfl) (fun hc => ?_) fun hc => ?_
  · replace h := cond_t h (by first | exact hc | simpa using hc)
    (repeat refine awp_seq ?_); refine ev_region ?_; simp only [go_sem]
    (repeat refine awp_seq ?_); refine awp_ret ?_
    try simp only [go_sem]
    have hr := Option.some.inj h
    refine finb_of ?_; simp only [go_sem]
    exact fin_same' (d' := .int .u64 (wr .u64 ((wr .u64 (wr .i64 (0 - (wr .i64 (a0 + 1))))) + 1))) hsc (.same _) (by simp) ⟨by subst hr; rfl, rfl⟩
  · replace h := cond_f h (by first | exact hc | simpa using hc)
    refine awp_skip ?_; try simp only [go_sem]
    (repeat refine awp_seq ?_); refine ev_region ?_; simp only [go_sem]
    (repeat refine awp_seq ?_); refine awp_ret ?_
    try simp only [go_sem]
    have hr := Option.some.inj h
    refine finb_of ?_; simp only [go_sem]
    exact fin_same' (d' := .int .u64 (wr .u64 a0)) hsc (.same _) (by simp) ⟨by subst hr; rfl, rfl⟩

set_option maxHeartbeats 2000000 in
set_option maxRecDepth 100000 in
theorem ok_fracGcd (n : Nat) (a0 : Int) (a1 : Int) (r : Int) (h : fracGcd n a0 a1 = some r) : Pure Tryd.prog gl 56 [.int .u64 a0, .int .u64 a1] (.int .u64 r) := by
  intro st
  unfold fracGcd at h
  refine spec_fb (N := 12) (rs := [.tmp 4]) (keep := [0, 1, 4, 6]) Tryd.func56 rfl rfl rfl (by kernel_rfl) rfl fun hsc => ?_
  (repeat refine awp_seq ?_); refine ev_region ?_; simp only [go_sem]
  (repeat refine awp_seq ?_); refine awp_while (body := fracGcd_b0) (kk := fracGcd_a0) (n := n) (s0 := (a0, a1))
    (fun (gs0 : Unit) (s0 : Int × Int) => [(0, .int .u64 s0.1), (1, .int .u64 s0.2)])
    (fun (gs0 : Unit) (s0 : Int × Int) => st)
    (fun (gt0 : Unit) (t0 : Int) => [(0, .int .u64 t0)])
    (fun (gt0 : Unit) (t0 : Int) => st)
    () h (bks_mk00 hsc ⟨.same _, .same _, trivial⟩ (by simp))
    (fun gs0 s0 b0 h hx0 => ?_) (fun gt0 t0 fr1 st1 h hb => ?_)
  · unfold fracGcd_b0 at h
    (repeat refine awp_seq ?_); refine ev_region ?_; simp only [go_sem]
    (repeat refine awp_seq ?_); refine awp_cond (by rfl) (fun hc => ?_) fun hc => ?_
    · replace h := cond_t h (by first | exact hc | simpa using hc)
      refine awp_skip ?_; try simp only [go_sem]
      (repeat refine awp_seq ?_); refine awp_block ?_
      obtain ⟨f2, h⟩ := chk_some h
      (repeat refine awp_seq ?_); refine ev_draw_region [] 0 follows (by kernel_rfl) (by rfl) ?_; simp only [go_sem, List.replicate_succ, List.replicate_zero, f2]
      cases h
      exact pbw_nxt () (bks_mk00 hsc ⟨.same _, .same _, trivial⟩ (by simp))
    · replace h := cond_f h (by first | exact hc | simpa using hc)
      (repeat refine awp_seq ?_); refine awp_exit ?_; try simp only [go_sem]
      cases h
      exact pbw_brk () (bks_mk00 hsc ⟨.same _, trivial⟩ (by simp))
  · try simp only [go_sem]
    unfold fracGcd_a0 at h
    refine awp_bks hb ?_
    (repeat refine awp_seq ?_); refine ev_region ?_; simp only [go_sem]
    (repeat refine awp_seq ?_); refine awp_ret ?_
    try simp only [go_sem]
    have hr := Option.some.inj h
    refine finb_of ?_; simp only [go_sem]
    exact fin_same' (d' := .int .u64 t0) hsc (.same _) (by simp) ⟨by subst hr; rfl, rfl⟩

set_option maxHeartbeats 2000000 in
set_option maxRecDepth 100000 in
theorem ok_fracOf (a0 : Bool) (a1 : Int) (a2 : Int) (r : ApiFrac × ApiFault) (h : fracOf a0 a1 a2 = some r) : Pure Tryd.prog gl 57 [.bool a0, .int .u64 a1, .int .u64 a2] (.tup [.agg [.int .i64 r.1.num, .int .i64 r.1.den], .agg [.int .i64 r.2.code, .int .i64 r.2.index]]) := by
  intro st
  unfold fracOf at h
  refine spec_fb (N := 29) (rs := [.cell 6 49, .cell 7 41]) (keep := [0, 1, 2, 6, 7, 8, 12, 13, 14, 22]) Tryd.func57 rfl rfl rfl (by kernel_rfl) rfl fun hsc => ?_
  (repeat refine awp_seq ?_); refine ev_region ?_; simp only [go_sem]
  (repeat refine awp_seq ?_); refine ev_region ?_; simp only [go_sem]
  (repeat refine awp_seq ?_); refine awp_cond (by rfl) (fun hc => ?_) fun hc => ?_
  · replace h := cond_t h (by first | exact hc | simpa using hc)
    (repeat refine awp_seq ?_); refine ev_region ?_; simp only [go_sem]
    (repeat refine awp_seq ?_); refine awp_ret ?_
    try simp only [go_sem]
    have hr := Option.some.inj h
    refine finb_of ?_; simp only [go_sem]
    exact fin_old' (d' := .tup [.agg [.int .i64 0, .int .i64 0], .agg [.int .i64 18, .int .i64 0]]) hsc (.same _) (by simp) ⟨by subst hr; rfl, rfl⟩
  · replace h := cond_f h (by first | exact hc | simpa using hc)
    refine awp_skip ?_; try simp only [go_sem]
    (repeat refine awp_seq ?_); refine ev_region ?_; simp only [go_sem]
    (repeat refine awp_seq ?_); refine ev_region ?_; simp only [go_sem]
    (repeat refine awp_seq ?_); refine awp_cond (by rfl) (fun hc => ?_) fun hc => ?_
    · replace h := cond_t h (by first | exact hc | simpa using hc)
      (repeat refine awp_seq ?_); refine ev_region ?_; simp only [go_sem]
      (repeat refine awp_seq ?_); refine ev_region ?_; simp only [go_sem]
      (repeat refine awp_seq ?_); refine awp_ret ?_
      try simp only [go_sem]
      have hr := Option.some.inj h
      refine finb_of ?_; simp only [go_sem]
      exact fin_old' (d' := .tup [.agg [.int .i64 (wr .i64 (0 - (wr .i64 a1))), .int .i64 (wr .i64 a2)], .agg [.int .i64 0, .int .i64 0]]) hsc (.same _) (by simp) ⟨by subst hr; rfl, rfl⟩
    · replace h := cond_f h (by first | exact hc | simpa using hc)
      refine awp_skip ?_; try simp only [go_sem]
      (repeat refine awp_seq ?_); refine ev_region ?_; simp only [go_sem]
      (repeat refine awp_seq ?_); refine awp_ret ?_
      try simp only [go_sem]
      have hr := Option.some.inj h
      refine finb_of ?_; simp only [go_sem]
      exact fin_old' (d' := .tup [.agg [.int .i64 (wr .i64 a1), .int .i64 (wr .i64 a2)], .agg [.int .i64 0, .int .i64 0]]) hsc (.same _) (by simp) ⟨by subst hr; rfl, rfl⟩

set_option maxHeartbeats 2000000 in
set_option maxRecDepth 100000 in
theorem ok_fracMake (n : Nat) (a0 : Int) (a1 : Int) (r : ApiFrac × ApiFault) (h : fracMake n a0 a1 = some r) : Pure Tryd.prog gl 39 [.int .i64 a0, .int .i64 a1] (.tup [.agg [.int .i64 r.1.num, .int .i64 r.1.den], .agg [.int .i64 r.2.code, .int .i64 r.2.index]]) := by
  intro st
  unfold fracMake at h
  refine spec_fb (N := 34) (rs := [.cell 4 49, .cell 5 41]) (keep := [0, 1, 4, 5, 6, 7, 8, 10]) Tryd.func39 rfl rfl rfl (by kernel_rfl) rfl fun hsc => ?_
  (repeat refine awp_seq ?_); refine ev_region ?_; simp only [go_sem]
  (repeat refine awp_seq ?_); refine ev_region ?_; simp only [go_sem]
  (repeat refine awp_seq ?_); refine awp_cond (by rfl) (fun hc => ?_) fun hc => ?_
  · replace h := cond_t h (by first | exact hc | simpa using hc)
    (repeat refine awp_seq ?_); refine ev_region ?_; simp only [go_sem]
    (repeat refine awp_seq ?_); refine awp_ret ?_
    try simp only [go_sem]
    have hr := Option.some.inj h
    refine finb_of ?_; simp only [go_sem]
    exact fin_old' (d' := .tup [.agg [.int .i64 0, .int .i64 0], .agg [.int .i64 19, .int .i64 (-2)]]) hsc (.same _) (by simp) ⟨by subst hr; rfl, rfl⟩
  · replace h := cond_f h (by first | exact hc | simpa using hc)
    refine awp_skip ?_; try simp only [go_sem]
    (repeat refine awp_seq ?_); refine ev_region ?_; simp only [go_sem]
    obtain ⟨v1, hv1, h⟩ := bind_some h
    refine ((ok_fracSize _ _ hv1)).to ?_
    try simp only [go_sem]
    obtain ⟨v2, hv2, h⟩ := bind_some h
    refine ((ok_fracSize _ _ hv2)).to ?_
    try simp only [go_sem]
    (repeat refine awp_seq ?_); refine ev_region ?_; simp only [go_sem]
    obtain ⟨v3, hv3, h⟩ := bind_some h
    refine ((ok_fracGcd n _ _ _ hv3)).to ?_
    try simp only [go_sem]
    obtain ⟨⟨f4, f5⟩, h⟩ := chk_some h
    obtain ⟨f6, h⟩ := chk_some h
    (repeat refine awp_seq ?_); refine ev_draw_region [] 0 follows (by kernel_rfl) (by rfl) ?_; simp only [go_sem, List.replicate_succ, List.replicate_zero, f4, f5, f6]
    obtain ⟨v7, hv7, h⟩ := bind_some h
    refine dc_pure (ok_fracOf _ _ _ _ hv7) ?_
    try simp only [go_sem, f4, f5, f6]
    (repeat refine awp_seq ?_); refine awp_ret ?_
    try simp only [go_sem, f4, f5, f6]
    have hr := Option.some.inj h
    refine finb_of ?_; simp only [go_sem, f4, f5, f6]
    exact fin_old' (d' := .tup [.agg [.int .i64 v7.1.num, .int .i64 v7.1.den], .agg [.int .i64 v7.2.code, .int .i64 v7.2.index]]) hsc (.same _) (by simp) ⟨by subst hr; rfl, rfl⟩

set_option maxHeartbeats 2000000 in
set_option maxRecDepth 100000 in
theorem ok_trainWeights1 (n : Nat) (a1 : (List Int)) (l0 : (List Int)) (l2 : (List Int)) (r : (List ApiFrac)) (h : trainWeights1 n a1 l0 l2 = some r) : ∀ (st : St) (o0 o1 o2 q0 q2 : Nat) (hnd : [o0, o1, o2].Nodup) (hlo0 : Am.look st o0 = some (.arr q0 1 8 (rows i64c l0))) (hlo1 : Am.look st o1 = some (.arr 0 1 0 [[.ref true o2 q2 0 l2.length]])) (hlo2 : Am.look st o2 = some (.arr q2 1 8 (rows i64c l2))), Am.Spec Tryd.prog gl 38 [.ref false o0 q0 0 l0.length, .sl false 1 8 (rows i64c a1), .ptr o1 0 0 0] st (fun d st' => d = .sl false 2 16 (rows ApiFrac.cells r) ∧ st' = puts st []) := by
  intro st o0 o1 o2 q0 q2 hnd hlo0 hlo1 hlo2
  unfold trainWeights1 at h
  have ho0 := look_lt hlo0
  have ho1 := look_lt hlo1
  have ho2 := look_lt hlo2
  have hnd0 := hnd
  simp only [List.nodup_cons, List.mem_cons, List.not_mem_nil, or_false, not_or, not_false_eq_true, List.nodup_nil, and_true] at hnd0
  obtain ⟨⟨no0o1, no0o2⟩, no1o2⟩ := hnd0
  have mo0o1 : (o0 = o1) = False := eq_false no0o1
  have mo1o0 : (o1 = o0) = False := eq_false (fun e => no0o1 e.symm)
  have mo0o2 : (o0 = o2) = False := eq_false no0o2
  have mo2o0 : (o2 = o0) = False := eq_false (fun e => no0o2 e.symm)
  have mo1o2 : (o1 = o2) = False := eq_false no1o2
  have mo2o1 : (o2 = o1) = False := eq_false (fun e => no1o2 e.symm)
  refine spec_fb (N := 41) (rs := [.tmp 5]) (keep := [0, 1, 2, 5, 6, 7, 8, 9, 10, 11, 12, 13, 22]) Tryd.func38 rfl rfl rfl (by kernel_rfl) rfl fun hsc => ?_
  refine awp_st (s' := (upds st [(o0, (.arr q0 1 8 (rows i64c l0))), (o1, (.arr 0 1 0 [[.ref true o2 q2 0 l2.length]])), (o2, (.arr q2 1 8 (rows i64c l2)))])) (upds_self (by simp [hlo0, hlo1, hlo2])) ?_
  (repeat refine awp_seq ?_); refine ev_region ?_; simp only [go_sem, set_upds ho0, set_upds0 ho0, look_upds ho0, look_upds0 ho0, set_upds ho1, set_upds0 ho1, look_upds ho1, look_upds0 ho1, set_upds ho2, set_upds0 ho2, look_upds ho2, look_upds0 ho2, mo0o1, mo0o2, mo1o0, mo1o2, mo2o0, mo2o1]
  (repeat refine awp_seq ?_); refine ev_region ?_; simp only [go_sem, set_upds ho0, set_upds0 ho0, look_upds ho0, look_upds0 ho0, set_upds ho1, set_upds0 ho1, look_upds ho1, look_upds0 ho1, set_upds ho2, set_upds0 ho2, look_upds ho2, look_upds0 ho2, mo0o1, mo0o2, mo1o0, mo1o2, mo2o0, mo2o1]
  (repeat refine awp_seq ?_); refine ev_region ?_; simp only [go_sem, set_upds ho0, set_upds0 ho0, look_upds ho0, look_upds0 ho0, set_upds ho1, set_upds0 ho1, look_upds ho1, look_upds0 ho1, set_upds ho2, set_upds0 ho2, look_upds ho2, look_upds0 ho2, mo0o1, mo0o2, mo1o0, mo1o2, mo2o0, mo2o1]
  (repeat refine awp_seq ?_); refine awp_ph 2 16 ?_
  try simp only [List.append_assoc, List.cons_append, List.nil_append]
  refine awp_bks (F := [(1, .sl false 1 8 (rows i64c a1)), (2, .ptr o1 0 0 0), (6, .ref false st.length 0 0 0), (10, .ref false o0 q0 0 l0.length), (11, .int .i64 (↑l0.length : Int)), (12, .int .i64 0)]) (T := (upds st [(o0, (.arr q0 1 8 (rows i64c l0))), (o1, (.arr 0 1 0 [[.ref true o2 q2 0 l2.length]])), (o2, (.arr q2 1 8 (rows i64c l2)))]) ++ [some (.arr 0 2 16 (rows ApiFrac.cells []))]) (bku_mk (by simp) (upds_sc hsc (by simp <;> omega)) (.live _ _ _ _ (.same _) (.nil _)) (by simp <;> omega) ⟨.same _, .same _, .nref _ _ _ _ _ _ (get_updsn0.trans rfl), .same _, .same _, .same _, trivial⟩ (by simp <;> omega)) ?_
  obtain ⟨f1, h⟩ := chk_some h
  (repeat refine awp_seq ?_); refine awp_range (body := trainWeights1_b0 n l0 l2 a1) (kk := trainWeights1_a0) (n := l0.length) (s0 := [])
    (fun (gs0 : Nat) (k0 : Nat) (s0 : (List ApiFrac)) => [(1, .sl false 1 8 (rows i64c a1)), (2, .ptr o1 0 0 0), (6, .ref false st.length gs0 0 s0.length), (10, .ref false o0 q0 0 l0.length), (11, .int .i64 (↑l0.length : Int)), (12, .int .i64 (↑k0 : Int))])
    (fun (gs0 : Nat) (k0 : Nat) (s0 : (List ApiFrac)) => (upds st [(o0, (.arr q0 1 8 (rows i64c l0))), (o1, (.arr 0 1 0 [[.ref true o2 q2 0 l2.length]])), (o2, (.arr q2 1 8 (rows i64c l2)))]) ++ [some (.arr gs0 2 16 (rows ApiFrac.cells s0))])
    (fun (gt0 : Nat) (t0 : (List ApiFrac)) => [(6, .ref false st.length gt0 0 t0.length)])
    (fun (gt0 : Nat) (t0 : (List ApiFrac)) => (upds st [(o0, (.arr q0 1 8 (rows i64c l0))), (o1, (.arr 0 1 0 [[.ref true o2 q2 0 l2.length]])), (o2, (.arr q2 1 8 (rows i64c l2)))]) ++ [some (.arr gt0 2 16 (rows ApiFrac.cells t0))])
    0 h (bku_mk (by simp) (upds_sc hsc (by simp <;> omega)) (.live _ _ _ _ (.same _) (.nil _)) (by simp <;> omega) ⟨.same _, .same _, .same _, .same _, .same _, .same _, trivial⟩ (by simp <;> omega))
    (fun gs0 k0 s0 b0 hk0 h hx0 => ?_) (fun gs0 s0 => ?_) (fun gt0 t0 fr1 st1 h hb => ?_)
  · unfold trainWeights1_b0 at h
    have hw0 : wr .i64 ((↑k0 : Int) + 1) = (↑(k0 + 1) : Int) := wr_le hk0 f1
    (repeat refine awp_seq ?_); refine ev_region ?_; simp only [go_sem, set_upds ho0, set_upds0 ho0, look_upds ho0, look_upds0 ho0, set_upds ho1, set_upds0 ho1, look_upds ho1, look_upds0 ho1, set_upds ho2, set_upds0 ho2, look_upds ho2, look_upds0 ho2, mo0o1, mo0o2, mo1o0, mo1o2, mo2o0, mo2o1, f1]
    (repeat refine awp_seq ?_); refine awp_cond (by rfl) (fun hc => ?_) fun hc => ?_
    · refine awp_skip ?_; try simp only [go_sem, set_upds ho0, set_upds0 ho0, look_upds ho0, look_upds0 ho0, set_upds ho1, set_upds0 ho1, look_upds ho1, look_upds0 ho1, set_upds ho2, set_upds0 ho2, look_upds ho2, look_upds0 ho2, mo0o1, mo0o2, mo1o0, mo1o2, mo2o0, mo2o1, f1]
      (repeat refine awp_seq ?_); refine awp_block ?_
      have e24 : (rows i64c l0).getD k0 [] = i64c (get l0 k0) := rows_get (E := i64c) (l := l0) (k := k0) (by first | omega | (simp; omega))
      have e25 : k0 < l0.length := by first | omega | (simp; omega)
      (repeat refine awp_seq ?_); refine ev_region ?_; simp only [go_sem, set_upds ho0, set_upds0 ho0, look_upds ho0, look_upds0 ho0, set_upds ho1, set_upds0 ho1, look_upds ho1, look_upds0 ho1, set_upds ho2, set_upds0 ho2, look_upds ho2, look_upds0 ho2, mo0o1, mo0o2, mo1o0, mo1o2, mo2o0, mo2o1, f1, hk0, hw0, e24, e25]
      (repeat refine awp_seq ?_); refine ev_region ?_; simp only [go_sem, set_upds ho0, set_upds0 ho0, look_upds ho0, look_upds0 ho0, set_upds ho1, set_upds0 ho1, look_upds ho1, look_upds0 ho1, set_upds ho2, set_upds0 ho2, look_upds ho2, look_upds0 ho2, mo0o1, mo0o2, mo1o0, mo1o2, mo2o0, mo2o1, f1, hk0, hw0]
      obtain ⟨⟨f26, f27⟩, h⟩ := chk_some h
      have e28 : (rows i64c l2).getD ((get l0 k0).toNat) [] = i64c (get l2 ((get l0 k0).toNat)) := rows_get (E := i64c) (l := l2) (k := (get l0 k0).toNat) (by first | omega | (simp; omega))
      have e29 : (get l0 k0).toNat < l2.length := by first | omega | (simp; omega)
      (repeat refine awp_seq ?_); refine ev_region ?_; simp only [go_sem, set_upds ho0, set_upds0 ho0, look_upds ho0, look_upds0 ho0, set_upds ho1, set_upds0 ho1, look_upds ho1, look_upds0 ho1, set_upds ho2, set_upds0 ho2, look_upds ho2, look_upds0 ho2, mo0o1, mo0o2, mo1o0, mo1o2, mo2o0, mo2o1, f1, hk0, hw0, f26, f27, e28, e29]
      (repeat refine awp_seq ?_); refine awp_cond (by rfl) (fun hc => ?_) fun hc => ?_
      · replace h := cond_t h (by first | exact hc | simpa using hc)
        obtain ⟨f30, h⟩ := chk_some h
        have e31 : (rows i64c l2).getD ((get l0 k0).toNat) [] = i64c (get l2 ((get l0 k0).toNat)) := rows_get (E := i64c) (l := l2) (k := (get l0 k0).toNat) (by first | omega | (simp; omega))
        have e32 : (get l0 k0).toNat < l2.length := by first | omega | (simp; omega)
        (repeat refine awp_seq ?_); refine ev_draw_region [] 0 follows (by kernel_rfl) (by rfl) ?_; simp only [go_sem, List.replicate_succ, List.replicate_zero, set_upds ho0, set_upds0 ho0, look_upds ho0, look_upds0 ho0, set_upds ho1, set_upds0 ho1, look_upds ho1, look_upds0 ho1, set_upds ho2, set_upds0 ho2, look_upds ho2, look_upds0 ho2, mo0o1, mo0o2, mo1o0, mo1o2, mo2o0, mo2o1, f1, hk0, hw0, f26, f27, f30, e31, e32]
        obtain ⟨v33, hv33, h⟩ := bind_some h
        refine dc_pure (ok_fracMake n _ _ _ hv33) ?_
        try simp only [go_sem, set_upds ho0, set_upds0 ho0, look_upds ho0, look_upds0 ho0, set_upds ho1, set_upds0 ho1, look_upds ho1, look_upds0 ho1, set_upds ho2, set_upds0 ho2, look_upds ho2, look_upds0 ho2, mo0o1, mo0o2, mo1o0, mo1o2, mo2o0, mo2o1, f1, hk0, hw0, f26, f27, f30, e31, e32]
        have e34 : (16 ≤ top) = True := by simp [top]
        obtain ⟨c35, hc35, h⟩ := let_some h
        have e36 : rows ApiFrac.cells s0 ++ [[.int .i64 v33.1.num, .int .i64 v33.1.den]] = rows ApiFrac.cells c35 := by rw [hc35]; first | exact rows_app (E := ApiFrac.cells) s0 [v33.1] | simp only [go_sem, rows, List.map_append, List.map_cons, List.map_nil]
        have e37 : s0.length + 1 = c35.length := by rw [hc35]; simp
        obtain ⟨⟨f38, f39⟩, h⟩ := chk_some h
        (repeat refine awp_seq ?_); refine ev_region ?_; simp only [go_sem, set_upds ho0, set_upds0 ho0, look_upds ho0, look_upds0 ho0, set_upds ho1, set_upds0 ho1, look_upds ho1, look_upds0 ho1, set_upds ho2, set_upds0 ho2, look_upds ho2, look_upds0 ho2, mo0o1, mo0o2, mo1o0, mo1o2, mo2o0, mo2o1, f1, hk0, hw0, f26, f27, f30, f38, f39, e34, e36, e37]
        (repeat refine awp_seq ?_); refine ev_region ?_; simp only [go_sem, set_upds ho0, set_upds0 ho0, look_upds ho0, look_upds0 ho0, set_upds ho1, set_upds0 ho1, look_upds ho1, look_upds0 ho1, set_upds ho2, set_upds0 ho2, look_upds ho2, look_upds0 ho2, mo0o1, mo0o2, mo1o0, mo1o2, mo2o0, mo2o1, f1, hk0, hw0, f26, f27, f30, f38, f39]
        cases h
        exact pbr_nxt (gs0 + 1) (bku_mk (by simp) (upds_sc hsc (by simp <;> omega)) (.live _ _ _ _ (.same _) (.nil _)) (by simp <;> omega) ⟨.same _, .same _, .same _, .same _, .same _, .same _, trivial⟩ (by simp <;> omega))
      · replace h := cond_f h (by first | exact hc | simpa using hc)
        refine awp_skip ?_; try simp only [go_sem, set_upds ho0, set_upds0 ho0, look_upds ho0, look_upds0 ho0, set_upds ho1, set_upds0 ho1, look_upds ho1, look_upds0 ho1, set_upds ho2, set_upds0 ho2, look_upds ho2, look_upds0 ho2, mo0o1, mo0o2, mo1o0, mo1o2, mo2o0, mo2o1, f1, hk0, hw0, f26, f27]
        have e40 : (16 ≤ top) = True := by simp [top]
        obtain ⟨c41, hc41, h⟩ := let_some h
        have e42 : rows ApiFrac.cells s0 ++ [[.int .i64 0, .int .i64 1]] = rows ApiFrac.cells c41 := by rw [hc41]; first | exact rows_app (E := ApiFrac.cells) s0 [(ApiFrac.mk 0 1)] | simp only [go_sem, rows, List.map_append, List.map_cons, List.map_nil]
        have e43 : s0.length + 1 = c41.length := by rw [hc41]; simp
        obtain ⟨⟨f44, f45⟩, h⟩ := chk_some h
        (repeat refine awp_seq ?_); refine ev_region ?_; simp only [go_sem, set_upds ho0, set_upds0 ho0, look_upds ho0, look_upds0 ho0, set_upds ho1, set_upds0 ho1, look_upds ho1, look_upds0 ho1, set_upds ho2, set_upds0 ho2, look_upds ho2, look_upds0 ho2, mo0o1, mo0o2, mo1o0, mo1o2, mo2o0, mo2o1, f1, hk0, hw0, f26, f27, f44, f45, e40, e42, e43]
        (repeat refine awp_seq ?_); refine ev_region ?_; simp only [go_sem, set_upds ho0, set_upds0 ho0, look_upds ho0, look_upds0 ho0, set_upds ho1, set_upds0 ho1, look_upds ho1, look_upds0 ho1, set_upds ho2, set_upds0 ho2, look_upds ho2, look_upds0 ho2, mo0o1, mo0o2, mo1o0, mo1o2, mo2o0, mo2o1, f1, hk0, hw0, f26, f27, f44, f45]
        cases h
        exact pbr_nxt (gs0 + 1) (bku_mk (by simp) (upds_sc hsc (by simp <;> omega)) (.live _ _ _ _ (.same _) (.nil _)) (by simp <;> omega) ⟨.same _, .same _, .same _, .same _, .same _, .same _, trivial⟩ (by simp <;> omega))
    · exfalso; have hc := of_decide_eq_false hc; omega
  · (repeat refine awp_seq ?_); refine ev_region ?_; simp only [go_sem, set_upds ho0, set_upds0 ho0, look_upds ho0, look_upds0 ho0, set_upds ho1, set_upds0 ho1, look_upds ho1, look_upds0 ho1, set_upds ho2, set_upds0 ho2, look_upds ho2, look_upds0 ho2, mo0o1, mo0o2, mo1o0, mo1o2, mo2o0, mo2o1, f1]
    (repeat refine awp_seq ?_); refine awp_cond (by rfl) (fun hc => ?_) fun hc => ?_
    · exfalso; first | exact Bool.noConfusion hc | (have hc := of_decide_eq_true hc; omega)
    · refine awp_exit ?_; simp only [go_sem, set_upds ho0, set_upds0 ho0, look_upds ho0, look_upds0 ho0, set_upds ho1, set_upds0 ho1, look_upds ho1, look_upds0 ho1, set_upds ho2, set_upds0 ho2, look_upds ho2, look_upds0 ho2, mo0o1, mo0o2, mo1o0, mo1o2, mo2o0, mo2o1, f1]
      exact ⟨gs0, (bku_mk (by simp) (upds_sc hsc (by simp <;> omega)) (.live _ _ _ _ (.same _) (.nil _)) (by simp <;> omega) ⟨.same _, trivial⟩ (by simp <;> omega))⟩
  · try simp only [go_sem, set_upds ho0, set_upds0 ho0, look_upds ho0, look_upds0 ho0, set_upds ho1, set_upds0 ho1, look_upds ho1, look_upds0 ho1, set_upds ho2, set_upds0 ho2, look_upds ho2, look_upds0 ho2, mo0o1, mo0o2, mo1o0, mo1o2, mo2o0, mo2o1, f1]
    unfold trainWeights1_a0 at h
    refine awp_bks hb ?_
    (repeat refine awp_seq ?_); refine ev_region ?_; simp only [go_sem, set_upds ho0, set_upds0 ho0, look_upds ho0, look_upds0 ho0, set_upds ho1, set_upds0 ho1, look_upds ho1, look_upds0 ho1, set_upds ho2, set_upds0 ho2, look_upds ho2, look_upds0 ho2, mo0o1, mo0o2, mo1o0, mo1o2, mo2o0, mo2o1, f1]
    (repeat refine awp_seq ?_); refine awp_ret ?_
    try simp only [go_sem, set_upds ho0, set_upds0 ho0, look_upds ho0, look_upds0 ho0, set_upds ho1, set_upds0 ho1, look_upds ho1, look_upds0 ho1, set_upds ho2, set_upds0 ho2, look_upds ho2, look_upds0 ho2, mo0o1, mo0o2, mo1o0, mo1o2, mo2o0, mo2o1, f1]
    have hr := Option.some.inj h
    refine finb_of ?_; simp only [go_sem, set_upds ho0, set_upds0 ho0, look_upds ho0, look_upds0 ho0, set_upds ho1, set_upds0 ho1, look_upds ho1, look_upds0 ho1, set_upds ho2, set_upds0 ho2, look_upds ho2, look_upds0 ho2, mo0o1, mo0o2, mo1o0, mo1o2, mo2o0, mo2o1, f1]
    exact finu_old (d' := .sl false 2 16 (rows ApiFrac.cells t0)) (by simp) (upds_sc hsc (by simp <;> omega)) (.ref _ _ _ _ _ _ _ _ _ (get_updsn0.trans rfl) look_outu0 (by decide) (rows_imm _) (by simp only [go_sem])) (by simp <;> omega) ⟨by subst hr; rfl, by exact upds_self (by simp [hlo0, hlo1, hlo2])⟩


end Go.Proofs.YtaohdfpcdfbnlaaDoor

