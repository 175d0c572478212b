/-
  Each Go function of this part does what its plain Lean function says.
-/
import Derived.Test.YtaohdfpcdfbnlaaDoorBase
import Derived.Test.YtaohdfpcdfbnlaaDoorHand
import Derived.Test.YtaohdfpcdfbnlaaDoorMirrors
set_option linter.unusedVariables false
set_option linter.unusedSimpArgs false
namespace Go.Proofs.YtaohdfpcdfbnlaaDoor
open Go Go.Am

set_option maxHeartbeats 2000000 in
set_option maxRecDepth 100000 in
theorem ok_cmpIsNaNInt (a0 : Int) (r : Bool) (h : cmpIsNaNInt a0 = some r) : Pure Tryd.prog gl 70 [.int .i64 a0] (.bool r) := by
  intro st
  unfold cmpIsNaNInt at h
  refine spec_fb (N := 6) (rs := [.tmp 2]) (keep := [0, 2]) Tryd.func70 rfl rfl rfl (by kernel_rfl) rfl fun hsc => ?_
  (repeat refine awp_seq ?_); refine ev_region ?_; simp only [go_sem]
  (repeat refine awp_seq ?_); refine ev_region ?_; simp only [go_sem]
  (repeat refine awp_seq ?_); refine awp_ret ?_
  try simp only [go_sem]
  have hr := Option.some.inj h
  refine finb_of ?_; simp only [go_sem]
  exact fin_same' (d' := .bool false) hsc (.same _) (by simp) ⟨by subst hr; rfl, rfl⟩

set_option maxHeartbeats 2000000 in
set_option maxRecDepth 100000 in
theorem ok_cmpCompareInt (a0 : Int) (a1 : Int) (r : Int) (h : cmpCompareInt a0 a1 = some r) : Pure Tryd.prog gl 54 [.int .i64 a0, .int .i64 a1] (.int .i64 r) := by
  intro st
  unfold cmpCompareInt at h
  refine spec_fb (N := 20) (rs := [.tmp 4]) (keep := [0, 1, 4, 5, 6, 11, 12, 13, 16, 19]) Tryd.func54 rfl rfl rfl (by kernel_rfl) rfl fun hsc => ?_
  (repeat refine awp_seq ?_); refine ev_region ?_; simp only [go_sem]
  (repeat refine awp_seq ?_); refine ev_region ?_; simp only [go_sem]
  obtain ⟨v1, hv1, h⟩ := bind_some h
  refine ((ok_cmpIsNaNInt _ _ hv1)).to ?_
  try simp only [go_sem]
  (repeat refine awp_seq ?_); refine ev_region ?_; simp only [go_sem]
  obtain ⟨v2, hv2, h⟩ := bind_some h
  refine ((ok_cmpIsNaNInt _ _ hv2)).to ?_
  try simp only [go_sem]
  (repeat refine awp_seq ?_); refine ev_region ?_; simp only [go_sem]
  (repeat refine awp_seq ?_); refine awp_cond (by rfl) (fun hc => ?_) fun hc => ?_
  · replace h := cond_t h (by first | exact hc | simpa using hc)
    (repeat refine awp_seq ?_); refine ev_region ?_; simp only [go_sem]
    (repeat refine awp_seq ?_); refine awp_cond (by rfl) (fun hc => ?_) fun hc => ?_
    · replace h := cond_t h (by first | exact hc | simpa using hc)
      (repeat refine awp_seq ?_); refine ev_region ?_; simp only [go_sem]
      (repeat refine awp_seq ?_); refine awp_ret ?_
      try simp only [go_sem]
      have hr := Option.some.inj h
      refine finb_of ?_; simp only [go_sem]
      exact fin_same' (d' := .int .i64 0) hsc (.same _) (by simp) ⟨by subst hr; rfl, rfl⟩
    · replace h := cond_f h (by first | exact hc | simpa using hc)
      refine awp_skip ?_; try simp only [go_sem]
      (repeat refine awp_seq ?_); refine ev_region ?_; simp only [go_sem]
      (repeat refine awp_seq ?_); refine awp_ret ?_
      try simp only [go_sem]
      have hr := Option.some.inj h
      refine finb_of ?_; simp only [go_sem]
      exact fin_same' (d' := .int .i64 (-1)) hsc (.same _) (by simp) ⟨by subst hr; rfl, rfl⟩
  · replace h := cond_f h (by first | exact hc | simpa using hc)
    refine awp_skip ?_; try simp only [go_sem]
    (repeat refine awp_seq ?_); refine ev_region ?_; simp only [go_sem]
    (repeat refine awp_seq ?_); refine awp_cond (by rfl) (fun hc => ?_) fun hc => ?_
    · replace h := cond_t h (by first | exact hc | simpa using hc)
      (repeat refine awp_seq ?_); refine ev_region ?_; simp only [go_sem]
      (repeat refine awp_seq ?_); refine awp_ret ?_
      try simp only [go_sem]
      have hr := Option.some.inj h
      refine finb_of ?_; simp only [go_sem]
      exact fin_same' (d' := .int .i64 1) hsc (.same _) (by simp) ⟨by subst hr; rfl, rfl⟩
    · replace h := cond_f h (by first | exact hc | simpa using hc)
      refine awp_skip ?_; try simp only [go_sem]
      (repeat refine awp_seq ?_); refine ev_region ?_; simp only [go_sem]
      (repeat refine awp_seq ?_); refine awp_cond (by rfl) (fun hc => ?_) fun hc => ?_
      · replace h := cond_t h (by first | exact hc | simpa using hc)
        (repeat refine awp_seq ?_); refine ev_region ?_; simp only [go_sem]
        (repeat refine awp_seq ?_); refine awp_ret ?_
        try simp only [go_sem]
        have hr := Option.some.inj h
        refine finb_of ?_; simp only [go_sem]
        exact fin_same' (d' := .int .i64 (-1)) hsc (.same _) (by simp) ⟨by subst hr; rfl, rfl⟩
      · replace h := cond_f h (by first | exact hc | simpa using hc)
        refine awp_skip ?_; try simp only [go_sem]
        (repeat refine awp_seq ?_); refine ev_region ?_; simp only [go_sem]
        (repeat refine awp_seq ?_); refine awp_cond (by rfl) (fun hc => ?_) fun hc => ?_
        · replace h := cond_t h (by first | exact hc | simpa using hc)
          (repeat refine awp_seq ?_); refine ev_region ?_; simp only [go_sem]
          (repeat refine awp_seq ?_); refine awp_ret ?_
          try simp only [go_sem]
          have hr := Option.some.inj h
          refine finb_of ?_; simp only [go_sem]
          exact fin_same' (d' := .int .i64 1) hsc (.same _) (by simp) ⟨by subst hr; rfl, rfl⟩
        · replace h := cond_f h (by first | exact hc | simpa using hc)
          refine awp_skip ?_; try simp only [go_sem]
          (repeat refine awp_seq ?_); refine ev_region ?_; simp only [go_sem]
          (repeat refine awp_seq ?_); refine awp_ret ?_
          try simp only [go_sem]
          have hr := Option.some.inj h
          refine finb_of ?_; simp only [go_sem]
          exact fin_same' (d' := .int .i64 0) hsc (.same _) (by simp) ⟨by subst hr; rfl, rfl⟩

set_option maxHeartbeats 2000000 in
set_option maxRecDepth 100000 in
theorem ok_graphTarget1 (a0 : ApiLink) (a1 : Int) (r : Int) (h : graphTarget1 a0 a1 = some r) : Pure Tryd.prog gl 53 [.agg [.int .i64 a0.feat, .int .i64 a0.to_], .int .i64 a1] (.int .i64 r) := by
  intro st
  unfold graphTarget1 at h
  refine spec_fb (N := 9) (rs := [.tmp 4]) (keep := [0, 1, 2, 4]) Tryd.func53 rfl rfl rfl (by kernel_rfl) rfl fun hsc => ?_
  (repeat refine awp_seq ?_); refine ev_region ?_; simp only [go_sem]
  (repeat refine awp_seq ?_); refine ev_region ?_; simp only [go_sem]
  obtain ⟨v1, hv1, h⟩ := bind_some h
  refine ((ok_cmpCompareInt _ _ _ hv1)).to ?_
  try simp only [go_sem]
  (repeat refine awp_seq ?_); refine awp_ret ?_
  try simp only [go_sem]
  have hr := Option.some.inj h
  refine finb_of ?_; simp only [go_sem]
  exact fin_old' (d' := .int .i64 v1) hsc (.same _) (by simp) ⟨by subst hr; rfl, rfl⟩

set_option maxHeartbeats 2000000 in
set_option maxRecDepth 100000 in
theorem ok_slicesBinarySearchFuncApiLinkApiLinkInt (n : Nat) (a0 : (List ApiLink)) (a1 : Int) (r : Int × Bool) (h : slicesBinarySearchFuncApiLinkApiLinkInt n a0 a1 = some r) : Pure Tryd.prog gl 52 [.sl false 2 16 (rows ApiLink.cells a0), .int .i64 a1, .fn 53 [] []] (.tup [.int .i64 r.1, .bool r.2]) := by
  intro st
  unfold slicesBinarySearchFuncApiLinkApiLinkInt at h
  refine spec_fb (N := 49) (rs := [.tmp 6, .tmp 7]) (keep := [0, 1, 2, 6, 7, 8, 9, 10, 11, 17, 31, 40, 41, 42, 43, 44, 45, 46, 47]) Tryd.func52 rfl rfl rfl (by kernel_rfl) rfl fun hsc => ?_
  (repeat refine awp_seq ?_); refine ev_region ?_; simp only [go_sem]
  (repeat refine awp_seq ?_); refine ev_region ?_; simp only [go_sem]
  (repeat refine awp_seq ?_); refine ev_region ?_; simp only [go_sem]
  (repeat refine awp_seq ?_); refine awp_while (body := slicesBinarySearchFuncApiLinkApiLinkInt_b0 a0 a1) (kk := slicesBinarySearchFuncApiLinkApiLinkInt_a0 a0 a1) (n := n) (s0 := ((↑a0.length : Int), 0))
    (fun (gs0 : Unit) (s0 : Int × Int) => [(0, .sl false 2 16 (rows ApiLink.cells a0)), (1, .int .i64 a1), (2, .fn 53 [] []), (8, .int .i64 (↑a0.length : Int)), (9, .int .i64 s0.2), (10, .int .i64 s0.1)])
    (fun (gs0 : Unit) (s0 : Int × Int) => st)
    (fun (gt0 : Unit) (t0 : Int) => [(0, .sl false 2 16 (rows ApiLink.cells a0)), (1, .int .i64 a1), (2, .fn 53 [] []), (8, .int .i64 (↑a0.length : Int)), (9, .int .i64 t0)])
    (fun (gt0 : Unit) (t0 : Int) => st)
    () h (bks_mk00 hsc ⟨.same _, .same _, .same _, .same _, .same _, .same _, trivial⟩ (by simp))
    (fun gs0 s0 b0 h hx0 => ?_) (fun gt0 t0 fr1 st1 h hb => ?_)
  · unfold slicesBinarySearchFuncApiLinkApiLinkInt_b0 at h
    (repeat refine awp_seq ?_); refine ev_region ?_; simp only [go_sem]
    (repeat refine awp_seq ?_); refine awp_cond (by rfl) (fun hc => ?_) fun hc => ?_
    · replace h := cond_t h (by first | exact hc | simpa using hc)
      refine awp_skip ?_; try simp only [go_sem]
      (repeat refine awp_seq ?_); refine awp_block ?_
      (repeat refine awp_seq ?_); refine ev_region ?_; simp only [go_sem]
      obtain ⟨⟨f4, f5⟩, h⟩ := chk_some h
      (repeat refine awp_seq ?_); refine ev_region ?_; simp only [go_sem, f4, f5]
      obtain ⟨v6, hv6, h⟩ := bind_some h
      refine ((ok_graphTarget1 _ _ _ hv6)).to ?_
      try simp only [go_sem, f4, f5]
      (repeat refine awp_seq ?_); refine awp_cond (by rfl) (fun hc => ?_) fun hc => ?_
      · replace h := cond_t h (by first | exact hc | simpa using hc)
        (repeat refine awp_seq ?_); refine ev_region ?_; simp only [go_sem, f4, f5]
        cases h
        exact pbw_nxt () (bks_mk00 hsc ⟨.same _, .same _, .same _, .same _, .same _, .same _, trivial⟩ (by simp))
      · replace h := cond_f h (by first | exact hc | simpa using hc)
        (repeat refine awp_seq ?_); refine ev_region ?_; simp only [go_sem, f4, f5]
        cases h
        exact pbw_nxt () (bks_mk00 hsc ⟨.same _, .same _, .same _, .same _, .same _, .same _, trivial⟩ (by simp))
    · replace h := cond_f h (by first | exact hc | simpa using hc)
      (repeat refine awp_seq ?_); refine awp_exit ?_; try simp only [go_sem]
      cases h
      exact pbw_brk () (bks_mk00 hsc ⟨.same _, .same _, .same _, .same _, .same _, trivial⟩ (by simp))
  · try simp only [go_sem]
    unfold slicesBinarySearchFuncApiLinkApiLinkInt_a0 at h
    refine awp_bks hb ?_
    obtain ⟨⟨f8, f9⟩, h⟩ := chk_some h
    (repeat refine awp_seq ?_); refine ev_region ?_; simp only [go_sem, f8, f9]
    obtain ⟨v10, hv10, h⟩ := bind_some h
    refine gc_pure (fun hG => (ok_graphTarget1 _ _ _ (gd_t hv10 (by simpa using hG)))) ?_
    try simp only [go_sem, f8, f9]
    (repeat refine awp_seq ?_); refine awp_ret ?_
    try simp only [go_sem, f8, f9]
    have hr := Option.some.inj h
    refine finb_of ?_; simp only [go_sem, f8, f9]
    exact fin_same' (d' := .tup [.int .i64 t0, .bool (bif (decide (t0 < (↑a0.length : Int))) then (decide (v10 = 0)) else false)]) hsc (.same _) (by simp) ⟨by subst hr; rfl, rfl⟩

set_option maxHeartbeats 2000000 in
set_option maxRecDepth 100000 in
theorem ok_graphTarget (n : Nat) (a0 : ApiGraph) (a1 : Int) (a2 : Int) (r : Int) (h : graphTarget n a0 a1 a2 = some r) : Pure Tryd.prog gl 37 [.agg [.sl false 2 32 (rows ApiNode.cells a0.nodes)], .int .i64 a1, .int .i64 a2] (.int .i64 r) := by
  intro st
  unfold graphTarget at h
  refine spec_fb (N := 32) (rs := [.tmp 6]) (keep := [0, 1, 2, 3, 6, 7, 8, 21]) Tryd.func37 rfl rfl rfl (by kernel_rfl) rfl fun hsc => ?_
  (repeat refine awp_seq ?_); refine ev_region ?_; simp only [go_sem]
  obtain ⟨⟨f1, f2⟩, h⟩ := chk_some h
  (repeat refine awp_seq ?_); refine ev_region ?_; simp only [go_sem, f1, f2]
  obtain ⟨v3, hv3, h⟩ := bind_some h
  refine ((ok_slicesBinarySearchFuncApiLinkApiLinkInt n _ _ _ hv3)).to ?_
  try simp only [go_sem, f1, f2]
  (repeat refine awp_seq ?_); refine ev_region ?_; simp only [go_sem, f1, f2]
  (repeat refine awp_seq ?_); refine awp_cond (by rfl) (fun hc => ?_) fun hc => ?_
  · replace h := cond_t h (by first | exact hc | simpa using hc)
    (repeat refine awp_seq ?_); refine ev_region ?_; simp only [go_sem, f1, f2]
    (repeat refine awp_seq ?_); refine awp_ret ?_
    try simp only [go_sem, f1, f2]
    have hr := Option.some.inj h
    refine finb_of ?_; simp only [go_sem, f1, f2]
    exact fin_old' (d' := .int .i64 (-1)) hsc (.same _) (by simp) ⟨by subst hr; rfl, rfl⟩
  · replace h := cond_f h (by first | exact hc | simpa using hc)
    refine awp_skip ?_; try simp only [go_sem, f1, f2]
    obtain ⟨⟨f4, f5⟩, h⟩ := chk_some h
    (repeat refine awp_seq ?_); refine ev_region ?_; simp only [go_sem, f1, f2, f4, f5]
    (repeat refine awp_seq ?_); refine awp_ret ?_
    try simp only [go_sem, f1, f2, f4, f5]
    have hr := Option.some.inj h
    refine finb_of ?_; simp only [go_sem, f1, f2, f4, f5]
    exact fin_old' (d' := .int .i64 ((get ((get a0.nodes a1.toNat).links) v3.1.toNat).to_)) hsc (.same _) (by simp) ⟨by subst hr; rfl, rfl⟩

set_option maxHeartbeats 2000000 in
set_option maxRecDepth 100000 in
theorem ok_lexrulePlaces (n : Nat) (a0 : ApiGraph) (a1 : Int) (r : Bool) (h : lexrulePlaces n a0 a1 = some r) : Pure Tryd.prog gl 45 [.agg [.sl false 2 32 (rows ApiNode.cells a0.nodes)], .int .i64 a1] (.bool r) := by
  intro st
  unfold lexrulePlaces at h
  refine spec_fb (N := 18) (rs := [.tmp 4]) (keep := [0, 1, 2, 4, 5, 6, 7, 16]) Tryd.func45 rfl rfl rfl (by kernel_rfl) rfl fun hsc => ?_
  (repeat refine awp_seq ?_); refine ev_region ?_; simp only [go_sem]
  (repeat refine awp_seq ?_); refine ev_region ?_; simp only [go_sem]
  (repeat refine awp_seq ?_); refine awp_range (body := lexrulePlaces_b0 n a0 a1) (kk := lexrulePlaces_a0) (n := 4) (s0 := ())
    (fun (gs0 : Unit) (k0 : Nat) (s0 : Unit) => [(1, .int .i64 a1), (2, .ptr st.length 0 0 0), (6, .int .i64 (↑k0 : Int))])
    (fun (gs0 : Unit) (k0 : Nat) (s0 : Unit) => st ++ [some (.arr 0 1 0 [[.sl false 2 32 (rows ApiNode.cells a0.nodes)]])])
    (fun (gt0 : Unit) (t0 : Unit) => [])
    (fun (gt0 : Unit) (t0 : Unit) => st)
    () h (bks_mk hsc (.live _ _ _ _ (.same _) (.nil _)) (by simp) ⟨.same _, .same _, .same _, trivial⟩ (by simp))
    (fun gs0 k0 s0 b0 hk0 h hx0 => ?_) (fun gs0 s0 => ?_) (fun gt0 t0 fr1 st1 h hb => ?_)
  · unfold lexrulePlaces_b0 at h
    have hw0 : wr .i64 ((↑k0 : Int) + 1) = (↑(k0 + 1) : Int) := wr_lit (by omega)
    have hj0 : (↑k0 : Int) < 4 := by omega
    (repeat refine awp_seq ?_); refine ev_region ?_; simp only [go_sem]
    (repeat refine awp_seq ?_); refine awp_cond (by rfl) (fun hc => ?_) fun hc => ?_
    · refine awp_skip ?_; try simp only [go_sem]
      (repeat refine awp_seq ?_); refine awp_block ?_
      (repeat refine awp_seq ?_); refine ev_region ?_; simp only [go_sem, hk0, hw0, hj0]
      (repeat refine awp_seq ?_); refine ev_region ?_; simp only [go_sem, hk0, hw0, hj0]
      obtain ⟨v1, hv1, h⟩ := bind_some h
      refine ((ok_graphTarget n _ _ _ _ hv1)).to ?_
      try simp only [go_sem, hk0, hw0, hj0]
      (repeat refine awp_seq ?_); refine awp_cond (by rfl) (fun hc => ?_) fun hc => ?_
      · replace h := cond_t h (by first | exact hc | simpa using hc)
        (repeat refine awp_seq ?_); refine ev_region ?_; simp only [go_sem, hk0, hw0, hj0]
        (repeat refine awp_seq ?_); refine awp_ret ?_
        try simp only [go_sem, hk0, hw0, hj0]
        obtain rfl := Option.some.inj h
        refine pbr_ret ?_; have hr := hx0 _ rfl; try simp only [go_sem, hk0, hw0, hj0]
        refine finb_of ?_; simp only [go_sem, hk0, hw0, hj0]
        exact fin_old' (d' := .bool false) hsc (.same _) (by simp) ⟨by subst hr; rfl, rfl⟩
      · replace h := cond_f h (by first | exact hc | simpa using hc)
        refine awp_skip ?_; try simp only [go_sem, hk0, hw0, hj0]
        (repeat refine awp_seq ?_); refine ev_region ?_; simp only [go_sem, hk0, hw0, hj0]
        cases h
        exact pbr_nxt () (bks_mk hsc (.live _ _ _ _ (.same _) (.nil _)) (by simp) ⟨.same _, .same _, .same _, trivial⟩ (by simp))
    · exfalso; have hc := of_decide_eq_false hc; omega
  · (repeat refine awp_seq ?_); refine ev_region ?_; simp only [go_sem]
    (repeat refine awp_seq ?_); refine awp_cond (by rfl) (fun hc => ?_) fun hc => ?_
    · exfalso; first | exact Bool.noConfusion hc | (have hc := of_decide_eq_true hc; omega)
    · refine awp_exit ?_; simp only [go_sem]
      exact ⟨(), (bks_mk0 hsc trivial (by simp))⟩
  · try simp only [go_sem]
    unfold lexrulePlaces_a0 at h
    refine awp_bks hb ?_
    (repeat refine awp_seq ?_); refine ev_region ?_; simp only [go_sem]
    (repeat refine awp_seq ?_); refine awp_ret ?_
    try simp only [go_sem]
    have hr := Option.some.inj h
    refine finb_of ?_; simp only [go_sem]
    exact fin_same' (d' := .bool true) hsc (.same _) (by simp) ⟨by subst hr; rfl, rfl⟩

set_option maxHeartbeats 2000000 in
set_option maxRecDepth 100000 in
theorem ok_termValidate11 (a0 : Int) (b0_0 : Int) (r : ApiFault) (h : termValidate11 a0 b0_0 = some r) : ∀ (st : St) (o0 : Nat) (hnd : [o0].Nodup) (hlo0 : Am.look st o0 = some (.arr 0 1 0 [[.int .i64 b0_0]])), Am.Spec Tryd.prog gl 62 [.int .i64 a0, .ptr o0 0 0 0] st (fun d st' => d = .agg [.int .i64 r.code, .int .i64 r.index] ∧ st' = puts st []) := by
  intro st o0 hnd hlo0
  unfold termValidate11 at h
  have ho0 := look_lt hlo0
  refine spec_fb (N := 7) (rs := [.cell 3 41]) (keep := [0, 1, 3]) Tryd.func62 rfl rfl rfl (by kernel_rfl) rfl fun hsc => ?_
  refine awp_st (s' := (upds st [(o0, (.arr 0 1 0 [[.int .i64 b0_0]]))])) (upds_self (by simp [hlo0])) ?_
  (repeat refine awp_seq ?_); refine ev_region ?_; simp only [go_sem, set_upds ho0, set_upds0 ho0, look_upds ho0, look_upds0 ho0]
  (repeat refine awp_seq ?_); refine ev_region ?_; simp only [go_sem, set_upds ho0, set_upds0 ho0, look_upds ho0, look_upds0 ho0]
  (repeat refine awp_seq ?_); refine awp_ret ?_
  try simp only [go_sem, set_upds ho0, set_upds0 ho0, look_upds ho0, look_upds0 ho0]
  have hr := Option.some.inj h
  refine finb_of ?_; simp only [go_sem, set_upds ho0, set_upds0 ho0, look_upds ho0, look_upds0 ho0]
  exact finu_old (d' := .agg [.int .i64 a0, .int .i64 b0_0]) (by simp) (upds_sc hsc (by simp <;> omega)) (.same _) (by simp <;> omega) ⟨by subst hr; rfl, by exact upds_self (by simp [hlo0])⟩

set_option maxHeartbeats 2000000 in
set_option maxRecDepth 100000 in
theorem ok_simpleValidate1 : ∀ (n : Nat) (a0 : ApiSimple) (a1 : Int) (b0_0 : Int) (r : Int × Int) (h : simpleValidate1 n a0 a1 b0_0 = some r), ∀ (st : St) (o0 o1 : Nat) (hnd : [o0, o1].Nodup) (hlo0 : Am.look st o0 = some (.arr 0 1 0 [[.int .i64 b0_0]])) (hlo1 : Am.look st o1 = some (.arr 0 1 0 [[.fn 73 [] [.ptr o0 0 0 0, .ptr o1 0 0 0]]])), Am.Spec Tryd.prog gl 73 [.agg [.str a0.base, .sl false 2 40 (rows ApiSimple.cells a0.args)], .int .i64 a1, .ptr o0 0 0 0, .ptr o1 0 0 0] st (fun d st' => d = .int .i64 r.1 ∧ st' = puts st [(o0, (.arr 0 1 0 [[.int .i64 r.2]])), (o1, (.arr 0 1 0 [[.fn 73 [] [.ptr o0 0 0 0, .ptr o1 0 0 0]]]))]) := by
  intro n
  induction n with
  | zero => intro a0 a1 b0_0 r h; cases h
  | succ n ih =>
    intro a0 a1 b0_0 r h st o0 o1 hnd hlo0 hlo1
    unfold simpleValidate1 at h
    have ho0 := look_lt hlo0
    have ho1 := look_lt hlo1
    have hnd0 := hnd
    simp only [List.nodup_cons, List.mem_cons, List.not_mem_nil, or_false, not_or, not_false_eq_true, List.nodup_nil, and_true] at hnd0
    have no0o1 := hnd0
    have mo0o1 : (o0 = o1) = False := eq_false no0o1
    have mo1o0 : (o1 = o0) = False := eq_false (fun e => no0o1 e.symm)
    refine spec_fb (N := 62) (rs := [.tmp 6]) (keep := [0, 1, 2, 3, 4, 6, 7, 9, 10, 16, 17, 18, 23, 24, 25, 29, 30, 31, 32, 35, 36, 37, 38, 39, 40, 41, 42, 43, 45, 47, 48, 49, 50, 59]) Tryd.func73 rfl rfl rfl (by kernel_rfl) rfl fun hsc => ?_
    refine awp_st (s' := (upds st [(o0, (.arr 0 1 0 [[.int .i64 b0_0]])), (o1, (.arr 0 1 0 [[.fn 73 [] [.ptr o0 0 0 0, .ptr o1 0 0 0]]]))])) (upds_self (by simp [hlo0, hlo1])) ?_
    (repeat refine awp_seq ?_); refine ev_region ?_; simp only [go_sem, set_upds ho0, set_upds0 ho0, look_upds ho0, look_upds0 ho0, set_upds ho1, set_upds0 ho1, look_upds ho1, look_upds0 ho1, mo0o1, mo1o0]
    (repeat refine awp_seq ?_); refine ev_region ?_; simp only [go_sem, set_upds ho0, set_upds0 ho0, look_upds ho0, look_upds0 ho0, set_upds ho1, set_upds0 ho1, look_upds ho1, look_upds0 ho1, mo0o1, mo1o0]
    (repeat refine awp_seq ?_); refine ev_region ?_; simp only [go_sem, set_upds ho0, set_upds0 ho0, look_upds ho0, look_upds0 ho0, set_upds ho1, set_upds0 ho1, look_upds ho1, look_upds0 ho1, mo0o1, mo1o0]
    (repeat refine awp_seq ?_); refine awp_cond (by rfl) (fun hc => ?_) fun hc => ?_
    · replace h := cond_t h (by first | exact hc | simpa using hc)
      (repeat refine awp_seq ?_); refine ev_region ?_; simp only [go_sem, set_upds ho0, set_upds0 ho0, look_upds ho0, look_upds0 ho0, set_upds ho1, set_upds0 ho1, look_upds ho1, look_upds0 ho1, mo0o1, mo1o0]
      (repeat refine awp_seq ?_); refine awp_ret ?_
      try simp only [go_sem, set_upds ho0, set_upds0 ho0, look_upds ho0, look_upds0 ho0, set_upds ho1, set_upds0 ho1, look_upds ho1, look_upds0 ho1, mo0o1, mo1o0]
      have hr := Option.some.inj h
      refine finb_of ?_; simp only [go_sem, set_upds ho0, set_upds0 ho0, look_upds ho0, look_upds0 ho0, set_upds ho1, set_upds0 ho1, look_upds ho1, look_upds0 ho1, mo0o1, mo1o0]
      exact finu_old (d' := .int .i64 1) (by simp) (upds_sc hsc (by simp <;> omega)) (.same _) (by simp <;> omega) ⟨by subst hr; rfl, by subst hr; rfl⟩
    · replace h := cond_f h (by first | exact hc | simpa using hc)
      refine awp_skip ?_; try simp only [go_sem, set_upds ho0, set_upds0 ho0, look_upds ho0, look_upds0 ho0, set_upds ho1, set_upds0 ho1, look_upds ho1, look_upds0 ho1, mo0o1, mo1o0]
      (repeat refine awp_seq ?_); refine ev_region ?_; simp only [go_sem, set_upds ho0, set_upds0 ho0, look_upds ho0, look_upds0 ho0, set_upds ho1, set_upds0 ho1, look_upds ho1, look_upds0 ho1, mo0o1, mo1o0]
      (repeat refine awp_seq ?_); refine ev_region ?_; simp only [go_sem, set_upds ho0, set_upds0 ho0, look_upds ho0, look_upds0 ho0, set_upds ho1, set_upds0 ho1, look_upds ho1, look_upds0 ho1, mo0o1, mo1o0]
      (repeat refine awp_seq ?_); refine awp_cond (by rfl) (fun hc => ?_) fun hc => ?_
      · replace h := cond_t h (by first | exact hc | simpa using hc)
        (repeat refine awp_seq ?_); refine ev_region ?_; simp only [go_sem, set_upds ho0, set_upds0 ho0, look_upds ho0, look_upds0 ho0, set_upds ho1, set_upds0 ho1, look_upds ho1, look_upds0 ho1, mo0o1, mo1o0]
        (repeat refine awp_seq ?_); refine awp_ret ?_
        try simp only [go_sem, set_upds ho0, set_upds0 ho0, look_upds ho0, look_upds0 ho0, set_upds ho1, set_upds0 ho1, look_upds ho1, look_upds0 ho1, mo0o1, mo1o0]
        have hr := Option.some.inj h
        refine finb_of ?_; simp only [go_sem, set_upds ho0, set_upds0 ho0, look_upds ho0, look_upds0 ho0, set_upds ho1, set_upds0 ho1, look_upds ho1, look_upds0 ho1, mo0o1, mo1o0]
        exact finu_old (d' := .int .i64 5) (by simp) (upds_sc hsc (by simp <;> omega)) (.same _) (by simp <;> omega) ⟨by subst hr; rfl, by subst hr; rfl⟩
      · replace h := cond_f h (by first | exact hc | simpa using hc)
        refine awp_skip ?_; try simp only [go_sem, set_upds ho0, set_upds0 ho0, look_upds ho0, look_upds0 ho0, set_upds ho1, set_upds0 ho1, look_upds ho1, look_upds0 ho1, mo0o1, mo1o0]
        (repeat refine awp_seq ?_); refine ev_region ?_; simp only [go_sem, set_upds ho0, set_upds0 ho0, look_upds ho0, look_upds0 ho0, set_upds ho1, set_upds0 ho1, look_upds ho1, look_upds0 ho1, mo0o1, mo1o0]
        (repeat refine awp_seq ?_); refine awp_len (t := 47) rfl fun hl0 => ?_
        simp only [rows_len] at hl0
        (repeat refine awp_seq ?_); refine awp_range (body := simpleValidate1_b0 (simpleValidate1 n) a0 a1) (kk := simpleValidate1_a0) (n := a0.args.length) (s0 := (wr .i64 (b0_0 + 1)))
          (fun (gs0 : Unit) (k0 : Nat) (s0 : Int) => [(1, .int .i64 a1), (3, .ptr o1 0 0 0), (47, .sl false 2 40 (rows ApiSimple.cells a0.args)), (48, .int .i64 (↑a0.args.length : Int)), (49, .int .i64 (↑k0 : Int))])
          (fun (gs0 : Unit) (k0 : Nat) (s0 : Int) => (upds st [(o0, (.arr 0 1 0 [[.int .i64 s0]])), (o1, (.arr 0 1 0 [[.fn 73 [] [.ptr o0 0 0 0, .ptr o1 0 0 0]]]))]))
          (fun (gt0 : Unit) (t0 : Int) => [])
          (fun (gt0 : Unit) (t0 : Int) => (upds st [(o0, (.arr 0 1 0 [[.int .i64 t0]])), (o1, (.arr 0 1 0 [[.fn 73 [] [.ptr o0 0 0 0, .ptr o1 0 0 0]]]))]))
          () h (bku_mk0 (by simp) (upds_sc hsc (by simp <;> omega)) ⟨.same _, .same _, .same _, .same _, .same _, trivial⟩ (by simp <;> omega))
          (fun gs0 k0 s0 b0 hk0 h hx0 => ?_) (fun gs0 s0 => ?_) (fun gt0 t0 fr1 st1 h hb => ?_)
        · unfold simpleValidate1_b0 at h
          have hw0 : wr .i64 ((↑k0 : Int) + 1) = (↑(k0 + 1) : Int) := wr_succ hk0 hl0 (by decide)
          (repeat refine awp_seq ?_); refine ev_region ?_; simp only [go_sem, set_upds ho0, set_upds0 ho0, look_upds ho0, look_upds0 ho0, set_upds ho1, set_upds0 ho1, look_upds ho1, look_upds0 ho1, mo0o1, mo1o0]
          (repeat refine awp_seq ?_); refine awp_cond (by rfl) (fun hc => ?_) fun hc => ?_
          · refine awp_skip ?_; try simp only [go_sem, set_upds ho0, set_upds0 ho0, look_upds ho0, look_upds0 ho0, set_upds ho1, set_upds0 ho1, look_upds ho1, look_upds0 ho1, mo0o1, mo1o0]
            (repeat refine awp_seq ?_); refine awp_block ?_
            (repeat refine awp_seq ?_); refine ev_region ?_; simp only [go_sem, set_upds ho0, set_upds0 ho0, look_upds ho0, look_upds0 ho0, set_upds ho1, set_upds0 ho1, look_upds ho1, look_upds0 ho1, mo0o1, mo1o0, hk0, hw0]
            (repeat refine awp_seq ?_); refine ev_region ?_; simp only [go_sem, set_upds ho0, set_upds0 ho0, look_upds ho0, look_upds0 ho0, set_upds ho1, set_upds0 ho1, look_upds ho1, look_upds0 ho1, mo0o1, mo1o0, hk0, hw0]
            obtain ⟨v2, hv2, h⟩ := bind_some h
            refine (ih _ _ _ _ hv2 _ _ _ hnd (by simp only [go_sem, set_upds ho0, set_upds0 ho0, look_upds ho0, look_upds0 ho0, set_upds ho1, set_upds0 ho1, look_upds ho1, look_upds0 ho1, mo0o1, mo1o0, hk0, hw0]) (by simp only [go_sem, set_upds ho0, set_upds0 ho0, look_upds ho0, look_upds0 ho0, set_upds ho1, set_upds0 ho1, look_upds ho1, look_upds0 ho1, mo0o1, mo1o0, hk0, hw0])).mono ?_
            rintro d1 st1 ⟨rfl, rfl⟩
            try simp only [go_sem, set_upds ho0, set_upds0 ho0, look_upds ho0, look_upds0 ho0, set_upds ho1, set_upds0 ho1, look_upds ho1, look_upds0 ho1, mo0o1, mo1o0, hk0, hw0]
            (repeat refine awp_seq ?_); refine ev_region ?_; simp only [go_sem, set_upds ho0, set_upds0 ho0, look_upds ho0, look_upds0 ho0, set_upds ho1, set_upds0 ho1, look_upds ho1, look_upds0 ho1, mo0o1, mo1o0, hk0, hw0]
            (repeat refine awp_seq ?_); refine awp_cond (by rfl) (fun hc => ?_) fun hc => ?_
            · replace h := cond_t h (by first | exact hc | simpa using hc)
              (repeat refine awp_seq ?_); refine ev_region ?_; simp only [go_sem, set_upds ho0, set_upds0 ho0, look_upds ho0, look_upds0 ho0, set_upds ho1, set_upds0 ho1, look_upds ho1, look_upds0 ho1, mo0o1, mo1o0, hk0, hw0]
              (repeat refine awp_seq ?_); refine awp_ret ?_
              try simp only [go_sem, set_upds ho0, set_upds0 ho0, look_upds ho0, look_upds0 ho0, set_upds ho1, set_upds0 ho1, look_upds ho1, look_upds0 ho1, mo0o1, mo1o0, hk0, hw0]
              obtain rfl := Option.some.inj h
              refine pbr_ret ?_; have hr := hx0 _ rfl; try simp only [go_sem, set_upds ho0, set_upds0 ho0, look_upds ho0, look_upds0 ho0, set_upds ho1, set_upds0 ho1, look_upds ho1, look_upds0 ho1, mo0o1, mo1o0, hk0, hw0]
              refine finb_of ?_; simp only [go_sem, set_upds ho0, set_upds0 ho0, look_upds ho0, look_upds0 ho0, set_upds ho1, set_upds0 ho1, look_upds ho1, look_upds0 ho1, mo0o1, mo1o0, hk0, hw0]
              exact finu_old (d' := .int .i64 v2.1) (by simp) (upds_sc hsc (by simp <;> omega)) (.same _) (by simp <;> omega) ⟨by subst hr; rfl, by subst hr; rfl⟩
            · replace h := cond_f h (by first | exact hc | simpa using hc)
              refine awp_skip ?_; try simp only [go_sem, set_upds ho0, set_upds0 ho0, look_upds ho0, look_upds0 ho0, set_upds ho1, set_upds0 ho1, look_upds ho1, look_upds0 ho1, mo0o1, mo1o0, hk0, hw0]
              (repeat refine awp_seq ?_); refine ev_region ?_; simp only [go_sem, set_upds ho0, set_upds0 ho0, look_upds ho0, look_upds0 ho0, set_upds ho1, set_upds0 ho1, look_upds ho1, look_upds0 ho1, mo0o1, mo1o0, hk0, hw0]
              cases h
              exact pbr_nxt () (bku_mk0 (by simp) (upds_sc hsc (by simp <;> omega)) ⟨.same _, .same _, .same _, .same _, .same _, trivial⟩ (by simp <;> omega))
          · exfalso; have hc := of_decide_eq_false hc; omega
        · (repeat refine awp_seq ?_); refine ev_region ?_; simp only [go_sem, set_upds ho0, set_upds0 ho0, look_upds ho0, look_upds0 ho0, set_upds ho1, set_upds0 ho1, look_upds ho1, look_upds0 ho1, mo0o1, mo1o0]
          (repeat refine awp_seq ?_); refine awp_cond (by rfl) (fun hc => ?_) fun hc => ?_
          · exfalso; first | exact Bool.noConfusion hc | (have hc := of_decide_eq_true hc; omega)
          · refine awp_exit ?_; simp only [go_sem, set_upds ho0, set_upds0 ho0, look_upds ho0, look_upds0 ho0, set_upds ho1, set_upds0 ho1, look_upds ho1, look_upds0 ho1, mo0o1, mo1o0]
            exact ⟨(), (bku_mk00 (by simp) (upds_sc hsc (by simp <;> omega)) trivial (by simp <;> omega))⟩
        · try simp only [go_sem, set_upds ho0, set_upds0 ho0, look_upds ho0, look_upds0 ho0, set_upds ho1, set_upds0 ho1, look_upds ho1, look_upds0 ho1, mo0o1, mo1o0]
          unfold simpleValidate1_a0 at h
          refine awp_bks hb ?_
          (repeat refine awp_seq ?_); refine ev_region ?_; simp only [go_sem, set_upds ho0, set_upds0 ho0, look_upds ho0, look_upds0 ho0, set_upds ho1, set_upds0 ho1, look_upds ho1, look_upds0 ho1, mo0o1, mo1o0]
          (repeat refine awp_seq ?_); refine awp_ret ?_
          try simp only [go_sem, set_upds ho0, set_upds0 ho0, look_upds ho0, look_upds0 ho0, set_upds ho1, set_upds0 ho1, look_upds ho1, look_upds0 ho1, mo0o1, mo1o0]
          have hr := Option.some.inj h
          refine finb_of ?_; simp only [go_sem, set_upds ho0, set_upds0 ho0, look_upds ho0, look_upds0 ho0, set_upds ho1, set_upds0 ho1, look_upds ho1, look_upds0 ho1, mo0o1, mo1o0]
          exact finu_same (d' := .int .i64 0) (by simp) (upds_sc hsc (by simp <;> omega)) (.same _) (by simp <;> omega) ⟨by subst hr; rfl, by subst hr; rfl⟩


end Go.Proofs.YtaohdfpcdfbnlaaDoor

