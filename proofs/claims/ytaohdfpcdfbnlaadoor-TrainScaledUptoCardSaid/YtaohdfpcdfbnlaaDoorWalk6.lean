/-
  Each Go function of this part does what its plain Lean function says.
-/
import Derived.Test.YtaohdfpcdfbnlaaDoorBase
import Derived.Test.YtaohdfpcdfbnlaaDoorHand
import Derived.Test.YtaohdfpcdfbnlaaDoorMirrors
import Derived.Test.YtaohdfpcdfbnlaaDoorWalk2
import Derived.Test.YtaohdfpcdfbnlaaDoorWalk5
set_option linter.unusedVariables false
set_option linter.unusedSimpArgs false
namespace Go.Proofs.YtaohdfpcdfbnlaaDoor
open Go Go.Am

set_option maxHeartbeats 2000000 in
set_option maxRecDepth 100000 in
theorem ok_simpleValidate (n : Nat) (a0 : ApiSimple) (r : ApiFault) (h : simpleValidate n a0 = some r) : Pure Tryd.prog gl 63 [.agg [.str a0.base, .sl false 2 40 (rows ApiSimple.cells a0.args)]] (.agg [.int .i64 r.code, .int .i64 r.index]) := by
  intro st
  unfold simpleValidate at h
  refine spec_fb (N := 10) (rs := [.cell 2 41]) (keep := [0, 1, 2, 3, 4]) Tryd.func63 rfl rfl rfl (by kernel_rfl) rfl fun hsc => ?_
  (repeat refine awp_seq ?_); refine ev_region ?_; simp only [go_sem]
  (repeat refine awp_seq ?_); refine ev_region ?_; simp only [go_sem]
  (repeat refine awp_seq ?_); refine ev_region ?_; simp only [go_sem]
  (repeat refine awp_seq ?_); refine ev_region ?_; simp only [go_sem]
  (repeat refine awp_seq ?_); refine ev_region ?_; simp only [go_sem]
  obtain ⟨v1, hv1, h⟩ := bind_some h
  refine (ok_simpleValidate1 n _ _ _ _ hv1 _ _ _ (by simp) (look_new.trans rfl) (look_new.trans rfl)).mono ?_
  rintro d1 st1 ⟨rfl, rfl⟩
  try simp only [go_sem]
  (repeat refine awp_seq ?_); refine awp_ret ?_
  try simp only [go_sem]
  have hr := Option.some.inj h
  refine finb_of ?_; simp only [go_sem]
  exact fin_old' (d' := .agg [.int .i64 v1.1, .int .i64 0]) hsc (.same _) (by simp) ⟨by subst hr; rfl, rfl⟩

set_option maxHeartbeats 2000000 in
set_option maxRecDepth 100000 in
theorem ok_termNone (a0 : ApiSimple) (r : Bool) (h : termNone a0 = some r) : Pure Tryd.prog gl 64 [.agg [.str a0.base, .sl false 2 40 (rows ApiSimple.cells a0.args)]] (.bool r) := by
  intro st
  unfold termNone at h
  refine spec_fb (N := 12) (rs := [.tmp 2]) (keep := [0, 1, 2, 7, 8, 9, 10]) Tryd.func64 rfl rfl rfl (by kernel_rfl) rfl fun hsc => ?_
  (repeat refine awp_seq ?_); refine ev_region ?_; simp only [go_sem]
  (repeat refine awp_seq ?_); refine ev_region ?_; simp only [go_sem]
  (repeat refine awp_seq ?_); refine awp_ret ?_
  try simp only [go_sem]
  have hr := Option.some.inj h
  refine finb_of ?_; simp only [go_sem]
  exact fin_old' (d' := .bool (bif (decide (a0.base = [])) then (decide ((↑a0.args.length : Int) = 0)) else false)) hsc (.same _) (by simp) ⟨by subst hr; rfl, rfl⟩

set_option maxHeartbeats 2000000 in
set_option maxRecDepth 100000 in
theorem ok_termValidate1 : ∀ (n : Nat) (a0 : ApiTerm) (a1 : Int) (a2 : Int) (b0_0 : Int) (r : ApiFault × Int) (h : termValidate1 n a0 a1 a2 b0_0 = some r), ∀ (st : St) (o0 o1 : Nat) (hnd : [o0, o1].Nodup) (hlo0 : Am.look st o0 = some (.arr 0 1 0 [[.int .i64 b0_0]])) (hlo1 : Am.look st o1 = some (.arr 0 1 0 [[.fn 61 [] [.ptr o0 0 0 0, .ptr o1 0 0 0]]])), Am.Spec Tryd.prog gl 61 [.agg [.int .i64 a0.kind, .str a0.name, .int .i64 a0.index, .str a0.type.base, .sl false 2 40 (rows ApiSimple.cells a0.type.args), .sl false 6 96 (rows ApiTerm.cells a0.args)], .int .i64 a1, .int .i64 a2, .ptr o0 0 0 0, .ptr o1 0 0 0] st (fun d st' => d = .agg [.int .i64 r.1.code, .int .i64 r.1.index] ∧ st' = puts st [(o0, (.arr 0 1 0 [[.int .i64 r.2]])), (o1, (.arr 0 1 0 [[.fn 61 [] [.ptr o0 0 0 0, .ptr o1 0 0 0]]]))]) := by
  intro n
  induction n with
  | zero => intro a0 a1 a2 b0_0 r h; cases h
  | succ n ih =>
    intro a0 a1 a2 b0_0 r h st o0 o1 hnd hlo0 hlo1
    unfold termValidate1 at h
    have ho0 := look_lt hlo0
    have ho1 := look_lt hlo1
    have hnd0 := hnd
    simp only [List.nodup_cons, List.mem_cons, List.not_mem_nil, or_false, not_or, not_false_eq_true, List.nodup_nil, and_true] at hnd0
    have no0o1 := hnd0
    have mo0o1 : (o0 = o1) = False := eq_false no0o1
    have mo1o0 : (o1 = o0) = False := eq_false (fun e => no0o1 e.symm)
    refine spec_fb (N := 166) (rs := [.cell 8 41]) (keep := [0, 1, 2, 3, 4, 5, 8, 9, 10, 11, 19, 20, 21, 25, 28, 34, 35, 36, 37, 38, 44, 51, 54, 60, 61, 62, 63, 66, 67, 68, 69, 70, 77, 78, 79, 80, 81, 84, 90, 91, 92, 95, 96, 97, 98, 99, 106, 119, 125, 126, 127, 130, 131, 132, 133, 136, 137, 138, 139, 140, 154]) Tryd.func61 rfl rfl rfl (by kernel_rfl) rfl fun hsc => ?_
    refine awp_st (s' := (upds st [(o0, (.arr 0 1 0 [[.int .i64 b0_0]])), (o1, (.arr 0 1 0 [[.fn 61 [] [.ptr o0 0 0 0, .ptr o1 0 0 0]]]))])) (upds_self (by simp [hlo0, hlo1])) ?_
    (repeat refine awp_seq ?_); refine ev_region ?_; simp only [go_sem, set_upds ho0, set_upds0 ho0, look_upds ho0, look_upds0 ho0, set_upds ho1, set_upds0 ho1, look_upds ho1, look_upds0 ho1, mo0o1, mo1o0]
    (repeat refine awp_seq ?_); refine ev_region ?_; simp only [go_sem, set_upds ho0, set_upds0 ho0, look_upds ho0, look_upds0 ho0, set_upds ho1, set_upds0 ho1, look_upds ho1, look_upds0 ho1, mo0o1, mo1o0]
    (repeat refine awp_seq ?_); refine ev_region ?_; simp only [go_sem, set_upds ho0, set_upds0 ho0, look_upds ho0, look_upds0 ho0, set_upds ho1, set_upds0 ho1, look_upds ho1, look_upds0 ho1, mo0o1, mo1o0]
    (repeat refine awp_seq ?_); refine ev_region ?_; simp only [go_sem, set_upds ho0, set_upds0 ho0, look_upds ho0, look_upds0 ho0, set_upds ho1, set_upds0 ho1, look_upds ho1, look_upds0 ho1, mo0o1, mo1o0]
    (repeat refine awp_seq ?_); refine ev_region ?_; simp only [go_sem, set_upds ho0, set_upds0 ho0, look_upds ho0, look_upds0 ho0, set_upds ho1, set_upds0 ho1, look_upds ho1, look_upds0 ho1, mo0o1, mo1o0]
    (repeat refine awp_seq ?_); refine awp_cond (by rfl) (fun hc => ?_) fun hc => ?_
    · replace h := cond_t h (by first | exact hc | simpa using hc)
      (repeat refine awp_seq ?_); refine ev_region ?_; simp only [go_sem, set_upds ho0, set_upds0 ho0, look_upds ho0, look_upds0 ho0, set_upds ho1, set_upds0 ho1, look_upds ho1, look_upds0 ho1, mo0o1, mo1o0]
      obtain ⟨v1, hv1, h⟩ := bind_some h
      refine (ok_termValidate11 _ _ _ hv1 _ _ (by simp) (look_updsn.trans rfl)).mono ?_
      rintro d1 st1 ⟨rfl, rfl⟩
      try simp only [go_sem, set_upds ho0, set_upds0 ho0, look_upds ho0, look_upds0 ho0, set_upds ho1, set_upds0 ho1, look_upds ho1, look_upds0 ho1, mo0o1, mo1o0]
      (repeat refine awp_seq ?_); refine awp_ret ?_
      try simp only [go_sem, set_upds ho0, set_upds0 ho0, look_upds ho0, look_upds0 ho0, set_upds ho1, set_upds0 ho1, look_upds ho1, look_upds0 ho1, mo0o1, mo1o0]
      have hr := Option.some.inj h
      refine finb_of ?_; simp only [go_sem, set_upds ho0, set_upds0 ho0, look_upds ho0, look_upds0 ho0, set_upds ho1, set_upds0 ho1, look_upds ho1, look_upds0 ho1, mo0o1, mo1o0]
      exact finu_old (d' := .agg [.int .i64 v1.code, .int .i64 v1.index]) (by simp) (upds_sc hsc (by simp <;> omega)) (.same _) (by simp <;> omega) ⟨by subst hr; rfl, by subst hr; rfl⟩
    · replace h := cond_f h (by first | exact hc | simpa using hc)
      refine awp_skip ?_; try simp only [go_sem, set_upds ho0, set_upds0 ho0, look_upds ho0, look_upds0 ho0, set_upds ho1, set_upds0 ho1, look_upds ho1, look_upds0 ho1, mo0o1, mo1o0]
      (repeat refine awp_seq ?_); refine ev_region ?_; simp only [go_sem, set_upds ho0, set_upds0 ho0, look_upds ho0, look_upds0 ho0, set_upds ho1, set_upds0 ho1, look_upds ho1, look_upds0 ho1, mo0o1, mo1o0]
      (repeat refine awp_seq ?_); refine awp_block ?_
      (repeat refine awp_seq ?_); refine ev_region ?_; simp only [go_sem, set_upds ho0, set_upds0 ho0, look_upds ho0, look_upds0 ho0, set_upds ho1, set_upds0 ho1, look_upds ho1, look_upds0 ho1, mo0o1, mo1o0]
      (repeat refine awp_seq ?_); refine awp_cond (by rfl) (fun hc => ?_) fun hc => ?_
      · replace h := cond_t h (by first | exact hc | simpa using hc)
        (repeat refine awp_seq ?_); refine ev_region ?_; simp only [go_sem, set_upds ho0, set_upds0 ho0, look_upds ho0, look_upds0 ho0, set_upds ho1, set_upds0 ho1, look_upds ho1, look_upds0 ho1, mo0o1, mo1o0]
        (repeat refine awp_seq ?_); refine awp_cond (by rfl) (fun hc => ?_) fun hc => ?_
        · replace h := cond_t h (by first | exact hc | simpa using hc)
          (repeat refine awp_seq ?_); refine ev_region ?_; simp only [go_sem, set_upds ho0, set_upds0 ho0, look_upds ho0, look_upds0 ho0, set_upds ho1, set_upds0 ho1, look_upds ho1, look_upds0 ho1, mo0o1, mo1o0]
          obtain ⟨v2, hv2, h⟩ := bind_some h
          refine (ok_termValidate11 _ _ _ hv2 _ _ (by simp) (look_updsn.trans rfl)).mono ?_
          rintro d1 st1 ⟨rfl, rfl⟩
          try simp only [go_sem, set_upds ho0, set_upds0 ho0, look_upds ho0, look_upds0 ho0, set_upds ho1, set_upds0 ho1, look_upds ho1, look_upds0 ho1, mo0o1, mo1o0]
          (repeat refine awp_seq ?_); refine awp_ret ?_
          try simp only [go_sem, set_upds ho0, set_upds0 ho0, look_upds ho0, look_upds0 ho0, set_upds ho1, set_upds0 ho1, look_upds ho1, look_upds0 ho1, mo0o1, mo1o0]
          have hr := Option.some.inj h
          refine finb_of ?_; simp only [go_sem, set_upds ho0, set_upds0 ho0, look_upds ho0, look_upds0 ho0, set_upds ho1, set_upds0 ho1, look_upds ho1, look_upds0 ho1, mo0o1, mo1o0]
          exact finu_old (d' := .agg [.int .i64 v2.code, .int .i64 v2.index]) (by simp) (upds_sc hsc (by simp <;> omega)) (.same _) (by simp <;> omega) ⟨by subst hr; rfl, by subst hr; rfl⟩
        · replace h := cond_f h (by first | exact hc | simpa using hc)
          refine awp_skip ?_; try simp only [go_sem, set_upds ho0, set_upds0 ho0, look_upds ho0, look_upds0 ho0, set_upds ho1, set_upds0 ho1, look_upds ho1, look_upds0 ho1, mo0o1, mo1o0]
          (repeat refine awp_seq ?_); refine ev_region ?_; simp only [go_sem, set_upds ho0, set_upds0 ho0, look_upds ho0, look_upds0 ho0, set_upds ho1, set_upds0 ho1, look_upds ho1, look_upds0 ho1, mo0o1, mo1o0]
          obtain ⟨v3, hv3, h⟩ := bind_some h
          refine ((ok_termName _ _ hv3)).to ?_
          try simp only [go_sem, set_upds ho0, set_upds0 ho0, look_upds ho0, look_upds0 ho0, set_upds ho1, set_upds0 ho1, look_upds ho1, look_upds0 ho1, mo0o1, mo1o0]
          (repeat refine awp_seq ?_); refine awp_cond (by rfl) (fun hc => ?_) fun hc => ?_
          · replace h := cond_t h (by first | exact hc | simpa using hc)
            (repeat refine awp_seq ?_); refine ev_region ?_; simp only [go_sem, set_upds ho0, set_upds0 ho0, look_upds ho0, look_upds0 ho0, set_upds ho1, set_upds0 ho1, look_upds ho1, look_upds0 ho1, mo0o1, mo1o0]
            obtain ⟨v4, hv4, h⟩ := bind_some h
            refine (ok_termValidate11 _ _ _ hv4 _ _ (by simp) (look_updsn.trans rfl)).mono ?_
            rintro d1 st1 ⟨rfl, rfl⟩
            try simp only [go_sem, set_upds ho0, set_upds0 ho0, look_upds ho0, look_upds0 ho0, set_upds ho1, set_upds0 ho1, look_upds ho1, look_upds0 ho1, mo0o1, mo1o0]
            (repeat refine awp_seq ?_); refine awp_ret ?_
            try simp only [go_sem, set_upds ho0, set_upds0 ho0, look_upds ho0, look_upds0 ho0, set_upds ho1, set_upds0 ho1, look_upds ho1, look_upds0 ho1, mo0o1, mo1o0]
            have hr := Option.some.inj h
            refine finb_of ?_; simp only [go_sem, set_upds ho0, set_upds0 ho0, look_upds ho0, look_upds0 ho0, set_upds ho1, set_upds0 ho1, look_upds ho1, look_upds0 ho1, mo0o1, mo1o0]
            exact finu_old (d' := .agg [.int .i64 v4.code, .int .i64 v4.index]) (by simp) (upds_sc hsc (by simp <;> omega)) (.same _) (by simp <;> omega) ⟨by subst hr; rfl, by subst hr; rfl⟩
          · replace h := cond_f h (by first | exact hc | simpa using hc)
            refine awp_skip ?_; try simp only [go_sem, set_upds ho0, set_upds0 ho0, look_upds ho0, look_upds0 ho0, set_upds ho1, set_upds0 ho1, look_upds ho1, look_upds0 ho1, mo0o1, mo1o0]
            (repeat refine awp_seq ?_); refine ev_region ?_; simp only [go_sem, set_upds ho0, set_upds0 ho0, look_upds ho0, look_upds0 ho0, set_upds ho1, set_upds0 ho1, look_upds ho1, look_upds0 ho1, mo0o1, mo1o0]
            obtain ⟨v5, hv5, h⟩ := bind_some h
            refine ((ok_simpleValidate n _ _ hv5)).to ?_
            try simp only [go_sem, set_upds ho0, set_upds0 ho0, look_upds ho0, look_upds0 ho0, set_upds ho1, set_upds0 ho1, look_upds ho1, look_upds0 ho1, mo0o1, mo1o0]
            (repeat refine awp_seq ?_); refine awp_cond (by rfl) (fun hc => ?_) fun hc => ?_
            · replace h := cond_t h (by first | exact hc | simpa using hc)
              (repeat refine awp_seq ?_); refine ev_region ?_; simp only [go_sem, set_upds ho0, set_upds0 ho0, look_upds ho0, look_upds0 ho0, set_upds ho1, set_upds0 ho1, look_upds ho1, look_upds0 ho1, mo0o1, mo1o0]
              obtain ⟨v6, hv6, h⟩ := bind_some h
              refine (ok_termValidate11 _ _ _ hv6 _ _ (by simp) (look_updsn.trans rfl)).mono ?_
              rintro d1 st1 ⟨rfl, rfl⟩
              try simp only [go_sem, set_upds ho0, set_upds0 ho0, look_upds ho0, look_upds0 ho0, set_upds ho1, set_upds0 ho1, look_upds ho1, look_upds0 ho1, mo0o1, mo1o0]
              (repeat refine awp_seq ?_); refine awp_ret ?_
              try simp only [go_sem, set_upds ho0, set_upds0 ho0, look_upds ho0, look_upds0 ho0, set_upds ho1, set_upds0 ho1, look_upds ho1, look_upds0 ho1, mo0o1, mo1o0]
              have hr := Option.some.inj h
              refine finb_of ?_; simp only [go_sem, set_upds ho0, set_upds0 ho0, look_upds ho0, look_upds0 ho0, set_upds ho1, set_upds0 ho1, look_upds ho1, look_upds0 ho1, mo0o1, mo1o0]
              exact finu_old (d' := .agg [.int .i64 v6.code, .int .i64 v6.index]) (by simp) (upds_sc hsc (by simp <;> omega)) (.same _) (by simp <;> omega) ⟨by subst hr; rfl, by subst hr; rfl⟩
            · replace h := cond_f h (by first | exact hc | simpa using hc)
              refine awp_skip ?_; try simp only [go_sem, set_upds ho0, set_upds0 ho0, look_upds ho0, look_upds0 ho0, set_upds ho1, set_upds0 ho1, look_upds ho1, look_upds0 ho1, mo0o1, mo1o0]
              (repeat refine awp_seq ?_); refine ev_region ?_; simp only [go_sem, set_upds ho0, set_upds0 ho0, look_upds ho0, look_upds0 ho0, set_upds ho1, set_upds0 ho1, look_upds ho1, look_upds0 ho1, mo0o1, mo1o0]
              (repeat refine awp_seq ?_); refine awp_ret ?_
              try simp only [go_sem, set_upds ho0, set_upds0 ho0, look_upds ho0, look_upds0 ho0, set_upds ho1, set_upds0 ho1, look_upds ho1, look_upds0 ho1, mo0o1, mo1o0]
              have hr := Option.some.inj h
              refine finb_of ?_; simp only [go_sem, set_upds ho0, set_upds0 ho0, look_upds ho0, look_upds0 ho0, set_upds ho1, set_upds0 ho1, look_upds ho1, look_upds0 ho1, mo0o1, mo1o0]
              exact finu_old (d' := .agg [.int .i64 0, .int .i64 0]) (by simp) (upds_sc hsc (by simp <;> omega)) (.same _) (by simp <;> omega) ⟨by subst hr; rfl, by subst hr; rfl⟩
      · replace h := cond_f h (by first | exact hc | simpa using hc)
        (repeat refine awp_seq ?_); refine ev_region ?_; simp only [go_sem, set_upds ho0, set_upds0 ho0, look_upds ho0, look_upds0 ho0, set_upds ho1, set_upds0 ho1, look_upds ho1, look_upds0 ho1, mo0o1, mo1o0]
        (repeat refine awp_seq ?_); refine awp_cond (by rfl) (fun hc => ?_) fun hc => ?_
        · replace h := cond_t h (by first | exact hc | simpa using hc)
          (repeat refine awp_seq ?_); refine ev_region ?_; simp only [go_sem, set_upds ho0, set_upds0 ho0, look_upds ho0, look_upds0 ho0, set_upds ho1, set_upds0 ho1, look_upds ho1, look_upds0 ho1, mo0o1, mo1o0]
          obtain ⟨v7, hv7, h⟩ := bind_some h
          refine gc_pure (fun hG => (ok_termNone _ _ (gd_t hv7 (by simpa using hG)))) ?_
          try simp only [go_sem, set_upds ho0, set_upds0 ho0, look_upds ho0, look_upds0 ho0, set_upds ho1, set_upds0 ho1, look_upds ho1, look_upds0 ho1, mo0o1, mo1o0]
          (repeat refine awp_seq ?_); refine awp_cond (by rfl) (fun hc => ?_) fun hc => ?_
          · replace h := cond_t h (by first | exact hc | simpa using hc)
            (repeat refine awp_seq ?_); refine ev_region ?_; simp only [go_sem, set_upds ho0, set_upds0 ho0, look_upds ho0, look_upds0 ho0, set_upds ho1, set_upds0 ho1, look_upds ho1, look_upds0 ho1, mo0o1, mo1o0]
            obtain ⟨v8, hv8, h⟩ := bind_some h
            refine (ok_termValidate11 _ _ _ hv8 _ _ (by simp) (look_updsn.trans rfl)).mono ?_
            rintro d1 st1 ⟨rfl, rfl⟩
            try simp only [go_sem, set_upds ho0, set_upds0 ho0, look_upds ho0, look_upds0 ho0, set_upds ho1, set_upds0 ho1, look_upds ho1, look_upds0 ho1, mo0o1, mo1o0]
            (repeat refine awp_seq ?_); refine awp_ret ?_
            try simp only [go_sem, set_upds ho0, set_upds0 ho0, look_upds ho0, look_upds0 ho0, set_upds ho1, set_upds0 ho1, look_upds ho1, look_upds0 ho1, mo0o1, mo1o0]
            have hr := Option.some.inj h
            refine finb_of ?_; simp only [go_sem, set_upds ho0, set_upds0 ho0, look_upds ho0, look_upds0 ho0, set_upds ho1, set_upds0 ho1, look_upds ho1, look_upds0 ho1, mo0o1, mo1o0]
            exact finu_old (d' := .agg [.int .i64 v8.code, .int .i64 v8.index]) (by simp) (upds_sc hsc (by simp <;> omega)) (.same _) (by simp <;> omega) ⟨by subst hr; rfl, by subst hr; rfl⟩
          · replace h := cond_f h (by first | exact hc | simpa using hc)
            refine awp_skip ?_; try simp only [go_sem, set_upds ho0, set_upds0 ho0, look_upds ho0, look_upds0 ho0, set_upds ho1, set_upds0 ho1, look_upds ho1, look_upds0 ho1, mo0o1, mo1o0]
            (repeat refine awp_seq ?_); refine ev_region ?_; simp only [go_sem, set_upds ho0, set_upds0 ho0, look_upds ho0, look_upds0 ho0, set_upds ho1, set_upds0 ho1, look_upds ho1, look_upds0 ho1, mo0o1, mo1o0]
            (repeat refine awp_seq ?_); refine awp_cond (by rfl) (fun hc => ?_) fun hc => ?_
            · replace h := cond_t h (by first | exact hc | simpa using hc)
              (repeat refine awp_seq ?_); refine ev_region ?_; simp only [go_sem, set_upds ho0, set_upds0 ho0, look_upds ho0, look_upds0 ho0, set_upds ho1, set_upds0 ho1, look_upds ho1, look_upds0 ho1, mo0o1, mo1o0]
              obtain ⟨v9, hv9, h⟩ := bind_some h
              refine (ok_termValidate11 _ _ _ hv9 _ _ (by simp) (look_updsn.trans rfl)).mono ?_
              rintro d1 st1 ⟨rfl, rfl⟩
              try simp only [go_sem, set_upds ho0, set_upds0 ho0, look_upds ho0, look_upds0 ho0, set_upds ho1, set_upds0 ho1, look_upds ho1, look_upds0 ho1, mo0o1, mo1o0]
              (repeat refine awp_seq ?_); refine awp_ret ?_
              try simp only [go_sem, set_upds ho0, set_upds0 ho0, look_upds ho0, look_upds0 ho0, set_upds ho1, set_upds0 ho1, look_upds ho1, look_upds0 ho1, mo0o1, mo1o0]
              have hr := Option.some.inj h
              refine finb_of ?_; simp only [go_sem, set_upds ho0, set_upds0 ho0, look_upds ho0, look_upds0 ho0, set_upds ho1, set_upds0 ho1, look_upds ho1, look_upds0 ho1, mo0o1, mo1o0]
              exact finu_old (d' := .agg [.int .i64 v9.code, .int .i64 v9.index]) (by simp) (upds_sc hsc (by simp <;> omega)) (.same _) (by simp <;> omega) ⟨by subst hr; rfl, by subst hr; rfl⟩
            · replace h := cond_f h (by first | exact hc | simpa using hc)
              refine awp_skip ?_; try simp only [go_sem, set_upds ho0, set_upds0 ho0, look_upds ho0, look_upds0 ho0, set_upds ho1, set_upds0 ho1, look_upds ho1, look_upds0 ho1, mo0o1, mo1o0]
              (repeat refine awp_seq ?_); refine ev_region ?_; simp only [go_sem, set_upds ho0, set_upds0 ho0, look_upds ho0, look_upds0 ho0, set_upds ho1, set_upds0 ho1, look_upds ho1, look_upds0 ho1, mo0o1, mo1o0]
              (repeat refine awp_seq ?_); refine awp_ret ?_
              try simp only [go_sem, set_upds ho0, set_upds0 ho0, look_upds ho0, look_upds0 ho0, set_upds ho1, set_upds0 ho1, look_upds ho1, look_upds0 ho1, mo0o1, mo1o0]
              have hr := Option.some.inj h
              refine finb_of ?_; simp only [go_sem, set_upds ho0, set_upds0 ho0, look_upds ho0, look_upds0 ho0, set_upds ho1, set_upds0 ho1, look_upds ho1, look_upds0 ho1, mo0o1, mo1o0]
              exact finu_old (d' := .agg [.int .i64 0, .int .i64 0]) (by simp) (upds_sc hsc (by simp <;> omega)) (.same _) (by simp <;> omega) ⟨by subst hr; rfl, by subst hr; rfl⟩
        · replace h := cond_f h (by first | exact hc | simpa using hc)
          (repeat refine awp_seq ?_); refine ev_region ?_; simp only [go_sem, set_upds ho0, set_upds0 ho0, look_upds ho0, look_upds0 ho0, set_upds ho1, set_upds0 ho1, look_upds ho1, look_upds0 ho1, mo0o1, mo1o0]
          (repeat refine awp_seq ?_); refine awp_cond (by rfl) (fun hc => ?_) fun hc => ?_
          · replace h := cond_t h (by first | exact hc | simpa using hc)
            (repeat refine awp_seq ?_); refine ev_region ?_; simp only [go_sem, set_upds ho0, set_upds0 ho0, look_upds ho0, look_upds0 ho0, set_upds ho1, set_upds0 ho1, look_upds ho1, look_upds0 ho1, mo0o1, mo1o0]
            (repeat refine awp_seq ?_); refine awp_cond (by rfl) (fun hc => ?_) fun hc => ?_
            · replace h := cond_t h (by first | exact hc | simpa using hc)
              (repeat refine awp_seq ?_); refine ev_region ?_; simp only [go_sem, set_upds ho0, set_upds0 ho0, look_upds ho0, look_upds0 ho0, set_upds ho1, set_upds0 ho1, look_upds ho1, look_upds0 ho1, mo0o1, mo1o0]
              obtain ⟨v10, hv10, h⟩ := bind_some h
              refine (ok_termValidate11 _ _ _ hv10 _ _ (by simp) (look_updsn.trans rfl)).mono ?_
              rintro d1 st1 ⟨rfl, rfl⟩
              try simp only [go_sem, set_upds ho0, set_upds0 ho0, look_upds ho0, look_upds0 ho0, set_upds ho1, set_upds0 ho1, look_upds ho1, look_upds0 ho1, mo0o1, mo1o0]
              (repeat refine awp_seq ?_); refine awp_ret ?_
              try simp only [go_sem, set_upds ho0, set_upds0 ho0, look_upds ho0, look_upds0 ho0, set_upds ho1, set_upds0 ho1, look_upds ho1, look_upds0 ho1, mo0o1, mo1o0]
              have hr := Option.some.inj h
              refine finb_of ?_; simp only [go_sem, set_upds ho0, set_upds0 ho0, look_upds ho0, look_upds0 ho0, set_upds ho1, set_upds0 ho1, look_upds ho1, look_upds0 ho1, mo0o1, mo1o0]
              exact finu_old (d' := .agg [.int .i64 v10.code, .int .i64 v10.index]) (by simp) (upds_sc hsc (by simp <;> omega)) (.same _) (by simp <;> omega) ⟨by subst hr; rfl, by subst hr; rfl⟩
            · replace h := cond_f h (by first | exact hc | simpa using hc)
              refine awp_skip ?_; try simp only [go_sem, set_upds ho0, set_upds0 ho0, look_upds ho0, look_upds0 ho0, set_upds ho1, set_upds0 ho1, look_upds ho1, look_upds0 ho1, mo0o1, mo1o0]
              (repeat refine awp_seq ?_); refine ev_region ?_; simp only [go_sem, set_upds ho0, set_upds0 ho0, look_upds ho0, look_upds0 ho0, set_upds ho1, set_upds0 ho1, look_upds ho1, look_upds0 ho1, mo0o1, mo1o0]
              obtain ⟨v11, hv11, h⟩ := bind_some h
              refine ((ok_simpleValidate n _ _ hv11)).to ?_
              try simp only [go_sem, set_upds ho0, set_upds0 ho0, look_upds ho0, look_upds0 ho0, set_upds ho1, set_upds0 ho1, look_upds ho1, look_upds0 ho1, mo0o1, mo1o0]
              (repeat refine awp_seq ?_); refine awp_cond (by rfl) (fun hc => ?_) fun hc => ?_
              · replace h := cond_t h (by first | exact hc | simpa using hc)
                (repeat refine awp_seq ?_); refine ev_region ?_; simp only [go_sem, set_upds ho0, set_upds0 ho0, look_upds ho0, look_upds0 ho0, set_upds ho1, set_upds0 ho1, look_upds ho1, look_upds0 ho1, mo0o1, mo1o0]
                obtain ⟨v12, hv12, h⟩ := bind_some h
                refine (ok_termValidate11 _ _ _ hv12 _ _ (by simp) (look_updsn.trans rfl)).mono ?_
                rintro d1 st1 ⟨rfl, rfl⟩
                try simp only [go_sem, set_upds ho0, set_upds0 ho0, look_upds ho0, look_upds0 ho0, set_upds ho1, set_upds0 ho1, look_upds ho1, look_upds0 ho1, mo0o1, mo1o0]
                (repeat refine awp_seq ?_); refine awp_ret ?_
                try simp only [go_sem, set_upds ho0, set_upds0 ho0, look_upds ho0, look_upds0 ho0, set_upds ho1, set_upds0 ho1, look_upds ho1, look_upds0 ho1, mo0o1, mo1o0]
                have hr := Option.some.inj h
                refine finb_of ?_; simp only [go_sem, set_upds ho0, set_upds0 ho0, look_upds ho0, look_upds0 ho0, set_upds ho1, set_upds0 ho1, look_upds ho1, look_upds0 ho1, mo0o1, mo1o0]
                exact finu_old (d' := .agg [.int .i64 v12.code, .int .i64 v12.index]) (by simp) (upds_sc hsc (by simp <;> omega)) (.same _) (by simp <;> omega) ⟨by subst hr; rfl, by subst hr; rfl⟩
              · replace h := cond_f h (by first | exact hc | simpa using hc)
                refine awp_skip ?_; try simp only [go_sem, set_upds ho0, set_upds0 ho0, look_upds ho0, look_upds0 ho0, set_upds ho1, set_upds0 ho1, look_upds ho1, look_upds0 ho1, mo0o1, mo1o0]
                obtain ⟨f13, h⟩ := chk_some h
                (repeat refine awp_seq ?_); refine ev_draw_region [9] 0 follows (by kernel_rfl) (by rfl) ?_; simp only [go_sem, List.replicate_succ, List.replicate_zero, set_upds ho0, set_upds0 ho0, look_upds ho0, look_upds0 ho0, set_upds ho1, set_upds0 ho1, look_upds ho1, look_upds0 ho1, mo0o1, mo1o0, f13]
                obtain ⟨v14, hv14, h⟩ := bind_some h
                refine dc_loc [o0, o1] (fun st2 h2 => (ih _ _ _ _ _ hv14 st2 _ _ hnd ((h2 _ (by simp)).trans (by simp only [go_sem, set_upds ho0, set_upds0 ho0, look_upds ho0, look_upds0 ho0, set_upds ho1, set_upds0 ho1, look_upds ho1, look_upds0 ho1, mo0o1, mo1o0, f13])) ((h2 _ (by simp)).trans (by simp only [go_sem, set_upds ho0, set_upds0 ho0, look_upds ho0, look_upds0 ho0, set_upds ho1, set_upds0 ho1, look_upds ho1, look_upds0 ho1, mo0o1, mo1o0, f13])))) (by simp) (by simp only [List.mem_cons, List.not_mem_nil, or_false, forall_eq_or_imp, forall_eq]; exact ⟨⟨by first | omega | (simp <;> omega), _, (by simp only [go_sem, set_upds ho0, set_upds0 ho0, look_upds ho0, look_upds0 ho0, set_upds ho1, set_upds0 ho1, look_upds ho1, look_upds0 ho1, mo0o1, mo1o0, f13] <;> rfl), Ob.noConfusion⟩, ⟨by first | omega | (simp <;> omega), _, (by simp only [go_sem, set_upds ho0, set_upds0 ho0, look_upds ho0, look_upds0 ho0, set_upds ho1, set_upds0 ho1, look_upds ho1, look_upds0 ho1, mo0o1, mo1o0, f13] <;> rfl), Ob.noConfusion⟩⟩) (by simp) ?_
                try simp only [go_sem, set_upds ho0, set_upds0 ho0, look_upds ho0, look_upds0 ho0, set_upds ho1, set_upds0 ho1, look_upds ho1, look_upds0 ho1, mo0o1, mo1o0, f13]
                try refine ⟨by (simp <;> omega), ?_⟩
                (repeat refine awp_seq ?_); refine awp_ret ?_
                try simp only [go_sem, set_upds ho0, set_upds0 ho0, look_upds ho0, look_upds0 ho0, set_upds ho1, set_upds0 ho1, look_upds ho1, look_upds0 ho1, mo0o1, mo1o0, f13]
                have hr := Option.some.inj h
                refine finb_of ?_; simp only [go_sem, set_upds ho0, set_upds0 ho0, look_upds ho0, look_upds0 ho0, set_upds ho1, set_upds0 ho1, look_upds ho1, look_upds0 ho1, mo0o1, mo1o0, f13]
                exact finu_old (d' := .agg [.int .i64 v14.1.code, .int .i64 v14.1.index]) (by simp) (upds_sc hsc (by simp <;> omega)) (.same _) (by simp <;> omega) ⟨by subst hr; rfl, by subst hr; rfl⟩
          · replace h := cond_f h (by first | exact hc | simpa using hc)
            (repeat refine awp_seq ?_); refine ev_region ?_; simp only [go_sem, set_upds ho0, set_upds0 ho0, look_upds ho0, look_upds0 ho0, set_upds ho1, set_upds0 ho1, look_upds ho1, look_upds0 ho1, mo0o1, mo1o0]
            (repeat refine awp_seq ?_); refine awp_cond (by rfl) (fun hc => ?_) fun hc => ?_
            · replace h := cond_t h (by first | exact hc | simpa using hc)
              (repeat refine awp_seq ?_); refine ev_region ?_; simp only [go_sem, set_upds ho0, set_upds0 ho0, look_upds ho0, look_upds0 ho0, set_upds ho1, set_upds0 ho1, look_upds ho1, look_upds0 ho1, mo0o1, mo1o0]
              obtain ⟨v15, hv15, h⟩ := bind_some h
              refine gc_pure (fun hG => (ok_termNone _ _ (gd_t hv15 (by simpa using hG)))) ?_
              try simp only [go_sem, set_upds ho0, set_upds0 ho0, look_upds ho0, look_upds0 ho0, set_upds ho1, set_upds0 ho1, look_upds ho1, look_upds0 ho1, mo0o1, mo1o0]
              (repeat refine awp_seq ?_); refine awp_cond (by rfl) (fun hc => ?_) fun hc => ?_
              · replace h := cond_t h (by first | exact hc | simpa using hc)
                (repeat refine awp_seq ?_); refine ev_region ?_; simp only [go_sem, set_upds ho0, set_upds0 ho0, look_upds ho0, look_upds0 ho0, set_upds ho1, set_upds0 ho1, look_upds ho1, look_upds0 ho1, mo0o1, mo1o0]
                obtain ⟨v16, hv16, h⟩ := bind_some h
                refine (ok_termValidate11 _ _ _ hv16 _ _ (by simp) (look_updsn.trans rfl)).mono ?_
                rintro d1 st1 ⟨rfl, rfl⟩
                try simp only [go_sem, set_upds ho0, set_upds0 ho0, look_upds ho0, look_upds0 ho0, set_upds ho1, set_upds0 ho1, look_upds ho1, look_upds0 ho1, mo0o1, mo1o0]
                (repeat refine awp_seq ?_); refine awp_ret ?_
                try simp only [go_sem, set_upds ho0, set_upds0 ho0, look_upds ho0, look_upds0 ho0, set_upds ho1, set_upds0 ho1, look_upds ho1, look_upds0 ho1, mo0o1, mo1o0]
                have hr := Option.some.inj h
                refine finb_of ?_; simp only [go_sem, set_upds ho0, set_upds0 ho0, look_upds ho0, look_upds0 ho0, set_upds ho1, set_upds0 ho1, look_upds ho1, look_upds0 ho1, mo0o1, mo1o0]
                exact finu_old (d' := .agg [.int .i64 v16.code, .int .i64 v16.index]) (by simp) (upds_sc hsc (by simp <;> omega)) (.same _) (by simp <;> omega) ⟨by subst hr; rfl, by subst hr; rfl⟩
              · replace h := cond_f h (by first | exact hc | simpa using hc)
                refine awp_skip ?_; try simp only [go_sem, set_upds ho0, set_upds0 ho0, look_upds ho0, look_upds0 ho0, set_upds ho1, set_upds0 ho1, look_upds ho1, look_upds0 ho1, mo0o1, mo1o0]
                obtain ⟨f17, h⟩ := chk_some h
                (repeat refine awp_seq ?_); refine ev_draw_region [8] 1 follows (by kernel_rfl) (by rfl) ?_; simp only [go_sem, List.replicate_succ, List.replicate_zero, set_upds ho0, set_upds0 ho0, look_upds ho0, look_upds0 ho0, set_upds ho1, set_upds0 ho1, look_upds ho1, look_upds0 ho1, mo0o1, mo1o0, f17]
                obtain ⟨v18, hv18, h⟩ := bind_some h
                refine dc_loc [o0, o1] (fun st2 h2 => (ih _ _ _ _ _ hv18 st2 _ _ hnd ((h2 _ (by simp)).trans (by simp only [go_sem, set_upds ho0, set_upds0 ho0, look_upds ho0, look_upds0 ho0, set_upds ho1, set_upds0 ho1, look_upds ho1, look_upds0 ho1, mo0o1, mo1o0, f17])) ((h2 _ (by simp)).trans (by simp only [go_sem, set_upds ho0, set_upds0 ho0, look_upds ho0, look_upds0 ho0, set_upds ho1, set_upds0 ho1, look_upds ho1, look_upds0 ho1, mo0o1, mo1o0, f17])))) (by simp) (by simp only [List.mem_cons, List.not_mem_nil, or_false, forall_eq_or_imp, forall_eq]; exact ⟨⟨by first | omega | (simp <;> omega), _, (by simp only [go_sem, set_upds ho0, set_upds0 ho0, look_upds ho0, look_upds0 ho0, set_upds ho1, set_upds0 ho1, look_upds ho1, look_upds0 ho1, mo0o1, mo1o0, f17] <;> rfl), Ob.noConfusion⟩, ⟨by first | omega | (simp <;> omega), _, (by simp only [go_sem, set_upds ho0, set_upds0 ho0, look_upds ho0, look_upds0 ho0, set_upds ho1, set_upds0 ho1, look_upds ho1, look_upds0 ho1, mo0o1, mo1o0, f17] <;> rfl), Ob.noConfusion⟩⟩) (by simp) ?_
                try simp only [go_sem, set_upds ho0, set_upds0 ho0, look_upds ho0, look_upds0 ho0, set_upds ho1, set_upds0 ho1, look_upds ho1, look_upds0 ho1, mo0o1, mo1o0, f17]
                try refine ⟨by (simp <;> omega), ?_⟩
                (repeat refine awp_seq ?_); refine ev_region ?_; simp only [go_sem, set_upds ho0, set_upds0 ho0, look_upds ho0, look_upds0 ho0, set_upds ho1, set_upds0 ho1, look_upds ho1, look_upds0 ho1, mo0o1, mo1o0, f17]
                (repeat refine awp_seq ?_); refine awp_cond (by rfl) (fun hc => ?_) fun hc => ?_
                · replace h := cond_t h (by first | exact hc | simpa using hc)
                  (repeat refine awp_seq ?_); refine ev_region ?_; simp only [go_sem, set_upds ho0, set_upds0 ho0, look_upds ho0, look_upds0 ho0, set_upds ho1, set_upds0 ho1, look_upds ho1, look_upds0 ho1, mo0o1, mo1o0, f17]
                  (repeat refine awp_seq ?_); refine awp_ret ?_
                  try simp only [go_sem, set_upds ho0, set_upds0 ho0, look_upds ho0, look_upds0 ho0, set_upds ho1, set_upds0 ho1, look_upds ho1, look_upds0 ho1, mo0o1, mo1o0, f17]
                  have hr := Option.some.inj h
                  refine finb_of ?_; simp only [go_sem, set_upds ho0, set_upds0 ho0, look_upds ho0, look_upds0 ho0, set_upds ho1, set_upds0 ho1, look_upds ho1, look_upds0 ho1, mo0o1, mo1o0, f17]
                  exact finu_old (d' := .agg [.int .i64 v18.1.code, .int .i64 v18.1.index]) (by simp) (upds_sc hsc (by simp <;> omega)) (.same _) (by simp <;> omega) ⟨by subst hr; rfl, by subst hr; rfl⟩
                · replace h := cond_f h (by first | exact hc | simpa using hc)
                  refine awp_skip ?_; try simp only [go_sem, set_upds ho0, set_upds0 ho0, look_upds ho0, look_upds0 ho0, set_upds ho1, set_upds0 ho1, look_upds ho1, look_upds0 ho1, mo0o1, mo1o0, f17]
                  obtain ⟨f19, h⟩ := chk_some h
                  (repeat refine awp_seq ?_); refine ev_draw_region [8] 0 follows (by kernel_rfl) (by rfl) ?_; simp only [go_sem, List.replicate_succ, List.replicate_zero, set_upds ho0, set_upds0 ho0, look_upds ho0, look_upds0 ho0, set_upds ho1, set_upds0 ho1, look_upds ho1, look_upds0 ho1, mo0o1, mo1o0, f17, f19]
                  obtain ⟨v20, hv20, h⟩ := bind_some h
                  refine dc_loc [o0, o1] (fun st2 h2 => (ih _ _ _ _ _ hv20 st2 _ _ hnd ((h2 _ (by simp)).trans (by simp only [go_sem, set_upds ho0, set_upds0 ho0, look_upds ho0, look_upds0 ho0, set_upds ho1, set_upds0 ho1, look_upds ho1, look_upds0 ho1, mo0o1, mo1o0, f17, f19])) ((h2 _ (by simp)).trans (by simp only [go_sem, set_upds ho0, set_upds0 ho0, look_upds ho0, look_upds0 ho0, set_upds ho1, set_upds0 ho1, look_upds ho1, look_upds0 ho1, mo0o1, mo1o0, f17, f19])))) (by simp) (by simp only [List.mem_cons, List.not_mem_nil, or_false, forall_eq_or_imp, forall_eq]; exact ⟨⟨by first | omega | (simp <;> omega), _, (by simp only [go_sem, set_upds ho0, set_upds0 ho0, look_upds ho0, look_upds0 ho0, set_upds ho1, set_upds0 ho1, look_upds ho1, look_upds0 ho1, mo0o1, mo1o0, f17, f19] <;> rfl), Ob.noConfusion⟩, ⟨by first | omega | (simp <;> omega), _, (by simp only [go_sem, set_upds ho0, set_upds0 ho0, look_upds ho0, look_upds0 ho0, set_upds ho1, set_upds0 ho1, look_upds ho1, look_upds0 ho1, mo0o1, mo1o0, f17, f19] <;> rfl), Ob.noConfusion⟩⟩) (by simp) ?_
                  try simp only [go_sem, set_upds ho0, set_upds0 ho0, look_upds ho0, look_upds0 ho0, set_upds ho1, set_upds0 ho1, look_upds ho1, look_upds0 ho1, mo0o1, mo1o0, f17, f19]
                  try refine ⟨by (simp <;> omega), ?_⟩
                  (repeat refine awp_seq ?_); refine awp_ret ?_
                  try simp only [go_sem, set_upds ho0, set_upds0 ho0, look_upds ho0, look_upds0 ho0, set_upds ho1, set_upds0 ho1, look_upds ho1, look_upds0 ho1, mo0o1, mo1o0, f17, f19]
                  have hr := Option.some.inj h
                  refine finb_of ?_; simp only [go_sem, set_upds ho0, set_upds0 ho0, look_upds ho0, look_upds0 ho0, set_upds ho1, set_upds0 ho1, look_upds ho1, look_upds0 ho1, mo0o1, mo1o0, f17, f19]
                  exact finu_old (d' := .agg [.int .i64 v20.1.code, .int .i64 v20.1.index]) (by simp) (upds_sc hsc (by simp <;> omega)) (.same _) (by simp <;> omega) ⟨by subst hr; rfl, by subst hr; rfl⟩
            · replace h := cond_f h (by first | exact hc | simpa using hc)
              (repeat refine awp_seq ?_); refine ev_region ?_; simp only [go_sem, set_upds ho0, set_upds0 ho0, look_upds ho0, look_upds0 ho0, set_upds ho1, set_upds0 ho1, look_upds ho1, look_upds0 ho1, mo0o1, mo1o0]
              obtain ⟨v21, hv21, h⟩ := bind_some h
              refine (ok_termValidate11 _ _ _ hv21 _ _ (by simp) (look_updsn.trans rfl)).mono ?_
              rintro d1 st1 ⟨rfl, rfl⟩
              try simp only [go_sem, set_upds ho0, set_upds0 ho0, look_upds ho0, look_upds0 ho0, set_upds ho1, set_upds0 ho1, look_upds ho1, look_upds0 ho1, mo0o1, mo1o0]
              (repeat refine awp_seq ?_); refine awp_ret ?_
              try simp only [go_sem, set_upds ho0, set_upds0 ho0, look_upds ho0, look_upds0 ho0, set_upds ho1, set_upds0 ho1, look_upds ho1, look_upds0 ho1, mo0o1, mo1o0]
              have hr := Option.some.inj h
              refine finb_of ?_; simp only [go_sem, set_upds ho0, set_upds0 ho0, look_upds ho0, look_upds0 ho0, set_upds ho1, set_upds0 ho1, look_upds ho1, look_upds0 ho1, mo0o1, mo1o0]
              exact finu_old (d' := .agg [.int .i64 v21.code, .int .i64 v21.index]) (by simp) (upds_sc hsc (by simp <;> omega)) (.same _) (by simp <;> omega) ⟨by subst hr; rfl, by subst hr; rfl⟩


end Go.Proofs.YtaohdfpcdfbnlaaDoor

