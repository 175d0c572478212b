/-
  Each Go function of this part does what its plain Lean function says.
-/
import Derived.Test.YtaohdfpcdfbnlaaDoorBase
import Derived.Test.YtaohdfpcdfbnlaaDoorHand
import Derived.Test.YtaohdfpcdfbnlaaDoorMirrors
set_option linter.unusedVariables false
set_option linter.unusedSimpArgs false
namespace Go.Proofs.YtaohdfpcdfbnlaaDoor
open Go Go.Am

set_option maxHeartbeats 2000000 in
set_option maxRecDepth 100000 in
theorem ok_trainFault (a0 : Int) (a1 : Int) (r : ApiFault) (h : trainFault a0 a1 = some r) : Pure Tryd.prog gl 11 [.int .i64 a0, .int .i64 a1] (.agg [.int .i64 r.code, .int .i64 r.index]) := by
  intro st
  unfold trainFault at h
  refine spec_fb (N := 8) (rs := [.cell 4 41]) (keep := [0, 1, 4]) Tryd.func11 rfl rfl rfl (by kernel_rfl) rfl fun hsc => ?_
  (repeat refine awp_seq ?_); refine ev_region ?_; simp only [go_sem]
  (repeat refine awp_seq ?_); refine ev_region ?_; simp only [go_sem]
  (repeat refine awp_seq ?_); refine awp_ret ?_
  try simp only [go_sem]
  have hr := Option.some.inj h
  refine finb_of ?_; simp only [go_sem]
  exact fin_old' (d' := .agg [.int .i64 a0, .int .i64 a1]) hsc (.same _) (by simp) ⟨by subst hr; rfl, rfl⟩

set_option maxHeartbeats 2000000 in
set_option maxRecDepth 100000 in
theorem ok_deriveFault (a0 : Int) (a1 : Int) (r : ApiFault) (h : deriveFault a0 a1 = some r) : Pure Tryd.prog gl 36 [.int .i64 a0, .int .i64 a1] (.agg [.int .i64 r.code, .int .i64 r.index]) := by
  intro st
  unfold deriveFault at h
  refine spec_fb (N := 8) (rs := [.cell 4 41]) (keep := [0, 1, 4]) Tryd.func36 rfl rfl rfl (by kernel_rfl) rfl fun hsc => ?_
  (repeat refine awp_seq ?_); refine ev_region ?_; simp only [go_sem]
  (repeat refine awp_seq ?_); refine ev_region ?_; simp only [go_sem]
  (repeat refine awp_seq ?_); refine awp_ret ?_
  try simp only [go_sem]
  have hr := Option.some.inj h
  refine finb_of ?_; simp only [go_sem]
  exact fin_old' (d' := .agg [.int .i64 a0, .int .i64 a1]) hsc (.same _) (by simp) ⟨by subst hr; rfl, rfl⟩

set_option maxHeartbeats 2000000 in
set_option maxRecDepth 100000 in
theorem ok_deriveFits1 : ∀ (n : Nat) (a0 : ApiTree) (a1 : Int) (a2 : Int) (b0_0 : Int) (b1_0 : (List ApiType)) (b1_1 : (List ApiFeat)) (b1_2 : (List ApiRule)) (b1_3 : (List ApiLex)) (b1_4 : (List ApiNode)) (b2_0 : Int) (r : ApiFault × Int × Int) (h : deriveFits1 n a0 a1 a2 b0_0 b1_0 b1_1 b1_2 b1_3 b1_4 b2_0 = some r), ∀ (st : St) (o0 o1 o2 o3 : Nat) (hnd : [o0, o1, o2, o3].Nodup) (hlo0 : Am.look st o0 = some (.arr 0 1 0 [[.int .i64 b0_0]])) (hlo1 : Am.look st o1 = some (.arr 0 5 0 [[.sl false 2 40 (rows ApiType.cells b1_0), .sl false 3 32 (rows ApiFeat.cells b1_1), .sl false 10 152 (rows ApiRule.cells b1_2), .sl false 9 144 (rows ApiLex.cells b1_3), .sl false 2 32 (rows ApiNode.cells b1_4)]])) (hlo2 : Am.look st o2 = some (.arr 0 1 0 [[.int .i64 b2_0]])) (hlo3 : Am.look st o3 = some (.arr 0 1 0 [[.fn 35 [] [.ptr o0 0 0 0, .ptr o1 0 0 0, .ptr o2 0 0 0, .ptr o3 0 0 0]]])), Am.Spec Tryd.prog gl 35 [.agg [.int .i64 a0.rule, .int .i64 a0.lex, .sl false 3 40 (rows ApiTree.cells a0.kids)], .int .i64 a1, .int .i64 a2, .ptr o0 0 0 0, .ptr o1 0 0 0, .ptr o2 0 0 0, .ptr o3 0 0 0] st (fun d st' => d = .agg [.int .i64 r.1.code, .int .i64 r.1.index] ∧ st' = puts st [(o0, (.arr 0 1 0 [[.int .i64 r.2.1]])), (o1, (.arr 0 5 0 [[.sl false 2 40 (rows ApiType.cells b1_0), .sl false 3 32 (rows ApiFeat.cells b1_1), .sl false 10 152 (rows ApiRule.cells b1_2), .sl false 9 144 (rows ApiLex.cells b1_3), .sl false 2 32 (rows ApiNode.cells b1_4)]])), (o2, (.arr 0 1 0 [[.int .i64 r.2.2]])), (o3, (.arr 0 1 0 [[.fn 35 [] [.ptr o0 0 0 0, .ptr o1 0 0 0, .ptr o2 0 0 0, .ptr o3 0 0 0]]]))]) := by
  intro n
  induction n with
  | zero => intro a0 a1 a2 b0_0 b1_0 b1_1 b1_2 b1_3 b1_4 b2_0 r h; cases h
  | succ n ih =>
    intro a0 a1 a2 b0_0 b1_0 b1_1 b1_2 b1_3 b1_4 b2_0 r h st o0 o1 o2 o3 hnd hlo0 hlo1 hlo2 hlo3
    unfold deriveFits1 at h
    have ho0 := look_lt hlo0
    have ho1 := look_lt hlo1
    have ho2 := look_lt hlo2
    have ho3 := look_lt hlo3
    have hnd0 := hnd
    simp only [List.nodup_cons, List.mem_cons, List.not_mem_nil, or_false, not_or, not_false_eq_true, List.nodup_nil, and_true] at hnd0
    obtain ⟨⟨no0o1, no0o2, no0o3⟩, ⟨no1o2, no1o3⟩, no2o3⟩ := hnd0
    have mo0o1 : (o0 = o1) = False := eq_false no0o1
    have mo1o0 : (o1 = o0) = False := eq_false (fun e => no0o1 e.symm)
    have mo0o2 : (o0 = o2) = False := eq_false no0o2
    have mo2o0 : (o2 = o0) = False := eq_false (fun e => no0o2 e.symm)
    have mo0o3 : (o0 = o3) = False := eq_false no0o3
    have mo3o0 : (o3 = o0) = False := eq_false (fun e => no0o3 e.symm)
    have mo1o2 : (o1 = o2) = False := eq_false no1o2
    have mo2o1 : (o2 = o1) = False := eq_false (fun e => no1o2 e.symm)
    have mo1o3 : (o1 = o3) = False := eq_false no1o3
    have mo3o1 : (o3 = o1) = False := eq_false (fun e => no1o3 e.symm)
    have mo2o3 : (o2 = o3) = False := eq_false no2o3
    have mo3o2 : (o3 = o2) = False := eq_false (fun e => no2o3 e.symm)
    refine spec_fb (N := 118) (rs := [.cell 10 41]) (keep := [0, 1, 2, 3, 4, 5, 6, 7, 10, 11, 12, 14, 15, 21, 25, 26, 30, 35, 36, 37, 38, 39, 40, 43, 44, 45, 46, 47, 48, 49, 50, 51, 52, 53, 54, 55, 56, 57, 58, 62, 67, 68, 69, 73, 88, 94, 96, 100, 101, 102, 103, 114]) Tryd.func35 rfl rfl rfl (by kernel_rfl) rfl fun hsc => ?_
    refine awp_st (s' := (upds st [(o0, (.arr 0 1 0 [[.int .i64 b0_0]])), (o1, (.arr 0 5 0 [[.sl false 2 40 (rows ApiType.cells b1_0), .sl false 3 32 (rows ApiFeat.cells b1_1), .sl false 10 152 (rows ApiRule.cells b1_2), .sl false 9 144 (rows ApiLex.cells b1_3), .sl false 2 32 (rows ApiNode.cells b1_4)]])), (o2, (.arr 0 1 0 [[.int .i64 b2_0]])), (o3, (.arr 0 1 0 [[.fn 35 [] [.ptr o0 0 0 0, .ptr o1 0 0 0, .ptr o2 0 0 0, .ptr o3 0 0 0]]]))])) (upds_self (by simp [hlo0, hlo1, hlo2, hlo3])) ?_
    (repeat refine awp_seq ?_); refine ev_region ?_; simp only [go_sem, set_upds ho0, set_upds0 ho0, look_upds ho0, look_upds0 ho0, set_upds ho1, set_upds0 ho1, look_upds ho1, look_upds0 ho1, set_upds ho2, set_upds0 ho2, look_upds ho2, look_upds0 ho2, set_upds ho3, set_upds0 ho3, look_upds ho3, look_upds0 ho3, mo0o1, mo0o2, mo0o3, mo1o0, mo1o2, mo1o3, mo2o0, mo2o1, mo2o3, mo3o0, mo3o1, mo3o2]
    (repeat refine awp_seq ?_); refine ev_region ?_; simp only [go_sem, set_upds ho0, set_upds0 ho0, look_upds ho0, look_upds0 ho0, set_upds ho1, set_upds0 ho1, look_upds ho1, look_upds0 ho1, set_upds ho2, set_upds0 ho2, look_upds ho2, look_upds0 ho2, set_upds ho3, set_upds0 ho3, look_upds ho3, look_upds0 ho3, mo0o1, mo0o2, mo0o3, mo1o0, mo1o2, mo1o3, mo2o0, mo2o1, mo2o3, mo3o0, mo3o1, mo3o2]
    (repeat refine awp_seq ?_); refine ev_region ?_; simp only [go_sem, set_upds ho0, set_upds0 ho0, look_upds ho0, look_upds0 ho0, set_upds ho1, set_upds0 ho1, look_upds ho1, look_upds0 ho1, set_upds ho2, set_upds0 ho2, look_upds ho2, look_upds0 ho2, set_upds ho3, set_upds0 ho3, look_upds ho3, look_upds0 ho3, mo0o1, mo0o2, mo0o3, mo1o0, mo1o2, mo1o3, mo2o0, mo2o1, mo2o3, mo3o0, mo3o1, mo3o2]
    (repeat refine awp_seq ?_); refine ev_region ?_; simp only [go_sem, set_upds ho0, set_upds0 ho0, look_upds ho0, look_upds0 ho0, set_upds ho1, set_upds0 ho1, look_upds ho1, look_upds0 ho1, set_upds ho2, set_upds0 ho2, look_upds ho2, look_upds0 ho2, set_upds ho3, set_upds0 ho3, look_upds ho3, look_upds0 ho3, mo0o1, mo0o2, mo0o3, mo1o0, mo1o2, mo1o3, mo2o0, mo2o1, mo2o3, mo3o0, mo3o1, mo3o2]
    (repeat refine awp_seq ?_); refine awp_block ?_
    (repeat refine awp_seq ?_); refine ev_region ?_; simp only [go_sem, set_upds ho0, set_upds0 ho0, look_upds ho0, look_upds0 ho0, set_upds ho1, set_upds0 ho1, look_upds ho1, look_upds0 ho1, set_upds ho2, set_upds0 ho2, look_upds ho2, look_upds0 ho2, set_upds ho3, set_upds0 ho3, look_upds ho3, look_upds0 ho3, mo0o1, mo0o2, mo0o3, mo1o0, mo1o2, mo1o3, mo2o0, mo2o1, mo2o3, mo3o0, mo3o1, mo3o2]
    (repeat refine awp_seq ?_); refine awp_cond (by rfl) (fun hc => ?_) fun hc => ?_
    · replace h := cond_t h (by first | exact hc | simpa using hc)
      (repeat refine awp_seq ?_); refine ev_region ?_; simp only [go_sem, set_upds ho0, set_upds0 ho0, look_upds ho0, look_upds0 ho0, set_upds ho1, set_upds0 ho1, look_upds ho1, look_upds0 ho1, set_upds ho2, set_upds0 ho2, look_upds ho2, look_upds0 ho2, set_upds ho3, set_upds0 ho3, look_upds ho3, look_upds0 ho3, mo0o1, mo0o2, mo0o3, mo1o0, mo1o2, mo1o3, mo2o0, mo2o1, mo2o3, mo3o0, mo3o1, mo3o2]
      obtain ⟨v1, hv1, h⟩ := bind_some h
      refine ((ok_deriveFault _ _ _ hv1)).to ?_
      try simp only [go_sem, set_upds ho0, set_upds0 ho0, look_upds ho0, look_upds0 ho0, set_upds ho1, set_upds0 ho1, look_upds ho1, look_upds0 ho1, set_upds ho2, set_upds0 ho2, look_upds ho2, look_upds0 ho2, set_upds ho3, set_upds0 ho3, look_upds ho3, look_upds0 ho3, mo0o1, mo0o2, mo0o3, mo1o0, mo1o2, mo1o3, mo2o0, mo2o1, mo2o3, mo3o0, mo3o1, mo3o2]
      (repeat refine awp_seq ?_); refine awp_ret ?_
      try simp only [go_sem, set_upds ho0, set_upds0 ho0, look_upds ho0, look_upds0 ho0, set_upds ho1, set_upds0 ho1, look_upds ho1, look_upds0 ho1, set_upds ho2, set_upds0 ho2, look_upds ho2, look_upds0 ho2, set_upds ho3, set_upds0 ho3, look_upds ho3, look_upds0 ho3, mo0o1, mo0o2, mo0o3, mo1o0, mo1o2, mo1o3, mo2o0, mo2o1, mo2o3, mo3o0, mo3o1, mo3o2]
      have hr := Option.some.inj h
      refine finb_of ?_; simp only [go_sem, set_upds ho0, set_upds0 ho0, look_upds ho0, look_upds0 ho0, set_upds ho1, set_upds0 ho1, look_upds ho1, look_upds0 ho1, set_upds ho2, set_upds0 ho2, look_upds ho2, look_upds0 ho2, set_upds ho3, set_upds0 ho3, look_upds ho3, look_upds0 ho3, mo0o1, mo0o2, mo0o3, mo1o0, mo1o2, mo1o3, mo2o0, mo2o1, mo2o3, mo3o0, mo3o1, mo3o2]
      exact finu_old (d' := .agg [.int .i64 v1.code, .int .i64 v1.index]) (by simp) (upds_sc hsc (by simp <;> omega)) (.same _) (by simp <;> omega) ⟨by subst hr; rfl, by subst hr; rfl⟩
    · replace h := cond_f h (by first | exact hc | simpa using hc)
      (repeat refine awp_seq ?_); refine ev_region ?_; simp only [go_sem, set_upds ho0, set_upds0 ho0, look_upds ho0, look_upds0 ho0, set_upds ho1, set_upds0 ho1, look_upds ho1, look_upds0 ho1, set_upds ho2, set_upds0 ho2, look_upds ho2, look_upds0 ho2, set_upds ho3, set_upds0 ho3, look_upds ho3, look_upds0 ho3, mo0o1, mo0o2, mo0o3, mo1o0, mo1o2, mo1o3, mo2o0, mo2o1, mo2o3, mo3o0, mo3o1, mo3o2]
      (repeat refine awp_seq ?_); refine awp_cond (by rfl) (fun hc => ?_) fun hc => ?_
      · replace h := cond_t h (by first | exact hc | simpa using hc)
        (repeat refine awp_seq ?_); refine ev_region ?_; simp only [go_sem, set_upds ho0, set_upds0 ho0, look_upds ho0, look_upds0 ho0, set_upds ho1, set_upds0 ho1, look_upds ho1, look_upds0 ho1, set_upds ho2, set_upds0 ho2, look_upds ho2, look_upds0 ho2, set_upds ho3, set_upds0 ho3, look_upds ho3, look_upds0 ho3, mo0o1, mo0o2, mo0o3, mo1o0, mo1o2, mo1o3, mo2o0, mo2o1, mo2o3, mo3o0, mo3o1, mo3o2]
        obtain ⟨v2, hv2, h⟩ := bind_some h
        refine ((ok_deriveFault _ _ _ hv2)).to ?_
        try simp only [go_sem, set_upds ho0, set_upds0 ho0, look_upds ho0, look_upds0 ho0, set_upds ho1, set_upds0 ho1, look_upds ho1, look_upds0 ho1, set_upds ho2, set_upds0 ho2, look_upds ho2, look_upds0 ho2, set_upds ho3, set_upds0 ho3, look_upds ho3, look_upds0 ho3, mo0o1, mo0o2, mo0o3, mo1o0, mo1o2, mo1o3, mo2o0, mo2o1, mo2o3, mo3o0, mo3o1, mo3o2]
        (repeat refine awp_seq ?_); refine awp_ret ?_
        try simp only [go_sem, set_upds ho0, set_upds0 ho0, look_upds ho0, look_upds0 ho0, set_upds ho1, set_upds0 ho1, look_upds ho1, look_upds0 ho1, set_upds ho2, set_upds0 ho2, look_upds ho2, look_upds0 ho2, set_upds ho3, set_upds0 ho3, look_upds ho3, look_upds0 ho3, mo0o1, mo0o2, mo0o3, mo1o0, mo1o2, mo1o3, mo2o0, mo2o1, mo2o3, mo3o0, mo3o1, mo3o2]
        have hr := Option.some.inj h
        refine finb_of ?_; simp only [go_sem, set_upds ho0, set_upds0 ho0, look_upds ho0, look_upds0 ho0, set_upds ho1, set_upds0 ho1, look_upds ho1, look_upds0 ho1, set_upds ho2, set_upds0 ho2, look_upds ho2, look_upds0 ho2, set_upds ho3, set_upds0 ho3, look_upds ho3, look_upds0 ho3, mo0o1, mo0o2, mo0o3, mo1o0, mo1o2, mo1o3, mo2o0, mo2o1, mo2o3, mo3o0, mo3o1, mo3o2]
        exact finu_old (d' := .agg [.int .i64 v2.code, .int .i64 v2.index]) (by simp) (upds_sc hsc (by simp <;> omega)) (.same _) (by simp <;> omega) ⟨by subst hr; rfl, by subst hr; rfl⟩
      · replace h := cond_f h (by first | exact hc | simpa using hc)
        (repeat refine awp_seq ?_); refine ev_region ?_; simp only [go_sem, set_upds ho0, set_upds0 ho0, look_upds ho0, look_upds0 ho0, set_upds ho1, set_upds0 ho1, look_upds ho1, look_upds0 ho1, set_upds ho2, set_upds0 ho2, look_upds ho2, look_upds0 ho2, set_upds ho3, set_upds0 ho3, look_upds ho3, look_upds0 ho3, mo0o1, mo0o2, mo0o3, mo1o0, mo1o2, mo1o3, mo2o0, mo2o1, mo2o3, mo3o0, mo3o1, mo3o2]
        (repeat refine awp_seq ?_); refine awp_cond (by rfl) (fun hc => ?_) fun hc => ?_
        · replace h := cond_t h (by first | exact hc | simpa using hc)
          (repeat refine awp_seq ?_); refine ev_region ?_; simp only [go_sem, set_upds ho0, set_upds0 ho0, look_upds ho0, look_upds0 ho0, set_upds ho1, set_upds0 ho1, look_upds ho1, look_upds0 ho1, set_upds ho2, set_upds0 ho2, look_upds ho2, look_upds0 ho2, set_upds ho3, set_upds0 ho3, look_upds ho3, look_upds0 ho3, mo0o1, mo0o2, mo0o3, mo1o0, mo1o2, mo1o3, mo2o0, mo2o1, mo2o3, mo3o0, mo3o1, mo3o2]
          obtain ⟨v3, hv3, h⟩ := bind_some h
          refine ((ok_deriveFault _ _ _ hv3)).to ?_
          try simp only [go_sem, set_upds ho0, set_upds0 ho0, look_upds ho0, look_upds0 ho0, set_upds ho1, set_upds0 ho1, look_upds ho1, look_upds0 ho1, set_upds ho2, set_upds0 ho2, look_upds ho2, look_upds0 ho2, set_upds ho3, set_upds0 ho3, look_upds ho3, look_upds0 ho3, mo0o1, mo0o2, mo0o3, mo1o0, mo1o2, mo1o3, mo2o0, mo2o1, mo2o3, mo3o0, mo3o1, mo3o2]
          (repeat refine awp_seq ?_); refine awp_ret ?_
          try simp only [go_sem, set_upds ho0, set_upds0 ho0, look_upds ho0, look_upds0 ho0, set_upds ho1, set_upds0 ho1, look_upds ho1, look_upds0 ho1, set_upds ho2, set_upds0 ho2, look_upds ho2, look_upds0 ho2, set_upds ho3, set_upds0 ho3, look_upds ho3, look_upds0 ho3, mo0o1, mo0o2, mo0o3, mo1o0, mo1o2, mo1o3, mo2o0, mo2o1, mo2o3, mo3o0, mo3o1, mo3o2]
          have hr := Option.some.inj h
          refine finb_of ?_; simp only [go_sem, set_upds ho0, set_upds0 ho0, look_upds ho0, look_upds0 ho0, set_upds ho1, set_upds0 ho1, look_upds ho1, look_upds0 ho1, set_upds ho2, set_upds0 ho2, look_upds ho2, look_upds0 ho2, set_upds ho3, set_upds0 ho3, look_upds ho3, look_upds0 ho3, mo0o1, mo0o2, mo0o3, mo1o0, mo1o2, mo1o3, mo2o0, mo2o1, mo2o3, mo3o0, mo3o1, mo3o2]
          exact finu_old (d' := .agg [.int .i64 v3.code, .int .i64 v3.index]) (by simp) (upds_sc hsc (by simp <;> omega)) (.same _) (by simp <;> omega) ⟨by subst hr; rfl, by subst hr; rfl⟩
        · replace h := cond_f h (by first | exact hc | simpa using hc)
          (repeat refine awp_seq ?_); refine ev_region ?_; simp only [go_sem, set_upds ho0, set_upds0 ho0, look_upds ho0, look_upds0 ho0, set_upds ho1, set_upds0 ho1, look_upds ho1, look_upds0 ho1, set_upds ho2, set_upds0 ho2, look_upds ho2, look_upds0 ho2, set_upds ho3, set_upds0 ho3, look_upds ho3, look_upds0 ho3, mo0o1, mo0o2, mo0o3, mo1o0, mo1o2, mo1o3, mo2o0, mo2o1, mo2o3, mo3o0, mo3o1, mo3o2]
          (repeat refine awp_seq ?_); refine awp_jn (deriveFits1_j0 (deriveFits1 n) a0 b0_0 a1 b1_0 b1_1 b1_2 b1_3 b1_4 a2) r (fun (gj0 : Unit) (j0 : Int × Int) => [(1, .int .i64 a1), (2, .int .i64 a2), (6, .ptr o3 0 0 0), (7, .ptr st.length 0 0 0), (10, .ptr (st.length + 1) 0 0 0), (11, .int .i64 b0_0), (12, .int .i64 j0.2)]) (fun (gj0 : Unit) (j0 : Int × Int) => (upds st [(o0, (.arr 0 1 0 [[.int .i64 (wr .i64 (b0_0 + 1))]])), (o1, (.arr 0 5 0 [[.sl false 2 40 (rows ApiType.cells b1_0), .sl false 3 32 (rows ApiFeat.cells b1_1), .sl false 10 152 (rows ApiRule.cells b1_2), .sl false 9 144 (rows ApiLex.cells b1_3), .sl false 2 32 (rows ApiNode.cells b1_4)]])), (o2, (.arr 0 1 0 [[.int .i64 j0.1]])), (o3, (.arr 0 1 0 [[.fn 35 [] [.ptr o0 0 0 0, .ptr o1 0 0 0, .ptr o2 0 0 0, .ptr o3 0 0 0]]]))]) ++ [some (.arr 0 3 0 [[.int .i64 a0.rule, .int .i64 a0.lex, .sl false 3 40 (rows ApiTree.cells a0.kids)]]), some (.arr 0 2 0 [[.int .i64 0, .int .i64 0]])]) (fun gj0 j0 fr1 st1 h hb => ?_) (fun hj0 => ?_)
          · try simp only [go_sem, set_upds ho0, set_upds0 ho0, look_upds ho0, look_upds0 ho0, set_upds ho1, set_upds0 ho1, look_upds ho1, look_upds0 ho1, set_upds ho2, set_upds0 ho2, look_upds ho2, look_upds0 ho2, set_upds ho3, set_upds0 ho3, look_upds ho3, look_upds0 ho3, mo0o1, mo0o2, mo0o3, mo1o0, mo1o2, mo1o3, mo2o0, mo2o1, mo2o3, mo3o0, mo3o1, mo3o2]
            unfold deriveFits1_j0 at h
            refine awp_bks hb ?_
            (repeat refine awp_seq ?_); refine ev_region ?_; simp only [go_sem, set_upds ho0, set_upds0 ho0, look_upds ho0, look_upds0 ho0, set_upds ho1, set_upds0 ho1, look_upds ho1, look_upds0 ho1, set_upds ho2, set_upds0 ho2, look_upds ho2, look_upds0 ho2, set_upds ho3, set_upds0 ho3, look_upds ho3, look_upds0 ho3, mo0o1, mo0o2, mo0o3, mo1o0, mo1o2, mo1o3, mo2o0, mo2o1, mo2o3, mo3o0, mo3o1, mo3o2]
            (repeat refine awp_seq ?_); refine awp_cond (by rfl) (fun hc => ?_) fun hc => ?_
            · replace h := cond_t h (by first | exact hc | simpa using hc)
              (repeat refine awp_seq ?_); refine ev_region ?_; simp only [go_sem, set_upds ho0, set_upds0 ho0, look_upds ho0, look_upds0 ho0, set_upds ho1, set_upds0 ho1, look_upds ho1, look_upds0 ho1, set_upds ho2, set_upds0 ho2, look_upds ho2, look_upds0 ho2, set_upds ho3, set_upds0 ho3, look_upds ho3, look_upds0 ho3, mo0o1, mo0o2, mo0o3, mo1o0, mo1o2, mo1o3, mo2o0, mo2o1, mo2o3, mo3o0, mo3o1, mo3o2]
              obtain ⟨v6, hv6, h⟩ := bind_some h
              refine ((ok_deriveFault _ _ _ hv6)).to ?_
              try simp only [go_sem, set_upds ho0, set_upds0 ho0, look_upds ho0, look_upds0 ho0, set_upds ho1, set_upds0 ho1, look_upds ho1, look_upds0 ho1, set_upds ho2, set_upds0 ho2, look_upds ho2, look_upds0 ho2, set_upds ho3, set_upds0 ho3, look_upds ho3, look_upds0 ho3, mo0o1, mo0o2, mo0o3, mo1o0, mo1o2, mo1o3, mo2o0, mo2o1, mo2o3, mo3o0, mo3o1, mo3o2]
              (repeat refine awp_seq ?_); refine awp_ret ?_
              try simp only [go_sem, set_upds ho0, set_upds0 ho0, look_upds ho0, look_upds0 ho0, set_upds ho1, set_upds0 ho1, look_upds ho1, look_upds0 ho1, set_upds ho2, set_upds0 ho2, look_upds ho2, look_upds0 ho2, set_upds ho3, set_upds0 ho3, look_upds ho3, look_upds0 ho3, mo0o1, mo0o2, mo0o3, mo1o0, mo1o2, mo1o3, mo2o0, mo2o1, mo2o3, mo3o0, mo3o1, mo3o2]
              have hr := Option.some.inj h
              refine finb_of ?_; simp only [go_sem, set_upds ho0, set_upds0 ho0, look_upds ho0, look_upds0 ho0, set_upds ho1, set_upds0 ho1, look_upds ho1, look_upds0 ho1, set_upds ho2, set_upds0 ho2, look_upds ho2, look_upds0 ho2, set_upds ho3, set_upds0 ho3, look_upds ho3, look_upds0 ho3, mo0o1, mo0o2, mo0o3, mo1o0, mo1o2, mo1o3, mo2o0, mo2o1, mo2o3, mo3o0, mo3o1, mo3o2]
              exact finu_old (d' := .agg [.int .i64 v6.code, .int .i64 v6.index]) (by simp) (upds_sc hsc (by simp <;> omega)) (.same _) (by simp <;> omega) ⟨by subst hr; rfl, by subst hr; rfl⟩
            · replace h := cond_f h (by first | exact hc | simpa using hc)
              refine awp_skip ?_; try simp only [go_sem, set_upds ho0, set_upds0 ho0, look_upds ho0, look_upds0 ho0, set_upds ho1, set_upds0 ho1, look_upds ho1, look_upds0 ho1, set_upds ho2, set_upds0 ho2, look_upds ho2, look_upds0 ho2, set_upds ho3, set_upds0 ho3, look_upds ho3, look_upds0 ho3, mo0o1, mo0o2, mo0o3, mo1o0, mo1o2, mo1o3, mo2o0, mo2o1, mo2o3, mo3o0, mo3o1, mo3o2]
              (repeat refine awp_seq ?_); refine ev_region ?_; simp only [go_sem, set_upds ho0, set_upds0 ho0, look_upds ho0, look_upds0 ho0, set_upds ho1, set_upds0 ho1, look_upds ho1, look_upds0 ho1, set_upds ho2, set_upds0 ho2, look_upds ho2, look_upds0 ho2, set_upds ho3, set_upds0 ho3, look_upds ho3, look_upds0 ho3, mo0o1, mo0o2, mo0o3, mo1o0, mo1o2, mo1o3, mo2o0, mo2o1, mo2o3, mo3o0, mo3o1, mo3o2]
              (repeat refine awp_seq ?_); refine ev_region ?_; simp only [go_sem, set_upds ho0, set_upds0 ho0, look_upds ho0, look_upds0 ho0, set_upds ho1, set_upds0 ho1, look_upds ho1, look_upds0 ho1, set_upds ho2, set_upds0 ho2, look_upds ho2, look_upds0 ho2, set_upds ho3, set_upds0 ho3, look_upds ho3, look_upds0 ho3, mo0o1, mo0o2, mo0o3, mo1o0, mo1o2, mo1o3, mo2o0, mo2o1, mo2o3, mo3o0, mo3o1, mo3o2]
              (repeat refine awp_seq ?_); refine awp_jn (deriveFits1_j1 (deriveFits1 n) b0_0 j0 a0 a1 b1_0 b1_1 b1_2 b1_3 b1_4) r (fun (gj1 : Unit) (j1 : Int) => [(1, .int .i64 a1), (2, .int .i64 j1), (6, .ptr o3 0 0 0), (7, .ptr st.length 0 0 0), (10, .ptr (st.length + 1) 0 0 0), (11, .int .i64 b0_0)]) (fun (gj1 : Unit) (j1 : Int) => (upds st [(o0, (.arr 0 1 0 [[.int .i64 (wr .i64 (b0_0 + 1))]])), (o1, (.arr 0 5 0 [[.sl false 2 40 (rows ApiType.cells b1_0), .sl false 3 32 (rows ApiFeat.cells b1_1), .sl false 10 152 (rows ApiRule.cells b1_2), .sl false 9 144 (rows ApiLex.cells b1_3), .sl false 2 32 (rows ApiNode.cells b1_4)]])), (o2, (.arr 0 1 0 [[.int .i64 j0.1]])), (o3, (.arr 0 1 0 [[.fn 35 [] [.ptr o0 0 0 0, .ptr o1 0 0 0, .ptr o2 0 0 0, .ptr o3 0 0 0]]]))]) ++ [some (.arr 0 3 0 [[.int .i64 a0.rule, .int .i64 a0.lex, .sl false 3 40 (rows ApiTree.cells a0.kids)]]), some (.arr 0 2 0 [[.int .i64 0, .int .i64 0]])]) (fun gj1 j1 fr1 st1 h hb => ?_) (fun hj1 => ?_)
              · try simp only [go_sem, set_upds ho0, set_upds0 ho0, look_upds ho0, look_upds0 ho0, set_upds ho1, set_upds0 ho1, look_upds ho1, look_upds0 ho1, set_upds ho2, set_upds0 ho2, look_upds ho2, look_upds0 ho2, set_upds ho3, set_upds0 ho3, look_upds ho3, look_upds0 ho3, mo0o1, mo0o2, mo0o3, mo1o0, mo1o2, mo1o3, mo2o0, mo2o1, mo2o3, mo3o0, mo3o1, mo3o2]
                unfold deriveFits1_j1 at h
                refine awp_bks hb ?_
                (repeat refine awp_seq ?_); refine ev_region ?_; simp only [go_sem, set_upds ho0, set_upds0 ho0, look_upds ho0, look_upds0 ho0, set_upds ho1, set_upds0 ho1, look_upds ho1, look_upds0 ho1, set_upds ho2, set_upds0 ho2, look_upds ho2, look_upds0 ho2, set_upds ho3, set_upds0 ho3, look_upds ho3, look_upds0 ho3, mo0o1, mo0o2, mo0o3, mo1o0, mo1o2, mo1o3, mo2o0, mo2o1, mo2o3, mo3o0, mo3o1, mo3o2]
                (repeat refine awp_seq ?_); refine awp_cond (by rfl) (fun hc => ?_) fun hc => ?_
                · replace h := cond_t h (by first | exact hc | simpa using hc)
                  (repeat refine awp_seq ?_); refine ev_region ?_; simp only [go_sem, set_upds ho0, set_upds0 ho0, look_upds ho0, look_upds0 ho0, set_upds ho1, set_upds0 ho1, look_upds ho1, look_upds0 ho1, set_upds ho2, set_upds0 ho2, look_upds ho2, look_upds0 ho2, set_upds ho3, set_upds0 ho3, look_upds ho3, look_upds0 ho3, mo0o1, mo0o2, mo0o3, mo1o0, mo1o2, mo1o3, mo2o0, mo2o1, mo2o3, mo3o0, mo3o1, mo3o2]
                  obtain ⟨v7, hv7, h⟩ := bind_some h
                  refine ((ok_deriveFault _ _ _ hv7)).to ?_
                  try simp only [go_sem, set_upds ho0, set_upds0 ho0, look_upds ho0, look_upds0 ho0, set_upds ho1, set_upds0 ho1, look_upds ho1, look_upds0 ho1, set_upds ho2, set_upds0 ho2, look_upds ho2, look_upds0 ho2, set_upds ho3, set_upds0 ho3, look_upds ho3, look_upds0 ho3, mo0o1, mo0o2, mo0o3, mo1o0, mo1o2, mo1o3, mo2o0, mo2o1, mo2o3, mo3o0, mo3o1, mo3o2]
                  (repeat refine awp_seq ?_); refine awp_ret ?_
                  try simp only [go_sem, set_upds ho0, set_upds0 ho0, look_upds ho0, look_upds0 ho0, set_upds ho1, set_upds0 ho1, look_upds ho1, look_upds0 ho1, set_upds ho2, set_upds0 ho2, look_upds ho2, look_upds0 ho2, set_upds ho3, set_upds0 ho3, look_upds ho3, look_upds0 ho3, mo0o1, mo0o2, mo0o3, mo1o0, mo1o2, mo1o3, mo2o0, mo2o1, mo2o3, mo3o0, mo3o1, mo3o2]
                  have hr := Option.some.inj h
                  refine finb_of ?_; simp only [go_sem, set_upds ho0, set_upds0 ho0, look_upds ho0, look_upds0 ho0, set_upds ho1, set_upds0 ho1, look_upds ho1, look_upds0 ho1, set_upds ho2, set_upds0 ho2, look_upds ho2, look_upds0 ho2, set_upds ho3, set_upds0 ho3, look_upds ho3, look_upds0 ho3, mo0o1, mo0o2, mo0o3, mo1o0, mo1o2, mo1o3, mo2o0, mo2o1, mo2o3, mo3o0, mo3o1, mo3o2]
                  exact finu_old (d' := .agg [.int .i64 v7.code, .int .i64 v7.index]) (by simp) (upds_sc hsc (by simp <;> omega)) (.same _) (by simp <;> omega) ⟨by subst hr; rfl, by subst hr; rfl⟩
                · replace h := cond_f h (by first | exact hc | simpa using hc)
                  refine awp_skip ?_; try simp only [go_sem, set_upds ho0, set_upds0 ho0, look_upds ho0, look_upds0 ho0, set_upds ho1, set_upds0 ho1, look_upds ho1, look_upds0 ho1, set_upds ho2, set_upds0 ho2, look_upds ho2, look_upds0 ho2, set_upds ho3, set_upds0 ho3, look_upds ho3, look_upds0 ho3, mo0o1, mo0o2, mo0o3, mo1o0, mo1o2, mo1o3, mo2o0, mo2o1, mo2o3, mo3o0, mo3o1, mo3o2]
                  (repeat refine awp_seq ?_); refine ev_region ?_; simp only [go_sem, set_upds ho0, set_upds0 ho0, look_upds ho0, look_upds0 ho0, set_upds ho1, set_upds0 ho1, look_upds ho1, look_upds0 ho1, set_upds ho2, set_upds0 ho2, look_upds ho2, look_upds0 ho2, set_upds ho3, set_upds0 ho3, look_upds ho3, look_upds0 ho3, mo0o1, mo0o2, mo0o3, mo1o0, mo1o2, mo1o3, mo2o0, mo2o1, mo2o3, mo3o0, mo3o1, mo3o2]
                  (repeat refine awp_seq ?_); refine awp_len (t := 100) rfl fun hl2 => ?_
                  simp only [rows_len] at hl2
                  (repeat refine awp_seq ?_); refine awp_range (body := deriveFits1_b2 (deriveFits1 n) a0 a1 j1 b1_0 b1_1 b1_2 b1_3 b1_4) (kk := deriveFits1_a2) (n := a0.kids.length) (s0 := ((wr .i64 (b0_0 + 1)), j0.1))
                    (fun (gs2 : Unit) (k2 : Nat) (s2 : Int × Int) => [(1, .int .i64 a1), (2, .int .i64 j1), (6, .ptr o3 0 0 0), (10, .ptr (st.length + 1) 0 0 0), (100, .sl false 3 40 (rows ApiTree.cells a0.kids)), (101, .int .i64 (↑a0.kids.length : Int)), (102, .int .i64 (↑k2 : Int))])
                    (fun (gs2 : Unit) (k2 : Nat) (s2 : Int × Int) => (upds st [(o0, (.arr 0 1 0 [[.int .i64 s2.1]])), (o1, (.arr 0 5 0 [[.sl false 2 40 (rows ApiType.cells b1_0), .sl false 3 32 (rows ApiFeat.cells b1_1), .sl false 10 152 (rows ApiRule.cells b1_2), .sl false 9 144 (rows ApiLex.cells b1_3), .sl false 2 32 (rows ApiNode.cells b1_4)]])), (o2, (.arr 0 1 0 [[.int .i64 s2.2]])), (o3, (.arr 0 1 0 [[.fn 35 [] [.ptr o0 0 0 0, .ptr o1 0 0 0, .ptr o2 0 0 0, .ptr o3 0 0 0]]]))]) ++ [none, some (.arr 0 2 0 [[.int .i64 0, .int .i64 0]])])
                    (fun (gt2 : Unit) (t2 : Int × Int) => [(10, .ptr (st.length + 1) 0 0 0)])
                    (fun (gt2 : Unit) (t2 : Int × Int) => (upds st [(o0, (.arr 0 1 0 [[.int .i64 t2.1]])), (o1, (.arr 0 5 0 [[.sl false 2 40 (rows ApiType.cells b1_0), .sl false 3 32 (rows ApiFeat.cells b1_1), .sl false 10 152 (rows ApiRule.cells b1_2), .sl false 9 144 (rows ApiLex.cells b1_3), .sl false 2 32 (rows ApiNode.cells b1_4)]])), (o2, (.arr 0 1 0 [[.int .i64 t2.2]])), (o3, (.arr 0 1 0 [[.fn 35 [] [.ptr o0 0 0 0, .ptr o1 0 0 0, .ptr o2 0 0 0, .ptr o3 0 0 0]]]))]) ++ [none, some (.arr 0 2 0 [[.int .i64 0, .int .i64 0]])])
                    () h (bku_mk (by simp) (upds_sc hsc (by simp <;> omega)) (.dead _ _ _ (.live _ _ _ _ (.same _) (.nil _))) (by simp <;> omega) ⟨.same _, .same _, .same _, .same _, .same _, .same _, .same _, trivial⟩ (by simp <;> omega))
                    (fun gs2 k2 s2 b2 hk2 h hx2 => ?_) (fun gs2 s2 => ?_) (fun gt2 t2 fr1 st1 h hb => ?_)
                  · unfold deriveFits1_b2 at h
                    have hw2 : wr .i64 ((↑k2 : Int) + 1) = (↑(k2 + 1) : Int) := wr_succ hk2 hl2 (by decide)
                    (repeat refine awp_seq ?_); refine ev_region ?_; simp only [go_sem, set_upds ho0, set_upds0 ho0, look_upds ho0, look_upds0 ho0, set_upds ho1, set_upds0 ho1, look_upds ho1, look_upds0 ho1, set_upds ho2, set_upds0 ho2, look_upds ho2, look_upds0 ho2, set_upds ho3, set_upds0 ho3, look_upds ho3, look_upds0 ho3, mo0o1, mo0o2, mo0o3, mo1o0, mo1o2, mo1o3, mo2o0, mo2o1, mo2o3, mo3o0, mo3o1, mo3o2]
                    (repeat refine awp_seq ?_); refine awp_cond (by rfl) (fun hc => ?_) fun hc => ?_
                    · refine awp_skip ?_; try simp only [go_sem, set_upds ho0, set_upds0 ho0, look_upds ho0, look_upds0 ho0, set_upds ho1, set_upds0 ho1, look_upds ho1, look_upds0 ho1, set_upds ho2, set_upds0 ho2, look_upds ho2, look_upds0 ho2, set_upds ho3, set_upds0 ho3, look_upds ho3, look_upds0 ho3, mo0o1, mo0o2, mo0o3, mo1o0, mo1o2, mo1o3, mo2o0, mo2o1, mo2o3, mo3o0, mo3o1, mo3o2]
                      (repeat refine awp_seq ?_); refine awp_block ?_
                      (repeat refine awp_seq ?_); refine ev_region ?_; simp only [go_sem, set_upds ho0, set_upds0 ho0, look_upds ho0, look_upds0 ho0, set_upds ho1, set_upds0 ho1, look_upds ho1, look_upds0 ho1, set_upds ho2, set_upds0 ho2, look_upds ho2, look_upds0 ho2, set_upds ho3, set_upds0 ho3, look_upds ho3, look_upds0 ho3, mo0o1, mo0o2, mo0o3, mo1o0, mo1o2, mo1o3, mo2o0, mo2o1, mo2o3, mo3o0, mo3o1, mo3o2, hk2, hw2]
                      (repeat refine awp_seq ?_); refine ev_region ?_; simp only [go_sem, set_upds ho0, set_upds0 ho0, look_upds ho0, look_upds0 ho0, set_upds ho1, set_upds0 ho1, look_upds ho1, look_upds0 ho1, set_upds ho2, set_upds0 ho2, look_upds ho2, look_upds0 ho2, set_upds ho3, set_upds0 ho3, look_upds ho3, look_upds0 ho3, mo0o1, mo0o2, mo0o3, mo1o0, mo1o2, mo1o3, mo2o0, mo2o1, mo2o3, mo3o0, mo3o1, mo3o2, hk2, hw2]
                      obtain ⟨v9, hv9, h⟩ := bind_some h
                      refine (ih _ _ _ _ _ _ _ _ _ _ _ hv9 _ _ _ _ _ hnd (by simp only [go_sem, set_upds ho0, set_upds0 ho0, look_upds ho0, look_upds0 ho0, set_upds ho1, set_upds0 ho1, look_upds ho1, look_upds0 ho1, set_upds ho2, set_upds0 ho2, look_upds ho2, look_upds0 ho2, set_upds ho3, set_upds0 ho3, look_upds ho3, look_upds0 ho3, mo0o1, mo0o2, mo0o3, mo1o0, mo1o2, mo1o3, mo2o0, mo2o1, mo2o3, mo3o0, mo3o1, mo3o2, hk2, hw2]) (by simp only [go_sem, set_upds ho0, set_upds0 ho0, look_upds ho0, look_upds0 ho0, set_upds ho1, set_upds0 ho1, look_upds ho1, look_upds0 ho1, set_upds ho2, set_upds0 ho2, look_upds ho2, look_upds0 ho2, set_upds ho3, set_upds0 ho3, look_upds ho3, look_upds0 ho3, mo0o1, mo0o2, mo0o3, mo1o0, mo1o2, mo1o3, mo2o0, mo2o1, mo2o3, mo3o0, mo3o1, mo3o2, hk2, hw2]) (by simp only [go_sem, set_upds ho0, set_upds0 ho0, look_upds ho0, look_upds0 ho0, set_upds ho1, set_upds0 ho1, look_upds ho1, look_upds0 ho1, set_upds ho2, set_upds0 ho2, look_upds ho2, look_upds0 ho2, set_upds ho3, set_upds0 ho3, look_upds ho3, look_upds0 ho3, mo0o1, mo0o2, mo0o3, mo1o0, mo1o2, mo1o3, mo2o0, mo2o1, mo2o3, mo3o0, mo3o1, mo3o2, hk2, hw2]) (by simp only [go_sem, set_upds ho0, set_upds0 ho0, look_upds ho0, look_upds0 ho0, set_upds ho1, set_upds0 ho1, look_upds ho1, look_upds0 ho1, set_upds ho2, set_upds0 ho2, look_upds ho2, look_upds0 ho2, set_upds ho3, set_upds0 ho3, look_upds ho3, look_upds0 ho3, mo0o1, mo0o2, mo0o3, mo1o0, mo1o2, mo1o3, mo2o0, mo2o1, mo2o3, mo3o0, mo3o1, mo3o2, hk2, hw2])).mono ?_
                      rintro d1 st1 ⟨rfl, rfl⟩
                      try simp only [go_sem, set_upds ho0, set_upds0 ho0, look_upds ho0, look_upds0 ho0, set_upds ho1, set_upds0 ho1, look_upds ho1, look_upds0 ho1, set_upds ho2, set_upds0 ho2, look_upds ho2, look_upds0 ho2, set_upds ho3, set_upds0 ho3, look_upds ho3, look_upds0 ho3, mo0o1, mo0o2, mo0o3, mo1o0, mo1o2, mo1o3, mo2o0, mo2o1, mo2o3, mo3o0, mo3o1, mo3o2, hk2, hw2]
                      (repeat refine awp_seq ?_); refine ev_region ?_; simp only [go_sem, set_upds ho0, set_upds0 ho0, look_upds ho0, look_upds0 ho0, set_upds ho1, set_upds0 ho1, look_upds ho1, look_upds0 ho1, set_upds ho2, set_upds0 ho2, look_upds ho2, look_upds0 ho2, set_upds ho3, set_upds0 ho3, look_upds ho3, look_upds0 ho3, mo0o1, mo0o2, mo0o3, mo1o0, mo1o2, mo1o3, mo2o0, mo2o1, mo2o3, mo3o0, mo3o1, mo3o2, hk2, hw2]
                      (repeat refine awp_seq ?_); refine awp_cond (by rfl) (fun hc => ?_) fun hc => ?_
                      · replace h := cond_t h (by first | exact hc | simpa using hc)
                        (repeat refine awp_seq ?_); refine ev_region ?_; simp only [go_sem, set_upds ho0, set_upds0 ho0, look_upds ho0, look_upds0 ho0, set_upds ho1, set_upds0 ho1, look_upds ho1, look_upds0 ho1, set_upds ho2, set_upds0 ho2, look_upds ho2, look_upds0 ho2, set_upds ho3, set_upds0 ho3, look_upds ho3, look_upds0 ho3, mo0o1, mo0o2, mo0o3, mo1o0, mo1o2, mo1o3, mo2o0, mo2o1, mo2o3, mo3o0, mo3o1, mo3o2, hk2, hw2]
                        (repeat refine awp_seq ?_); refine awp_ret ?_
                        try simp only [go_sem, set_upds ho0, set_upds0 ho0, look_upds ho0, look_upds0 ho0, set_upds ho1, set_upds0 ho1, look_upds ho1, look_upds0 ho1, set_upds ho2, set_upds0 ho2, look_upds ho2, look_upds0 ho2, set_upds ho3, set_upds0 ho3, look_upds ho3, look_upds0 ho3, mo0o1, mo0o2, mo0o3, mo1o0, mo1o2, mo1o3, mo2o0, mo2o1, mo2o3, mo3o0, mo3o1, mo3o2, hk2, hw2]
                        obtain rfl := Option.some.inj h
                        refine pbr_ret ?_; have hr := hx2 _ rfl; try simp only [go_sem, set_upds ho0, set_upds0 ho0, look_upds ho0, look_upds0 ho0, set_upds ho1, set_upds0 ho1, look_upds ho1, look_upds0 ho1, set_upds ho2, set_upds0 ho2, look_upds ho2, look_upds0 ho2, set_upds ho3, set_upds0 ho3, look_upds ho3, look_upds0 ho3, mo0o1, mo0o2, mo0o3, mo1o0, mo1o2, mo1o3, mo2o0, mo2o1, mo2o3, mo3o0, mo3o1, mo3o2, hk2, hw2]
                        refine finb_of ?_; simp only [go_sem, set_upds ho0, set_upds0 ho0, look_upds ho0, look_upds0 ho0, set_upds ho1, set_upds0 ho1, look_upds ho1, look_upds0 ho1, set_upds ho2, set_upds0 ho2, look_upds ho2, look_upds0 ho2, set_upds ho3, set_upds0 ho3, look_upds ho3, look_upds0 ho3, mo0o1, mo0o2, mo0o3, mo1o0, mo1o2, mo1o3, mo2o0, mo2o1, mo2o3, mo3o0, mo3o1, mo3o2, hk2, hw2]
                        exact finu_old (d' := .agg [.int .i64 v9.1.code, .int .i64 v9.1.index]) (by simp) (upds_sc hsc (by simp <;> omega)) (.same _) (by simp <;> omega) ⟨by subst hr; rfl, by subst hr; rfl⟩
                      · replace h := cond_f h (by first | exact hc | simpa using hc)
                        refine awp_skip ?_; try simp only [go_sem, set_upds ho0, set_upds0 ho0, look_upds ho0, look_upds0 ho0, set_upds ho1, set_upds0 ho1, look_upds ho1, look_upds0 ho1, set_upds ho2, set_upds0 ho2, look_upds ho2, look_upds0 ho2, set_upds ho3, set_upds0 ho3, look_upds ho3, look_upds0 ho3, mo0o1, mo0o2, mo0o3, mo1o0, mo1o2, mo1o3, mo2o0, mo2o1, mo2o3, mo3o0, mo3o1, mo3o2, hk2, hw2]
                        (repeat refine awp_seq ?_); refine ev_region ?_; simp only [go_sem, set_upds ho0, set_upds0 ho0, look_upds ho0, look_upds0 ho0, set_upds ho1, set_upds0 ho1, look_upds ho1, look_upds0 ho1, set_upds ho2, set_upds0 ho2, look_upds ho2, look_upds0 ho2, set_upds ho3, set_upds0 ho3, look_upds ho3, look_upds0 ho3, mo0o1, mo0o2, mo0o3, mo1o0, mo1o2, mo1o3, mo2o0, mo2o1, mo2o3, mo3o0, mo3o1, mo3o2, hk2, hw2]
                        cases h
                        exact pbr_nxt () (bku_mk (by simp) (upds_sc hsc (by simp <;> omega)) (.dead _ _ _ (.live _ _ _ _ (.same _) (.nil _))) (by simp <;> omega) ⟨.same _, .same _, .same _, .same _, .same _, .same _, .same _, trivial⟩ (by simp <;> omega))
                    · exfalso; have hc := of_decide_eq_false hc; omega
                  · (repeat refine awp_seq ?_); refine ev_region ?_; simp only [go_sem, set_upds ho0, set_upds0 ho0, look_upds ho0, look_upds0 ho0, set_upds ho1, set_upds0 ho1, look_upds ho1, look_upds0 ho1, set_upds ho2, set_upds0 ho2, look_upds ho2, look_upds0 ho2, set_upds ho3, set_upds0 ho3, look_upds ho3, look_upds0 ho3, mo0o1, mo0o2, mo0o3, mo1o0, mo1o2, mo1o3, mo2o0, mo2o1, mo2o3, mo3o0, mo3o1, mo3o2]
                    (repeat refine awp_seq ?_); refine awp_cond (by rfl) (fun hc => ?_) fun hc => ?_
                    · exfalso; first | exact Bool.noConfusion hc | (have hc := of_decide_eq_true hc; omega)
                    · refine awp_exit ?_; simp only [go_sem, set_upds ho0, set_upds0 ho0, look_upds ho0, look_upds0 ho0, set_upds ho1, set_upds0 ho1, look_upds ho1, look_upds0 ho1, set_upds ho2, set_upds0 ho2, look_upds ho2, look_upds0 ho2, set_upds ho3, set_upds0 ho3, look_upds ho3, look_upds0 ho3, mo0o1, mo0o2, mo0o3, mo1o0, mo1o2, mo1o3, mo2o0, mo2o1, mo2o3, mo3o0, mo3o1, mo3o2]
                      exact ⟨(), (bku_mk (by simp) (upds_sc hsc (by simp <;> omega)) (.dead _ _ _ (.live _ _ _ _ (.same _) (.nil _))) (by simp <;> omega) ⟨.same _, trivial⟩ (by simp <;> omega))⟩
                  · try simp only [go_sem, set_upds ho0, set_upds0 ho0, look_upds ho0, look_upds0 ho0, set_upds ho1, set_upds0 ho1, look_upds ho1, look_upds0 ho1, set_upds ho2, set_upds0 ho2, look_upds ho2, look_upds0 ho2, set_upds ho3, set_upds0 ho3, look_upds ho3, look_upds0 ho3, mo0o1, mo0o2, mo0o3, mo1o0, mo1o2, mo1o3, mo2o0, mo2o1, mo2o3, mo3o0, mo3o1, mo3o2]
                    unfold deriveFits1_a2 at h
                    refine awp_bks hb ?_
                    (repeat refine awp_seq ?_); refine ev_region ?_; simp only [go_sem, set_upds ho0, set_upds0 ho0, look_upds ho0, look_upds0 ho0, set_upds ho1, set_upds0 ho1, look_upds ho1, look_upds0 ho1, set_upds ho2, set_upds0 ho2, look_upds ho2, look_upds0 ho2, set_upds ho3, set_upds0 ho3, look_upds ho3, look_upds0 ho3, mo0o1, mo0o2, mo0o3, mo1o0, mo1o2, mo1o3, mo2o0, mo2o1, mo2o3, mo3o0, mo3o1, mo3o2]
                    (repeat refine awp_seq ?_); refine awp_ret ?_
                    try simp only [go_sem, set_upds ho0, set_upds0 ho0, look_upds ho0, look_upds0 ho0, set_upds ho1, set_upds0 ho1, look_upds ho1, look_upds0 ho1, set_upds ho2, set_upds0 ho2, look_upds ho2, look_upds0 ho2, set_upds ho3, set_upds0 ho3, look_upds ho3, look_upds0 ho3, mo0o1, mo0o2, mo0o3, mo1o0, mo1o2, mo1o3, mo2o0, mo2o1, mo2o3, mo3o0, mo3o1, mo3o2]
                    have hr := Option.some.inj h
                    refine finb_of ?_; simp only [go_sem, set_upds ho0, set_upds0 ho0, look_upds ho0, look_upds0 ho0, set_upds ho1, set_upds0 ho1, look_upds ho1, look_upds0 ho1, set_upds ho2, set_upds0 ho2, look_upds ho2, look_upds0 ho2, set_upds ho3, set_upds0 ho3, look_upds ho3, look_upds0 ho3, mo0o1, mo0o2, mo0o3, mo1o0, mo1o2, mo1o3, mo2o0, mo2o1, mo2o3, mo3o0, mo3o1, mo3o2]
                    exact finu_old (d' := .agg [.int .i64 0, .int .i64 0]) (by simp) (upds_sc hsc (by simp <;> omega)) (.same _) (by simp <;> omega) ⟨by subst hr; rfl, by subst hr; rfl⟩
              · (repeat refine awp_seq ?_); refine awp_cond (by rfl) (fun hc => ?_) fun hc => ?_
                · replace h := cond_t h (by first | exact hc | simpa using hc)
                  (repeat refine awp_seq ?_); refine ev_region ?_; simp only [go_sem, set_upds ho0, set_upds0 ho0, look_upds ho0, look_upds0 ho0, set_upds ho1, set_upds0 ho1, look_upds ho1, look_upds0 ho1, set_upds ho2, set_upds0 ho2, look_upds ho2, look_upds0 ho2, set_upds ho3, set_upds0 ho3, look_upds ho3, look_upds0 ho3, mo0o1, mo0o2, mo0o3, mo1o0, mo1o2, mo1o3, mo2o0, mo2o1, mo2o3, mo3o0, mo3o1, mo3o2]
                  exact hj1 () _ _ _ h (bku_mk (by simp) (upds_sc hsc (by simp <;> omega)) (.live _ _ _ _ (.same _) (.live _ _ _ _ (.same _) (.nil _))) (by simp <;> omega) ⟨.same _, .same _, .same _, .same _, .same _, .same _, trivial⟩ (by simp <;> omega))
                · replace h := cond_f h (by first | exact hc | simpa using hc)
                  refine awp_skip ?_; try simp only [go_sem, set_upds ho0, set_upds0 ho0, look_upds ho0, look_upds0 ho0, set_upds ho1, set_upds0 ho1, look_upds ho1, look_upds0 ho1, set_upds ho2, set_upds0 ho2, look_upds ho2, look_upds0 ho2, set_upds ho3, set_upds0 ho3, look_upds ho3, look_upds0 ho3, mo0o1, mo0o2, mo0o3, mo1o0, mo1o2, mo1o3, mo2o0, mo2o1, mo2o3, mo3o0, mo3o1, mo3o2]
                  exact hj1 () _ _ _ h (bku_mk (by simp) (upds_sc hsc (by simp <;> omega)) (.live _ _ _ _ (.same _) (.live _ _ _ _ (.same _) (.nil _))) (by simp <;> omega) ⟨.same _, .same _, .same _, .same _, .same _, .same _, trivial⟩ (by simp <;> omega))
          · (repeat refine awp_seq ?_); refine awp_cond (by rfl) (fun hc => ?_) fun hc => ?_
            · replace h := cond_t h (by first | exact hc | simpa using hc)
              obtain ⟨⟨f4, f5⟩, h⟩ := chk_some h
              (repeat refine awp_seq ?_); refine ev_region ?_; simp only [go_sem, set_upds ho0, set_upds0 ho0, look_upds ho0, look_upds0 ho0, set_upds ho1, set_upds0 ho1, look_upds ho1, look_upds0 ho1, set_upds ho2, set_upds0 ho2, look_upds ho2, look_upds0 ho2, set_upds ho3, set_upds0 ho3, look_upds ho3, look_upds0 ho3, mo0o1, mo0o2, mo0o3, mo1o0, mo1o2, mo1o3, mo2o0, mo2o1, mo2o3, mo3o0, mo3o1, mo3o2, f4, f5]
              exact hj0 () _ _ _ h (bku_mk (by simp) (upds_sc hsc (by simp <;> omega)) (.live _ _ _ _ (.same _) (.live _ _ _ _ (.same _) (.nil _))) (by simp <;> omega) ⟨.same _, .same _, .same _, .same _, .same _, .same _, .same _, trivial⟩ (by simp <;> omega))
            · replace h := cond_f h (by first | exact hc | simpa using hc)
              (repeat refine awp_seq ?_); refine ev_region ?_; simp only [go_sem, set_upds ho0, set_upds0 ho0, look_upds ho0, look_upds0 ho0, set_upds ho1, set_upds0 ho1, look_upds ho1, look_upds0 ho1, set_upds ho2, set_upds0 ho2, look_upds ho2, look_upds0 ho2, set_upds ho3, set_upds0 ho3, look_upds ho3, look_upds0 ho3, mo0o1, mo0o2, mo0o3, mo1o0, mo1o2, mo1o3, mo2o0, mo2o1, mo2o3, mo3o0, mo3o1, mo3o2]
              exact hj0 () _ _ _ h (bku_mk (by simp) (upds_sc hsc (by simp <;> omega)) (.live _ _ _ _ (.same _) (.live _ _ _ _ (.same _) (.nil _))) (by simp <;> omega) ⟨.same _, .same _, .same _, .same _, .same _, .same _, .same _, trivial⟩ (by simp <;> omega))


end Go.Proofs.YtaohdfpcdfbnlaaDoor

