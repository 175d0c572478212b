/-
  Each Go function of this part does what its plain Lean function says.
-/
import Derived.Test.YtaohdfpcdfbnlaaDoorBase
import Derived.Test.YtaohdfpcdfbnlaaDoorHand
import Derived.Test.YtaohdfpcdfbnlaaDoorMirrors
import Derived.Test.YtaohdfpcdfbnlaaDoorWalk10
import Derived.Test.YtaohdfpcdfbnlaaDoorWalk12
import Derived.Test.YtaohdfpcdfbnlaaDoorWalk13
import Derived.Test.YtaohdfpcdfbnlaaDoorWalk11
set_option linter.unusedVariables false
set_option linter.unusedSimpArgs false
namespace Go.Proofs.YtaohdfpcdfbnlaaDoor
open Go Go.Am

set_option maxHeartbeats 2000000 in
set_option maxRecDepth 100000 in
theorem ok_fracMul (n : Nat) (a0 : ApiFrac) (a1 : ApiFrac) (r : ApiFrac × ApiFault) (h : fracMul n a0 a1 = some r) : Pure Tryd.prog gl 41 [.agg [.int .i64 a0.num, .int .i64 a0.den], .agg [.int .i64 a1.num, .int .i64 a1.den]] (.tup [.agg [.int .i64 r.1.num, .int .i64 r.1.den], .agg [.int .i64 r.2.code, .int .i64 r.2.index]]) := by
  intro st
  unfold fracMul at h
  refine spec_fb (N := 20) (rs := [.cell 4 49, .cell 5 41]) (keep := [0, 1, 2, 3, 4, 5, 6, 12]) Tryd.func41 rfl rfl rfl (by kernel_rfl) rfl fun hsc => ?_
  (repeat refine awp_seq ?_); refine ev_region ?_; simp only [go_sem]
  (repeat refine awp_seq ?_); refine ev_region ?_; simp only [go_sem]
  obtain ⟨v1, hv1, h⟩ := bind_some h
  refine ((ok_fracBoth n _ _ _ hv1)).to ?_
  try simp only [go_sem]
  (repeat refine awp_seq ?_); refine ev_region ?_; simp only [go_sem]
  (repeat refine awp_seq ?_); refine awp_cond (by rfl) (fun hc => ?_) fun hc => ?_
  · replace h := cond_t h (by first | exact hc | simpa using hc)
    (repeat refine awp_seq ?_); refine ev_draw_region [1, 2] 0 follows (by kernel_rfl) (by rfl) ?_; simp only [go_sem, List.replicate_succ, List.replicate_zero]
    try refine ⟨by (simp <;> omega), ?_⟩
    (repeat refine awp_seq ?_); refine awp_ret ?_
    try simp only [go_sem]
    have hr := Option.some.inj h
    refine finb_of ?_; simp only [go_sem]
    exact fin_old' (d' := .tup [.agg [.int .i64 0, .int .i64 0], .agg [.int .i64 v1.code, .int .i64 v1.index]]) hsc (.same _) (by simp) ⟨by subst hr; rfl, rfl⟩
  · replace h := cond_f h (by first | exact hc | simpa using hc)
    refine awp_skip ?_; try simp only [go_sem]
    (repeat refine awp_seq ?_); refine ev_region ?_; simp only [go_sem]
    obtain ⟨v2, hv2, h⟩ := bind_some h
    refine ((ok_fracMul_2 n _ _ _ hv2)).to ?_
    try simp only [go_sem]
    (repeat refine awp_seq ?_); refine awp_ret ?_
    try simp only [go_sem]
    have hr := Option.some.inj h
    refine finb_of ?_; simp only [go_sem]
    exact fin_old' (d' := .tup [.agg [.int .i64 v2.1.num, .int .i64 v2.1.den], .agg [.int .i64 v2.2.code, .int .i64 v2.2.index]]) hsc (.same _) (by simp) ⟨by subst hr; rfl, rfl⟩

set_option maxHeartbeats 2000000 in
set_option maxRecDepth 100000 in
theorem ok_trainProbability1 : ∀ (n : Nat) (a0 : ApiTree) (b0_0 : (List ApiFrac)) (b1_0 : (List ApiFrac)) (b2_0 : Int) (b2_1 : Int) (r : Bool × Int × Int) (h : trainProbability1 n a0 b0_0 b1_0 b2_0 b2_1 = some r), ∀ (st : St) (o0 o1 o2 o3 : Nat) (hnd : [o0, o1, o2, o3].Nodup) (hlo0 : Am.look st o0 = some (.arr 0 1 0 [[.sl false 2 16 (rows ApiFrac.cells b0_0)]])) (hlo1 : Am.look st o1 = some (.arr 0 1 0 [[.sl false 2 16 (rows ApiFrac.cells b1_0)]])) (hlo2 : Am.look st o2 = some (.arr 0 2 0 [[.int .i64 b2_0, .int .i64 b2_1]])) (hlo3 : Am.look st o3 = some (.arr 0 1 0 [[.fn 40 [] [.ptr o0 0 0 0, .ptr o1 0 0 0, .ptr o2 0 0 0, .ptr o3 0 0 0]]])), Am.Spec Tryd.prog gl 40 [.agg [.int .i64 a0.rule, .int .i64 a0.lex, .sl false 3 40 (rows ApiTree.cells a0.kids)], .ptr o0 0 0 0, .ptr o1 0 0 0, .ptr o2 0 0 0, .ptr o3 0 0 0] st (fun d st' => d = .bool r.1 ∧ st' = puts st [(o0, (.arr 0 1 0 [[.sl false 2 16 (rows ApiFrac.cells b0_0)]])), (o1, (.arr 0 1 0 [[.sl false 2 16 (rows ApiFrac.cells b1_0)]])), (o2, (.arr 0 2 0 [[.int .i64 r.2.1, .int .i64 r.2.2]])), (o3, (.arr 0 1 0 [[.fn 40 [] [.ptr o0 0 0 0, .ptr o1 0 0 0, .ptr o2 0 0 0, .ptr o3 0 0 0]]]))]) := by
  intro n
  induction n with
  | zero => intro a0 b0_0 b1_0 b2_0 b2_1 r h; cases h
  | succ n ih =>
    intro a0 b0_0 b1_0 b2_0 b2_1 r h st o0 o1 o2 o3 hnd hlo0 hlo1 hlo2 hlo3
    unfold trainProbability1 at h
    have ho0 := look_lt hlo0
    have ho1 := look_lt hlo1
    have ho2 := look_lt hlo2
    have ho3 := look_lt hlo3
    have hnd0 := hnd
    simp only [List.nodup_cons, List.mem_cons, List.not_mem_nil, or_false, not_or, not_false_eq_true, List.nodup_nil, and_true] at hnd0
    obtain ⟨⟨no0o1, no0o2, no0o3⟩, ⟨no1o2, no1o3⟩, no2o3⟩ := hnd0
    have mo0o1 : (o0 = o1) = False := eq_false no0o1
    have mo1o0 : (o1 = o0) = False := eq_false (fun e => no0o1 e.symm)
    have mo0o2 : (o0 = o2) = False := eq_false no0o2
    have mo2o0 : (o2 = o0) = False := eq_false (fun e => no0o2 e.symm)
    have mo0o3 : (o0 = o3) = False := eq_false no0o3
    have mo3o0 : (o3 = o0) = False := eq_false (fun e => no0o3 e.symm)
    have mo1o2 : (o1 = o2) = False := eq_false no1o2
    have mo2o1 : (o2 = o1) = False := eq_false (fun e => no1o2 e.symm)
    have mo1o3 : (o1 = o3) = False := eq_false no1o3
    have mo3o1 : (o3 = o1) = False := eq_false (fun e => no1o3 e.symm)
    have mo2o3 : (o2 = o3) = False := eq_false no2o3
    have mo3o2 : (o3 = o2) = False := eq_false (fun e => no2o3 e.symm)
    refine spec_fb (N := 45) (rs := [.tmp 6]) (keep := [0, 1, 2, 3, 4, 5, 6, 7, 8, 10, 13, 32, 34, 35, 36, 37, 43]) Tryd.func40 rfl rfl rfl (by kernel_rfl) rfl fun hsc => ?_
    refine awp_st (s' := (upds st [(o0, (.arr 0 1 0 [[.sl false 2 16 (rows ApiFrac.cells b0_0)]])), (o1, (.arr 0 1 0 [[.sl false 2 16 (rows ApiFrac.cells b1_0)]])), (o2, (.arr 0 2 0 [[.int .i64 b2_0, .int .i64 b2_1]])), (o3, (.arr 0 1 0 [[.fn 40 [] [.ptr o0 0 0 0, .ptr o1 0 0 0, .ptr o2 0 0 0, .ptr o3 0 0 0]]]))])) (upds_self (by simp [hlo0, hlo1, hlo2, hlo3])) ?_
    (repeat refine awp_seq ?_); refine ev_region ?_; simp only [go_sem, set_upds ho0, set_upds0 ho0, look_upds ho0, look_upds0 ho0, set_upds ho1, set_upds0 ho1, look_upds ho1, look_upds0 ho1, set_upds ho2, set_upds0 ho2, look_upds ho2, look_upds0 ho2, set_upds ho3, set_upds0 ho3, look_upds ho3, look_upds0 ho3, mo0o1, mo0o2, mo0o3, mo1o0, mo1o2, mo1o3, mo2o0, mo2o1, mo2o3, mo3o0, mo3o1, mo3o2]
    (repeat refine awp_seq ?_); refine ev_region ?_; simp only [go_sem, set_upds ho0, set_upds0 ho0, look_upds ho0, look_upds0 ho0, set_upds ho1, set_upds0 ho1, look_upds ho1, look_upds0 ho1, set_upds ho2, set_upds0 ho2, look_upds ho2, look_upds0 ho2, set_upds ho3, set_upds0 ho3, look_upds ho3, look_upds0 ho3, mo0o1, mo0o2, mo0o3, mo1o0, mo1o2, mo1o3, mo2o0, mo2o1, mo2o3, mo3o0, mo3o1, mo3o2]
    (repeat refine awp_seq ?_); refine ev_region ?_; simp only [go_sem, set_upds ho0, set_upds0 ho0, look_upds ho0, look_upds0 ho0, set_upds ho1, set_upds0 ho1, look_upds ho1, look_upds0 ho1, set_upds ho2, set_upds0 ho2, look_upds ho2, look_upds0 ho2, set_upds ho3, set_upds0 ho3, look_upds ho3, look_upds0 ho3, mo0o1, mo0o2, mo0o3, mo1o0, mo1o2, mo1o3, mo2o0, mo2o1, mo2o3, mo3o0, mo3o1, mo3o2]
    (repeat refine awp_seq ?_); refine awp_jn (trainProbability1_j0 (trainProbability1 n) n b2_0 b2_1 a0 b0_0 b1_0) r (fun (gj0 : Unit) (j0 : Int × Int) => [(3, .ptr o2 0 0 0), (4, .ptr o3 0 0 0), (5, .ptr st.length 0 0 0), (7, .ptr (st.length + 1) 0 0 0)]) (fun (gj0 : Unit) (j0 : Int × Int) => (upds st [(o0, (.arr 0 1 0 [[.sl false 2 16 (rows ApiFrac.cells b0_0)]])), (o1, (.arr 0 1 0 [[.sl false 2 16 (rows ApiFrac.cells b1_0)]])), (o2, (.arr 0 2 0 [[.int .i64 b2_0, .int .i64 b2_1]])), (o3, (.arr 0 1 0 [[.fn 40 [] [.ptr o0 0 0 0, .ptr o1 0 0 0, .ptr o2 0 0 0, .ptr o3 0 0 0]]]))]) ++ [some (.arr 0 3 0 [[.int .i64 a0.rule, .int .i64 a0.lex, .sl false 3 40 (rows ApiTree.cells a0.kids)]]), some (.arr 0 2 0 [[.int .i64 j0.1, .int .i64 j0.2]])]) (fun gj0 j0 fr1 st1 h hb => ?_) (fun hj0 => ?_)
    · try simp only [go_sem, set_upds ho0, set_upds0 ho0, look_upds ho0, look_upds0 ho0, set_upds ho1, set_upds0 ho1, look_upds ho1, look_upds0 ho1, set_upds ho2, set_upds0 ho2, look_upds ho2, look_upds0 ho2, set_upds ho3, set_upds0 ho3, look_upds ho3, look_upds0 ho3, mo0o1, mo0o2, mo0o3, mo1o0, mo1o2, mo1o3, mo2o0, mo2o1, mo2o3, mo3o0, mo3o1, mo3o2]
      unfold trainProbability1_j0 at h
      refine awp_bks hb ?_
      (repeat refine awp_seq ?_); refine ev_region ?_; simp only [go_sem, set_upds ho0, set_upds0 ho0, look_upds ho0, look_upds0 ho0, set_upds ho1, set_upds0 ho1, look_upds ho1, look_upds0 ho1, set_upds ho2, set_upds0 ho2, look_upds ho2, look_upds0 ho2, set_upds ho3, set_upds0 ho3, look_upds ho3, look_upds0 ho3, mo0o1, mo0o2, mo0o3, mo1o0, mo1o2, mo1o3, mo2o0, mo2o1, mo2o3, mo3o0, mo3o1, mo3o2]
      (repeat refine awp_seq ?_); refine ev_region ?_; simp only [go_sem, set_upds ho0, set_upds0 ho0, look_upds ho0, look_upds0 ho0, set_upds ho1, set_upds0 ho1, look_upds ho1, look_upds0 ho1, set_upds ho2, set_upds0 ho2, look_upds ho2, look_upds0 ho2, set_upds ho3, set_upds0 ho3, look_upds ho3, look_upds0 ho3, mo0o1, mo0o2, mo0o3, mo1o0, mo1o2, mo1o3, mo2o0, mo2o1, mo2o3, mo3o0, mo3o1, mo3o2]
      obtain ⟨v5, hv5, h⟩ := bind_some h
      refine ((ok_fracMul n _ _ _ hv5)).to ?_
      try simp only [go_sem, set_upds ho0, set_upds0 ho0, look_upds ho0, look_upds0 ho0, set_upds ho1, set_upds0 ho1, look_upds ho1, look_upds0 ho1, set_upds ho2, set_upds0 ho2, look_upds ho2, look_upds0 ho2, set_upds ho3, set_upds0 ho3, look_upds ho3, look_upds0 ho3, mo0o1, mo0o2, mo0o3, mo1o0, mo1o2, mo1o3, mo2o0, mo2o1, mo2o3, mo3o0, mo3o1, mo3o2]
      (repeat refine awp_seq ?_); refine ev_region ?_; simp only [go_sem, set_upds ho0, set_upds0 ho0, look_upds ho0, look_upds0 ho0, set_upds ho1, set_upds0 ho1, look_upds ho1, look_upds0 ho1, set_upds ho2, set_upds0 ho2, look_upds ho2, look_upds0 ho2, set_upds ho3, set_upds0 ho3, look_upds ho3, look_upds0 ho3, mo0o1, mo0o2, mo0o3, mo1o0, mo1o2, mo1o3, mo2o0, mo2o1, mo2o3, mo3o0, mo3o1, mo3o2]
      (repeat refine awp_seq ?_); refine awp_cond (by rfl) (fun hc => ?_) fun hc => ?_
      · replace h := cond_t h (by first | exact hc | simpa using hc)
        (repeat refine awp_seq ?_); refine ev_region ?_; simp only [go_sem, set_upds ho0, set_upds0 ho0, look_upds ho0, look_upds0 ho0, set_upds ho1, set_upds0 ho1, look_upds ho1, look_upds0 ho1, set_upds ho2, set_upds0 ho2, look_upds ho2, look_upds0 ho2, set_upds ho3, set_upds0 ho3, look_upds ho3, look_upds0 ho3, mo0o1, mo0o2, mo0o3, mo1o0, mo1o2, mo1o3, mo2o0, mo2o1, mo2o3, mo3o0, mo3o1, mo3o2]
        (repeat refine awp_seq ?_); refine awp_ret ?_
        try simp only [go_sem, set_upds ho0, set_upds0 ho0, look_upds ho0, look_upds0 ho0, set_upds ho1, set_upds0 ho1, look_upds ho1, look_upds0 ho1, set_upds ho2, set_upds0 ho2, look_upds ho2, look_upds0 ho2, set_upds ho3, set_upds0 ho3, look_upds ho3, look_upds0 ho3, mo0o1, mo0o2, mo0o3, mo1o0, mo1o2, mo1o3, mo2o0, mo2o1, mo2o3, mo3o0, mo3o1, mo3o2]
        have hr := Option.some.inj h
        refine finb_of ?_; simp only [go_sem, set_upds ho0, set_upds0 ho0, look_upds ho0, look_upds0 ho0, set_upds ho1, set_upds0 ho1, look_upds ho1, look_upds0 ho1, set_upds ho2, set_upds0 ho2, look_upds ho2, look_upds0 ho2, set_upds ho3, set_upds0 ho3, look_upds ho3, look_upds0 ho3, mo0o1, mo0o2, mo0o3, mo1o0, mo1o2, mo1o3, mo2o0, mo2o1, mo2o3, mo3o0, mo3o1, mo3o2]
        exact finu_old (d' := .bool false) (by simp) (upds_sc hsc (by simp <;> omega)) (.same _) (by simp <;> omega) ⟨by subst hr; rfl, by subst hr; rfl⟩
      · replace h := cond_f h (by first | exact hc | simpa using hc)
        refine awp_skip ?_; try simp only [go_sem, set_upds ho0, set_upds0 ho0, look_upds ho0, look_upds0 ho0, set_upds ho1, set_upds0 ho1, look_upds ho1, look_upds0 ho1, set_upds ho2, set_upds0 ho2, look_upds ho2, look_upds0 ho2, set_upds ho3, set_upds0 ho3, look_upds ho3, look_upds0 ho3, mo0o1, mo0o2, mo0o3, mo1o0, mo1o2, mo1o3, mo2o0, mo2o1, mo2o3, mo3o0, mo3o1, mo3o2]
        (repeat refine awp_seq ?_); refine ev_region ?_; simp only [go_sem, set_upds ho0, set_upds0 ho0, look_upds ho0, look_upds0 ho0, set_upds ho1, set_upds0 ho1, look_upds ho1, look_upds0 ho1, set_upds ho2, set_upds0 ho2, look_upds ho2, look_upds0 ho2, set_upds ho3, set_upds0 ho3, look_upds ho3, look_upds0 ho3, mo0o1, mo0o2, mo0o3, mo1o0, mo1o2, mo1o3, mo2o0, mo2o1, mo2o3, mo3o0, mo3o1, mo3o2]
        (repeat refine awp_seq ?_); refine awp_len (t := 34) rfl fun hl1 => ?_
        simp only [rows_len] at hl1
        (repeat refine awp_seq ?_); refine awp_range (body := trainProbability1_b1 (trainProbability1 n) a0 b0_0 b1_0) (kk := trainProbability1_a1) (n := a0.kids.length) (s0 := (v5.1.num, v5.1.den))
          (fun (gs1 : Unit) (k1 : Nat) (s1 : Int × Int) => [(4, .ptr o3 0 0 0), (34, .sl false 3 40 (rows ApiTree.cells a0.kids)), (35, .int .i64 (↑a0.kids.length : Int)), (36, .int .i64 (↑k1 : Int))])
          (fun (gs1 : Unit) (k1 : Nat) (s1 : Int × Int) => (upds st [(o0, (.arr 0 1 0 [[.sl false 2 16 (rows ApiFrac.cells b0_0)]])), (o1, (.arr 0 1 0 [[.sl false 2 16 (rows ApiFrac.cells b1_0)]])), (o2, (.arr 0 2 0 [[.int .i64 s1.1, .int .i64 s1.2]])), (o3, (.arr 0 1 0 [[.fn 40 [] [.ptr o0 0 0 0, .ptr o1 0 0 0, .ptr o2 0 0 0, .ptr o3 0 0 0]]]))]))
          (fun (gt1 : Unit) (t1 : Int × Int) => [])
          (fun (gt1 : Unit) (t1 : Int × Int) => (upds st [(o0, (.arr 0 1 0 [[.sl false 2 16 (rows ApiFrac.cells b0_0)]])), (o1, (.arr 0 1 0 [[.sl false 2 16 (rows ApiFrac.cells b1_0)]])), (o2, (.arr 0 2 0 [[.int .i64 t1.1, .int .i64 t1.2]])), (o3, (.arr 0 1 0 [[.fn 40 [] [.ptr o0 0 0 0, .ptr o1 0 0 0, .ptr o2 0 0 0, .ptr o3 0 0 0]]]))]))
          () h (bku_mk0 (by simp) (upds_sc hsc (by simp <;> omega)) ⟨.same _, .same _, .same _, .same _, trivial⟩ (by simp <;> omega))
          (fun gs1 k1 s1 b1 hk1 h hx1 => ?_) (fun gs1 s1 => ?_) (fun gt1 t1 fr1 st1 h hb => ?_)
        · unfold trainProbability1_b1 at h
          have hw1 : wr .i64 ((↑k1 : Int) + 1) = (↑(k1 + 1) : Int) := wr_succ hk1 hl1 (by decide)
          (repeat refine awp_seq ?_); refine ev_region ?_; simp only [go_sem, set_upds ho0, set_upds0 ho0, look_upds ho0, look_upds0 ho0, set_upds ho1, set_upds0 ho1, look_upds ho1, look_upds0 ho1, set_upds ho2, set_upds0 ho2, look_upds ho2, look_upds0 ho2, set_upds ho3, set_upds0 ho3, look_upds ho3, look_upds0 ho3, mo0o1, mo0o2, mo0o3, mo1o0, mo1o2, mo1o3, mo2o0, mo2o1, mo2o3, mo3o0, mo3o1, mo3o2]
          (repeat refine awp_seq ?_); refine awp_cond (by rfl) (fun hc => ?_) fun hc => ?_
          · refine awp_skip ?_; try simp only [go_sem, set_upds ho0, set_upds0 ho0, look_upds ho0, look_upds0 ho0, set_upds ho1, set_upds0 ho1, look_upds ho1, look_upds0 ho1, set_upds ho2, set_upds0 ho2, look_upds ho2, look_upds0 ho2, set_upds ho3, set_upds0 ho3, look_upds ho3, look_upds0 ho3, mo0o1, mo0o2, mo0o3, mo1o0, mo1o2, mo1o3, mo2o0, mo2o1, mo2o3, mo3o0, mo3o1, mo3o2]
            (repeat refine awp_seq ?_); refine awp_block ?_
            (repeat refine awp_seq ?_); refine ev_region ?_; simp only [go_sem, set_upds ho0, set_upds0 ho0, look_upds ho0, look_upds0 ho0, set_upds ho1, set_upds0 ho1, look_upds ho1, look_upds0 ho1, set_upds ho2, set_upds0 ho2, look_upds ho2, look_upds0 ho2, set_upds ho3, set_upds0 ho3, look_upds ho3, look_upds0 ho3, mo0o1, mo0o2, mo0o3, mo1o0, mo1o2, mo1o3, mo2o0, mo2o1, mo2o3, mo3o0, mo3o1, mo3o2, hk1, hw1]
            (repeat refine awp_seq ?_); refine ev_region ?_; simp only [go_sem, set_upds ho0, set_upds0 ho0, look_upds ho0, look_upds0 ho0, set_upds ho1, set_upds0 ho1, look_upds ho1, look_upds0 ho1, set_upds ho2, set_upds0 ho2, look_upds ho2, look_upds0 ho2, set_upds ho3, set_upds0 ho3, look_upds ho3, look_upds0 ho3, mo0o1, mo0o2, mo0o3, mo1o0, mo1o2, mo1o3, mo2o0, mo2o1, mo2o3, mo3o0, mo3o1, mo3o2, hk1, hw1]
            obtain ⟨v7, hv7, h⟩ := bind_some h
            refine (ih _ _ _ _ _ _ hv7 _ _ _ _ _ hnd (by simp only [go_sem, set_upds ho0, set_upds0 ho0, look_upds ho0, look_upds0 ho0, set_upds ho1, set_upds0 ho1, look_upds ho1, look_upds0 ho1, set_upds ho2, set_upds0 ho2, look_upds ho2, look_upds0 ho2, set_upds ho3, set_upds0 ho3, look_upds ho3, look_upds0 ho3, mo0o1, mo0o2, mo0o3, mo1o0, mo1o2, mo1o3, mo2o0, mo2o1, mo2o3, mo3o0, mo3o1, mo3o2, hk1, hw1]) (by simp only [go_sem, set_upds ho0, set_upds0 ho0, look_upds ho0, look_upds0 ho0, set_upds ho1, set_upds0 ho1, look_upds ho1, look_upds0 ho1, set_upds ho2, set_upds0 ho2, look_upds ho2, look_upds0 ho2, set_upds ho3, set_upds0 ho3, look_upds ho3, look_upds0 ho3, mo0o1, mo0o2, mo0o3, mo1o0, mo1o2, mo1o3, mo2o0, mo2o1, mo2o3, mo3o0, mo3o1, mo3o2, hk1, hw1]) (by simp only [go_sem, set_upds ho0, set_upds0 ho0, look_upds ho0, look_upds0 ho0, set_upds ho1, set_upds0 ho1, look_upds ho1, look_upds0 ho1, set_upds ho2, set_upds0 ho2, look_upds ho2, look_upds0 ho2, set_upds ho3, set_upds0 ho3, look_upds ho3, look_upds0 ho3, mo0o1, mo0o2, mo0o3, mo1o0, mo1o2, mo1o3, mo2o0, mo2o1, mo2o3, mo3o0, mo3o1, mo3o2, hk1, hw1]) (by simp only [go_sem, set_upds ho0, set_upds0 ho0, look_upds ho0, look_upds0 ho0, set_upds ho1, set_upds0 ho1, look_upds ho1, look_upds0 ho1, set_upds ho2, set_upds0 ho2, look_upds ho2, look_upds0 ho2, set_upds ho3, set_upds0 ho3, look_upds ho3, look_upds0 ho3, mo0o1, mo0o2, mo0o3, mo1o0, mo1o2, mo1o3, mo2o0, mo2o1, mo2o3, mo3o0, mo3o1, mo3o2, hk1, hw1])).mono ?_
            rintro d1 st1 ⟨rfl, rfl⟩
            try simp only [go_sem, set_upds ho0, set_upds0 ho0, look_upds ho0, look_upds0 ho0, set_upds ho1, set_upds0 ho1, look_upds ho1, look_upds0 ho1, set_upds ho2, set_upds0 ho2, look_upds ho2, look_upds0 ho2, set_upds ho3, set_upds0 ho3, look_upds ho3, look_upds0 ho3, mo0o1, mo0o2, mo0o3, mo1o0, mo1o2, mo1o3, mo2o0, mo2o1, mo2o3, mo3o0, mo3o1, mo3o2, hk1, hw1]
            (repeat refine awp_seq ?_); refine awp_cond (by rfl) (fun hc => ?_) fun hc => ?_
            · replace h := cond_t h (by first | exact hc | simpa using hc)
              (repeat refine awp_seq ?_); refine ev_region ?_; simp only [go_sem, set_upds ho0, set_upds0 ho0, look_upds ho0, look_upds0 ho0, set_upds ho1, set_upds0 ho1, look_upds ho1, look_upds0 ho1, set_upds ho2, set_upds0 ho2, look_upds ho2, look_upds0 ho2, set_upds ho3, set_upds0 ho3, look_upds ho3, look_upds0 ho3, mo0o1, mo0o2, mo0o3, mo1o0, mo1o2, mo1o3, mo2o0, mo2o1, mo2o3, mo3o0, mo3o1, mo3o2, hk1, hw1]
              (repeat refine awp_seq ?_); refine awp_ret ?_
              try simp only [go_sem, set_upds ho0, set_upds0 ho0, look_upds ho0, look_upds0 ho0, set_upds ho1, set_upds0 ho1, look_upds ho1, look_upds0 ho1, set_upds ho2, set_upds0 ho2, look_upds ho2, look_upds0 ho2, set_upds ho3, set_upds0 ho3, look_upds ho3, look_upds0 ho3, mo0o1, mo0o2, mo0o3, mo1o0, mo1o2, mo1o3, mo2o0, mo2o1, mo2o3, mo3o0, mo3o1, mo3o2, hk1, hw1]
              obtain rfl := Option.some.inj h
              refine pbr_ret ?_; have hr := hx1 _ rfl; try simp only [go_sem, set_upds ho0, set_upds0 ho0, look_upds ho0, look_upds0 ho0, set_upds ho1, set_upds0 ho1, look_upds ho1, look_upds0 ho1, set_upds ho2, set_upds0 ho2, look_upds ho2, look_upds0 ho2, set_upds ho3, set_upds0 ho3, look_upds ho3, look_upds0 ho3, mo0o1, mo0o2, mo0o3, mo1o0, mo1o2, mo1o3, mo2o0, mo2o1, mo2o3, mo3o0, mo3o1, mo3o2, hk1, hw1]
              refine finb_of ?_; simp only [go_sem, set_upds ho0, set_upds0 ho0, look_upds ho0, look_upds0 ho0, set_upds ho1, set_upds0 ho1, look_upds ho1, look_upds0 ho1, set_upds ho2, set_upds0 ho2, look_upds ho2, look_upds0 ho2, set_upds ho3, set_upds0 ho3, look_upds ho3, look_upds0 ho3, mo0o1, mo0o2, mo0o3, mo1o0, mo1o2, mo1o3, mo2o0, mo2o1, mo2o3, mo3o0, mo3o1, mo3o2, hk1, hw1]
              exact finu_old (d' := .bool false) (by simp) (upds_sc hsc (by simp <;> omega)) (.same _) (by simp <;> omega) ⟨by subst hr; rfl, by subst hr; rfl⟩
            · replace h := cond_f h (by first | exact hc | simpa using hc)
              refine awp_skip ?_; try simp only [go_sem, set_upds ho0, set_upds0 ho0, look_upds ho0, look_upds0 ho0, set_upds ho1, set_upds0 ho1, look_upds ho1, look_upds0 ho1, set_upds ho2, set_upds0 ho2, look_upds ho2, look_upds0 ho2, set_upds ho3, set_upds0 ho3, look_upds ho3, look_upds0 ho3, mo0o1, mo0o2, mo0o3, mo1o0, mo1o2, mo1o3, mo2o0, mo2o1, mo2o3, mo3o0, mo3o1, mo3o2, hk1, hw1]
              (repeat refine awp_seq ?_); refine ev_region ?_; simp only [go_sem, set_upds ho0, set_upds0 ho0, look_upds ho0, look_upds0 ho0, set_upds ho1, set_upds0 ho1, look_upds ho1, look_upds0 ho1, set_upds ho2, set_upds0 ho2, look_upds ho2, look_upds0 ho2, set_upds ho3, set_upds0 ho3, look_upds ho3, look_upds0 ho3, mo0o1, mo0o2, mo0o3, mo1o0, mo1o2, mo1o3, mo2o0, mo2o1, mo2o3, mo3o0, mo3o1, mo3o2, hk1, hw1]
              cases h
              exact pbr_nxt () (bku_mk0 (by simp) (upds_sc hsc (by simp <;> omega)) ⟨.same _, .same _, .same _, .same _, trivial⟩ (by simp <;> omega))
          · exfalso; have hc := of_decide_eq_false hc; omega
        · (repeat refine awp_seq ?_); refine ev_region ?_; simp only [go_sem, set_upds ho0, set_upds0 ho0, look_upds ho0, look_upds0 ho0, set_upds ho1, set_upds0 ho1, look_upds ho1, look_upds0 ho1, set_upds ho2, set_upds0 ho2, look_upds ho2, look_upds0 ho2, set_upds ho3, set_upds0 ho3, look_upds ho3, look_upds0 ho3, mo0o1, mo0o2, mo0o3, mo1o0, mo1o2, mo1o3, mo2o0, mo2o1, mo2o3, mo3o0, mo3o1, mo3o2]
          (repeat refine awp_seq ?_); refine awp_cond (by rfl) (fun hc => ?_) fun hc => ?_
          · exfalso; first | exact Bool.noConfusion hc | (have hc := of_decide_eq_true hc; omega)
          · refine awp_exit ?_; simp only [go_sem, set_upds ho0, set_upds0 ho0, look_upds ho0, look_upds0 ho0, set_upds ho1, set_upds0 ho1, look_upds ho1, look_upds0 ho1, set_upds ho2, set_upds0 ho2, look_upds ho2, look_upds0 ho2, set_upds ho3, set_upds0 ho3, look_upds ho3, look_upds0 ho3, mo0o1, mo0o2, mo0o3, mo1o0, mo1o2, mo1o3, mo2o0, mo2o1, mo2o3, mo3o0, mo3o1, mo3o2]
            exact ⟨(), (bku_mk00 (by simp) (upds_sc hsc (by simp <;> omega)) trivial (by simp <;> omega))⟩
        · try simp only [go_sem, set_upds ho0, set_upds0 ho0, look_upds ho0, look_upds0 ho0, set_upds ho1, set_upds0 ho1, look_upds ho1, look_upds0 ho1, set_upds ho2, set_upds0 ho2, look_upds ho2, look_upds0 ho2, set_upds ho3, set_upds0 ho3, look_upds ho3, look_upds0 ho3, mo0o1, mo0o2, mo0o3, mo1o0, mo1o2, mo1o3, mo2o0, mo2o1, mo2o3, mo3o0, mo3o1, mo3o2]
          unfold trainProbability1_a1 at h
          refine awp_bks hb ?_
          (repeat refine awp_seq ?_); refine ev_region ?_; simp only [go_sem, set_upds ho0, set_upds0 ho0, look_upds ho0, look_upds0 ho0, set_upds ho1, set_upds0 ho1, look_upds ho1, look_upds0 ho1, set_upds ho2, set_upds0 ho2, look_upds ho2, look_upds0 ho2, set_upds ho3, set_upds0 ho3, look_upds ho3, look_upds0 ho3, mo0o1, mo0o2, mo0o3, mo1o0, mo1o2, mo1o3, mo2o0, mo2o1, mo2o3, mo3o0, mo3o1, mo3o2]
          (repeat refine awp_seq ?_); refine awp_ret ?_
          try simp only [go_sem, set_upds ho0, set_upds0 ho0, look_upds ho0, look_upds0 ho0, set_upds ho1, set_upds0 ho1, look_upds ho1, look_upds0 ho1, set_upds ho2, set_upds0 ho2, look_upds ho2, look_upds0 ho2, set_upds ho3, set_upds0 ho3, look_upds ho3, look_upds0 ho3, mo0o1, mo0o2, mo0o3, mo1o0, mo1o2, mo1o3, mo2o0, mo2o1, mo2o3, mo3o0, mo3o1, mo3o2]
          have hr := Option.some.inj h
          refine finb_of ?_; simp only [go_sem, set_upds ho0, set_upds0 ho0, look_upds ho0, look_upds0 ho0, set_upds ho1, set_upds0 ho1, look_upds ho1, look_upds0 ho1, set_upds ho2, set_upds0 ho2, look_upds ho2, look_upds0 ho2, set_upds ho3, set_upds0 ho3, look_upds ho3, look_upds0 ho3, mo0o1, mo0o2, mo0o3, mo1o0, mo1o2, mo1o3, mo2o0, mo2o1, mo2o3, mo3o0, mo3o1, mo3o2]
          exact finu_same (d' := .bool true) (by simp) (upds_sc hsc (by simp <;> omega)) (.same _) (by simp <;> omega) ⟨by subst hr; rfl, by subst hr; rfl⟩
    · (repeat refine awp_seq ?_); refine awp_cond (by rfl) (fun hc => ?_) fun hc => ?_
      · replace h := cond_t h (by first | exact hc | simpa using hc)
        obtain ⟨⟨f1, f2⟩, h⟩ := chk_some h
        (repeat refine awp_seq ?_); refine ev_region ?_; simp only [go_sem, set_upds ho0, set_upds0 ho0, look_upds ho0, look_upds0 ho0, set_upds ho1, set_upds0 ho1, look_upds ho1, look_upds0 ho1, set_upds ho2, set_upds0 ho2, look_upds ho2, look_upds0 ho2, set_upds ho3, set_upds0 ho3, look_upds ho3, look_upds0 ho3, mo0o1, mo0o2, mo0o3, mo1o0, mo1o2, mo1o3, mo2o0, mo2o1, mo2o3, mo3o0, mo3o1, mo3o2, f1, f2]
        exact hj0 () _ _ _ h (bku_mk (by simp) (upds_sc hsc (by simp <;> omega)) (.live _ _ _ _ (.same _) (.live _ _ _ _ (.same _) (.nil _))) (by simp <;> omega) ⟨.same _, .same _, .same _, .same _, trivial⟩ (by simp <;> omega))
      · replace h := cond_f h (by first | exact hc | simpa using hc)
        obtain ⟨⟨f3, f4⟩, h⟩ := chk_some h
        (repeat refine awp_seq ?_); refine ev_region ?_; simp only [go_sem, set_upds ho0, set_upds0 ho0, look_upds ho0, look_upds0 ho0, set_upds ho1, set_upds0 ho1, look_upds ho1, look_upds0 ho1, set_upds ho2, set_upds0 ho2, look_upds ho2, look_upds0 ho2, set_upds ho3, set_upds0 ho3, look_upds ho3, look_upds0 ho3, mo0o1, mo0o2, mo0o3, mo1o0, mo1o2, mo1o3, mo2o0, mo2o1, mo2o3, mo3o0, mo3o1, mo3o2, f3, f4]
        exact hj0 () _ _ _ h (bku_mk (by simp) (upds_sc hsc (by simp <;> omega)) (.live _ _ _ _ (.same _) (.live _ _ _ _ (.same _) (.nil _))) (by simp <;> omega) ⟨.same _, .same _, .same _, .same _, trivial⟩ (by simp <;> omega))

set_option maxHeartbeats 2000000 in
set_option maxRecDepth 100000 in
theorem ok_trainProbability_2 (n : Nat) (a0 : (List ApiFrac)) (a1 : (List ApiFrac)) (a2 : ApiTree) (r : ApiFrac × Bool) (h : trainProbability_2 n a0 a1 a2 = some r) : Pure Tryd.prog gl 27 [.sl false 2 16 (rows ApiFrac.cells a0), .sl false 2 16 (rows ApiFrac.cells a1), .agg [.int .i64 a2.rule, .int .i64 a2.lex, .sl false 3 40 (rows ApiTree.cells a2.kids)]] (.tup [.agg [.int .i64 r.1.num, .int .i64 r.1.den], .bool r.2]) := by
  intro st
  unfold trainProbability_2 at h
  refine spec_fb (N := 18) (rs := [.cell 6 49, .tmp 7]) (keep := [0, 1, 2, 3, 4, 5, 6, 7, 8, 9, 15]) Tryd.func27 rfl rfl rfl (by kernel_rfl) rfl fun hsc => ?_
  (repeat refine awp_seq ?_); refine ev_region ?_; simp only [go_sem]
  (repeat refine awp_seq ?_); refine ev_region ?_; simp only [go_sem]
  (repeat refine awp_seq ?_); refine ev_region ?_; simp only [go_sem]
  (repeat refine awp_seq ?_); refine ev_region ?_; simp only [go_sem]
  (repeat refine awp_seq ?_); refine ev_region ?_; simp only [go_sem]
  obtain ⟨v1, hv1, h⟩ := bind_some h
  refine (ok_trainProbability1 n _ _ _ _ _ _ hv1 _ _ _ _ _ (by simp) (look_new.trans rfl) (look_new0.trans rfl) (look_new.trans rfl) (look_new.trans rfl)).mono ?_
  rintro d1 st1 ⟨rfl, rfl⟩
  try simp only [go_sem]
  (repeat refine awp_seq ?_); refine awp_cond (by rfl) (fun hc => ?_) fun hc => ?_
  · replace h := cond_t h (by first | exact hc | simpa using hc)
    (repeat refine awp_seq ?_); refine ev_region ?_; simp only [go_sem]
    (repeat refine awp_seq ?_); refine awp_ret ?_
    try simp only [go_sem]
    have hr := Option.some.inj h
    refine finb_of ?_; simp only [go_sem]
    exact fin_old' (d' := .tup [.agg [.int .i64 0, .int .i64 0], .bool false]) hsc (.same _) (by simp) ⟨by subst hr; rfl, rfl⟩
  · replace h := cond_f h (by first | exact hc | simpa using hc)
    refine awp_skip ?_; try simp only [go_sem]
    (repeat refine awp_seq ?_); refine ev_region ?_; simp only [go_sem]
    (repeat refine awp_seq ?_); refine awp_ret ?_
    try simp only [go_sem]
    have hr := Option.some.inj h
    refine finb_of ?_; simp only [go_sem]
    exact fin_old' (d' := .tup [.agg [.int .i64 v1.2.1, .int .i64 v1.2.2], .bool true]) hsc (.same _) (by simp) ⟨by subst hr; rfl, rfl⟩

set_option maxHeartbeats 2000000 in
set_option maxRecDepth 100000 in
theorem ok_trainProbability (n : Nat) (a0 : ApiGrammar) (a1 : ApiCounts) (a2 : ApiTree) (r : ApiFrac × ApiFault) (h : trainProbability n a0 a1 a2 = some r) : Pure Tryd.prog gl 9 [.agg [.sl false 2 40 (rows ApiType.cells a0.hierarchy.types), .sl false 3 32 (rows ApiFeat.cells a0.hierarchy.feats), .sl false 10 152 (rows ApiRule.cells a0.rules), .sl false 9 144 (rows ApiLex.cells a0.lexes), .sl false 2 32 (rows ApiNode.cells a0.start.nodes)], .agg [.sl false 1 8 (rows i64c a1.rules), .sl false 1 8 (rows i64c a1.lexes)], .agg [.int .i64 a2.rule, .int .i64 a2.lex, .sl false 3 40 (rows ApiTree.cells a2.kids)]] (.tup [.agg [.int .i64 r.1.num, .int .i64 r.1.den], .agg [.int .i64 r.2.code, .int .i64 r.2.index]]) := by
  intro st
  unfold trainProbability at h
  refine spec_fb (N := 49) (rs := [.cell 6 49, .cell 7 41]) (keep := [0, 1, 2, 3, 4, 5, 6, 7, 8, 9, 10, 11, 12, 13, 19, 27, 44]) Tryd.func9 rfl rfl rfl (by kernel_rfl) rfl fun hsc => ?_
  (repeat refine awp_seq ?_); refine ev_region ?_; simp only [go_sem]
  (repeat refine awp_seq ?_); refine ev_region ?_; simp only [go_sem]
  obtain ⟨v1, hv1, h⟩ := bind_some h
  refine ((ok_trainCheck n _ _ _ hv1)).to ?_
  try simp only [go_sem]
  (repeat refine awp_seq ?_); refine ev_region ?_; simp only [go_sem]
  (repeat refine awp_seq ?_); refine awp_cond (by rfl) (fun hc => ?_) fun hc => ?_
  · replace h := cond_t h (by first | exact hc | simpa using hc)
    (repeat refine awp_seq ?_); refine ev_draw_region [1, 2] 0 follows (by kernel_rfl) (by rfl) ?_; simp only [go_sem, List.replicate_succ, List.replicate_zero]
    try refine ⟨by (simp <;> omega), ?_⟩
    (repeat refine awp_seq ?_); refine awp_ret ?_
    try simp only [go_sem]
    have hr := Option.some.inj h
    refine finb_of ?_; simp only [go_sem]
    exact fin_old' (d' := .tup [.agg [.int .i64 0, .int .i64 0], .agg [.int .i64 v1.code, .int .i64 v1.index]]) hsc (.same _) (by simp) ⟨by subst hr; rfl, rfl⟩
  · replace h := cond_f h (by first | exact hc | simpa using hc)
    refine awp_skip ?_; try simp only [go_sem]
    (repeat refine awp_seq ?_); refine ev_region ?_; simp only [go_sem]
    obtain ⟨v2, hv2, h⟩ := bind_some h
    refine ((ok_deriveFits n _ _ _ hv2)).to ?_
    try simp only [go_sem]
    (repeat refine awp_seq ?_); refine ev_region ?_; simp only [go_sem]
    (repeat refine awp_seq ?_); refine awp_cond (by rfl) (fun hc => ?_) fun hc => ?_
    · replace h := cond_t h (by first | exact hc | simpa using hc)
      (repeat refine awp_seq ?_); refine ev_draw_region [1, 2] 0 follows (by kernel_rfl) (by rfl) ?_; simp only [go_sem, List.replicate_succ, List.replicate_zero]
      try refine ⟨by (simp <;> omega), ?_⟩
      (repeat refine awp_seq ?_); refine awp_ret ?_
      try simp only [go_sem]
      have hr := Option.some.inj h
      refine finb_of ?_; simp only [go_sem]
      exact fin_old' (d' := .tup [.agg [.int .i64 0, .int .i64 0], .agg [.int .i64 v2.code, .int .i64 v2.index]]) hsc (.same _) (by simp) ⟨by subst hr; rfl, rfl⟩
    · replace h := cond_f h (by first | exact hc | simpa using hc)
      refine awp_skip ?_; try simp only [go_sem]
      (repeat refine awp_seq ?_); refine ev_region ?_; simp only [go_sem]
      obtain ⟨v3, hv3, h⟩ := bind_some h
      refine ((ok_trainWeights n _ _ _ hv3)).to ?_
      try simp only [go_sem]
      (repeat refine awp_seq ?_); refine ev_region ?_; simp only [go_sem]
      obtain ⟨v4, hv4, h⟩ := bind_some h
      refine ((ok_trainProbability_2 n _ _ _ _ hv4)).to ?_
      try simp only [go_sem]
      (repeat refine awp_seq ?_); refine ev_region ?_; simp only [go_sem]
      (repeat refine awp_seq ?_); refine awp_cond (by rfl) (fun hc => ?_) fun hc => ?_
      · replace h := cond_t h (by first | exact hc | simpa using hc)
        (repeat refine awp_seq ?_); refine ev_region ?_; simp only [go_sem]
        obtain ⟨v5, hv5, h⟩ := bind_some h
        refine ((ok_trainFault _ _ _ hv5)).to ?_
        try simp only [go_sem]
        (repeat refine awp_seq ?_); refine awp_ret ?_
        try simp only [go_sem]
        have hr := Option.some.inj h
        refine finb_of ?_; simp only [go_sem]
        exact fin_old' (d' := .tup [.agg [.int .i64 0, .int .i64 0], .agg [.int .i64 v5.code, .int .i64 v5.index]]) hsc (.same _) (by simp) ⟨by subst hr; rfl, rfl⟩
      · replace h := cond_f h (by first | exact hc | simpa using hc)
        refine awp_skip ?_; try simp only [go_sem]
        (repeat refine awp_seq ?_); refine ev_region ?_; simp only [go_sem]
        (repeat refine awp_seq ?_); refine awp_ret ?_
        try simp only [go_sem]
        have hr := Option.some.inj h
        refine finb_of ?_; simp only [go_sem]
        exact fin_old' (d' := .tup [.agg [.int .i64 v4.1.num, .int .i64 v4.1.den], .agg [.int .i64 0, .int .i64 0]]) hsc (.same _) (by simp) ⟨by subst hr; rfl, rfl⟩


end Go.Proofs.YtaohdfpcdfbnlaaDoor

