/-
  Each Go function of this part does what its plain Lean function says.
-/
import Derived.Test.YtaohdfpcdfbnlaaDoorBase
import Derived.Test.YtaohdfpcdfbnlaaDoorHand
import Derived.Test.YtaohdfpcdfbnlaaDoorMirrors
import Derived.Test.YtaohdfpcdfbnlaaDoorWalk10
import Derived.Test.YtaohdfpcdfbnlaaDoorWalk9
set_option linter.unusedVariables false
set_option linter.unusedSimpArgs false
namespace Go.Proofs.YtaohdfpcdfbnlaaDoor
open Go Go.Am

set_option maxHeartbeats 2000000 in
set_option maxRecDepth 100000 in
theorem ok_deriveFits (n : Nat) (a0 : ApiGrammar) (a1 : ApiTree) (r : ApiFault) (h : deriveFits n a0 a1 = some r) : Pure Tryd.prog gl 13 [.agg [.sl false 2 40 (rows ApiType.cells a0.hierarchy.types), .sl false 3 32 (rows ApiFeat.cells a0.hierarchy.feats), .sl false 10 152 (rows ApiRule.cells a0.rules), .sl false 9 144 (rows ApiLex.cells a0.lexes), .sl false 2 32 (rows ApiNode.cells a0.start.nodes)], .agg [.int .i64 a1.rule, .int .i64 a1.lex, .sl false 3 40 (rows ApiTree.cells a1.kids)]] (.agg [.int .i64 r.code, .int .i64 r.index]) := by
  intro st
  unfold deriveFits at h
  refine spec_fb (N := 21) (rs := [.cell 4 41]) (keep := [0, 1, 2, 3, 4, 5, 6, 7, 8, 15, 18]) Tryd.func13 rfl rfl rfl (by kernel_rfl) rfl fun hsc => ?_
  (repeat refine awp_seq ?_); refine ev_region ?_; simp only [go_sem]
  (repeat refine awp_seq ?_); refine ev_region ?_; simp only [go_sem]
  (repeat refine awp_seq ?_); refine ev_region ?_; simp only [go_sem]
  (repeat refine awp_seq ?_); refine ev_region ?_; simp only [go_sem]
  (repeat refine awp_seq ?_); refine ev_region ?_; simp only [go_sem]
  obtain ⟨v1, hv1, h⟩ := bind_some h
  refine (ok_deriveFits1 n _ _ _ _ _ _ _ _ _ _ _ hv1 _ _ _ _ _ (by simp) (look_new.trans rfl) (look_new0.trans rfl) (look_new.trans rfl) (look_new.trans rfl)).mono ?_
  rintro d1 st1 ⟨rfl, rfl⟩
  try simp only [go_sem]
  (repeat refine awp_seq ?_); refine ev_region ?_; simp only [go_sem]
  (repeat refine awp_seq ?_); refine awp_cond (by rfl) (fun hc => ?_) fun hc => ?_
  · replace h := cond_t h (by first | exact hc | simpa using hc)
    (repeat refine awp_seq ?_); refine ev_region ?_; simp only [go_sem]
    (repeat refine awp_seq ?_); refine awp_ret ?_
    try simp only [go_sem]
    have hr := Option.some.inj h
    refine finb_of ?_; simp only [go_sem]
    exact fin_old' (d' := .agg [.int .i64 v1.1.code, .int .i64 v1.1.index]) hsc (.same _) (by simp) ⟨by subst hr; rfl, rfl⟩
  · replace h := cond_f h (by first | exact hc | simpa using hc)
    refine awp_skip ?_; try simp only [go_sem]
    (repeat refine awp_seq ?_); refine ev_region ?_; simp only [go_sem]
    (repeat refine awp_seq ?_); refine awp_cond (by rfl) (fun hc => ?_) fun hc => ?_
    · replace h := cond_t h (by first | exact hc | simpa using hc)
      (repeat refine awp_seq ?_); refine ev_region ?_; simp only [go_sem]
      obtain ⟨v2, hv2, h⟩ := bind_some h
      refine ((ok_deriveFault _ _ _ hv2)).to ?_
      try simp only [go_sem]
      (repeat refine awp_seq ?_); refine awp_ret ?_
      try simp only [go_sem]
      have hr := Option.some.inj h
      refine finb_of ?_; simp only [go_sem]
      exact fin_old' (d' := .agg [.int .i64 v2.code, .int .i64 v2.index]) hsc (.same _) (by simp) ⟨by subst hr; rfl, rfl⟩
    · replace h := cond_f h (by first | exact hc | simpa using hc)
      refine awp_skip ?_; try simp only [go_sem]
      (repeat refine awp_seq ?_); refine ev_region ?_; simp only [go_sem]
      (repeat refine awp_seq ?_); refine awp_ret ?_
      try simp only [go_sem]
      have hr := Option.some.inj h
      refine finb_of ?_; simp only [go_sem]
      exact fin_old' (d' := .agg [.int .i64 0, .int .i64 0]) hsc (.same _) (by simp) ⟨by subst hr; rfl, rfl⟩

set_option maxHeartbeats 2000000 in
set_option maxRecDepth 100000 in
theorem ok_trainCount1 : ∀ (n : Nat) (a0 : ApiTree) (l1 : (List Int)) (l2 : (List Int)) (r : (List Int) × (List Int)) (h : trainCount1 n a0 l1 l2 = some r), ∀ (st : St) (o0 o1 o2 o3 q1 q2 : Nat) (hnd : [o0, o1, o2, o3].Nodup) (hlo0 : Am.look st o0 = some (.arr 0 2 0 [[.ref true o1 q1 0 l1.length, .ref true o2 q2 0 l2.length]])) (hlo1 : Am.look st o1 = some (.arr q1 1 8 (rows i64c l1))) (hlo2 : Am.look st o2 = some (.arr q2 1 8 (rows i64c l2))) (hlo3 : Am.look st o3 = some (.arr 0 1 0 [[.fn 12 [] [.ptr o0 0 0 0, .ptr o3 0 0 0]]])), Am.Spec Tryd.prog gl 12 [.agg [.int .i64 a0.rule, .int .i64 a0.lex, .sl false 3 40 (rows ApiTree.cells a0.kids)], .ptr o0 0 0 0, .ptr o3 0 0 0] st (fun d st' => d = .tup [] ∧ st' = puts st [(o0, (.arr 0 2 0 [[.ref true o1 q1 0 r.1.length, .ref true o2 q2 0 r.2.length]])), (o1, (.arr q1 1 8 (rows i64c r.1))), (o2, (.arr q2 1 8 (rows i64c r.2))), (o3, (.arr 0 1 0 [[.fn 12 [] [.ptr o0 0 0 0, .ptr o3 0 0 0]]]))]) := by
  intro n
  induction n with
  | zero => intro a0 l1 l2 r h; cases h
  | succ n ih =>
    intro a0 l1 l2 r h st o0 o1 o2 o3 q1 q2 hnd hlo0 hlo1 hlo2 hlo3
    unfold trainCount1 at h
    have ho0 := look_lt hlo0
    have ho1 := look_lt hlo1
    have ho2 := look_lt hlo2
    have ho3 := look_lt hlo3
    have hnd0 := hnd
    simp only [List.nodup_cons, List.mem_cons, List.not_mem_nil, or_false, not_or, not_false_eq_true, List.nodup_nil, and_true] at hnd0
    obtain ⟨⟨no0o1, no0o2, no0o3⟩, ⟨no1o2, no1o3⟩, no2o3⟩ := hnd0
    have mo0o1 : (o0 = o1) = False := eq_false no0o1
    have mo1o0 : (o1 = o0) = False := eq_false (fun e => no0o1 e.symm)
    have mo0o2 : (o0 = o2) = False := eq_false no0o2
    have mo2o0 : (o2 = o0) = False := eq_false (fun e => no0o2 e.symm)
    have mo0o3 : (o0 = o3) = False := eq_false no0o3
    have mo3o0 : (o3 = o0) = False := eq_false (fun e => no0o3 e.symm)
    have mo1o2 : (o1 = o2) = False := eq_false no1o2
    have mo2o1 : (o2 = o1) = False := eq_false (fun e => no1o2 e.symm)
    have mo1o3 : (o1 = o3) = False := eq_false no1o3
    have mo3o1 : (o3 = o1) = False := eq_false (fun e => no1o3 e.symm)
    have mo2o3 : (o2 = o3) = False := eq_false no2o3
    have mo3o2 : (o3 = o2) = False := eq_false (fun e => no2o3 e.symm)
    refine spec_fb (N := 36) (rs := []) (keep := [0, 1, 2, 3, 5, 8, 26, 27, 28, 29]) Tryd.func12 rfl rfl rfl (by kernel_rfl) rfl fun hsc => ?_
    refine awp_st (s' := (upds st [(o0, (.arr 0 2 0 [[.ref true o1 q1 0 l1.length, .ref true o2 q2 0 l2.length]])), (o1, (.arr q1 1 8 (rows i64c l1))), (o2, (.arr q2 1 8 (rows i64c l2))), (o3, (.arr 0 1 0 [[.fn 12 [] [.ptr o0 0 0 0, .ptr o3 0 0 0]]]))])) (upds_self (by simp [hlo0, hlo1, hlo2, hlo3])) ?_
    (repeat refine awp_seq ?_); refine ev_region ?_; simp only [go_sem, set_upds ho0, set_upds0 ho0, look_upds ho0, look_upds0 ho0, set_upds ho1, set_upds0 ho1, look_upds ho1, look_upds0 ho1, set_upds ho2, set_upds0 ho2, look_upds ho2, look_upds0 ho2, set_upds ho3, set_upds0 ho3, look_upds ho3, look_upds0 ho3, mo0o1, mo0o2, mo0o3, mo1o0, mo1o2, mo1o3, mo2o0, mo2o1, mo2o3, mo3o0, mo3o1, mo3o2]
    (repeat refine awp_seq ?_); refine ev_region ?_; simp only [go_sem, set_upds ho0, set_upds0 ho0, look_upds ho0, look_upds0 ho0, set_upds ho1, set_upds0 ho1, look_upds ho1, look_upds0 ho1, set_upds ho2, set_upds0 ho2, look_upds ho2, look_upds0 ho2, set_upds ho3, set_upds0 ho3, look_upds ho3, look_upds0 ho3, mo0o1, mo0o2, mo0o3, mo1o0, mo1o2, mo1o3, mo2o0, mo2o1, mo2o3, mo3o0, mo3o1, mo3o2]
    (repeat refine awp_seq ?_); refine awp_jn (trainCount1_j0 (trainCount1 n) a0) r (fun (gj0 : Unit) (j0 : (List Int) × (List Int)) => [(2, .ptr o3 0 0 0), (3, .ptr st.length 0 0 0)]) (fun (gj0 : Unit) (j0 : (List Int) × (List Int)) => (upds st [(o0, (.arr 0 2 0 [[.ref true o1 q1 0 j0.1.length, .ref true o2 q2 0 j0.2.length]])), (o1, (.arr q1 1 8 (rows i64c j0.1))), (o2, (.arr q2 1 8 (rows i64c j0.2))), (o3, (.arr 0 1 0 [[.fn 12 [] [.ptr o0 0 0 0, .ptr o3 0 0 0]]]))]) ++ [some (.arr 0 3 0 [[.int .i64 a0.rule, .int .i64 a0.lex, .sl false 3 40 (rows ApiTree.cells a0.kids)]])]) (fun gj0 j0 fr1 st1 h hb => ?_) (fun hj0 => ?_)
    · try simp only [go_sem, set_upds ho0, set_upds0 ho0, look_upds ho0, look_upds0 ho0, set_upds ho1, set_upds0 ho1, look_upds ho1, look_upds0 ho1, set_upds ho2, set_upds0 ho2, look_upds ho2, look_upds0 ho2, set_upds ho3, set_upds0 ho3, look_upds ho3, look_upds0 ho3, mo0o1, mo0o2, mo0o3, mo1o0, mo1o2, mo1o3, mo2o0, mo2o1, mo2o3, mo3o0, mo3o1, mo3o2]
      unfold trainCount1_j0 at h
      refine awp_bks hb ?_
      (repeat refine awp_seq ?_); refine ev_region ?_; simp only [go_sem, set_upds ho0, set_upds0 ho0, look_upds ho0, look_upds0 ho0, set_upds ho1, set_upds0 ho1, look_upds ho1, look_upds0 ho1, set_upds ho2, set_upds0 ho2, look_upds ho2, look_upds0 ho2, set_upds ho3, set_upds0 ho3, look_upds ho3, look_upds0 ho3, mo0o1, mo0o2, mo0o3, mo1o0, mo1o2, mo1o3, mo2o0, mo2o1, mo2o3, mo3o0, mo3o1, mo3o2]
      (repeat refine awp_seq ?_); refine awp_len (t := 26) rfl fun hl1 => ?_
      simp only [rows_len] at hl1
      (repeat refine awp_seq ?_); refine awp_range (body := trainCount1_b1 (trainCount1 n) a0) (kk := trainCount1_a1) (n := a0.kids.length) (s0 := (j0.1, j0.2))
        (fun (gs1 : Unit) (k1 : Nat) (s1 : (List Int) × (List Int)) => [(2, .ptr o3 0 0 0), (26, .sl false 3 40 (rows ApiTree.cells a0.kids)), (27, .int .i64 (↑a0.kids.length : Int)), (28, .int .i64 (↑k1 : Int))])
        (fun (gs1 : Unit) (k1 : Nat) (s1 : (List Int) × (List Int)) => (upds st [(o0, (.arr 0 2 0 [[.ref true o1 q1 0 s1.1.length, .ref true o2 q2 0 s1.2.length]])), (o1, (.arr q1 1 8 (rows i64c s1.1))), (o2, (.arr q2 1 8 (rows i64c s1.2))), (o3, (.arr 0 1 0 [[.fn 12 [] [.ptr o0 0 0 0, .ptr o3 0 0 0]]]))]))
        (fun (gt1 : Unit) (t1 : (List Int) × (List Int)) => [])
        (fun (gt1 : Unit) (t1 : (List Int) × (List Int)) => (upds st [(o0, (.arr 0 2 0 [[.ref true o1 q1 0 t1.1.length, .ref true o2 q2 0 t1.2.length]])), (o1, (.arr q1 1 8 (rows i64c t1.1))), (o2, (.arr q2 1 8 (rows i64c t1.2))), (o3, (.arr 0 1 0 [[.fn 12 [] [.ptr o0 0 0 0, .ptr o3 0 0 0]]]))]))
        () h (bku_mk0 (by simp) (upds_sc hsc (by simp <;> omega)) ⟨.same _, .same _, .same _, .same _, trivial⟩ (by simp <;> omega))
        (fun gs1 k1 s1 b1 hk1 h hx1 => ?_) (fun gs1 s1 => ?_) (fun gt1 t1 fr1 st1 h hb => ?_)
      · unfold trainCount1_b1 at h
        have hw1 : wr .i64 ((↑k1 : Int) + 1) = (↑(k1 + 1) : Int) := wr_succ hk1 hl1 (by decide)
        (repeat refine awp_seq ?_); refine ev_region ?_; simp only [go_sem, set_upds ho0, set_upds0 ho0, look_upds ho0, look_upds0 ho0, set_upds ho1, set_upds0 ho1, look_upds ho1, look_upds0 ho1, set_upds ho2, set_upds0 ho2, look_upds ho2, look_upds0 ho2, set_upds ho3, set_upds0 ho3, look_upds ho3, look_upds0 ho3, mo0o1, mo0o2, mo0o3, mo1o0, mo1o2, mo1o3, mo2o0, mo2o1, mo2o3, mo3o0, mo3o1, mo3o2]
        (repeat refine awp_seq ?_); refine awp_cond (by rfl) (fun hc => ?_) fun hc => ?_
        · refine awp_skip ?_; try simp only [go_sem, set_upds ho0, set_upds0 ho0, look_upds ho0, look_upds0 ho0, set_upds ho1, set_upds0 ho1, look_upds ho1, look_upds0 ho1, set_upds ho2, set_upds0 ho2, look_upds ho2, look_upds0 ho2, set_upds ho3, set_upds0 ho3, look_upds ho3, look_upds0 ho3, mo0o1, mo0o2, mo0o3, mo1o0, mo1o2, mo1o3, mo2o0, mo2o1, mo2o3, mo3o0, mo3o1, mo3o2]
          (repeat refine awp_seq ?_); refine awp_block ?_
          (repeat refine awp_seq ?_); refine ev_region ?_; simp only [go_sem, set_upds ho0, set_upds0 ho0, look_upds ho0, look_upds0 ho0, set_upds ho1, set_upds0 ho1, look_upds ho1, look_upds0 ho1, set_upds ho2, set_upds0 ho2, look_upds ho2, look_upds0 ho2, set_upds ho3, set_upds0 ho3, look_upds ho3, look_upds0 ho3, mo0o1, mo0o2, mo0o3, mo1o0, mo1o2, mo1o3, mo2o0, mo2o1, mo2o3, mo3o0, mo3o1, mo3o2, hk1, hw1]
          (repeat refine awp_seq ?_); refine ev_region ?_; simp only [go_sem, set_upds ho0, set_upds0 ho0, look_upds ho0, look_upds0 ho0, set_upds ho1, set_upds0 ho1, look_upds ho1, look_upds0 ho1, set_upds ho2, set_upds0 ho2, look_upds ho2, look_upds0 ho2, set_upds ho3, set_upds0 ho3, look_upds ho3, look_upds0 ho3, mo0o1, mo0o2, mo0o3, mo1o0, mo1o2, mo1o3, mo2o0, mo2o1, mo2o3, mo3o0, mo3o1, mo3o2, hk1, hw1]
          obtain ⟨v20, hv20, h⟩ := bind_some h
          refine (ih _ _ _ _ hv20 _ _ _ _ _ q1 q2 hnd (by simp only [go_sem, set_upds ho0, set_upds0 ho0, look_upds ho0, look_upds0 ho0, set_upds ho1, set_upds0 ho1, look_upds ho1, look_upds0 ho1, set_upds ho2, set_upds0 ho2, look_upds ho2, look_upds0 ho2, set_upds ho3, set_upds0 ho3, look_upds ho3, look_upds0 ho3, mo0o1, mo0o2, mo0o3, mo1o0, mo1o2, mo1o3, mo2o0, mo2o1, mo2o3, mo3o0, mo3o1, mo3o2, hk1, hw1]) (by simp only [go_sem, set_upds ho0, set_upds0 ho0, look_upds ho0, look_upds0 ho0, set_upds ho1, set_upds0 ho1, look_upds ho1, look_upds0 ho1, set_upds ho2, set_upds0 ho2, look_upds ho2, look_upds0 ho2, set_upds ho3, set_upds0 ho3, look_upds ho3, look_upds0 ho3, mo0o1, mo0o2, mo0o3, mo1o0, mo1o2, mo1o3, mo2o0, mo2o1, mo2o3, mo3o0, mo3o1, mo3o2, hk1, hw1]) (by simp only [go_sem, set_upds ho0, set_upds0 ho0, look_upds ho0, look_upds0 ho0, set_upds ho1, set_upds0 ho1, look_upds ho1, look_upds0 ho1, set_upds ho2, set_upds0 ho2, look_upds ho2, look_upds0 ho2, set_upds ho3, set_upds0 ho3, look_upds ho3, look_upds0 ho3, mo0o1, mo0o2, mo0o3, mo1o0, mo1o2, mo1o3, mo2o0, mo2o1, mo2o3, mo3o0, mo3o1, mo3o2, hk1, hw1]) (by simp only [go_sem, set_upds ho0, set_upds0 ho0, look_upds ho0, look_upds0 ho0, set_upds ho1, set_upds0 ho1, look_upds ho1, look_upds0 ho1, set_upds ho2, set_upds0 ho2, look_upds ho2, look_upds0 ho2, set_upds ho3, set_upds0 ho3, look_upds ho3, look_upds0 ho3, mo0o1, mo0o2, mo0o3, mo1o0, mo1o2, mo1o3, mo2o0, mo2o1, mo2o3, mo3o0, mo3o1, mo3o2, hk1, hw1])).mono ?_
          rintro d1 st1 ⟨rfl, rfl⟩
          try simp only [go_sem, set_upds ho0, set_upds0 ho0, look_upds ho0, look_upds0 ho0, set_upds ho1, set_upds0 ho1, look_upds ho1, look_upds0 ho1, set_upds ho2, set_upds0 ho2, look_upds ho2, look_upds0 ho2, set_upds ho3, set_upds0 ho3, look_upds ho3, look_upds0 ho3, mo0o1, mo0o2, mo0o3, mo1o0, mo1o2, mo1o3, mo2o0, mo2o1, mo2o3, mo3o0, mo3o1, mo3o2, hk1, hw1]
          (repeat refine awp_seq ?_); refine ev_region ?_; simp only [go_sem, set_upds ho0, set_upds0 ho0, look_upds ho0, look_upds0 ho0, set_upds ho1, set_upds0 ho1, look_upds ho1, look_upds0 ho1, set_upds ho2, set_upds0 ho2, look_upds ho2, look_upds0 ho2, set_upds ho3, set_upds0 ho3, look_upds ho3, look_upds0 ho3, mo0o1, mo0o2, mo0o3, mo1o0, mo1o2, mo1o3, mo2o0, mo2o1, mo2o3, mo3o0, mo3o1, mo3o2, hk1, hw1]
          cases h
          exact pbr_nxt () (bku_mk0 (by simp) (upds_sc hsc (by simp <;> omega)) ⟨.same _, .same _, .same _, .same _, trivial⟩ (by simp <;> omega))
        · exfalso; have hc := of_decide_eq_false hc; omega
      · (repeat refine awp_seq ?_); refine ev_region ?_; simp only [go_sem, set_upds ho0, set_upds0 ho0, look_upds ho0, look_upds0 ho0, set_upds ho1, set_upds0 ho1, look_upds ho1, look_upds0 ho1, set_upds ho2, set_upds0 ho2, look_upds ho2, look_upds0 ho2, set_upds ho3, set_upds0 ho3, look_upds ho3, look_upds0 ho3, mo0o1, mo0o2, mo0o3, mo1o0, mo1o2, mo1o3, mo2o0, mo2o1, mo2o3, mo3o0, mo3o1, mo3o2]
        (repeat refine awp_seq ?_); refine awp_cond (by rfl) (fun hc => ?_) fun hc => ?_
        · exfalso; first | exact Bool.noConfusion hc | (have hc := of_decide_eq_true hc; omega)
        · refine awp_exit ?_; simp only [go_sem, set_upds ho0, set_upds0 ho0, look_upds ho0, look_upds0 ho0, set_upds ho1, set_upds0 ho1, look_upds ho1, look_upds0 ho1, set_upds ho2, set_upds0 ho2, look_upds ho2, look_upds0 ho2, set_upds ho3, set_upds0 ho3, look_upds ho3, look_upds0 ho3, mo0o1, mo0o2, mo0o3, mo1o0, mo1o2, mo1o3, mo2o0, mo2o1, mo2o3, mo3o0, mo3o1, mo3o2]
          exact ⟨(), (bku_mk00 (by simp) (upds_sc hsc (by simp <;> omega)) trivial (by simp <;> omega))⟩
      · try simp only [go_sem, set_upds ho0, set_upds0 ho0, look_upds ho0, look_upds0 ho0, set_upds ho1, set_upds0 ho1, look_upds ho1, look_upds0 ho1, set_upds ho2, set_upds0 ho2, look_upds ho2, look_upds0 ho2, set_upds ho3, set_upds0 ho3, look_upds ho3, look_upds0 ho3, mo0o1, mo0o2, mo0o3, mo1o0, mo1o2, mo1o3, mo2o0, mo2o1, mo2o3, mo3o0, mo3o1, mo3o2]
        unfold trainCount1_a1 at h
        try simp only [go_sem, set_upds ho0, set_upds0 ho0, look_upds ho0, look_upds0 ho0, set_upds ho1, set_upds0 ho1, look_upds ho1, look_upds0 ho1, set_upds ho2, set_upds0 ho2, look_upds ho2, look_upds0 ho2, set_upds ho3, set_upds0 ho3, look_upds ho3, look_upds0 ho3, mo0o1, mo0o2, mo0o3, mo1o0, mo1o2, mo1o3, mo2o0, mo2o1, mo2o3, mo3o0, mo3o1, mo3o2]
        have hr := Option.some.inj h
        refine finb_bks hb ?_
        refine finb_ofn ?_; simp only [go_sem, set_upds ho0, set_upds0 ho0, look_upds ho0, look_upds0 ho0, set_upds ho1, set_upds0 ho1, look_upds ho1, look_upds0 ho1, set_upds ho2, set_upds0 ho2, look_upds ho2, look_upds0 ho2, set_upds ho3, set_upds0 ho3, look_upds ho3, look_upds0 ho3, mo0o1, mo0o2, mo0o3, mo1o0, mo1o2, mo1o3, mo2o0, mo2o1, mo2o3, mo3o0, mo3o1, mo3o2]
        exact finu_same (d' := .tup []) (by simp) (upds_sc hsc (by simp <;> omega)) (.same _) (by simp <;> omega) ⟨by subst hr; rfl, by subst hr; rfl⟩
    · (repeat refine awp_seq ?_); refine awp_cond (by rfl) (fun hc => ?_) fun hc => ?_
      · replace h := cond_t h (by first | exact hc | simpa using hc)
        obtain ⟨⟨f1, f2⟩, h⟩ := chk_some h
        have e3 : (rows i64c l2).getD a0.lex.toNat [] = i64c (get l2 a0.lex.toNat) := rows_get (E := i64c) (l := l2) (k := a0.lex.toNat) (by first | omega | (simp; omega))
        have e4 : a0.lex.toNat < l2.length := by first | omega | (simp; omega)
        have e5 : (rows i64c l2).getD a0.lex.toNat [] = i64c (get l2 a0.lex.toNat) := rows_get (E := i64c) (l := l2) (k := a0.lex.toNat) (by first | omega | (simp; omega))
        have e6 : a0.lex.toNat < l2.length := by first | omega | (simp; omega)
        obtain ⟨c7, hc7, h⟩ := let_some h
        have e8 : (rows i64c l2).set a0.lex.toNat [.int .i64 (wr .i64 ((get l2 a0.lex.toNat) + 1))] = rows i64c c7 := by rw [hc7]; first | exact rows_set (E := i64c) _ _ _ | simp only [go_sem, rows, List.map_set]
        (repeat refine awp_seq ?_); refine ev_region ?_; simp only [go_sem, set_upds ho0, set_upds0 ho0, look_upds ho0, look_upds0 ho0, set_upds ho1, set_upds0 ho1, look_upds ho1, look_upds0 ho1, set_upds ho2, set_upds0 ho2, look_upds ho2, look_upds0 ho2, set_upds ho3, set_upds0 ho3, look_upds ho3, look_upds0 ho3, mo0o1, mo0o2, mo0o3, mo1o0, mo1o2, mo1o3, mo2o0, mo2o1, mo2o3, mo3o0, mo3o1, mo3o2, f1, f2, e3, e4, e5, e6, e8]
        have e9 : D.ref true o2 q2 0 l2.length = D.ref true o2 q2 0 c7.length := by simp [hc7]
        simp only [e9]
        exact hj0 () _ _ _ h (bku_mk (by simp) (upds_sc hsc (by simp <;> omega)) (.live _ _ _ _ (.same _) (.nil _)) (by simp <;> omega) ⟨.same _, .same _, trivial⟩ (by simp <;> omega))
      · replace h := cond_f h (by first | exact hc | simpa using hc)
        obtain ⟨⟨f10, f11⟩, h⟩ := chk_some h
        have e12 : (rows i64c l1).getD a0.rule.toNat [] = i64c (get l1 a0.rule.toNat) := rows_get (E := i64c) (l := l1) (k := a0.rule.toNat) (by first | omega | (simp; omega))
        have e13 : a0.rule.toNat < l1.length := by first | omega | (simp; omega)
        have e14 : (rows i64c l1).getD a0.rule.toNat [] = i64c (get l1 a0.rule.toNat) := rows_get (E := i64c) (l := l1) (k := a0.rule.toNat) (by first | omega | (simp; omega))
        have e15 : a0.rule.toNat < l1.length := by first | omega | (simp; omega)
        obtain ⟨c16, hc16, h⟩ := let_some h
        have e17 : (rows i64c l1).set a0.rule.toNat [.int .i64 (wr .i64 ((get l1 a0.rule.toNat) + 1))] = rows i64c c16 := by rw [hc16]; first | exact rows_set (E := i64c) _ _ _ | simp only [go_sem, rows, List.map_set]
        (repeat refine awp_seq ?_); refine ev_region ?_; simp only [go_sem, set_upds ho0, set_upds0 ho0, look_upds ho0, look_upds0 ho0, set_upds ho1, set_upds0 ho1, look_upds ho1, look_upds0 ho1, set_upds ho2, set_upds0 ho2, look_upds ho2, look_upds0 ho2, set_upds ho3, set_upds0 ho3, look_upds ho3, look_upds0 ho3, mo0o1, mo0o2, mo0o3, mo1o0, mo1o2, mo1o3, mo2o0, mo2o1, mo2o3, mo3o0, mo3o1, mo3o2, f10, f11, e12, e13, e14, e15, e17]
        have e18 : D.ref true o1 q1 0 l1.length = D.ref true o1 q1 0 c16.length := by simp [hc16]
        simp only [e18]
        exact hj0 () _ _ _ h (bku_mk (by simp) (upds_sc hsc (by simp <;> omega)) (.live _ _ _ _ (.same _) (.nil _)) (by simp <;> omega) ⟨.same _, .same _, trivial⟩ (by simp <;> omega))

set_option maxHeartbeats 2000000 in
set_option maxRecDepth 100000 in
theorem ok_trainCount (n : Nat) (a0 : ApiGrammar) (l0 : (List ApiTree)) (r : ApiCounts × ApiFault) (h : trainCount n a0 l0 = some r) : ∀ (st : St) (o0 q0 : Nat) (hnd : [o0].Nodup) (hlo0 : Am.look st o0 = some (.arr q0 3 40 (rows ApiTree.cells l0))), Am.Spec Tryd.prog gl 6 [.agg [.sl false 2 40 (rows ApiType.cells a0.hierarchy.types), .sl false 3 32 (rows ApiFeat.cells a0.hierarchy.feats), .sl false 10 152 (rows ApiRule.cells a0.rules), .sl false 9 144 (rows ApiLex.cells a0.lexes), .sl false 2 32 (rows ApiNode.cells a0.start.nodes)], .ref true o0 q0 0 l0.length] st (fun d st' => d = .tup [.agg [.sl false 1 8 (rows i64c r.1.rules), .sl false 1 8 (rows i64c r.1.lexes)], .agg [.int .i64 r.2.code, .int .i64 r.2.index]] ∧ st' = puts st []) := by
  intro st o0 q0 hnd hlo0
  unfold trainCount at h
  have ho0 := look_lt hlo0
  refine spec_fb (N := 58) (rs := [.cell 4 39, .cell 5 41]) (keep := [0, 1, 2, 4, 5, 6, 7, 8, 9, 10, 11, 16, 21, 34, 35, 36, 37, 46]) Tryd.func6 rfl rfl rfl (by kernel_rfl) rfl fun hsc => ?_
  refine awp_st (s' := (upds st [(o0, (.arr q0 3 40 (rows ApiTree.cells l0)))])) (upds_self (by simp [hlo0])) ?_
  (repeat refine awp_seq ?_); refine ev_region ?_; simp only [go_sem, set_upds ho0, set_upds0 ho0, look_upds ho0, look_upds0 ho0]
  (repeat refine awp_seq ?_); refine ev_region ?_; simp only [go_sem, set_upds ho0, set_upds0 ho0, look_upds ho0, look_upds0 ho0]
  obtain ⟨v1, hv1, h⟩ := bind_some h
  refine ((ok_grammarValidate n _ _ hv1)).to ?_
  try simp only [go_sem, set_upds ho0, set_upds0 ho0, look_upds ho0, look_upds0 ho0]
  (repeat refine awp_seq ?_); refine ev_region ?_; simp only [go_sem, set_upds ho0, set_upds0 ho0, look_upds ho0, look_upds0 ho0]
  (repeat refine awp_seq ?_); refine awp_cond (by rfl) (fun hc => ?_) fun hc => ?_
  · replace h := cond_t h (by first | exact hc | simpa using hc)
    (repeat refine awp_seq ?_); refine ev_draw_region [1, 2] 0 follows (by kernel_rfl) (by rfl) ?_; simp only [go_sem, List.replicate_succ, List.replicate_zero, set_upds ho0, set_upds0 ho0, look_upds ho0, look_upds0 ho0]
    try refine ⟨by (simp <;> omega), ?_⟩
    (repeat refine awp_seq ?_); refine awp_ret ?_
    try simp only [go_sem, set_upds ho0, set_upds0 ho0, look_upds ho0, look_upds0 ho0]
    have hr := Option.some.inj h
    refine finb_of ?_; simp only [go_sem, set_upds ho0, set_upds0 ho0, look_upds ho0, look_upds0 ho0]
    exact finu_old (d' := .tup [.agg [.sl false 1 8 (rows i64c []), .sl false 1 8 (rows i64c [])], .agg [.int .i64 v1.code, .int .i64 v1.index]]) (by simp) (upds_sc hsc (by simp <;> omega)) (.tup _ _ (.cons _ _ _ _ (.agg _ _ (.cons _ _ _ _ (.nils _ _ _ (by decide)) (.cons _ _ _ _ (.nils _ _ _ (by decide)) .nil))) (.cons _ _ _ _ (.same _) .nil)) rfl) (by simp <;> omega) ⟨by subst hr; rfl, by exact upds_self (by simp [hlo0])⟩
  · replace h := cond_f h (by first | exact hc | simpa using hc)
    refine awp_skip ?_; try simp only [go_sem, set_upds ho0, set_upds0 ho0, look_upds ho0, look_upds0 ho0]
    (repeat refine awp_seq ?_); refine ev_region ?_; simp only [go_sem, set_upds ho0, set_upds0 ho0, look_upds ho0, look_upds0 ho0]
    (repeat refine awp_seq ?_); refine awp_cond (by rfl) (fun hc => ?_) fun hc => ?_
    · replace h := cond_t h (by first | exact hc | simpa using hc)
      (repeat refine awp_seq ?_); refine ev_region ?_; simp only [go_sem, set_upds ho0, set_upds0 ho0, look_upds ho0, look_upds0 ho0]
      obtain ⟨v2, hv2, h⟩ := bind_some h
      refine ((ok_trainFault _ _ _ hv2)).to ?_
      try simp only [go_sem, set_upds ho0, set_upds0 ho0, look_upds ho0, look_upds0 ho0]
      (repeat refine awp_seq ?_); refine awp_ret ?_
      try simp only [go_sem, set_upds ho0, set_upds0 ho0, look_upds ho0, look_upds0 ho0]
      have hr := Option.some.inj h
      refine finb_of ?_; simp only [go_sem, set_upds ho0, set_upds0 ho0, look_upds ho0, look_upds0 ho0]
      exact finu_old (d' := .tup [.agg [.sl false 1 8 (rows i64c []), .sl false 1 8 (rows i64c [])], .agg [.int .i64 v2.code, .int .i64 v2.index]]) (by simp) (upds_sc hsc (by simp <;> omega)) (.tup _ _ (.cons _ _ _ _ (.agg _ _ (.cons _ _ _ _ (.nils _ _ _ (by decide)) (.cons _ _ _ _ (.nils _ _ _ (by decide)) .nil))) (.cons _ _ _ _ (.same _) .nil)) rfl) (by simp <;> omega) ⟨by subst hr; rfl, by exact upds_self (by simp [hlo0])⟩
    · replace h := cond_f h (by first | exact hc | simpa using hc)
      refine awp_skip ?_; try simp only [go_sem, set_upds ho0, set_upds0 ho0, look_upds ho0, look_upds0 ho0]
      obtain ⟨⟨f3, f4⟩, h⟩ := chk_some h
      have e5 : List.replicate a0.rules.length [.int .i64 0] = rows i64c (List.replicate a0.rules.length (default : Int)) := rows_rep (E := i64c) _ default
      obtain ⟨⟨f6, f7⟩, h⟩ := chk_some h
      have e8 : List.replicate a0.lexes.length [.int .i64 0] = rows i64c (List.replicate a0.lexes.length (default : Int)) := rows_rep (E := i64c) _ default
      (repeat refine awp_seq ?_); refine ev_draw_region [] 3 follows (by kernel_rfl) (by rfl) ?_; simp only [go_sem, List.replicate_succ, List.replicate_zero, set_upds ho0, set_upds0 ho0, look_upds ho0, look_upds0 ho0, f3, f4, f6, f7, e5, e8]
      (repeat refine awp_seq ?_); refine ev_region ?_; simp only [go_sem, set_upds ho0, set_upds0 ho0, look_upds ho0, look_upds0 ho0, f3, f4, f6, f7]
      (repeat refine awp_seq ?_); refine ev_region ?_; simp only [go_sem, set_upds ho0, set_upds0 ho0, look_upds ho0, look_upds0 ho0, f3, f4, f6, f7]
      (repeat refine awp_seq ?_); refine ev_region ?_; simp only [go_sem, set_upds ho0, set_upds0 ho0, look_upds ho0, look_upds0 ho0, f3, f4, f6, f7]
      obtain ⟨f9, h⟩ := chk_some h
      (repeat refine awp_seq ?_); refine awp_range (body := trainCount_b0 n a0 l0) (kk := trainCount_a0) (n := l0.length) (s0 := ((List.replicate a0.rules.length (default : Int)), (List.replicate a0.lexes.length (default : Int))))
        (fun (gs0 : Nat × Nat) (k0 : Nat) (s0 : (List Int) × (List Int)) => [(2, .ptr st.length 0 0 0), (4, .ptr (st.length + 1) 0 0 0), (5, .ptr (st.length + 2) 0 0 0), (7, .ptr (st.length + 6) 0 0 0), (8, .ptr (st.length + 7) 0 0 0), (34, .ref true o0 q0 0 l0.length), (35, .int .i64 (↑l0.length : Int)), (36, .int .i64 (↑k0 : Int))])
        (fun (gs0 : Nat × Nat) (k0 : Nat) (s0 : (List Int) × (List Int)) => (upds st [(o0, (.arr q0 3 40 (rows ApiTree.cells l0)))]) ++ [some (.arr 0 5 0 [[.sl false 2 40 (rows ApiType.cells a0.hierarchy.types), .sl false 3 32 (rows ApiFeat.cells a0.hierarchy.feats), .sl false 10 152 (rows ApiRule.cells a0.rules), .sl false 9 144 (rows ApiLex.cells a0.lexes), .sl false 2 32 (rows ApiNode.cells a0.start.nodes)]]), some (.arr 0 2 0 [[.nils, .nils]]), some (.arr 0 2 0 [[.int .i64 0, .int .i64 0]]), none, some (.arr gs0.1 1 8 (rows i64c s0.1)), some (.arr gs0.2 1 8 (rows i64c s0.2)), some (.arr 0 2 0 [[.ref true (st.length + 4) gs0.1 0 s0.1.length, .ref true (st.length + 5) gs0.2 0 s0.2.length]]), some (.arr 0 1 0 [[.fn 12 [] [.ptr (st.length + 6) 0 0 0, .ptr (st.length + 7) 0 0 0]]])])
        (fun (gt0 : Nat × Nat) (t0 : (List Int) × (List Int)) => [(4, .ptr (st.length + 1) 0 0 0), (5, .ptr (st.length + 2) 0 0 0), (7, .ptr (st.length + 6) 0 0 0)])
        (fun (gt0 : Nat × Nat) (t0 : (List Int) × (List Int)) => (upds st [(o0, (.arr q0 3 40 (rows ApiTree.cells l0)))]) ++ [none, some (.arr 0 2 0 [[.nils, .nils]]), some (.arr 0 2 0 [[.int .i64 0, .int .i64 0]]), none, some (.arr gt0.1 1 8 (rows i64c t0.1)), some (.arr gt0.2 1 8 (rows i64c t0.2)), some (.arr 0 2 0 [[.ref true (st.length + 4) gt0.1 0 t0.1.length, .ref true (st.length + 5) gt0.2 0 t0.2.length]])])
        (0, 0) h (bku_mk (by simp) (upds_sc hsc (by simp <;> omega)) (.live _ _ _ _ (.same _) (.live _ _ _ _ (.same _) (.live _ _ _ _ (.same _) (.dead _ _ _ (.live _ _ _ _ (.same _) (.live _ _ _ _ (.same _) (.live _ _ _ _ (.arr _ _ _ _ _ (.cons _ _ _ _ (.cons _ _ _ _ (up_eq (by simp)) (.cons _ _ _ _ (up_eq (by simp)) .nil)) (.same _))) (.live _ _ _ _ (.same _) (.nil _))))))))) (by simp <;> omega) ⟨.same _, .same _, .same _, .same _, .same _, .same _, .same _, .same _, trivial⟩ (by simp <;> omega))
        (fun gs0 k0 s0 b0 hk0 h hx0 => ?_) (fun gs0 s0 => ?_) (fun gt0 t0 fr1 st1 h hb => ?_)
      · unfold trainCount_b0 at h
        have hw0 : wr .i64 ((↑k0 : Int) + 1) = (↑(k0 + 1) : Int) := wr_le hk0 f9
        (repeat refine awp_seq ?_); refine ev_region ?_; simp only [go_sem, set_upds ho0, set_upds0 ho0, look_upds ho0, look_upds0 ho0, f3, f4, f6, f7, f9]
        (repeat refine awp_seq ?_); refine awp_cond (by rfl) (fun hc => ?_) fun hc => ?_
        · refine awp_skip ?_; try simp only [go_sem, set_upds ho0, set_upds0 ho0, look_upds ho0, look_upds0 ho0, f3, f4, f6, f7, f9]
          (repeat refine awp_seq ?_); refine awp_block ?_
          have e15 : (rows ApiTree.cells l0).getD k0 [] = ApiTree.cells (get l0 k0) := rows_get (E := ApiTree.cells) (l := l0) (k := k0) (by first | omega | (simp; omega))
          have e16 : k0 < l0.length := by first | omega | (simp; omega)
          (repeat refine awp_seq ?_); refine ev_region ?_; simp only [go_sem, set_upds ho0, set_upds0 ho0, look_upds ho0, look_upds0 ho0, f3, f4, f6, f7, f9, hk0, hw0, e15, e16]
          (repeat refine awp_seq ?_); refine ev_region ?_; simp only [go_sem, set_upds ho0, set_upds0 ho0, look_upds ho0, look_upds0 ho0, f3, f4, f6, f7, f9, hk0, hw0]
          obtain ⟨v17, hv17, h⟩ := bind_some h
          refine ((ok_deriveFits n _ _ _ hv17)).to ?_
          try simp only [go_sem, set_upds ho0, set_upds0 ho0, look_upds ho0, look_upds0 ho0, f3, f4, f6, f7, f9, hk0, hw0]
          (repeat refine awp_seq ?_); refine ev_region ?_; simp only [go_sem, set_upds ho0, set_upds0 ho0, look_upds ho0, look_upds0 ho0, f3, f4, f6, f7, f9, hk0, hw0]
          (repeat refine awp_seq ?_); refine awp_cond (by rfl) (fun hc => ?_) fun hc => ?_
          · replace h := cond_t h (by first | exact hc | simpa using hc)
            (repeat refine awp_seq ?_); refine ev_region ?_; simp only [go_sem, set_upds ho0, set_upds0 ho0, look_upds ho0, look_upds0 ho0, f3, f4, f6, f7, f9, hk0, hw0]
            obtain ⟨v18, hv18, h⟩ := bind_some h
            refine ((ok_trainFault _ _ _ hv18)).to ?_
            try simp only [go_sem, set_upds ho0, set_upds0 ho0, look_upds ho0, look_upds0 ho0, f3, f4, f6, f7, f9, hk0, hw0]
            (repeat refine awp_seq ?_); refine awp_ret ?_
            try simp only [go_sem, set_upds ho0, set_upds0 ho0, look_upds ho0, look_upds0 ho0, f3, f4, f6, f7, f9, hk0, hw0]
            obtain rfl := Option.some.inj h
            refine pbr_ret ?_; have hr := hx0 _ rfl; try simp only [go_sem, set_upds ho0, set_upds0 ho0, look_upds ho0, look_upds0 ho0, f3, f4, f6, f7, f9, hk0, hw0]
            refine finb_of ?_; simp only [go_sem, set_upds ho0, set_upds0 ho0, look_upds ho0, look_upds0 ho0, f3, f4, f6, f7, f9, hk0, hw0]
            exact finu_old (d' := .tup [.agg [.sl false 1 8 (rows i64c []), .sl false 1 8 (rows i64c [])], .agg [.int .i64 v18.code, .int .i64 v18.index]]) (by simp) (upds_sc hsc (by simp <;> omega)) (.tup _ _ (.cons _ _ _ _ (.agg _ _ (.cons _ _ _ _ (.nils _ _ _ (by decide)) (.cons _ _ _ _ (.nils _ _ _ (by decide)) .nil))) (.cons _ _ _ _ (.same _) .nil)) rfl) (by simp <;> omega) ⟨by subst hr; rfl, by exact upds_self (by simp [hlo0])⟩
          · replace h := cond_f h (by first | exact hc | simpa using hc)
            refine awp_skip ?_; try simp only [go_sem, set_upds ho0, set_upds0 ho0, look_upds ho0, look_upds0 ho0, f3, f4, f6, f7, f9, hk0, hw0]
            (repeat refine awp_seq ?_); refine ev_region ?_; simp only [go_sem, set_upds ho0, set_upds0 ho0, look_upds ho0, look_upds0 ho0, f3, f4, f6, f7, f9, hk0, hw0]
            obtain ⟨v19, hv19, h⟩ := bind_some h
            refine (ok_trainCount1 n _ _ _ _ hv19 _ _ _ _ _ gs0.1 gs0.2 (by simp) (look_updsn.trans rfl) (look_updsn.trans rfl) (look_updsn.trans rfl) (look_updsn.trans rfl)).mono ?_
            rintro d1 st1 ⟨rfl, rfl⟩
            try simp only [go_sem, set_upds ho0, set_upds0 ho0, look_upds ho0, look_upds0 ho0, f3, f4, f6, f7, f9, hk0, hw0]
            (repeat refine awp_seq ?_); refine ev_region ?_; simp only [go_sem, set_upds ho0, set_upds0 ho0, look_upds ho0, look_upds0 ho0, f3, f4, f6, f7, f9, hk0, hw0]
            cases h
            exact pbr_nxt (gs0.1, gs0.2) (bku_mk (by simp) (upds_sc hsc (by simp <;> omega)) (.live _ _ _ _ (.same _) (.live _ _ _ _ (.same _) (.live _ _ _ _ (.same _) (.dead _ _ _ (.live _ _ _ _ (.same _) (.live _ _ _ _ (.same _) (.live _ _ _ _ (.same _) (.live _ _ _ _ (.same _) (.nil _))))))))) (by simp <;> omega) ⟨.same _, .same _, .same _, .same _, .same _, .same _, .same _, .same _, trivial⟩ (by simp <;> omega))
        · exfalso; have hc := of_decide_eq_false hc; omega
      · (repeat refine awp_seq ?_); refine ev_region ?_; simp only [go_sem, set_upds ho0, set_upds0 ho0, look_upds ho0, look_upds0 ho0, f3, f4, f6, f7, f9]
        (repeat refine awp_seq ?_); refine awp_cond (by rfl) (fun hc => ?_) fun hc => ?_
        · exfalso; first | exact Bool.noConfusion hc | (have hc := of_decide_eq_true hc; omega)
        · refine awp_exit ?_; simp only [go_sem, set_upds ho0, set_upds0 ho0, look_upds ho0, look_upds0 ho0, f3, f4, f6, f7, f9]
          exact ⟨(gs0.1, gs0.2), (bku_mk (by simp) (upds_sc hsc (by simp <;> omega)) (.dead _ _ _ (.live _ _ _ _ (.same _) (.live _ _ _ _ (.same _) (.dead _ _ _ (.live _ _ _ _ (.same _) (.live _ _ _ _ (.same _) (.live _ _ _ _ (.same _) (.nil _)))))))) (by simp <;> omega) ⟨.same _, .same _, .same _, trivial⟩ (by simp <;> omega))⟩
      · try simp only [go_sem, set_upds ho0, set_upds0 ho0, look_upds ho0, look_upds0 ho0, f3, f4, f6, f7, f9]
        unfold trainCount_a0 at h
        refine awp_bks hb ?_
        (repeat refine awp_seq ?_); refine ev_region ?_; simp only [go_sem, set_upds ho0, set_upds0 ho0, look_upds ho0, look_upds0 ho0, f3, f4, f6, f7, f9]
        (repeat refine awp_seq ?_); refine awp_ret ?_
        try simp only [go_sem, set_upds ho0, set_upds0 ho0, look_upds ho0, look_upds0 ho0, f3, f4, f6, f7, f9]
        have hr := Option.some.inj h
        refine finb_of ?_; simp only [go_sem, set_upds ho0, set_upds0 ho0, look_upds ho0, look_upds0 ho0, f3, f4, f6, f7, f9]
        exact finu_old (d' := .tup [.agg [.sl false 1 8 (rows i64c t0.1), .sl false 1 8 (rows i64c t0.2)], .agg [.int .i64 0, .int .i64 0]]) (by simp) (upds_sc hsc (by simp <;> omega)) (.tup _ _ (.cons _ _ _ _ (.agg _ _ (.cons _ _ _ _ (.ref _ _ _ _ _ _ _ _ _ (get_updsn.trans rfl) look_outu (by decide) (rows_imm _) (by simp only [go_sem])) (.cons _ _ _ _ (.ref _ _ _ _ _ _ _ _ _ (get_updsn.trans rfl) look_outu (by decide) (rows_imm _) (by simp only [go_sem])) .nil))) (.cons _ _ _ _ (.same _) .nil)) rfl) (by simp <;> omega) ⟨by subst hr; rfl, by exact upds_self (by simp [hlo0])⟩


end Go.Proofs.YtaohdfpcdfbnlaaDoor

