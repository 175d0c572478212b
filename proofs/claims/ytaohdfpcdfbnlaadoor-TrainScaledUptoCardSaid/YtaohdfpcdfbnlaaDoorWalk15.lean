/-
  Each Go function of this part does what its plain Lean function says.
-/
import Derived.Test.YtaohdfpcdfbnlaaDoorBase
import Derived.Test.YtaohdfpcdfbnlaaDoorHand
import Derived.Test.YtaohdfpcdfbnlaaDoorMirrors
import Derived.Test.YtaohdfpcdfbnlaaDoorWalk10
import Derived.Test.YtaohdfpcdfbnlaaDoorWalk9
import Derived.Test.YtaohdfpcdfbnlaaDoorWalk1
import Derived.Test.YtaohdfpcdfbnlaaDoorWalk11
import Derived.Test.YtaohdfpcdfbnlaaDoorWalk14
set_option linter.unusedVariables false
set_option linter.unusedSimpArgs false
namespace Go.Proofs.YtaohdfpcdfbnlaaDoor
open Go Go.Am

set_option maxHeartbeats 2000000 in
set_option maxRecDepth 100000 in
theorem ok_glosswrightlaw8TrainReady (n : Nat) (r : Bool) (h : glosswrightlaw8TrainReady n  = some r) : Pure Tryd.prog gl 5 [] (.bool r) := by
  intro st
  unfold glosswrightlaw8TrainReady at h
  refine spec_fb (N := 71) (rs := [.tmp 0]) (keep := [0, 1, 2, 3, 4, 5, 24, 25, 26, 27, 30, 31, 32, 33, 36, 37, 38, 39, 40, 43, 44, 45, 46, 47, 50, 51, 52, 53, 54, 55, 67, 68, 69]) Tryd.func5 rfl rfl rfl (by kernel_rfl) rfl fun hsc => ?_
  (repeat refine awp_seq ?_); refine ev_region ?_; simp only [go_sem]
  (repeat refine awp_seq ?_); refine ev_region ?_; simp only [go_sem]
  obtain ⟨v1, hv1, h⟩ := bind_some h
  refine ((ok_glosswrightequalSmall n _ hv1)).to ?_
  try simp only [go_sem]
  have e2 : (40 ≤ top) = True := by simp [top]
  have e3 : (80 ≤ top) = True := by simp [top]
  (repeat refine awp_seq ?_); refine ev_region ?_; simp only [go_sem, e2, e3]
  try simp only [List.append_assoc, List.cons_append, List.nil_append]
  refine awp_bks (F := [(1, .ptr st.length 0 0 0), (2, .ptr (st.length + 3) 0 0 0)]) (T := st ++ [some (.arr 0 5 0 [[.sl false 2 40 (rows ApiType.cells v1.hierarchy.types), .sl false 3 32 (rows ApiFeat.cells v1.hierarchy.feats), .sl false 10 152 (rows ApiRule.cells v1.rules), .sl false 9 144 (rows ApiLex.cells v1.lexes), .sl false 2 32 (rows ApiNode.cells v1.start.nodes)]]), some (.arr 0 3 40 (rows ApiTree.cells [(ApiTree.mk (-1) 9 [])])), some (.arr 0 3 40 [[.int .i64 (-1), .int .i64 19, .nils], [.int .i64 2, .int .i64 0, .ref true (st.length + 1) 0 0 1]]), some (.arr 0 3 0 [[.int .i64 0, .int .i64 0, .ref true (st.length + 2) 0 0 2]])]) (bks_mk hsc (.live _ _ _ _ (.same _) (.live _ _ _ _ (.arr _ _ _ _ _ (.cons _ _ _ _ (.cons _ _ _ _ (.same _) (.cons _ _ _ _ (.same _) (.cons _ _ _ _ (.nils _ _ _ (by decide)) .nil))) .nil)) (.live _ _ _ _ (.same _) (.live _ _ _ _ (.same _) (.nil _))))) (by simp) ⟨.same _, .same _, trivial⟩ (by simp)) ?_
  try simp only [List.append_assoc, List.cons_append, List.nil_append]
  refine awp_bks (F := [(1, .ptr st.length 0 0 0), (2, .ptr (st.length + 3) 0 0 0)]) (T := st ++ [some (.arr 0 5 0 [[.sl false 2 40 (rows ApiType.cells v1.hierarchy.types), .sl false 3 32 (rows ApiFeat.cells v1.hierarchy.feats), .sl false 10 152 (rows ApiRule.cells v1.rules), .sl false 9 144 (rows ApiLex.cells v1.lexes), .sl false 2 32 (rows ApiNode.cells v1.start.nodes)]]), none, some (.arr 0 3 40 (rows ApiTree.cells [(ApiTree.mk (-1) 19 []), (ApiTree.mk 2 0 [(ApiTree.mk (-1) 9 [])])])), some (.arr 0 3 0 [[.int .i64 0, .int .i64 0, .ref true (st.length + 2) 0 0 2]])]) (bks_mk hsc (.live _ _ _ _ (.same _) (.dead _ _ _ (.live _ _ _ _ (.arr _ _ _ _ _ (.cons _ _ _ _ (.cons _ _ _ _ (.same _) (.cons _ _ _ _ (.same _) (.cons _ _ _ _ (.nils _ _ _ (by decide)) .nil))) (.cons _ _ _ _ (.cons _ _ _ _ (.same _) (.cons _ _ _ _ (.same _) (.cons _ _ _ _ (.ref _ _ _ _ _ _ _ _ _ (get_new.trans rfl) (look_new.trans rfl) (by decide) (rows_imm _) (by first | (simp only [go_sem]; done) | simp only [go_sem, ApiTree.rowsL_eq])) .nil))) .nil))) (.live _ _ _ _ (.same _) (.nil _))))) (by simp) ⟨.same _, .same _, trivial⟩ (by simp)) ?_
  try simp only [List.append_assoc, List.cons_append, List.nil_append]
  refine awp_bks (F := [(1, .ptr st.length 0 0 0), (2, .ptr (st.length + 3) 0 0 0)]) (T := st ++ [some (.arr 0 5 0 [[.sl false 2 40 (rows ApiType.cells v1.hierarchy.types), .sl false 3 32 (rows ApiFeat.cells v1.hierarchy.feats), .sl false 10 152 (rows ApiRule.cells v1.rules), .sl false 9 144 (rows ApiLex.cells v1.lexes), .sl false 2 32 (rows ApiNode.cells v1.start.nodes)]]), none, none, some (.arr 0 3 0 [[.int .i64 0, .int .i64 0, .sl false 3 40 (rows ApiTree.cells [(ApiTree.mk (-1) 19 []), (ApiTree.mk 2 0 [(ApiTree.mk (-1) 9 [])])])]])]) (bks_mk hsc (.live _ _ _ _ (.same _) (.dead _ _ _ (.dead _ _ _ (.live _ _ _ _ (.arr _ _ _ _ _ (.cons _ _ _ _ (.cons _ _ _ _ (.same _) (.cons _ _ _ _ (.same _) (.cons _ _ _ _ (.ref _ _ _ _ _ _ _ _ _ (get_new.trans rfl) (look_new.trans rfl) (by decide) (rows_imm _) (by first | (simp only [go_sem]; done) | simp only [go_sem, ApiTree.rowsL_eq])) .nil))) (.same _))) (.nil _))))) (by simp) ⟨.same _, .same _, trivial⟩ (by simp)) ?_
  have e4 : (40 ≤ top) = True := by simp [top]
  (repeat refine awp_seq ?_); refine ev_region ?_; simp only [go_sem, e4]
  obtain ⟨v5, hv5, h⟩ := bind_some h
  refine (ok_trainCount n _ _ _ hv5 _ _ 0 (by simp) (look_new.trans rfl)).mono ?_
  rintro d1 st1 ⟨rfl, rfl⟩
  try simp only [go_sem, e4]
  obtain ⟨f7, h⟩ := chk_some h
  obtain ⟨f9, h⟩ := chk_some h
  obtain ⟨f11, h⟩ := chk_some h
  (repeat refine awp_seq ?_); refine ev_region ?_; simp only [go_sem, f7, f9, f11]
  (repeat refine awp_seq ?_); refine awp_cond (by rfl) (fun hc => ?_) fun hc => ?_
  · replace h := cond_t h (by first | exact hc | simpa using hc)
    (repeat refine awp_seq ?_); refine ev_region ?_; simp only [go_sem, f7, f9, f11]
    (repeat refine awp_seq ?_); refine awp_ret ?_
    try simp only [go_sem, f7, f9, f11]
    have hr := Option.some.inj h
    refine finb_of ?_; simp only [go_sem, f7, f9, f11]
    exact fin_old' (d' := .bool false) hsc (.same _) (by simp) ⟨by subst hr; rfl, rfl⟩
  · replace h := cond_f h (by first | exact hc | simpa using hc)
    refine awp_skip ?_; try simp only [go_sem, f7, f9, f11]
    (repeat refine awp_seq ?_); refine ev_region ?_; simp only [go_sem, f7, f9, f11]
    obtain ⟨v12, hv12, h⟩ := bind_some h
    refine ((ok_trainProbability n _ _ _ _ hv12)).to ?_
    try simp only [go_sem, f7, f9, f11]
    (repeat refine awp_seq ?_); refine ev_region ?_; simp only [go_sem, f7, f9, f11]
    (repeat refine awp_seq ?_); refine awp_ret ?_
    try simp only [go_sem, f7, f9, f11]
    have hr := Option.some.inj h
    refine finb_of ?_; simp only [go_sem, f7, f9, f11]
    exact fin_old' (d' := .bool (bif (decide (v12.2.code = 0)) then (decide (v12.1.num = 1) && (decide (v12.1.den = 1))) else false)) hsc (.same _) (by simp) ⟨by subst hr; rfl, rfl⟩

set_option maxHeartbeats 2000000 in
set_option maxRecDepth 100000 in
theorem ok_trainCount_3 (n : Nat) (a0 : ApiGrammar) (l0 : (List ApiTree)) (r : ApiCounts × ApiFault) (h : trainCount_3 n a0 l0 = some r) : ∀ (st : St) (o0 q0 : Nat) (hnd : [o0].Nodup) (hlo0 : Am.look st o0 = some (.arr q0 3 40 (rows ApiTree.cells l0))), Am.Spec Tryd.prog gl 6 [.agg [.sl false 2 40 (rows ApiType.cells a0.hierarchy.types), .sl false 3 32 (rows ApiFeat.cells a0.hierarchy.feats), .sl false 10 152 (rows ApiRule.cells a0.rules), .sl false 9 144 (rows ApiLex.cells a0.lexes), .sl false 2 32 (rows ApiNode.cells a0.start.nodes)], .ref false o0 q0 0 l0.length] st (fun d st' => d = .tup [.agg [.sl false 1 8 (rows i64c r.1.rules), .sl false 1 8 (rows i64c r.1.lexes)], .agg [.int .i64 r.2.code, .int .i64 r.2.index]] ∧ st' = puts st []) := by
  intro st o0 q0 hnd hlo0
  unfold trainCount_3 at h
  have ho0 := look_lt hlo0
  refine spec_fb (N := 58) (rs := [.cell 4 39, .cell 5 41]) (keep := [0, 1, 2, 4, 5, 6, 7, 8, 9, 10, 11, 16, 21, 34, 35, 36, 37, 46]) Tryd.func6 rfl rfl rfl (by kernel_rfl) rfl fun hsc => ?_
  refine awp_st (s' := (upds st [(o0, (.arr q0 3 40 (rows ApiTree.cells l0)))])) (upds_self (by simp [hlo0])) ?_
  (repeat refine awp_seq ?_); refine ev_region ?_; simp only [go_sem, set_upds ho0, set_upds0 ho0, look_upds ho0, look_upds0 ho0]
  (repeat refine awp_seq ?_); refine ev_region ?_; simp only [go_sem, set_upds ho0, set_upds0 ho0, look_upds ho0, look_upds0 ho0]
  obtain ⟨v1, hv1, h⟩ := bind_some h
  refine ((ok_grammarValidate n _ _ hv1)).to ?_
  try simp only [go_sem, set_upds ho0, set_upds0 ho0, look_upds ho0, look_upds0 ho0]
  (repeat refine awp_seq ?_); refine ev_region ?_; simp only [go_sem, set_upds ho0, set_upds0 ho0, look_upds ho0, look_upds0 ho0]
  (repeat refine awp_seq ?_); refine awp_cond (by rfl) (fun hc => ?_) fun hc => ?_
  · replace h := cond_t h (by first | exact hc | simpa using hc)
    (repeat refine awp_seq ?_); refine ev_draw_region [1, 2] 0 follows (by kernel_rfl) (by rfl) ?_; simp only [go_sem, List.replicate_succ, List.replicate_zero, set_upds ho0, set_upds0 ho0, look_upds ho0, look_upds0 ho0]
    try refine ⟨by (simp <;> omega), ?_⟩
    (repeat refine awp_seq ?_); refine awp_ret ?_
    try simp only [go_sem, set_upds ho0, set_upds0 ho0, look_upds ho0, look_upds0 ho0]
    have hr := Option.some.inj h
    refine finb_of ?_; simp only [go_sem, set_upds ho0, set_upds0 ho0, look_upds ho0, look_upds0 ho0]
    exact finu_old (d' := .tup [.agg [.sl false 1 8 (rows i64c []), .sl false 1 8 (rows i64c [])], .agg [.int .i64 v1.code, .int .i64 v1.index]]) (by simp) (upds_sc hsc (by simp <;> omega)) (.tup _ _ (.cons _ _ _ _ (.agg _ _ (.cons _ _ _ _ (.nils _ _ _ (by decide)) (.cons _ _ _ _ (.nils _ _ _ (by decide)) .nil))) (.cons _ _ _ _ (.same _) .nil)) rfl) (by simp <;> omega) ⟨by subst hr; rfl, by exact upds_self (by simp [hlo0])⟩
  · replace h := cond_f h (by first | exact hc | simpa using hc)
    refine awp_skip ?_; try simp only [go_sem, set_upds ho0, set_upds0 ho0, look_upds ho0, look_upds0 ho0]
    (repeat refine awp_seq ?_); refine ev_region ?_; simp only [go_sem, set_upds ho0, set_upds0 ho0, look_upds ho0, look_upds0 ho0]
    (repeat refine awp_seq ?_); refine awp_cond (by rfl) (fun hc => ?_) fun hc => ?_
    · replace h := cond_t h (by first | exact hc | simpa using hc)
      (repeat refine awp_seq ?_); refine ev_region ?_; simp only [go_sem, set_upds ho0, set_upds0 ho0, look_upds ho0, look_upds0 ho0]
      obtain ⟨v2, hv2, h⟩ := bind_some h
      refine ((ok_trainFault _ _ _ hv2)).to ?_
      try simp only [go_sem, set_upds ho0, set_upds0 ho0, look_upds ho0, look_upds0 ho0]
      (repeat refine awp_seq ?_); refine awp_ret ?_
      try simp only [go_sem, set_upds ho0, set_upds0 ho0, look_upds ho0, look_upds0 ho0]
      have hr := Option.some.inj h
      refine finb_of ?_; simp only [go_sem, set_upds ho0, set_upds0 ho0, look_upds ho0, look_upds0 ho0]
      exact finu_old (d' := .tup [.agg [.sl false 1 8 (rows i64c []), .sl false 1 8 (rows i64c [])], .agg [.int .i64 v2.code, .int .i64 v2.index]]) (by simp) (upds_sc hsc (by simp <;> omega)) (.tup _ _ (.cons _ _ _ _ (.agg _ _ (.cons _ _ _ _ (.nils _ _ _ (by decide)) (.cons _ _ _ _ (.nils _ _ _ (by decide)) .nil))) (.cons _ _ _ _ (.same _) .nil)) rfl) (by simp <;> omega) ⟨by subst hr; rfl, by exact upds_self (by simp [hlo0])⟩
    · replace h := cond_f h (by first | exact hc | simpa using hc)
      refine awp_skip ?_; try simp only [go_sem, set_upds ho0, set_upds0 ho0, look_upds ho0, look_upds0 ho0]
      obtain ⟨⟨f3, f4⟩, h⟩ := chk_some h
      have e5 : List.replicate a0.rules.length [.int .i64 0] = rows i64c (List.replicate a0.rules.length (default : Int)) := rows_rep (E := i64c) _ default
      obtain ⟨⟨f6, f7⟩, h⟩ := chk_some h
      have e8 : List.replicate a0.lexes.length [.int .i64 0] = rows i64c (List.replicate a0.lexes.length (default : Int)) := rows_rep (E := i64c) _ default
      (repeat refine awp_seq ?_); refine ev_draw_region [] 3 follows (by kernel_rfl) (by rfl) ?_; simp only [go_sem, List.replicate_succ, List.replicate_zero, set_upds ho0, set_upds0 ho0, look_upds ho0, look_upds0 ho0, f3, f4, f6, f7, e5, e8]
      (repeat refine awp_seq ?_); refine ev_region ?_; simp only [go_sem, set_upds ho0, set_upds0 ho0, look_upds ho0, look_upds0 ho0, f3, f4, f6, f7]
      (repeat refine awp_seq ?_); refine ev_region ?_; simp only [go_sem, set_upds ho0, set_upds0 ho0, look_upds ho0, look_upds0 ho0, f3, f4, f6, f7]
      (repeat refine awp_seq ?_); refine ev_region ?_; simp only [go_sem, set_upds ho0, set_upds0 ho0, look_upds ho0, look_upds0 ho0, f3, f4, f6, f7]
      obtain ⟨f9, h⟩ := chk_some h
      (repeat refine awp_seq ?_); refine awp_range (body := trainCount_3_b0 n a0 l0) (kk := trainCount_3_a0) (n := l0.length) (s0 := ((List.replicate a0.rules.length (default : Int)), (List.replicate a0.lexes.length (default : Int))))
        (fun (gs0 : Nat × Nat) (k0 : Nat) (s0 : (List Int) × (List Int)) => [(2, .ptr st.length 0 0 0), (4, .ptr (st.length + 1) 0 0 0), (5, .ptr (st.length + 2) 0 0 0), (7, .ptr (st.length + 6) 0 0 0), (8, .ptr (st.length + 7) 0 0 0), (34, .ref false o0 q0 0 l0.length), (35, .int .i64 (↑l0.length : Int)), (36, .int .i64 (↑k0 : Int))])
        (fun (gs0 : Nat × Nat) (k0 : Nat) (s0 : (List Int) × (List Int)) => (upds st [(o0, (.arr q0 3 40 (rows ApiTree.cells l0)))]) ++ [some (.arr 0 5 0 [[.sl false 2 40 (rows ApiType.cells a0.hierarchy.types), .sl false 3 32 (rows ApiFeat.cells a0.hierarchy.feats), .sl false 10 152 (rows ApiRule.cells a0.rules), .sl false 9 144 (rows ApiLex.cells a0.lexes), .sl false 2 32 (rows ApiNode.cells a0.start.nodes)]]), some (.arr 0 2 0 [[.nils, .nils]]), some (.arr 0 2 0 [[.int .i64 0, .int .i64 0]]), none, some (.arr gs0.1 1 8 (rows i64c s0.1)), some (.arr gs0.2 1 8 (rows i64c s0.2)), some (.arr 0 2 0 [[.ref true (st.length + 4) gs0.1 0 s0.1.length, .ref true (st.length + 5) gs0.2 0 s0.2.length]]), some (.arr 0 1 0 [[.fn 12 [] [.ptr (st.length + 6) 0 0 0, .ptr (st.length + 7) 0 0 0]]])])
        (fun (gt0 : Nat × Nat) (t0 : (List Int) × (List Int)) => [(4, .ptr (st.length + 1) 0 0 0), (5, .ptr (st.length + 2) 0 0 0), (7, .ptr (st.length + 6) 0 0 0)])
        (fun (gt0 : Nat × Nat) (t0 : (List Int) × (List Int)) => (upds st [(o0, (.arr q0 3 40 (rows ApiTree.cells l0)))]) ++ [none, some (.arr 0 2 0 [[.nils, .nils]]), some (.arr 0 2 0 [[.int .i64 0, .int .i64 0]]), none, some (.arr gt0.1 1 8 (rows i64c t0.1)), some (.arr gt0.2 1 8 (rows i64c t0.2)), some (.arr 0 2 0 [[.ref true (st.length + 4) gt0.1 0 t0.1.length, .ref true (st.length + 5) gt0.2 0 t0.2.length]])])
        (0, 0) h (bku_mk (by simp) (upds_sc hsc (by simp <;> omega)) (.live _ _ _ _ (.same _) (.live _ _ _ _ (.same _) (.live _ _ _ _ (.same _) (.dead _ _ _ (.live _ _ _ _ (.same _) (.live _ _ _ _ (.same _) (.live _ _ _ _ (.arr _ _ _ _ _ (.cons _ _ _ _ (.cons _ _ _ _ (up_eq (by simp)) (.cons _ _ _ _ (up_eq (by simp)) .nil)) (.same _))) (.live _ _ _ _ (.same _) (.nil _))))))))) (by simp <;> omega) ⟨.same _, .same _, .same _, .same _, .same _, .same _, .same _, .same _, trivial⟩ (by simp <;> omega))
        (fun gs0 k0 s0 b0 hk0 h hx0 => ?_) (fun gs0 s0 => ?_) (fun gt0 t0 fr1 st1 h hb => ?_)
      · unfold trainCount_3_b0 at h
        have hw0 : wr .i64 ((↑k0 : Int) + 1) = (↑(k0 + 1) : Int) := wr_le hk0 f9
        (repeat refine awp_seq ?_); refine ev_region ?_; simp only [go_sem, set_upds ho0, set_upds0 ho0, look_upds ho0, look_upds0 ho0, f3, f4, f6, f7, f9]
        (repeat refine awp_seq ?_); refine awp_cond (by rfl) (fun hc => ?_) fun hc => ?_
        · refine awp_skip ?_; try simp only [go_sem, set_upds ho0, set_upds0 ho0, look_upds ho0, look_upds0 ho0, f3, f4, f6, f7, f9]
          (repeat refine awp_seq ?_); refine awp_block ?_
          have e15 : (rows ApiTree.cells l0).getD k0 [] = ApiTree.cells (get l0 k0) := rows_get (E := ApiTree.cells) (l := l0) (k := k0) (by first | omega | (simp; omega))
          have e16 : k0 < l0.length := by first | omega | (simp; omega)
          (repeat refine awp_seq ?_); refine ev_region ?_; simp only [go_sem, set_upds ho0, set_upds0 ho0, look_upds ho0, look_upds0 ho0, f3, f4, f6, f7, f9, hk0, hw0, e15, e16]
          (repeat refine awp_seq ?_); refine ev_region ?_; simp only [go_sem, set_upds ho0, set_upds0 ho0, look_upds ho0, look_upds0 ho0, f3, f4, f6, f7, f9, hk0, hw0]
          obtain ⟨v17, hv17, h⟩ := bind_some h
          refine ((ok_deriveFits n _ _ _ hv17)).to ?_
          try simp only [go_sem, set_upds ho0, set_upds0 ho0, look_upds ho0, look_upds0 ho0, f3, f4, f6, f7, f9, hk0, hw0]
          (repeat refine awp_seq ?_); refine ev_region ?_; simp only [go_sem, set_upds ho0, set_upds0 ho0, look_upds ho0, look_upds0 ho0, f3, f4, f6, f7, f9, hk0, hw0]
          (repeat refine awp_seq ?_); refine awp_cond (by rfl) (fun hc => ?_) fun hc => ?_
          · replace h := cond_t h (by first | exact hc | simpa using hc)
            (repeat refine awp_seq ?_); refine ev_region ?_; simp only [go_sem, set_upds ho0, set_upds0 ho0, look_upds ho0, look_upds0 ho0, f3, f4, f6, f7, f9, hk0, hw0]
            obtain ⟨v18, hv18, h⟩ := bind_some h
            refine ((ok_trainFault _ _ _ hv18)).to ?_
            try simp only [go_sem, set_upds ho0, set_upds0 ho0, look_upds ho0, look_upds0 ho0, f3, f4, f6, f7, f9, hk0, hw0]
            (repeat refine awp_seq ?_); refine awp_ret ?_
            try simp only [go_sem, set_upds ho0, set_upds0 ho0, look_upds ho0, look_upds0 ho0, f3, f4, f6, f7, f9, hk0, hw0]
            obtain rfl := Option.some.inj h
            refine pbr_ret ?_; have hr := hx0 _ rfl; try simp only [go_sem, set_upds ho0, set_upds0 ho0, look_upds ho0, look_upds0 ho0, f3, f4, f6, f7, f9, hk0, hw0]
            refine finb_of ?_; simp only [go_sem, set_upds ho0, set_upds0 ho0, look_upds ho0, look_upds0 ho0, f3, f4, f6, f7, f9, hk0, hw0]
            exact finu_old (d' := .tup [.agg [.sl false 1 8 (rows i64c []), .sl false 1 8 (rows i64c [])], .agg [.int .i64 v18.code, .int .i64 v18.index]]) (by simp) (upds_sc hsc (by simp <;> omega)) (.tup _ _ (.cons _ _ _ _ (.agg _ _ (.cons _ _ _ _ (.nils _ _ _ (by decide)) (.cons _ _ _ _ (.nils _ _ _ (by decide)) .nil))) (.cons _ _ _ _ (.same _) .nil)) rfl) (by simp <;> omega) ⟨by subst hr; rfl, by exact upds_self (by simp [hlo0])⟩
          · replace h := cond_f h (by first | exact hc | simpa using hc)
            refine awp_skip ?_; try simp only [go_sem, set_upds ho0, set_upds0 ho0, look_upds ho0, look_upds0 ho0, f3, f4, f6, f7, f9, hk0, hw0]
            (repeat refine awp_seq ?_); refine ev_region ?_; simp only [go_sem, set_upds ho0, set_upds0 ho0, look_upds ho0, look_upds0 ho0, f3, f4, f6, f7, f9, hk0, hw0]
            obtain ⟨v19, hv19, h⟩ := bind_some h
            refine (ok_trainCount1 n _ _ _ _ hv19 _ _ _ _ _ gs0.1 gs0.2 (by simp) (look_updsn.trans rfl) (look_updsn.trans rfl) (look_updsn.trans rfl) (look_updsn.trans rfl)).mono ?_
            rintro d1 st1 ⟨rfl, rfl⟩
            try simp only [go_sem, set_upds ho0, set_upds0 ho0, look_upds ho0, look_upds0 ho0, f3, f4, f6, f7, f9, hk0, hw0]
            (repeat refine awp_seq ?_); refine ev_region ?_; simp only [go_sem, set_upds ho0, set_upds0 ho0, look_upds ho0, look_upds0 ho0, f3, f4, f6, f7, f9, hk0, hw0]
            cases h
            exact pbr_nxt (gs0.1, gs0.2) (bku_mk (by simp) (upds_sc hsc (by simp <;> omega)) (.live _ _ _ _ (.same _) (.live _ _ _ _ (.same _) (.live _ _ _ _ (.same _) (.dead _ _ _ (.live _ _ _ _ (.same _) (.live _ _ _ _ (.same _) (.live _ _ _ _ (.same _) (.live _ _ _ _ (.same _) (.nil _))))))))) (by simp <;> omega) ⟨.same _, .same _, .same _, .same _, .same _, .same _, .same _, .same _, trivial⟩ (by simp <;> omega))
        · exfalso; have hc := of_decide_eq_false hc; omega
      · (repeat refine awp_seq ?_); refine ev_region ?_; simp only [go_sem, set_upds ho0, set_upds0 ho0, look_upds ho0, look_upds0 ho0, f3, f4, f6, f7, f9]
        (repeat refine awp_seq ?_); refine awp_cond (by rfl) (fun hc => ?_) fun hc => ?_
        · exfalso; first | exact Bool.noConfusion hc | (have hc := of_decide_eq_true hc; omega)
        · refine awp_exit ?_; simp only [go_sem, set_upds ho0, set_upds0 ho0, look_upds ho0, look_upds0 ho0, f3, f4, f6, f7, f9]
          exact ⟨(gs0.1, gs0.2), (bku_mk (by simp) (upds_sc hsc (by simp <;> omega)) (.dead _ _ _ (.live _ _ _ _ (.same _) (.live _ _ _ _ (.same _) (.dead _ _ _ (.live _ _ _ _ (.same _) (.live _ _ _ _ (.same _) (.live _ _ _ _ (.same _) (.nil _)))))))) (by simp <;> omega) ⟨.same _, .same _, .same _, trivial⟩ (by simp <;> omega))⟩
      · try simp only [go_sem, set_upds ho0, set_upds0 ho0, look_upds ho0, look_upds0 ho0, f3, f4, f6, f7, f9]
        unfold trainCount_3_a0 at h
        refine awp_bks hb ?_
        (repeat refine awp_seq ?_); refine ev_region ?_; simp only [go_sem, set_upds ho0, set_upds0 ho0, look_upds ho0, look_upds0 ho0, f3, f4, f6, f7, f9]
        (repeat refine awp_seq ?_); refine awp_ret ?_
        try simp only [go_sem, set_upds ho0, set_upds0 ho0, look_upds ho0, look_upds0 ho0, f3, f4, f6, f7, f9]
        have hr := Option.some.inj h
        refine finb_of ?_; simp only [go_sem, set_upds ho0, set_upds0 ho0, look_upds ho0, look_upds0 ho0, f3, f4, f6, f7, f9]
        exact finu_old (d' := .tup [.agg [.sl false 1 8 (rows i64c t0.1), .sl false 1 8 (rows i64c t0.2)], .agg [.int .i64 0, .int .i64 0]]) (by simp) (upds_sc hsc (by simp <;> omega)) (.tup _ _ (.cons _ _ _ _ (.agg _ _ (.cons _ _ _ _ (.ref _ _ _ _ _ _ _ _ _ (get_updsn.trans rfl) look_outu (by decide) (rows_imm _) (by simp only [go_sem])) (.cons _ _ _ _ (.ref _ _ _ _ _ _ _ _ _ (get_updsn.trans rfl) look_outu (by decide) (rows_imm _) (by simp only [go_sem])) .nil))) (.cons _ _ _ _ (.same _) .nil)) rfl) (by simp <;> omega) ⟨by subst hr; rfl, by exact upds_self (by simp [hlo0])⟩


end Go.Proofs.YtaohdfpcdfbnlaaDoor

