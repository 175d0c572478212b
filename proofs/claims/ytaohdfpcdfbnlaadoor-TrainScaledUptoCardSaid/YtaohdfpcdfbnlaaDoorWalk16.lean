/-
  Each Go function of this part does what its plain Lean function says.
-/
import Derived.Test.YtaohdfpcdfbnlaaDoorBase
import Derived.Test.YtaohdfpcdfbnlaaDoorHand
import Derived.Test.YtaohdfpcdfbnlaaDoorMirrors
import Derived.Test.YtaohdfpcdfbnlaaDoorWalk12
import Derived.Test.YtaohdfpcdfbnlaaDoorWalk13
import Derived.Test.YtaohdfpcdfbnlaaDoorWalk15
set_option linter.unusedVariables false
set_option linter.unusedSimpArgs false
namespace Go.Proofs.YtaohdfpcdfbnlaaDoor
open Go Go.Am

set_option maxHeartbeats 2000000 in
set_option maxRecDepth 100000 in
theorem ok_trainWeights_2 (n : Nat) (a0 : ApiGrammar) (a1 : ApiCounts) (r : (List ApiFrac) × (List ApiFrac) × ApiFault) (h : trainWeights_2 n a0 a1 = some r) : Pure Tryd.prog gl 7 [.agg [.sl false 2 40 (rows ApiType.cells a0.hierarchy.types), .sl false 3 32 (rows ApiFeat.cells a0.hierarchy.feats), .sl false 10 152 (rows ApiRule.cells a0.rules), .sl false 9 144 (rows ApiLex.cells a0.lexes), .sl false 2 32 (rows ApiNode.cells a0.start.nodes)], .agg [.sl false 1 8 (rows i64c a1.rules), .sl false 1 8 (rows i64c a1.lexes)]] (.tup [.sl false 2 16 (rows ApiFrac.cells r.1), .sl false 2 16 (rows ApiFrac.cells r.2.1), .agg [.int .i64 r.2.2.code, .int .i64 r.2.2.index]]) := by
  intro st
  unfold trainWeights_2 at h
  refine spec_fb (N := 26) (rs := [.tmp 4, .tmp 5, .cell 6 41]) (keep := [0, 1, 2, 3, 4, 5, 6, 7, 8, 9, 15]) Tryd.func7 rfl rfl rfl (by kernel_rfl) rfl fun hsc => ?_
  (repeat refine awp_seq ?_); refine ev_region ?_; simp only [go_sem]
  (repeat refine awp_seq ?_); refine ev_region ?_; simp only [go_sem]
  obtain ⟨v1, hv1, h⟩ := bind_some h
  refine ((ok_trainCheck n _ _ _ hv1)).to ?_
  try simp only [go_sem]
  (repeat refine awp_seq ?_); refine ev_region ?_; simp only [go_sem]
  (repeat refine awp_seq ?_); refine awp_cond (by rfl) (fun hc => ?_) fun hc => ?_
  · replace h := cond_t h (by first | exact hc | simpa using hc)
    (repeat refine awp_seq ?_); refine ev_draw_region [] 0 follows (by kernel_rfl) (by rfl) ?_; simp only [go_sem, List.replicate_succ, List.replicate_zero]
    (repeat refine awp_seq ?_); refine awp_ret ?_
    try simp only [go_sem]
    have hr := Option.some.inj h
    refine finb_of ?_; simp only [go_sem]
    exact fin_old' (d' := .tup [.sl false 2 16 (rows ApiFrac.cells []), .sl false 2 16 (rows ApiFrac.cells []), .agg [.int .i64 v1.code, .int .i64 v1.index]]) hsc (.tup _ _ (.cons _ _ _ _ (.nils _ _ _ (by decide)) (.cons _ _ _ _ (.nils _ _ _ (by decide)) (.cons _ _ _ _ (.same _) .nil))) rfl) (by simp) ⟨by subst hr; rfl, rfl⟩
  · replace h := cond_f h (by first | exact hc | simpa using hc)
    refine awp_skip ?_; try simp only [go_sem]
    (repeat refine awp_seq ?_); refine ev_region ?_; simp only [go_sem]
    obtain ⟨v2, hv2, h⟩ := bind_some h
    refine ((ok_trainWeights n _ _ _ hv2)).to ?_
    try simp only [go_sem]
    (repeat refine awp_seq ?_); refine ev_region ?_; simp only [go_sem]
    (repeat refine awp_seq ?_); refine awp_ret ?_
    try simp only [go_sem]
    have hr := Option.some.inj h
    refine finb_of ?_; simp only [go_sem]
    exact fin_old' (d' := .tup [.sl false 2 16 (rows ApiFrac.cells v2.1), .sl false 2 16 (rows ApiFrac.cells v2.2), .agg [.int .i64 0, .int .i64 0]]) hsc (.same _) (by simp) ⟨by subst hr; rfl, rfl⟩

set_option maxHeartbeats 2000000 in
set_option maxRecDepth 100000 in
theorem ok_glosswrightlaw8TrainScaled (n : Nat) (a0 : ApiGrammar) (a1 : ApiCounts) (a2 : Int) (r : Bool) (h : glosswrightlaw8TrainScaled n a0 a1 a2 = some r) : Pure Tryd.prog gl 4 [.agg [.sl false 2 40 (rows ApiType.cells a0.hierarchy.types), .sl false 3 32 (rows ApiFeat.cells a0.hierarchy.feats), .sl false 10 152 (rows ApiRule.cells a0.rules), .sl false 9 144 (rows ApiLex.cells a0.lexes), .sl false 2 32 (rows ApiNode.cells a0.start.nodes)], .agg [.sl false 1 8 (rows i64c a1.rules), .sl false 1 8 (rows i64c a1.lexes)], .int .i64 a2] (.bool r) := by
  intro st
  unfold glosswrightlaw8TrainScaled at h
  refine spec_fb (N := 131) (rs := [.tmp 6]) (keep := [0, 1, 2, 3, 4, 6, 7, 8, 9, 10, 11, 12, 13, 14, 15, 16, 18, 30, 31, 34, 35, 36, 42, 61, 85, 95, 96, 97, 98, 99, 100, 104, 115, 119, 130]) Tryd.func4 rfl rfl rfl (by kernel_rfl) rfl fun hsc => ?_
  (repeat refine awp_seq ?_); refine ev_region ?_; simp only [go_sem]
  (repeat refine awp_seq ?_); refine ev_region ?_; simp only [go_sem]
  obtain ⟨v1, hv1, h⟩ := bind_some h
  refine ((ok_glosswrightlaw8TrainReady n _ hv1)).to ?_
  try simp only [go_sem]
  (repeat refine awp_seq ?_); refine awp_cond (by rfl) (fun hc => ?_) fun hc => ?_
  · replace h := cond_t h (by first | exact hc | simpa using hc)
    (repeat refine awp_seq ?_); refine ev_region ?_; simp only [go_sem]
    (repeat refine awp_seq ?_); refine awp_ret ?_
    try simp only [go_sem]
    have hr := Option.some.inj h
    refine finb_of ?_; simp only [go_sem]
    exact fin_old' (d' := .bool false) hsc (.same _) (by simp) ⟨by subst hr; rfl, rfl⟩
  · replace h := cond_f h (by first | exact hc | simpa using hc)
    refine awp_skip ?_; try simp only [go_sem]
    (repeat refine awp_seq ?_); refine ev_region ?_; simp only [go_sem]
    obtain ⟨v2, hv2, h⟩ := bind_some h
    refine ((ok_trainWeights_2 n _ _ _ hv2)).to ?_
    try simp only [go_sem]
    (repeat refine awp_seq ?_); refine ev_region ?_; simp only [go_sem]
    (repeat refine awp_seq ?_); refine awp_cond (by rfl) (fun hc => ?_) fun hc => ?_
    · replace h := cond_t h (by first | exact hc | simpa using hc)
      (repeat refine awp_seq ?_); refine ev_region ?_; simp only [go_sem]
      (repeat refine awp_seq ?_); refine awp_ret ?_
      try simp only [go_sem]
      have hr := Option.some.inj h
      refine finb_of ?_; simp only [go_sem]
      exact fin_old' (d' := .bool true) hsc (.same _) (by simp) ⟨by subst hr; rfl, rfl⟩
    · replace h := cond_f h (by first | exact hc | simpa using hc)
      refine awp_skip ?_; try simp only [go_sem]
      (repeat refine awp_seq ?_); refine ev_region ?_; simp only [go_sem]
      (repeat refine awp_seq ?_); refine ev_region ?_; simp only [go_sem]
      (repeat refine awp_seq ?_); refine awp_ph 1 8 ?_
      try simp only [List.append_assoc, List.cons_append, List.nil_append]
      refine awp_bks (F := [(2, .int .i64 a2), (3, .ptr st.length 0 0 0), (4, .ptr (st.length + 1) 0 0 0), (7, .sl false 2 16 (rows ApiFrac.cells v2.1)), (8, .sl false 2 16 (rows ApiFrac.cells v2.2.1)), (9, .ptr (st.length + 2) 0 0 0), (10, .ptr (st.length + 3) 0 0 0), (11, .int .i64 0)]) (T := st ++ [some (.arr 0 5 0 [[.sl false 2 40 (rows ApiType.cells a0.hierarchy.types), .sl false 3 32 (rows ApiFeat.cells a0.hierarchy.feats), .sl false 10 152 (rows ApiRule.cells a0.rules), .sl false 9 144 (rows ApiLex.cells a0.lexes), .sl false 2 32 (rows ApiNode.cells a0.start.nodes)]]), some (.arr 0 2 0 [[.sl false 1 8 (rows i64c a1.rules), .sl false 1 8 (rows i64c a1.lexes)]]), some (.arr 0 2 0 [[.int .i64 v2.2.2.code, .int .i64 v2.2.2.index]]), some (.arr 0 2 0 [[.ref false (st.length + 4) 0 0 0, .nils]]), some (.arr 0 1 8 (rows i64c []))]) (bks_mk hsc (.live _ _ _ _ (.same _) (.live _ _ _ _ (.same _) (.live _ _ _ _ (.same _) (.live _ _ _ _ (.arr _ _ _ _ _ (.cons _ _ _ _ (.cons _ _ _ _ (.nref _ _ _ _ _ _ (get_new.trans rfl)) (.cons _ _ _ _ (.same _) .nil)) (.same _))) (.live _ _ _ _ (.same _) (.nil _)))))) (by simp) ⟨.same _, .same _, .same _, .same _, .same _, .same _, .same _, .same _, trivial⟩ (by simp)) ?_
      (repeat refine awp_seq ?_); refine awp_while (body := glosswrightlaw8TrainScaled_b0 a1 a2) (kk := glosswrightlaw8TrainScaled_a0 n a1 a2 a0 v2) (n := n) (s0 := ([], 0))
        (fun (gs0 : Nat) (s0 : (List Int) × Int) => [(2, .int .i64 a2), (3, .ptr st.length 0 0 0), (4, .ptr (st.length + 1) 0 0 0), (7, .sl false 2 16 (rows ApiFrac.cells v2.1)), (8, .sl false 2 16 (rows ApiFrac.cells v2.2.1)), (9, .ptr (st.length + 2) 0 0 0), (10, .ptr (st.length + 3) 0 0 0), (11, .int .i64 s0.2)])
        (fun (gs0 : Nat) (s0 : (List Int) × Int) => st ++ [some (.arr 0 5 0 [[.sl false 2 40 (rows ApiType.cells a0.hierarchy.types), .sl false 3 32 (rows ApiFeat.cells a0.hierarchy.feats), .sl false 10 152 (rows ApiRule.cells a0.rules), .sl false 9 144 (rows ApiLex.cells a0.lexes), .sl false 2 32 (rows ApiNode.cells a0.start.nodes)]]), some (.arr 0 2 0 [[.sl false 1 8 (rows i64c a1.rules), .sl false 1 8 (rows i64c a1.lexes)]]), some (.arr 0 2 0 [[.int .i64 v2.2.2.code, .int .i64 v2.2.2.index]]), some (.arr 0 2 0 [[.ref false (st.length + 4) gs0 0 s0.1.length, .nils]]), some (.arr gs0 1 8 (rows i64c s0.1))])
        (fun (gt0 : Nat) (t0 : (List Int)) => [(2, .int .i64 a2), (3, .ptr st.length 0 0 0), (4, .ptr (st.length + 1) 0 0 0), (7, .sl false 2 16 (rows ApiFrac.cells v2.1)), (8, .sl false 2 16 (rows ApiFrac.cells v2.2.1)), (9, .ptr (st.length + 2) 0 0 0), (10, .ptr (st.length + 3) 0 0 0)])
        (fun (gt0 : Nat) (t0 : (List Int)) => st ++ [some (.arr 0 5 0 [[.sl false 2 40 (rows ApiType.cells a0.hierarchy.types), .sl false 3 32 (rows ApiFeat.cells a0.hierarchy.feats), .sl false 10 152 (rows ApiRule.cells a0.rules), .sl false 9 144 (rows ApiLex.cells a0.lexes), .sl false 2 32 (rows ApiNode.cells a0.start.nodes)]]), some (.arr 0 2 0 [[.sl false 1 8 (rows i64c a1.rules), .sl false 1 8 (rows i64c a1.lexes)]]), some (.arr 0 2 0 [[.int .i64 v2.2.2.code, .int .i64 v2.2.2.index]]), some (.arr 0 2 0 [[.ref false (st.length + 4) gt0 0 t0.length, .nils]]), some (.arr gt0 1 8 (rows i64c t0))])
        0 h (bks_mk hsc (.live _ _ _ _ (.same _) (.live _ _ _ _ (.same _) (.live _ _ _ _ (.same _) (.live _ _ _ _ (.same _) (.live _ _ _ _ (.same _) (.nil _)))))) (by simp) ⟨.same _, .same _, .same _, .same _, .same _, .same _, .same _, .same _, trivial⟩ (by simp))
        (fun gs0 s0 b0 h hx0 => ?_) (fun gt0 t0 fr1 st1 h hb => ?_)
      · unfold glosswrightlaw8TrainScaled_b0 at h
        (repeat refine awp_seq ?_); refine ev_region ?_; simp only [go_sem]
        (repeat refine awp_seq ?_); refine awp_cond (by rfl) (fun hc => ?_) fun hc => ?_
        · replace h := cond_t h (by first | exact hc | simpa using hc)
          refine awp_skip ?_; try simp only [go_sem]
          (repeat refine awp_seq ?_); refine awp_block ?_
          obtain ⟨⟨f10, f11⟩, h⟩ := chk_some h
          have e12 : (8 ≤ top) = True := by simp [top]
          obtain ⟨c13, hc13, h⟩ := let_some h
          have e14 : rows i64c s0.1 ++ [[.int .i64 (wr .i64 ((get a1.rules s0.2.toNat) * a2))]] = rows i64c c13 := by rw [hc13]; first | exact rows_app (E := i64c) s0.1 [(wr .i64 ((get a1.rules s0.2.toNat) * a2))] | simp only [go_sem, rows, List.map_append, List.map_cons, List.map_nil]
          have e15 : s0.1.length + 1 = c13.length := by rw [hc13]; simp
          obtain ⟨⟨f16, f17⟩, h⟩ := chk_some h
          (repeat refine awp_seq ?_); refine ev_draw_region [] 2 follows (by kernel_rfl) (by rfl) ?_; simp only [go_sem, List.replicate_succ, List.replicate_zero, f10, f11, f16, f17, e12, e14, e15]
          (repeat refine awp_seq ?_); refine ev_region ?_; simp only [go_sem, f10, f11, f16, f17]
          cases h
          exact pbw_nxt (gs0 + 1) (bks_mk hsc (.live _ _ _ _ (.same _) (.live _ _ _ _ (.same _) (.live _ _ _ _ (.same _) (.live _ _ _ _ (.same _) (.live _ _ _ _ (.same _) (.nil _)))))) (by simp) ⟨.same _, .same _, .same _, .same _, .same _, .same _, .same _, .same _, trivial⟩ (by simp))
        · replace h := cond_f h (by first | exact hc | simpa using hc)
          (repeat refine awp_seq ?_); refine awp_exit ?_; try simp only [go_sem]
          cases h
          exact pbw_brk gs0 (bks_mk hsc (.live _ _ _ _ (.same _) (.live _ _ _ _ (.same _) (.live _ _ _ _ (.same _) (.live _ _ _ _ (.same _) (.live _ _ _ _ (.same _) (.nil _)))))) (by simp) ⟨.same _, .same _, .same _, .same _, .same _, .same _, .same _, trivial⟩ (by simp))
      · try simp only [go_sem]
        unfold glosswrightlaw8TrainScaled_a0 at h
        refine awp_bks hb ?_
        (repeat refine awp_seq ?_); refine ev_region ?_; simp only [go_sem]
        (repeat refine awp_seq ?_); refine awp_ph 1 8 ?_
        try simp only [List.append_assoc, List.cons_append, List.nil_append]
        refine awp_bks (F := [(2, .int .i64 a2), (3, .ptr st.length 0 0 0), (4, .ptr (st.length + 1) 0 0 0), (7, .sl false 2 16 (rows ApiFrac.cells v2.1)), (8, .sl false 2 16 (rows ApiFrac.cells v2.2.1)), (9, .ptr (st.length + 2) 0 0 0), (10, .ptr (st.length + 3) 0 0 0), (12, .int .i64 0)]) (T := st ++ [some (.arr 0 5 0 [[.sl false 2 40 (rows ApiType.cells a0.hierarchy.types), .sl false 3 32 (rows ApiFeat.cells a0.hierarchy.feats), .sl false 10 152 (rows ApiRule.cells a0.rules), .sl false 9 144 (rows ApiLex.cells a0.lexes), .sl false 2 32 (rows ApiNode.cells a0.start.nodes)]]), some (.arr 0 2 0 [[.sl false 1 8 (rows i64c a1.rules), .sl false 1 8 (rows i64c a1.lexes)]]), some (.arr 0 2 0 [[.int .i64 v2.2.2.code, .int .i64 v2.2.2.index]]), some (.arr 0 2 0 [[.ref false (st.length + 4) gt0 0 t0.length, .ref false (st.length + 5) 0 0 0]]), some (.arr gt0 1 8 (rows i64c t0)), some (.arr 0 1 8 (rows i64c []))]) (bks_mk hsc (.live _ _ _ _ (.same _) (.live _ _ _ _ (.same _) (.live _ _ _ _ (.same _) (.live _ _ _ _ (.arr _ _ _ _ _ (.cons _ _ _ _ (.cons _ _ _ _ (.same _) (.cons _ _ _ _ (.nref _ _ _ _ _ _ (get_new.trans rfl)) .nil)) (.same _))) (.live _ _ _ _ (.same _) (.live _ _ _ _ (.same _) (.nil _))))))) (by simp) ⟨.same _, .same _, .same _, .same _, .same _, .same _, .same _, .same _, trivial⟩ (by simp)) ?_
        (repeat refine awp_seq ?_); refine awp_while (body := glosswrightlaw8TrainScaled_b1 a1 a2) (kk := glosswrightlaw8TrainScaled_a1 n a0 t0 v2) (n := n) (s0 := ([], 0))
          (fun (gs1 : Nat) (s1 : (List Int) × Int) => [(2, .int .i64 a2), (3, .ptr st.length 0 0 0), (4, .ptr (st.length + 1) 0 0 0), (7, .sl false 2 16 (rows ApiFrac.cells v2.1)), (8, .sl false 2 16 (rows ApiFrac.cells v2.2.1)), (9, .ptr (st.length + 2) 0 0 0), (10, .ptr (st.length + 3) 0 0 0), (12, .int .i64 s1.2)])
          (fun (gs1 : Nat) (s1 : (List Int) × Int) => st ++ [some (.arr 0 5 0 [[.sl false 2 40 (rows ApiType.cells a0.hierarchy.types), .sl false 3 32 (rows ApiFeat.cells a0.hierarchy.feats), .sl false 10 152 (rows ApiRule.cells a0.rules), .sl false 9 144 (rows ApiLex.cells a0.lexes), .sl false 2 32 (rows ApiNode.cells a0.start.nodes)]]), some (.arr 0 2 0 [[.sl false 1 8 (rows i64c a1.rules), .sl false 1 8 (rows i64c a1.lexes)]]), some (.arr 0 2 0 [[.int .i64 v2.2.2.code, .int .i64 v2.2.2.index]]), some (.arr 0 2 0 [[.ref false (st.length + 4) gt0 0 t0.length, .ref false (st.length + 5) gs1 0 s1.1.length]]), some (.arr gt0 1 8 (rows i64c t0)), some (.arr gs1 1 8 (rows i64c s1.1))])
          (fun (gt1 : Nat) (t1 : (List Int)) => [(3, .ptr st.length 0 0 0), (7, .sl false 2 16 (rows ApiFrac.cells v2.1)), (8, .sl false 2 16 (rows ApiFrac.cells v2.2.1)), (9, .ptr (st.length + 2) 0 0 0), (10, .ptr (st.length + 3) 0 0 0)])
          (fun (gt1 : Nat) (t1 : (List Int)) => st ++ [some (.arr 0 5 0 [[.sl false 2 40 (rows ApiType.cells a0.hierarchy.types), .sl false 3 32 (rows ApiFeat.cells a0.hierarchy.feats), .sl false 10 152 (rows ApiRule.cells a0.rules), .sl false 9 144 (rows ApiLex.cells a0.lexes), .sl false 2 32 (rows ApiNode.cells a0.start.nodes)]]), none, some (.arr 0 2 0 [[.int .i64 v2.2.2.code, .int .i64 v2.2.2.index]]), some (.arr 0 2 0 [[.ref false (st.length + 4) gt0 0 t0.length, .ref false (st.length + 5) gt1 0 t1.length]]), some (.arr gt0 1 8 (rows i64c t0)), some (.arr gt1 1 8 (rows i64c t1))])
          0 h (bks_mk hsc (.live _ _ _ _ (.same _) (.live _ _ _ _ (.same _) (.live _ _ _ _ (.same _) (.live _ _ _ _ (.same _) (.live _ _ _ _ (.same _) (.live _ _ _ _ (.same _) (.nil _))))))) (by simp) ⟨.same _, .same _, .same _, .same _, .same _, .same _, .same _, .same _, trivial⟩ (by simp))
          (fun gs1 s1 b1 h hx1 => ?_) (fun gt1 t1 fr1 st1 h hb => ?_)
        · unfold glosswrightlaw8TrainScaled_b1 at h
          (repeat refine awp_seq ?_); refine ev_region ?_; simp only [go_sem]
          (repeat refine awp_seq ?_); refine awp_cond (by rfl) (fun hc => ?_) fun hc => ?_
          · replace h := cond_t h (by first | exact hc | simpa using hc)
            refine awp_skip ?_; try simp only [go_sem]
            (repeat refine awp_seq ?_); refine awp_block ?_
            obtain ⟨⟨f25, f26⟩, h⟩ := chk_some h
            have e27 : (8 ≤ top) = True := by simp [top]
            obtain ⟨c28, hc28, h⟩ := let_some h
            have e29 : rows i64c s1.1 ++ [[.int .i64 (wr .i64 ((get a1.lexes s1.2.toNat) * a2))]] = rows i64c c28 := by rw [hc28]; first | exact rows_app (E := i64c) s1.1 [(wr .i64 ((get a1.lexes s1.2.toNat) * a2))] | simp only [go_sem, rows, List.map_append, List.map_cons, List.map_nil]
            have e30 : s1.1.length + 1 = c28.length := by rw [hc28]; simp
            obtain ⟨⟨f31, f32⟩, h⟩ := chk_some h
            (repeat refine awp_seq ?_); refine ev_draw_region [] 2 follows (by kernel_rfl) (by rfl) ?_; simp only [go_sem, List.replicate_succ, List.replicate_zero, f25, f26, f31, f32, e27, e29, e30]
            (repeat refine awp_seq ?_); refine ev_region ?_; simp only [go_sem, f25, f26, f31, f32]
            cases h
            exact pbw_nxt (gs1 + 1) (bks_mk hsc (.live _ _ _ _ (.same _) (.live _ _ _ _ (.same _) (.live _ _ _ _ (.same _) (.live _ _ _ _ (.same _) (.live _ _ _ _ (.same _) (.live _ _ _ _ (.same _) (.nil _))))))) (by simp) ⟨.same _, .same _, .same _, .same _, .same _, .same _, .same _, .same _, trivial⟩ (by simp))
          · replace h := cond_f h (by first | exact hc | simpa using hc)
            (repeat refine awp_seq ?_); refine awp_exit ?_; try simp only [go_sem]
            cases h
            exact pbw_brk gs1 (bks_mk hsc (.live _ _ _ _ (.same _) (.dead _ _ _ (.live _ _ _ _ (.same _) (.live _ _ _ _ (.same _) (.live _ _ _ _ (.same _) (.live _ _ _ _ (.same _) (.nil _))))))) (by simp) ⟨.same _, .same _, .same _, .same _, .same _, trivial⟩ (by simp))
        · try simp only [go_sem]
          unfold glosswrightlaw8TrainScaled_a1 at h
          refine awp_bks hb ?_
          try simp only [List.append_assoc, List.cons_append, List.nil_append]
          refine awp_bks (F := [(3, .ptr st.length 0 0 0), (7, .sl false 2 16 (rows ApiFrac.cells v2.1)), (8, .sl false 2 16 (rows ApiFrac.cells v2.2.1)), (9, .ptr (st.length + 2) 0 0 0), (10, .ptr (st.length + 3) 0 0 0)]) (T := st ++ [some (.arr 0 5 0 [[.sl false 2 40 (rows ApiType.cells a0.hierarchy.types), .sl false 3 32 (rows ApiFeat.cells a0.hierarchy.feats), .sl false 10 152 (rows ApiRule.cells a0.rules), .sl false 9 144 (rows ApiLex.cells a0.lexes), .sl false 2 32 (rows ApiNode.cells a0.start.nodes)]]), none, some (.arr 0 2 0 [[.int .i64 v2.2.2.code, .int .i64 v2.2.2.index]]), some (.arr 0 2 0 [[.sl false 1 8 (rows i64c t0), .sl false 1 8 (rows i64c t1)]])]) (bks_mk hsc (.live _ _ _ _ (.same _) (.dead _ _ _ (.live _ _ _ _ (.same _) (.live _ _ _ _ (.arr _ _ _ _ _ (.cons _ _ _ _ (.cons _ _ _ _ (.ref _ _ _ _ _ _ _ _ _ (get_new.trans rfl) (look_out2 (by first | decide | simp)) (by decide) (rows_imm _) (by simp only [go_sem])) (.cons _ _ _ _ (.ref _ _ _ _ _ _ _ _ _ (get_new.trans rfl) (look_out2 (by first | decide | simp)) (by decide) (rows_imm _) (by simp only [go_sem])) .nil)) (.same _))) (.nil _))))) (by simp) ⟨.same _, .same _, .same _, .same _, .same _, trivial⟩ (by simp)) ?_
          (repeat refine awp_seq ?_); refine ev_region ?_; simp only [go_sem]
          obtain ⟨v33, hv33, h⟩ := bind_some h
          refine ((ok_trainWeights_2 n _ _ _ hv33)).to ?_
          try simp only [go_sem]
          (repeat refine awp_seq ?_); refine ev_region ?_; simp only [go_sem]
          (repeat refine awp_seq ?_); refine awp_cond (by rfl) (fun hc => ?_) fun hc => ?_
          · replace h := cond_t h (by first | exact hc | simpa using hc)
            (repeat refine awp_seq ?_); refine ev_region ?_; simp only [go_sem]
            (repeat refine awp_seq ?_); refine awp_ret ?_
            try simp only [go_sem]
            have hr := Option.some.inj h
            refine finb_of ?_; simp only [go_sem]
            exact fin_old' (d' := .bool (decide (v33.2.2.code = 3))) hsc (.same _) (by simp) ⟨by subst hr; rfl, rfl⟩
          · replace h := cond_f h (by first | exact hc | simpa using hc)
            refine awp_skip ?_; try simp only [go_sem]
            (repeat refine awp_seq ?_); refine ev_region ?_; simp only [go_sem]
            (repeat refine awp_seq ?_); refine awp_cond (by rfl) (fun hc => ?_) fun hc => ?_
            · replace h := cond_t h (by first | exact hc | simpa using hc)
              (repeat refine awp_seq ?_); refine ev_region ?_; simp only [go_sem]
              (repeat refine awp_seq ?_); refine awp_ret ?_
              try simp only [go_sem]
              have hr := Option.some.inj h
              refine finb_of ?_; simp only [go_sem]
              exact fin_old' (d' := .bool false) hsc (.same _) (by simp) ⟨by subst hr; rfl, rfl⟩
            · replace h := cond_f h (by first | exact hc | simpa using hc)
              refine awp_skip ?_; try simp only [go_sem]
              (repeat refine awp_seq ?_); refine ev_region ?_; simp only [go_sem]
              (repeat refine awp_seq ?_); refine awp_while (body := glosswrightlaw8TrainScaled_b2 v2 v33) (kk := glosswrightlaw8TrainScaled_a2 n v2 v33) (n := n) (s0 := 0)
                (fun (gs2 : Unit) (s2 : Int) => [(7, .sl false 2 16 (rows ApiFrac.cells v2.1)), (8, .sl false 2 16 (rows ApiFrac.cells v2.2.1)), (13, .sl false 2 16 (rows ApiFrac.cells v33.1)), (14, .sl false 2 16 (rows ApiFrac.cells v33.2.1)), (15, .int .i64 s2)])
                (fun (gs2 : Unit) (s2 : Int) => st)
                (fun (gt2 : Unit) (t2 : Unit) => [(8, .sl false 2 16 (rows ApiFrac.cells v2.2.1)), (14, .sl false 2 16 (rows ApiFrac.cells v33.2.1))])
                (fun (gt2 : Unit) (t2 : Unit) => st)
                () h (bks_mk0 hsc ⟨.same _, .same _, .same _, .same _, .same _, trivial⟩ (by simp))
                (fun gs2 s2 b2 h hx2 => ?_) (fun gt2 t2 fr1 st1 h hb => ?_)
              · unfold glosswrightlaw8TrainScaled_b2 at h
                (repeat refine awp_seq ?_); refine ev_region ?_; simp only [go_sem]
                (repeat refine awp_seq ?_); refine awp_cond (by rfl) (fun hc => ?_) fun hc => ?_
                · replace h := cond_t h (by first | exact hc | simpa using hc)
                  refine awp_skip ?_; try simp only [go_sem]
                  (repeat refine awp_seq ?_); refine awp_block ?_
                  obtain ⟨⟨f36, f37⟩, h⟩ := chk_some h
                  obtain ⟨f38, h⟩ := chk_some h
                  (repeat refine awp_seq ?_); refine ev_draw_region [] 0 follows (by kernel_rfl) (by rfl) ?_; simp only [go_sem, List.replicate_succ, List.replicate_zero, f36, f37, f38]
                  (repeat refine awp_seq ?_); refine awp_cond (by rfl) (fun hc => ?_) fun hc => ?_
                  · replace h := cond_t h (by first | exact hc | simpa using hc)
                    (repeat refine awp_seq ?_); refine ev_region ?_; simp only [go_sem, f36, f37, f38]
                    (repeat refine awp_seq ?_); refine awp_ret ?_
                    try simp only [go_sem, f36, f37, f38]
                    obtain rfl := Option.some.inj h
                    refine pbw_ret ?_; have hr := hx2 _ rfl; try simp only [go_sem, f36, f37, f38]
                    refine finb_of ?_; simp only [go_sem, f36, f37, f38]
                    exact fin_same' (d' := .bool false) hsc (.same _) (by simp) ⟨by subst hr; rfl, rfl⟩
                  · replace h := cond_f h (by first | exact hc | simpa using hc)
                    refine awp_skip ?_; try simp only [go_sem, f36, f37, f38]
                    (repeat refine awp_seq ?_); refine ev_region ?_; simp only [go_sem, f36, f37, f38]
                    cases h
                    exact pbw_nxt () (bks_mk00 hsc ⟨.same _, .same _, .same _, .same _, .same _, trivial⟩ (by simp))
                · replace h := cond_f h (by first | exact hc | simpa using hc)
                  (repeat refine awp_seq ?_); refine awp_exit ?_; try simp only [go_sem]
                  cases h
                  exact pbw_brk () (bks_mk00 hsc ⟨.same _, .same _, trivial⟩ (by simp))
              · try simp only [go_sem]
                unfold glosswrightlaw8TrainScaled_a2 at h
                refine awp_bks hb ?_
                (repeat refine awp_seq ?_); refine ev_region ?_; simp only [go_sem]
                (repeat refine awp_seq ?_); refine awp_while (body := glosswrightlaw8TrainScaled_b3 v2 v33) (kk := glosswrightlaw8TrainScaled_a3) (n := n) (s0 := 0)
                  (fun (gs3 : Unit) (s3 : Int) => [(8, .sl false 2 16 (rows ApiFrac.cells v2.2.1)), (14, .sl false 2 16 (rows ApiFrac.cells v33.2.1)), (16, .int .i64 s3)])
                  (fun (gs3 : Unit) (s3 : Int) => st)
                  (fun (gt3 : Unit) (t3 : Unit) => [])
                  (fun (gt3 : Unit) (t3 : Unit) => st)
                  () h (bks_mk00 hsc ⟨.same _, .same _, .same _, trivial⟩ (by simp))
                  (fun gs3 s3 b3 h hx3 => ?_) (fun gt3 t3 fr1 st1 h hb => ?_)
                · unfold glosswrightlaw8TrainScaled_b3 at h
                  (repeat refine awp_seq ?_); refine ev_region ?_; simp only [go_sem]
                  (repeat refine awp_seq ?_); refine awp_cond (by rfl) (fun hc => ?_) fun hc => ?_
                  · replace h := cond_t h (by first | exact hc | simpa using hc)
                    refine awp_skip ?_; try simp only [go_sem]
                    (repeat refine awp_seq ?_); refine awp_block ?_
                    obtain ⟨⟨f41, f42⟩, h⟩ := chk_some h
                    obtain ⟨f43, h⟩ := chk_some h
                    (repeat refine awp_seq ?_); refine ev_draw_region [] 0 follows (by kernel_rfl) (by rfl) ?_; simp only [go_sem, List.replicate_succ, List.replicate_zero, f41, f42, f43]
                    (repeat refine awp_seq ?_); refine awp_cond (by rfl) (fun hc => ?_) fun hc => ?_
                    · replace h := cond_t h (by first | exact hc | simpa using hc)
                      (repeat refine awp_seq ?_); refine ev_region ?_; simp only [go_sem, f41, f42, f43]
                      (repeat refine awp_seq ?_); refine awp_ret ?_
                      try simp only [go_sem, f41, f42, f43]
                      obtain rfl := Option.some.inj h
                      refine pbw_ret ?_; have hr := hx3 _ rfl; try simp only [go_sem, f41, f42, f43]
                      refine finb_of ?_; simp only [go_sem, f41, f42, f43]
                      exact fin_same' (d' := .bool false) hsc (.same _) (by simp) ⟨by subst hr; rfl, rfl⟩
                    · replace h := cond_f h (by first | exact hc | simpa using hc)
                      refine awp_skip ?_; try simp only [go_sem, f41, f42, f43]
                      (repeat refine awp_seq ?_); refine ev_region ?_; simp only [go_sem, f41, f42, f43]
                      cases h
                      exact pbw_nxt () (bks_mk00 hsc ⟨.same _, .same _, .same _, trivial⟩ (by simp))
                  · replace h := cond_f h (by first | exact hc | simpa using hc)
                    (repeat refine awp_seq ?_); refine awp_exit ?_; try simp only [go_sem]
                    cases h
                    exact pbw_brk () (bks_mk00 hsc trivial (by simp))
                · try simp only [go_sem]
                  unfold glosswrightlaw8TrainScaled_a3 at h
                  refine awp_bks hb ?_
                  (repeat refine awp_seq ?_); refine ev_region ?_; simp only [go_sem]
                  (repeat refine awp_seq ?_); refine awp_ret ?_
                  try simp only [go_sem]
                  have hr := Option.some.inj h
                  refine finb_of ?_; simp only [go_sem]
                  exact fin_same' (d' := .bool true) hsc (.same _) (by simp) ⟨by subst hr; rfl, rfl⟩


end Go.Proofs.YtaohdfpcdfbnlaaDoor

