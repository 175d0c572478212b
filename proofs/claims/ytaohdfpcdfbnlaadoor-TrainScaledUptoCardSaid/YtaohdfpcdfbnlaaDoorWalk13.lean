/-
  Each Go function of this part does what its plain Lean function says.
-/
import Derived.Test.YtaohdfpcdfbnlaaDoorBase
import Derived.Test.YtaohdfpcdfbnlaaDoorHand
import Derived.Test.YtaohdfpcdfbnlaaDoorMirrors
import Derived.Test.YtaohdfpcdfbnlaaDoorWalk5
import Derived.Test.YtaohdfpcdfbnlaaDoorWalk12
set_option linter.unusedVariables false
set_option linter.unusedSimpArgs false
namespace Go.Proofs.YtaohdfpcdfbnlaaDoor
open Go Go.Am

set_option maxHeartbeats 2000000 in
set_option maxRecDepth 100000 in
theorem ok_trainWeights (n : Nat) (a0 : ApiGrammar) (a1 : ApiCounts) (r : (List ApiFrac) × (List ApiFrac)) (h : trainWeights n a0 a1 = some r) : Pure Tryd.prog gl 15 [.agg [.sl false 2 40 (rows ApiType.cells a0.hierarchy.types), .sl false 3 32 (rows ApiFeat.cells a0.hierarchy.feats), .sl false 10 152 (rows ApiRule.cells a0.rules), .sl false 9 144 (rows ApiLex.cells a0.lexes), .sl false 2 32 (rows ApiNode.cells a0.start.nodes)], .agg [.sl false 1 8 (rows i64c a1.rules), .sl false 1 8 (rows i64c a1.lexes)]] (.tup [.sl false 2 16 (rows ApiFrac.cells r.1), .sl false 2 16 (rows ApiFrac.cells r.2)]) := by
  intro st
  unfold trainWeights at h
  refine spec_fb (N := 95) (rs := [.tmp 4, .tmp 5]) (keep := [0, 1, 2, 3, 4, 5, 6, 7, 8, 9, 10, 11, 12, 13, 14, 15, 22, 23, 24, 25, 55, 56, 57, 58]) Tryd.func15 rfl rfl rfl (by kernel_rfl) rfl fun hsc => ?_
  (repeat refine awp_seq ?_); refine ev_region ?_; simp only [go_sem]
  obtain ⟨⟨f1, f2⟩, h⟩ := chk_some h
  have e3 : List.replicate a0.hierarchy.types.length [.int .i64 0] = rows i64c (List.replicate a0.hierarchy.types.length (default : Int)) := rows_rep (E := i64c) _ default
  (repeat refine awp_seq ?_); refine ev_region ?_; simp only [go_sem, f1, f2, e3]
  (repeat refine awp_seq ?_); refine ev_region ?_; simp only [go_sem, f1, f2]
  (repeat refine awp_seq ?_); refine ev_region ?_; simp only [go_sem, f1, f2]
  (repeat refine awp_seq ?_); refine awp_ph 1 8 ?_
  try simp only [List.append_assoc, List.cons_append, List.nil_append]
  refine awp_bks (F := [(2, .ptr st.length 0 0 0), (3, .ptr (st.length + 1) 0 0 0), (6, .ptr (st.length + 3) 0 0 0), (7, .ref false (st.length + 4) 0 0 0), (8, .nils), (22, .sl false 10 152 (rows ApiRule.cells a0.rules)), (23, .int .i64 (↑a0.rules.length : Int)), (24, .int .i64 0)]) (T := st ++ [some (.arr 0 5 0 [[.sl false 2 40 (rows ApiType.cells a0.hierarchy.types), .sl false 3 32 (rows ApiFeat.cells a0.hierarchy.feats), .sl false 10 152 (rows ApiRule.cells a0.rules), .sl false 9 144 (rows ApiLex.cells a0.lexes), .sl false 2 32 (rows ApiNode.cells a0.start.nodes)]]), some (.arr 0 2 0 [[.sl false 1 8 (rows i64c a1.rules), .sl false 1 8 (rows i64c a1.lexes)]]), some (.arr 0 1 8 (rows i64c (List.replicate a0.hierarchy.types.length (default : Int)))), some (.arr 0 1 0 [[.ref true (st.length + 2) 0 0 a0.hierarchy.types.length]]), some (.arr 0 1 8 (rows i64c []))]) (bks_mk hsc (.live _ _ _ _ (.same _) (.live _ _ _ _ (.same _) (.live _ _ _ _ (.same _) (.live _ _ _ _ (.same _) (.live _ _ _ _ (.same _) (.nil _)))))) (by simp) ⟨.same _, .same _, .same _, .nref _ _ _ _ _ _ (get_new.trans rfl), .same _, .same _, .same _, .same _, trivial⟩ (by simp)) ?_
  (repeat refine awp_seq ?_); refine awp_len (t := 22) rfl fun hl0 => ?_
  simp only [rows_len] at hl0
  (repeat refine awp_seq ?_); refine awp_range (body := trainWeights_b0 n a0 a1) (kk := trainWeights_a0 n a0 a1) (n := a0.rules.length) (s0 := ((List.replicate a0.hierarchy.types.length (default : Int)), []))
    (fun (gs0 : Nat × Nat) (k0 : Nat) (s0 : (List Int) × (List Int)) => [(2, .ptr st.length 0 0 0), (3, .ptr (st.length + 1) 0 0 0), (6, .ptr (st.length + 3) 0 0 0), (7, .ref false (st.length + 4) gs0.2 0 s0.2.length), (8, .nils), (22, .sl false 10 152 (rows ApiRule.cells a0.rules)), (23, .int .i64 (↑a0.rules.length : Int)), (24, .int .i64 (↑k0 : Int))])
    (fun (gs0 : Nat × Nat) (k0 : Nat) (s0 : (List Int) × (List Int)) => st ++ [some (.arr 0 5 0 [[.sl false 2 40 (rows ApiType.cells a0.hierarchy.types), .sl false 3 32 (rows ApiFeat.cells a0.hierarchy.feats), .sl false 10 152 (rows ApiRule.cells a0.rules), .sl false 9 144 (rows ApiLex.cells a0.lexes), .sl false 2 32 (rows ApiNode.cells a0.start.nodes)]]), some (.arr 0 2 0 [[.sl false 1 8 (rows i64c a1.rules), .sl false 1 8 (rows i64c a1.lexes)]]), some (.arr gs0.1 1 8 (rows i64c s0.1)), some (.arr 0 1 0 [[.ref true (st.length + 2) gs0.1 0 s0.1.length]]), some (.arr gs0.2 1 8 (rows i64c s0.2))])
    (fun (gt0 : Nat × Nat) (t0 : (List Int) × (List Int)) => [(2, .ptr st.length 0 0 0), (3, .ptr (st.length + 1) 0 0 0), (6, .ptr (st.length + 3) 0 0 0), (7, .ref false (st.length + 4) gt0.2 0 t0.2.length), (8, .nils)])
    (fun (gt0 : Nat × Nat) (t0 : (List Int) × (List Int)) => st ++ [some (.arr 0 5 0 [[.sl false 2 40 (rows ApiType.cells a0.hierarchy.types), .sl false 3 32 (rows ApiFeat.cells a0.hierarchy.feats), .sl false 10 152 (rows ApiRule.cells a0.rules), .sl false 9 144 (rows ApiLex.cells a0.lexes), .sl false 2 32 (rows ApiNode.cells a0.start.nodes)]]), some (.arr 0 2 0 [[.sl false 1 8 (rows i64c a1.rules), .sl false 1 8 (rows i64c a1.lexes)]]), some (.arr gt0.1 1 8 (rows i64c t0.1)), some (.arr 0 1 0 [[.ref true (st.length + 2) gt0.1 0 t0.1.length]]), some (.arr gt0.2 1 8 (rows i64c t0.2))])
    (0, 0) h (bks_mk hsc (.live _ _ _ _ (.same _) (.live _ _ _ _ (.same _) (.live _ _ _ _ (.same _) (.live _ _ _ _ (.arr _ _ _ _ _ (.cons _ _ _ _ (.cons _ _ _ _ (up_eq (by simp)) .nil) (.same _))) (.live _ _ _ _ (.same _) (.nil _)))))) (by simp) ⟨.same _, .same _, .same _, .same _, .same _, .same _, .same _, .same _, trivial⟩ (by simp))
    (fun gs0 k0 s0 b0 hk0 h hx0 => ?_) (fun gs0 s0 => ?_) (fun gt0 t0 fr1 st1 h hb => ?_)
  · unfold trainWeights_b0 at h
    have hw0 : wr .i64 ((↑k0 : Int) + 1) = (↑(k0 + 1) : Int) := wr_succ hk0 hl0 (by decide)
    (repeat refine awp_seq ?_); refine ev_region ?_; simp only [go_sem, f1, f2]
    (repeat refine awp_seq ?_); refine awp_cond (by rfl) (fun hc => ?_) fun hc => ?_
    · refine awp_skip ?_; try simp only [go_sem, f1, f2]
      (repeat refine awp_seq ?_); refine awp_block ?_
      (repeat refine awp_seq ?_); refine ev_region ?_; simp only [go_sem, f1, f2, hk0, hw0]
      (repeat refine awp_seq ?_); refine ev_draw_region [] 0 follows (by kernel_rfl) (by rfl) ?_; simp only [go_sem, List.replicate_succ, List.replicate_zero, f1, f2, hk0, hw0]
      obtain ⟨v23, hv23, h⟩ := bind_some h
      refine dc_pure (ok_graphTarget n _ _ _ _ hv23) ?_
      obtain ⟨⟨f24, f25⟩, h⟩ := chk_some h
      try simp only [go_sem, f1, f2, hk0, hw0, f24, f25]
      have e26 : (8 ≤ top) = True := by simp [top]
      obtain ⟨c27, hc27, h⟩ := let_some h
      have e28 : rows i64c s0.2 ++ [[.int .i64 ((get ((get a0.rules k0).graph.nodes) v23.toNat).type)]] = rows i64c c27 := by rw [hc27]; first | exact rows_app (E := i64c) s0.2 [(get ((get a0.rules k0).graph.nodes) v23.toNat).type] | simp only [go_sem, rows, List.map_append, List.map_cons, List.map_nil]
      have e29 : s0.2.length + 1 = c27.length := by rw [hc27]; simp
      obtain ⟨⟨f30, f31⟩, h⟩ := chk_some h
      (repeat refine awp_seq ?_); refine ev_region ?_; simp only [go_sem, f1, f2, hk0, hw0, f24, f25, f30, f31, e26, e28, e29]
      obtain ⟨⟨f32, f33⟩, h⟩ := chk_some h
      have e34 : (rows i64c s0.1).getD (((get ((get a0.rules k0).graph.nodes) v23.toNat).type).toNat) [] = i64c (get s0.1 (((get ((get a0.rules k0).graph.nodes) v23.toNat).type).toNat)) := rows_get (E := i64c) (l := s0.1) (k := ((get ((get a0.rules k0).graph.nodes) v23.toNat).type).toNat) (by first | omega | (simp; omega))
      have e35 : ((get ((get a0.rules k0).graph.nodes) v23.toNat).type).toNat < s0.1.length := by first | omega | (simp; omega)
      obtain ⟨f36, h⟩ := chk_some h
      have e37 : (rows i64c s0.1).getD (((get ((get a0.rules k0).graph.nodes) v23.toNat).type).toNat) [] = i64c (get s0.1 (((get ((get a0.rules k0).graph.nodes) v23.toNat).type).toNat)) := rows_get (E := i64c) (l := s0.1) (k := ((get ((get a0.rules k0).graph.nodes) v23.toNat).type).toNat) (by first | omega | (simp; omega))
      have e38 : ((get ((get a0.rules k0).graph.nodes) v23.toNat).type).toNat < s0.1.length := by first | omega | (simp; omega)
      obtain ⟨c39, hc39, h⟩ := let_some h
      have e40 : (rows i64c s0.1).set (((get ((get a0.rules k0).graph.nodes) v23.toNat).type).toNat) [.int .i64 (wr .i64 ((get s0.1 (((get ((get a0.rules k0).graph.nodes) v23.toNat).type).toNat)) + (get a1.rules k0)))] = rows i64c c39 := by rw [hc39]; first | exact rows_set (E := i64c) _ _ _ | simp only [go_sem, rows, List.map_set]
      (repeat refine awp_seq ?_); refine ev_draw_region [] 0 follows (by kernel_rfl) (by rfl) ?_; simp only [go_sem, List.replicate_succ, List.replicate_zero, f1, f2, hk0, hw0, f24, f25, f30, f31, f32, f33, f36, e34, e35, e37, e38, e40]
      have e41 : D.ref true (st.length + 2) gs0.1 0 s0.1.length = D.ref true (st.length + 2) gs0.1 0 c39.length := by simp [hc39]
      simp only [e41]
      (repeat refine awp_seq ?_); refine ev_region ?_; simp only [go_sem, f1, f2, hk0, hw0, f24, f25, f30, f31, f32, f33, f36]
      cases h
      exact pbr_nxt (gs0.1, (gs0.2 + 1)) (bks_mk hsc (.live _ _ _ _ (.same _) (.live _ _ _ _ (.same _) (.live _ _ _ _ (.same _) (.live _ _ _ _ (.same _) (.live _ _ _ _ (.same _) (.nil _)))))) (by simp) ⟨.same _, .same _, .same _, .same _, .same _, .same _, .same _, .same _, trivial⟩ (by simp))
    · exfalso; have hc := of_decide_eq_false hc; omega
  · (repeat refine awp_seq ?_); refine ev_region ?_; simp only [go_sem, f1, f2]
    (repeat refine awp_seq ?_); refine awp_cond (by rfl) (fun hc => ?_) fun hc => ?_
    · exfalso; first | exact Bool.noConfusion hc | (have hc := of_decide_eq_true hc; omega)
    · refine awp_exit ?_; simp only [go_sem, f1, f2]
      exact ⟨(gs0.1, gs0.2), (bks_mk hsc (.live _ _ _ _ (.same _) (.live _ _ _ _ (.same _) (.live _ _ _ _ (.same _) (.live _ _ _ _ (.same _) (.live _ _ _ _ (.same _) (.nil _)))))) (by simp) ⟨.same _, .same _, .same _, .same _, .same _, trivial⟩ (by simp))⟩
  · try simp only [go_sem, f1, f2]
    unfold trainWeights_a0 at h
    refine awp_bks hb ?_
    (repeat refine awp_seq ?_); refine ev_region ?_; simp only [go_sem, f1, f2]
    (repeat refine awp_seq ?_); refine awp_ph 1 8 ?_
    try simp only [List.append_assoc, List.cons_append, List.nil_append]
    refine awp_bks (F := [(3, .ptr (st.length + 1) 0 0 0), (6, .ptr (st.length + 3) 0 0 0), (7, .ref false (st.length + 4) gt0.2 0 t0.2.length), (8, .ref false (st.length + 5) 0 0 0), (55, .sl false 9 144 (rows ApiLex.cells a0.lexes)), (56, .int .i64 (↑a0.lexes.length : Int)), (57, .int .i64 0)]) (T := st ++ [some (.arr 0 5 0 [[.sl false 2 40 (rows ApiType.cells a0.hierarchy.types), .sl false 3 32 (rows ApiFeat.cells a0.hierarchy.feats), .sl false 10 152 (rows ApiRule.cells a0.rules), .sl false 9 144 (rows ApiLex.cells a0.lexes), .sl false 2 32 (rows ApiNode.cells a0.start.nodes)]]), some (.arr 0 2 0 [[.sl false 1 8 (rows i64c a1.rules), .sl false 1 8 (rows i64c a1.lexes)]]), some (.arr gt0.1 1 8 (rows i64c t0.1)), some (.arr 0 1 0 [[.ref true (st.length + 2) gt0.1 0 t0.1.length]]), some (.arr gt0.2 1 8 (rows i64c t0.2)), some (.arr 0 1 8 (rows i64c []))]) (bks_mk hsc (.live _ _ _ _ (.same _) (.live _ _ _ _ (.same _) (.live _ _ _ _ (.same _) (.live _ _ _ _ (.same _) (.live _ _ _ _ (.same _) (.live _ _ _ _ (.same _) (.nil _))))))) (by simp) ⟨.same _, .same _, .same _, .nref _ _ _ _ _ _ (get_new.trans rfl), .same _, .same _, .same _, trivial⟩ (by simp)) ?_
    (repeat refine awp_seq ?_); refine awp_len (t := 55) rfl fun hl1 => ?_
    simp only [rows_len] at hl1
    (repeat refine awp_seq ?_); refine awp_range (body := trainWeights_b1 a0 a1) (kk := trainWeights_a1 n a1 t0) (n := a0.lexes.length) (s0 := (t0.1, []))
      (fun (gs1 : Nat × Nat) (k1 : Nat) (s1 : (List Int) × (List Int)) => [(3, .ptr (st.length + 1) 0 0 0), (6, .ptr (st.length + 3) 0 0 0), (7, .ref false (st.length + 4) gt0.2 0 t0.2.length), (8, .ref false (st.length + 5) gs1.2 0 s1.2.length), (55, .sl false 9 144 (rows ApiLex.cells a0.lexes)), (56, .int .i64 (↑a0.lexes.length : Int)), (57, .int .i64 (↑k1 : Int))])
      (fun (gs1 : Nat × Nat) (k1 : Nat) (s1 : (List Int) × (List Int)) => st ++ [none, some (.arr 0 2 0 [[.sl false 1 8 (rows i64c a1.rules), .sl false 1 8 (rows i64c a1.lexes)]]), some (.arr gs1.1 1 8 (rows i64c s1.1)), some (.arr 0 1 0 [[.ref true (st.length + 2) gs1.1 0 s1.1.length]]), some (.arr gt0.2 1 8 (rows i64c t0.2)), some (.arr gs1.2 1 8 (rows i64c s1.2))])
      (fun (gt1 : Nat × Nat) (t1 : (List Int) × (List Int)) => [(3, .ptr (st.length + 1) 0 0 0), (6, .ptr (st.length + 3) 0 0 0), (7, .ref false (st.length + 4) gt0.2 0 t0.2.length), (8, .ref false (st.length + 5) gt1.2 0 t1.2.length)])
      (fun (gt1 : Nat × Nat) (t1 : (List Int) × (List Int)) => st ++ [none, some (.arr 0 2 0 [[.sl false 1 8 (rows i64c a1.rules), .sl false 1 8 (rows i64c a1.lexes)]]), some (.arr gt1.1 1 8 (rows i64c t1.1)), some (.arr 0 1 0 [[.ref true (st.length + 2) gt1.1 0 t1.1.length]]), some (.arr gt0.2 1 8 (rows i64c t0.2)), some (.arr gt1.2 1 8 (rows i64c t1.2))])
      (gt0.1, 0) h (bks_mk hsc (.dead _ _ _ (.live _ _ _ _ (.same _) (.live _ _ _ _ (.same _) (.live _ _ _ _ (.same _) (.live _ _ _ _ (.same _) (.live _ _ _ _ (.same _) (.nil _))))))) (by simp) ⟨.same _, .same _, .same _, .same _, .same _, .same _, .same _, trivial⟩ (by simp))
      (fun gs1 k1 s1 b1 hk1 h hx1 => ?_) (fun gs1 s1 => ?_) (fun gt1 t1 fr1 st1 h hb => ?_)
    · unfold trainWeights_b1 at h
      have hw1 : wr .i64 ((↑k1 : Int) + 1) = (↑(k1 + 1) : Int) := wr_succ hk1 hl1 (by decide)
      (repeat refine awp_seq ?_); refine ev_region ?_; simp only [go_sem, f1, f2]
      (repeat refine awp_seq ?_); refine awp_cond (by rfl) (fun hc => ?_) fun hc => ?_
      · refine awp_skip ?_; try simp only [go_sem, f1, f2]
        (repeat refine awp_seq ?_); refine awp_block ?_
        (repeat refine awp_seq ?_); refine ev_region ?_; simp only [go_sem, f1, f2, hk1, hw1]
        obtain ⟨f59, h⟩ := chk_some h
        (repeat refine awp_seq ?_); refine ev_region ?_; simp only [go_sem, f1, f2, hk1, hw1, f59]
        have e60 : (8 ≤ top) = True := by simp [top]
        obtain ⟨c61, hc61, h⟩ := let_some h
        have e62 : rows i64c s1.2 ++ [[.int .i64 ((get ((get a0.lexes k1).graph.nodes) 0).type)]] = rows i64c c61 := by rw [hc61]; first | exact rows_app (E := i64c) s1.2 [(get ((get a0.lexes k1).graph.nodes) 0).type] | simp only [go_sem, rows, List.map_append, List.map_cons, List.map_nil]
        have e63 : s1.2.length + 1 = c61.length := by rw [hc61]; simp
        obtain ⟨⟨f64, f65⟩, h⟩ := chk_some h
        (repeat refine awp_seq ?_); refine ev_region ?_; simp only [go_sem, f1, f2, hk1, hw1, f59, f64, f65, e60, e62, e63]
        obtain ⟨⟨f66, f67⟩, h⟩ := chk_some h
        have e68 : (rows i64c s1.1).getD (((get ((get a0.lexes k1).graph.nodes) 0).type).toNat) [] = i64c (get s1.1 (((get ((get a0.lexes k1).graph.nodes) 0).type).toNat)) := rows_get (E := i64c) (l := s1.1) (k := ((get ((get a0.lexes k1).graph.nodes) 0).type).toNat) (by first | omega | (simp; omega))
        have e69 : ((get ((get a0.lexes k1).graph.nodes) 0).type).toNat < s1.1.length := by first | omega | (simp; omega)
        obtain ⟨f70, h⟩ := chk_some h
        have e71 : (rows i64c s1.1).getD (((get ((get a0.lexes k1).graph.nodes) 0).type).toNat) [] = i64c (get s1.1 (((get ((get a0.lexes k1).graph.nodes) 0).type).toNat)) := rows_get (E := i64c) (l := s1.1) (k := ((get ((get a0.lexes k1).graph.nodes) 0).type).toNat) (by first | omega | (simp; omega))
        have e72 : ((get ((get a0.lexes k1).graph.nodes) 0).type).toNat < s1.1.length := by first | omega | (simp; omega)
        obtain ⟨c73, hc73, h⟩ := let_some h
        have e74 : (rows i64c s1.1).set (((get ((get a0.lexes k1).graph.nodes) 0).type).toNat) [.int .i64 (wr .i64 ((get s1.1 (((get ((get a0.lexes k1).graph.nodes) 0).type).toNat)) + (get a1.lexes k1)))] = rows i64c c73 := by rw [hc73]; first | exact rows_set (E := i64c) _ _ _ | simp only [go_sem, rows, List.map_set]
        (repeat refine awp_seq ?_); refine ev_draw_region [] 0 follows (by kernel_rfl) (by rfl) ?_; simp only [go_sem, List.replicate_succ, List.replicate_zero, f1, f2, hk1, hw1, f59, f64, f65, f66, f67, f70, e68, e69, e71, e72, e74]
        have e75 : D.ref true (st.length + 2) gs1.1 0 s1.1.length = D.ref true (st.length + 2) gs1.1 0 c73.length := by simp [hc73]
        simp only [e75]
        (repeat refine awp_seq ?_); refine ev_region ?_; simp only [go_sem, f1, f2, hk1, hw1, f59, f64, f65, f66, f67, f70]
        cases h
        exact pbr_nxt (gs1.1, (gs1.2 + 1)) (bks_mk hsc (.dead _ _ _ (.live _ _ _ _ (.same _) (.live _ _ _ _ (.same _) (.live _ _ _ _ (.same _) (.live _ _ _ _ (.same _) (.live _ _ _ _ (.same _) (.nil _))))))) (by simp) ⟨.same _, .same _, .same _, .same _, .same _, .same _, .same _, trivial⟩ (by simp))
      · exfalso; have hc := of_decide_eq_false hc; omega
    · (repeat refine awp_seq ?_); refine ev_region ?_; simp only [go_sem, f1, f2]
      (repeat refine awp_seq ?_); refine awp_cond (by rfl) (fun hc => ?_) fun hc => ?_
      · exfalso; first | exact Bool.noConfusion hc | (have hc := of_decide_eq_true hc; omega)
      · refine awp_exit ?_; simp only [go_sem, f1, f2]
        exact ⟨(gs1.1, gs1.2), (bks_mk hsc (.dead _ _ _ (.live _ _ _ _ (.same _) (.live _ _ _ _ (.same _) (.live _ _ _ _ (.same _) (.live _ _ _ _ (.same _) (.live _ _ _ _ (.same _) (.nil _))))))) (by simp) ⟨.same _, .same _, .same _, .same _, trivial⟩ (by simp))⟩
    · try simp only [go_sem, f1, f2]
      unfold trainWeights_a1 at h
      refine awp_bks hb ?_
      (repeat refine awp_seq ?_); refine ev_region ?_; simp only [go_sem, f1, f2]
      (repeat refine awp_seq ?_); refine ev_draw_region [4, 8, 9] 0 follows (by kernel_rfl) (by rfl) ?_; simp only [go_sem, List.replicate_succ, List.replicate_zero, f1, f2]
      obtain ⟨v76, hv76, h⟩ := bind_some h
      refine dc_loc [(st.length + 4), (st.length + 3), (st.length + 2)] (fun st2 h2 => (ok_trainWeights1 n _ _ _ _ hv76 st2 _ _ _ gt0.2 gt1.1 (by simp) ((h2 _ (by simp)).trans (look_new.trans rfl)) ((h2 _ (by simp)).trans (look_new.trans rfl)) ((h2 _ (by simp)).trans (look_new.trans rfl)))) (by simp) (by simp only [List.mem_cons, List.not_mem_nil, or_false, forall_eq_or_imp, forall_eq]; exact ⟨⟨by first | omega | (simp <;> omega), _, (look_new.trans rfl), Ob.noConfusion⟩, ⟨by first | omega | (simp <;> omega), _, (look_new.trans rfl), Ob.noConfusion⟩, ⟨by first | omega | (simp <;> omega), _, (look_new.trans rfl), Ob.noConfusion⟩⟩) (by simp) ?_
      try simp only [go_sem, f1, f2]
      obtain ⟨v77, hv77, h⟩ := bind_some h
      refine dc_loc [(st.length + 5), (st.length + 3), (st.length + 2)] (fun st2 h2 => (ok_trainWeights1 n _ _ _ _ hv77 st2 _ _ _ gt1.2 gt1.1 (by simp) ((h2 _ (by simp)).trans (look_new.trans rfl)) ((h2 _ (by simp)).trans (look_new.trans rfl)) ((h2 _ (by simp)).trans (look_new.trans rfl)))) (by simp) (by simp only [List.mem_cons, List.not_mem_nil, or_false, forall_eq_or_imp, forall_eq]; exact ⟨⟨by first | omega | (simp <;> omega), _, (look_new.trans rfl), Ob.noConfusion⟩, ⟨by first | omega | (simp <;> omega), _, (look_new.trans rfl), Ob.noConfusion⟩, ⟨by first | omega | (simp <;> omega), _, (look_new.trans rfl), Ob.noConfusion⟩⟩) (by simp) ?_
      try simp only [go_sem, f1, f2]
      try refine ⟨by (simp <;> omega), ?_⟩
      (repeat refine awp_seq ?_); refine awp_ret ?_
      try simp only [go_sem, f1, f2]
      have hr := Option.some.inj h
      refine finb_of ?_; simp only [go_sem, f1, f2]
      exact fin_old' (d' := .tup [.sl false 2 16 (rows ApiFrac.cells v76), .sl false 2 16 (rows ApiFrac.cells v77)]) hsc (.same _) (by simp) ⟨by subst hr; rfl, rfl⟩

set_option maxHeartbeats 2000000 in
set_option maxRecDepth 100000 in
theorem ok_fracCheck (n : Nat) (a0 : ApiFrac) (a1 : Int) (r : ApiFault) (h : fracCheck n a0 a1 = some r) : Pure Tryd.prog gl 71 [.agg [.int .i64 a0.num, .int .i64 a0.den], .int .i64 a1] (.agg [.int .i64 r.code, .int .i64 r.index]) := by
  intro st
  unfold fracCheck at h
  refine spec_fb (N := 36) (rs := [.cell 4 41]) (keep := [0, 1, 2, 4, 9, 10, 11, 14, 15, 16, 19, 20, 21, 22, 32]) Tryd.func71 rfl rfl rfl (by kernel_rfl) rfl fun hsc => ?_
  (repeat refine awp_seq ?_); refine ev_region ?_; simp only [go_sem]
  (repeat refine awp_seq ?_); refine ev_region ?_; simp only [go_sem]
  (repeat refine awp_seq ?_); refine awp_cond (by rfl) (fun hc => ?_) fun hc => ?_
  · replace h := cond_t h (by first | exact hc | simpa using hc)
    (repeat refine awp_seq ?_); refine ev_region ?_; simp only [go_sem]
    (repeat refine awp_seq ?_); refine awp_ret ?_
    try simp only [go_sem]
    have hr := Option.some.inj h
    refine finb_of ?_; simp only [go_sem]
    exact fin_old' (d' := .agg [.int .i64 3, .int .i64 a1]) hsc (.same _) (by simp) ⟨by subst hr; rfl, rfl⟩
  · replace h := cond_f h (by first | exact hc | simpa using hc)
    refine awp_skip ?_; try simp only [go_sem]
    (repeat refine awp_seq ?_); refine ev_draw_region [] 0 follows (by kernel_rfl) (by rfl) ?_; simp only [go_sem, List.replicate_succ, List.replicate_zero]
    obtain ⟨v1, hv1, h⟩ := bind_some h
    refine dc_pure (ok_fracSize _ _ hv1) ?_
    try simp only [go_sem]
    obtain ⟨v2, hv2, h⟩ := bind_some h
    refine dc_pure (ok_fracGcd n _ _ _ hv2) ?_
    try simp only [go_sem]
    (repeat refine awp_seq ?_); refine awp_cond (by rfl) (fun hc => ?_) fun hc => ?_
    · replace h := cond_t h (by first | exact hc | simpa using hc)
      (repeat refine awp_seq ?_); refine ev_region ?_; simp only [go_sem]
      (repeat refine awp_seq ?_); refine awp_ret ?_
      try simp only [go_sem]
      have hr := Option.some.inj h
      refine finb_of ?_; simp only [go_sem]
      exact fin_old' (d' := .agg [.int .i64 5, .int .i64 a1]) hsc (.same _) (by simp) ⟨by subst hr; rfl, rfl⟩
    · replace h := cond_f h (by first | exact hc | simpa using hc)
      refine awp_skip ?_; try simp only [go_sem]
      (repeat refine awp_seq ?_); refine ev_region ?_; simp only [go_sem]
      (repeat refine awp_seq ?_); refine awp_ret ?_
      try simp only [go_sem]
      have hr := Option.some.inj h
      refine finb_of ?_; simp only [go_sem]
      exact fin_old' (d' := .agg [.int .i64 0, .int .i64 0]) hsc (.same _) (by simp) ⟨by subst hr; rfl, rfl⟩

set_option maxHeartbeats 2000000 in
set_option maxRecDepth 100000 in
theorem ok_fracBoth (n : Nat) (a0 : ApiFrac) (a1 : ApiFrac) (r : ApiFault) (h : fracBoth n a0 a1 = some r) : Pure Tryd.prog gl 58 [.agg [.int .i64 a0.num, .int .i64 a0.den], .agg [.int .i64 a1.num, .int .i64 a1.den]] (.agg [.int .i64 r.code, .int .i64 r.index]) := by
  intro st
  unfold fracBoth at h
  refine spec_fb (N := 14) (rs := [.cell 4 41]) (keep := [0, 1, 2, 3, 4, 5, 10]) Tryd.func58 rfl rfl rfl (by kernel_rfl) rfl fun hsc => ?_
  (repeat refine awp_seq ?_); refine ev_region ?_; simp only [go_sem]
  (repeat refine awp_seq ?_); refine ev_region ?_; simp only [go_sem]
  obtain ⟨v1, hv1, h⟩ := bind_some h
  refine ((ok_fracCheck n _ _ _ hv1)).to ?_
  try simp only [go_sem]
  (repeat refine awp_seq ?_); refine ev_region ?_; simp only [go_sem]
  (repeat refine awp_seq ?_); refine awp_cond (by rfl) (fun hc => ?_) fun hc => ?_
  · replace h := cond_t h (by first | exact hc | simpa using hc)
    (repeat refine awp_seq ?_); refine ev_region ?_; simp only [go_sem]
    (repeat refine awp_seq ?_); refine awp_ret ?_
    try simp only [go_sem]
    have hr := Option.some.inj h
    refine finb_of ?_; simp only [go_sem]
    exact fin_old' (d' := .agg [.int .i64 v1.code, .int .i64 v1.index]) hsc (.same _) (by simp) ⟨by subst hr; rfl, rfl⟩
  · replace h := cond_f h (by first | exact hc | simpa using hc)
    refine awp_skip ?_; try simp only [go_sem]
    (repeat refine awp_seq ?_); refine ev_region ?_; simp only [go_sem]
    obtain ⟨v2, hv2, h⟩ := bind_some h
    refine ((ok_fracCheck n _ _ _ hv2)).to ?_
    try simp only [go_sem]
    (repeat refine awp_seq ?_); refine awp_ret ?_
    try simp only [go_sem]
    have hr := Option.some.inj h
    refine finb_of ?_; simp only [go_sem]
    exact fin_old' (d' := .agg [.int .i64 v2.code, .int .i64 v2.index]) hsc (.same _) (by simp) ⟨by subst hr; rfl, rfl⟩

set_option maxHeartbeats 2000000 in
set_option maxRecDepth 100000 in
theorem ok_mathBitsMul64 (a0 : Int) (a1 : Int) (r : Int × Int) (h : mathBitsMul64 a0 a1 = some r) : Pure Tryd.prog gl 77 [.int .u64 a0, .int .u64 a1] (.tup [.int .u64 r.1, .int .u64 r.2]) := by
  intro st
  unfold mathBitsMul64 at h
  refine spec_fb (N := 51) (rs := [.tmp 4, .tmp 5]) (keep := [0, 1, 4, 5, 6, 7, 8, 9, 10, 11, 12, 13]) Tryd.func77 rfl rfl rfl (by kernel_rfl) rfl fun hsc => ?_
  (repeat refine awp_seq ?_); refine ev_region ?_; simp only [go_sem]
  (repeat refine awp_seq ?_); refine ev_region ?_; simp only [go_sem]
  (repeat refine awp_seq ?_); refine ev_region ?_; simp only [go_sem]
  (repeat refine awp_seq ?_); refine ev_region ?_; simp only [go_sem]
  (repeat refine awp_seq ?_); refine ev_region ?_; simp only [go_sem]
  (repeat refine awp_seq ?_); refine ev_region ?_; simp only [go_sem]
  (repeat refine awp_seq ?_); refine ev_region ?_; simp only [go_sem]
  (repeat refine awp_seq ?_); refine ev_region ?_; simp only [go_sem]
  (repeat refine awp_seq ?_); refine ev_region ?_; simp only [go_sem]
  (repeat refine awp_seq ?_); refine ev_region ?_; simp only [go_sem]
  (repeat refine awp_seq ?_); refine ev_region ?_; simp only [go_sem]
  (repeat refine awp_seq ?_); refine ev_region ?_; simp only [go_sem]
  (repeat refine awp_seq ?_); refine awp_ret ?_
  try simp only [go_sem]
  have hr := Option.some.inj h
  refine finb_of ?_; simp only [go_sem]
  exact fin_same' (d' := .tup [.int .u64 (wr .u64 ((wr .u64 ((wr .u64 ((Int.fdiv a0 (2 ^ (min 32 64))) * (Int.fdiv a1 (2 ^ (min 32 64))))) + (Int.fdiv (wr .u64 ((wr .u64 ((Int.fdiv a0 (2 ^ (min 32 64))) * (bitop .and .u64 a1 4294967295))) + (Int.fdiv (wr .u64 ((bitop .and .u64 a0 4294967295) * (bitop .and .u64 a1 4294967295))) (2 ^ (min 32 64))))) (2 ^ (min 32 64))))) + (Int.fdiv (wr .u64 ((bitop .and .u64 (wr .u64 ((wr .u64 ((Int.fdiv a0 (2 ^ (min 32 64))) * (bitop .and .u64 a1 4294967295))) + (Int.fdiv (wr .u64 ((bitop .and .u64 a0 4294967295) * (bitop .and .u64 a1 4294967295))) (2 ^ (min 32 64))))) 4294967295) + (wr .u64 ((bitop .and .u64 a0 4294967295) * (Int.fdiv a1 (2 ^ (min 32 64))))))) (2 ^ (min 32 64))))), .int .u64 (wr .u64 (a0 * a1))]) hsc (.same _) (by simp) ⟨by subst hr; rfl, rfl⟩

set_option maxHeartbeats 2000000 in
set_option maxRecDepth 100000 in
theorem ok_fracProduct (a0 : Int) (a1 : Int) (r : Int × Bool) (h : fracProduct a0 a1 = some r) : Pure Tryd.prog gl 72 [.int .u64 a0, .int .u64 a1] (.tup [.int .u64 r.1, .bool r.2]) := by
  intro st
  unfold fracProduct at h
  refine spec_fb (N := 21) (rs := [.tmp 4, .tmp 5]) (keep := [0, 1, 4, 5, 6, 7, 18, 19]) Tryd.func72 rfl rfl rfl (by kernel_rfl) rfl fun hsc => ?_
  (repeat refine awp_seq ?_); refine ev_region ?_; simp only [go_sem]
  (repeat refine awp_seq ?_); refine ev_region ?_; simp only [go_sem]
  obtain ⟨v1, hv1, h⟩ := bind_some h
  refine ((ok_mathBitsMul64 _ _ _ hv1)).to ?_
  try simp only [go_sem]
  (repeat refine awp_seq ?_); refine ev_region ?_; simp only [go_sem]
  (repeat refine awp_seq ?_); refine awp_ret ?_
  try simp only [go_sem]
  have hr := Option.some.inj h
  refine finb_of ?_; simp only [go_sem]
  exact fin_same' (d' := .tup [.int .u64 v1.2, .bool (bif (decide (v1.1 = 0)) then (decide (v1.2 ≤ 1152921504606846976)) else false)]) hsc (.same _) (by simp) ⟨by subst hr; rfl, rfl⟩

set_option maxHeartbeats 2000000 in
set_option maxRecDepth 100000 in
theorem ok_fracMul_2 (n : Nat) (a0 : ApiFrac) (a1 : ApiFrac) (r : ApiFrac × ApiFault) (h : fracMul_2 n a0 a1 = some r) : Pure Tryd.prog gl 59 [.agg [.int .i64 a0.num, .int .i64 a0.den], .agg [.int .i64 a1.num, .int .i64 a1.den]] (.tup [.agg [.int .i64 r.1.num, .int .i64 r.1.den], .agg [.int .i64 r.2.code, .int .i64 r.2.index]]) := by
  intro st
  unfold fracMul_2 at h
  refine spec_fb (N := 78) (rs := [.cell 4 49, .cell 5 41]) (keep := [0, 1, 2, 3, 4, 5, 6, 7, 8, 9, 10, 11, 12, 13, 14, 15, 57, 58, 59, 70, 71]) Tryd.func59 rfl rfl rfl (by kernel_rfl) rfl fun hsc => ?_
  (repeat refine awp_seq ?_); refine ev_region ?_; simp only [go_sem]
  (repeat refine awp_seq ?_); refine ev_draw_region [] 0 follows (by kernel_rfl) (by rfl) ?_; simp only [go_sem, List.replicate_succ, List.replicate_zero]
  obtain ⟨v1, hv1, h⟩ := bind_some h
  refine dc_pure (ok_fracSize _ _ hv1) ?_
  try simp only [go_sem]
  obtain ⟨v2, hv2, h⟩ := bind_some h
  refine dc_pure (ok_fracSize _ _ hv2) ?_
  try simp only [go_sem]
  (repeat refine awp_seq ?_); refine ev_region ?_; simp only [go_sem]
  obtain ⟨v3, hv3, h⟩ := bind_some h
  refine ((ok_fracGcd n _ _ _ hv3)).to ?_
  try simp only [go_sem]
  obtain ⟨v4, hv4, h⟩ := bind_some h
  refine ((ok_fracGcd n _ _ _ hv4)).to ?_
  try simp only [go_sem]
  obtain ⟨⟨f5, f6⟩, h⟩ := chk_some h
  obtain ⟨⟨f7, f8⟩, h⟩ := chk_some h
  (repeat refine awp_seq ?_); refine ev_draw_region [] 0 follows (by kernel_rfl) (by rfl) ?_; simp only [go_sem, List.replicate_succ, List.replicate_zero, f5, f6, f7, f8]
  obtain ⟨v9, hv9, h⟩ := bind_some h
  refine dc_pure (ok_fracProduct _ _ _ hv9) ?_
  try simp only [go_sem, f5, f6, f7, f8]
  obtain ⟨f10, h⟩ := chk_some h
  obtain ⟨f11, h⟩ := chk_some h
  (repeat refine awp_seq ?_); refine ev_draw_region [] 0 follows (by kernel_rfl) (by rfl) ?_; simp only [go_sem, List.replicate_succ, List.replicate_zero, f5, f6, f7, f8, f10, f11]
  obtain ⟨v12, hv12, h⟩ := bind_some h
  refine dc_pure (ok_fracProduct _ _ _ hv12) ?_
  try simp only [go_sem, f5, f6, f7, f8, f10, f11]
  (repeat refine awp_seq ?_); refine ev_region ?_; simp only [go_sem, f5, f6, f7, f8, f10, f11]
  (repeat refine awp_seq ?_); refine awp_cond (by rfl) (fun hc => ?_) fun hc => ?_
  · replace h := cond_t h (by first | exact hc | simpa using hc)
    (repeat refine awp_seq ?_); refine ev_region ?_; simp only [go_sem, f5, f6, f7, f8, f10, f11]
    (repeat refine awp_seq ?_); refine awp_ret ?_
    try simp only [go_sem, f5, f6, f7, f8, f10, f11]
    have hr := Option.some.inj h
    refine finb_of ?_; simp only [go_sem, f5, f6, f7, f8, f10, f11]
    exact fin_old' (d' := .tup [.agg [.int .i64 0, .int .i64 0], .agg [.int .i64 18, .int .i64 0]]) hsc (.same _) (by simp) ⟨by subst hr; rfl, rfl⟩
  · replace h := cond_f h (by first | exact hc | simpa using hc)
    refine awp_skip ?_; try simp only [go_sem, f5, f6, f7, f8, f10, f11]
    (repeat refine awp_seq ?_); refine ev_region ?_; simp only [go_sem, f5, f6, f7, f8, f10, f11]
    obtain ⟨v13, hv13, h⟩ := bind_some h
    refine ((ok_fracOf _ _ _ _ hv13)).to ?_
    try simp only [go_sem, f5, f6, f7, f8, f10, f11]
    (repeat refine awp_seq ?_); refine awp_ret ?_
    try simp only [go_sem, f5, f6, f7, f8, f10, f11]
    have hr := Option.some.inj h
    refine finb_of ?_; simp only [go_sem, f5, f6, f7, f8, f10, f11]
    exact fin_old' (d' := .tup [.agg [.int .i64 v13.1.num, .int .i64 v13.1.den], .agg [.int .i64 v13.2.code, .int .i64 v13.2.index]]) hsc (.same _) (by simp) ⟨by subst hr; rfl, rfl⟩


end Go.Proofs.YtaohdfpcdfbnlaaDoor

