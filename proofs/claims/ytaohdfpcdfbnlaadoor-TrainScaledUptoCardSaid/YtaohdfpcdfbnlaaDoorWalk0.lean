/-
  Each Go function of this part does what its plain Lean function says.
-/
import Derived.Test.YtaohdfpcdfbnlaaDoorBase
import Derived.Test.YtaohdfpcdfbnlaaDoorHand
import Derived.Test.YtaohdfpcdfbnlaaDoorMirrors
set_option linter.unusedVariables false
set_option linter.unusedSimpArgs false
namespace Go.Proofs.YtaohdfpcdfbnlaaDoor
open Go Go.Am

set_option maxHeartbeats 2000000 in
set_option maxRecDepth 100000 in
theorem ok_glosswrightequalBase (a0 : Bs) (r : ApiSimple) (h : glosswrightequalBase a0 = some r) : Pure Tryd.prog gl 16 [.str a0] (.agg [.str r.base, .sl false 2 40 (rows ApiSimple.cells r.args)]) := by
  intro st
  unfold glosswrightequalBase at h
  refine spec_fb (N := 5) (rs := [.cell 2 63]) (keep := [0, 2]) Tryd.func16 rfl rfl rfl (by kernel_rfl) rfl fun hsc => ?_
  (repeat refine awp_seq ?_); refine ev_region ?_; simp only [go_sem]
  (repeat refine awp_seq ?_); refine ev_region ?_; simp only [go_sem]
  (repeat refine awp_seq ?_); refine awp_ret ?_
  try simp only [go_sem]
  have hr := Option.some.inj h
  refine finb_of ?_; simp only [go_sem]
  exact fin_old' (d' := .agg [.str a0, .sl false 2 40 (rows ApiSimple.cells [])]) hsc (.agg _ _ (.cons _ _ _ _ (.same _) (.cons _ _ _ _ (.nils _ _ _ (by decide)) .nil))) (by simp) ⟨by subst hr; rfl, rfl⟩

set_option maxHeartbeats 2000000 in
set_option maxRecDepth 100000 in
theorem ok_glosswrightequalFun (a0 : ApiSimple) (a1 : ApiSimple) (r : ApiSimple) (h : glosswrightequalFun a0 a1 = some r) : Pure Tryd.prog gl 17 [.agg [.str a0.base, .sl false 2 40 (rows ApiSimple.cells a0.args)], .agg [.str a1.base, .sl false 2 40 (rows ApiSimple.cells a1.args)]] (.agg [.str r.base, .sl false 2 40 (rows ApiSimple.cells r.args)]) := by
  intro st
  unfold glosswrightequalFun at h
  refine spec_fb (N := 9) (rs := [.cell 4 63]) (keep := [0, 1, 2, 3, 4]) Tryd.func17 rfl rfl rfl (by kernel_rfl) rfl fun hsc => ?_
  (repeat refine awp_seq ?_); refine ev_region ?_; simp only [go_sem]
  have e1 : (80 ≤ top) = True := by simp [top]
  (repeat refine awp_seq ?_); refine ev_region ?_; simp only [go_sem, e1]
  (repeat refine awp_seq ?_); refine awp_ret ?_
  try simp only [go_sem]
  have hr := Option.some.inj h
  refine finb_of ?_; simp only [go_sem]
  exact fin_old' (d' := .agg [.str [], .sl false 2 40 (rows ApiSimple.cells [a0, a1])]) hsc (.agg _ _ (.cons _ _ _ _ (.same _) (.cons _ _ _ _ (.ref _ _ _ _ _ _ _ _ _ (get_new.trans rfl) look_out (by decide) (by simp [Imm, D.imm]) (by simp only [go_sem, rows, List.map_cons, List.map_nil])) .nil))) (by simp) ⟨by subst hr; rfl, rfl⟩

set_option maxHeartbeats 2000000 in
set_option maxRecDepth 100000 in
theorem ok_glosswrightequalHierarchyOf (a0 : (List Bs)) (a1 : (List Int)) (a2 : (List ApiFeat)) (r : ApiHierarchy) (h : glosswrightequalHierarchyOf a0 a1 a2 = some r) : Pure Tryd.prog gl 18 [.sl false 1 16 (rows strc a0), .sl false 1 8 (rows i64c a1), .sl false 3 32 (rows ApiFeat.cells a2)] (.agg [.sl false 2 40 (rows ApiType.cells r.types), .sl false 3 32 (rows ApiFeat.cells r.feats)]) := by
  intro st
  unfold glosswrightequalHierarchyOf at h
  refine spec_fb (N := 38) (rs := [.cell 6 25]) (keep := [0, 1, 2, 6, 7, 8, 9, 10, 11, 12, 13, 14, 21]) Tryd.func18 rfl rfl rfl (by kernel_rfl) rfl fun hsc => ?_
  (repeat refine awp_seq ?_); refine ev_region ?_; simp only [go_sem]
  (repeat refine awp_seq ?_); refine ev_region ?_; simp only [go_sem]
  (repeat refine awp_seq ?_); refine ev_region ?_; simp only [go_sem]
  (repeat refine awp_seq ?_); refine awp_ph 2 40 ?_
  try simp only [List.append_assoc, List.cons_append, List.nil_append]
  refine awp_bks (F := [(1, .sl false 1 8 (rows i64c a1)), (2, .sl false 3 32 (rows ApiFeat.cells a2)), (6, .ptr st.length 0 0 0), (7, .ptr (st.length + 1) 0 0 0), (11, .sl false 1 16 (rows strc a0)), (12, .int .i64 (↑a0.length : Int)), (13, .int .i64 0)]) (T := st ++ [some (.arr 0 2 0 [[.nils, .nils]]), some (.arr 0 2 0 [[.ref false (st.length + 2) 0 0 0, .nils]]), some (.arr 0 2 40 (rows ApiType.cells []))]) (bks_mk hsc (.live _ _ _ _ (.same _) (.live _ _ _ _ (.arr _ _ _ _ _ (.cons _ _ _ _ (.cons _ _ _ _ (.nref _ _ _ _ _ _ (get_new.trans rfl)) (.cons _ _ _ _ (.same _) .nil)) (.same _))) (.live _ _ _ _ (.same _) (.nil _)))) (by simp) ⟨.same _, .same _, .same _, .same _, .same _, .same _, .same _, trivial⟩ (by simp)) ?_
  (repeat refine awp_seq ?_); refine awp_len (t := 11) rfl fun hl0 => ?_
  simp only [rows_len] at hl0
  (repeat refine awp_seq ?_); refine awp_range (body := glosswrightequalHierarchyOf_b0 a1 a0) (kk := glosswrightequalHierarchyOf_a0 a2) (n := a0.length) (s0 := [])
    (fun (gs0 : Nat) (k0 : Nat) (s0 : (List ApiType)) => [(1, .sl false 1 8 (rows i64c a1)), (2, .sl false 3 32 (rows ApiFeat.cells a2)), (6, .ptr st.length 0 0 0), (7, .ptr (st.length + 1) 0 0 0), (11, .sl false 1 16 (rows strc a0)), (12, .int .i64 (↑a0.length : Int)), (13, .int .i64 (↑k0 : Int))])
    (fun (gs0 : Nat) (k0 : Nat) (s0 : (List ApiType)) => st ++ [some (.arr 0 2 0 [[.nils, .nils]]), some (.arr 0 2 0 [[.ref false (st.length + 2) gs0 0 s0.length, .nils]]), some (.arr gs0 2 40 (rows ApiType.cells s0))])
    (fun (gt0 : Nat) (t0 : (List ApiType)) => [(2, .sl false 3 32 (rows ApiFeat.cells a2)), (6, .ptr st.length 0 0 0), (7, .ptr (st.length + 1) 0 0 0)])
    (fun (gt0 : Nat) (t0 : (List ApiType)) => st ++ [some (.arr 0 2 0 [[.nils, .nils]]), some (.arr 0 2 0 [[.ref false (st.length + 2) gt0 0 t0.length, .nils]]), some (.arr gt0 2 40 (rows ApiType.cells t0))])
    0 h (bks_mk hsc (.live _ _ _ _ (.same _) (.live _ _ _ _ (.same _) (.live _ _ _ _ (.same _) (.nil _)))) (by simp) ⟨.same _, .same _, .same _, .same _, .same _, .same _, .same _, trivial⟩ (by simp))
    (fun gs0 k0 s0 b0 hk0 h hx0 => ?_) (fun gs0 s0 => ?_) (fun gt0 t0 fr1 st1 h hb => ?_)
  · unfold glosswrightequalHierarchyOf_b0 at h
    have hw0 : wr .i64 ((↑k0 : Int) + 1) = (↑(k0 + 1) : Int) := wr_succ hk0 hl0 (by decide)
    (repeat refine awp_seq ?_); refine ev_region ?_; simp only [go_sem]
    (repeat refine awp_seq ?_); refine awp_cond (by rfl) (fun hc => ?_) fun hc => ?_
    · refine awp_skip ?_; try simp only [go_sem]
      (repeat refine awp_seq ?_); refine awp_block ?_
      (repeat refine awp_seq ?_); refine ev_region ?_; simp only [go_sem, hk0, hw0]
      (repeat refine awp_seq ?_); refine ev_region ?_; simp only [go_sem, hk0, hw0]
      (repeat refine awp_seq ?_); refine ev_region ?_; simp only [go_sem, hk0, hw0]
      (repeat refine awp_seq ?_); refine awp_cond (by rfl) (fun hc => ?_) fun hc => ?_
      · replace h := cond_t h (by first | exact hc | simpa using hc)
        obtain ⟨f11, h⟩ := chk_some h
        have e12 : (8 ≤ top) = True := by simp [top]
        (repeat refine awp_seq ?_); refine ev_region ?_; simp only [go_sem, hk0, hw0, f11, e12]
        have e13 : (40 ≤ top) = True := by simp [top]
        obtain ⟨c14, hc14, h⟩ := let_some h
        have e15 : rows ApiType.cells s0 ++ [[.str (get a0 k0), .sl false 1 8 [[.int .i64 (get a1 k0)]]]] = rows ApiType.cells c14 := by rw [hc14]; first | exact rows_app (E := ApiType.cells) s0 [(ApiType.mk (get a0 k0) [(get a1 k0)])] | simp only [go_sem, rows, List.map_append, List.map_cons, List.map_nil]
        have e16 : s0.length + 1 = c14.length := by rw [hc14]; simp
        obtain ⟨⟨f17, f18⟩, h⟩ := chk_some h
        (repeat refine awp_seq ?_); refine ev_region ?_; simp only [go_sem, hk0, hw0, f11, f17, f18, e13, e15, e16]
        (repeat refine awp_seq ?_); refine ev_region ?_; simp only [go_sem, hk0, hw0, f11, f17, f18]
        cases h
        exact pbr_nxt (gs0 + 1) (bks_mk hsc (.live _ _ _ _ (.same _) (.live _ _ _ _ (.same _) (.live _ _ _ _ (.same _) (.nil _)))) (by simp) ⟨.same _, .same _, .same _, .same _, .same _, .same _, .same _, trivial⟩ (by simp))
      · replace h := cond_f h (by first | exact hc | simpa using hc)
        refine awp_skip ?_; try simp only [go_sem, hk0, hw0]
        have e19 : (40 ≤ top) = True := by simp [top]
        obtain ⟨⟨f20, f21⟩, h⟩ := chk_some h
        (repeat refine awp_seq ?_); refine ev_region ?_; simp only [go_sem, hk0, hw0, f20, f21, e19]
        (repeat refine awp_seq ?_); refine ev_region ?_; simp only [go_sem, hk0, hw0, f20, f21]
        cases h
        exact pbr_nxt (gs0 + 1) (bks_mk hsc (.live _ _ _ _ (.same _) (.live _ _ _ _ (.arr _ _ _ _ _ (.cons _ _ _ _ (.cons _ _ _ _ (up_eq (by simp)) (.cons _ _ _ _ (.same _) .nil)) (.same _))) (.live _ _ _ _ (.arr _ _ _ _ _ (uprows_pend (.cons _ _ _ _ (.cons _ _ _ _ (.same _) (.cons _ _ _ _ (.nils _ _ _ (by decide)) .nil)) .nil))) (.nil _)))) (by simp) ⟨.same _, .same _, .same _, .same _, .same _, .same _, .same _, trivial⟩ (by simp))
    · exfalso; have hc := of_decide_eq_false hc; omega
  · (repeat refine awp_seq ?_); refine ev_region ?_; simp only [go_sem]
    (repeat refine awp_seq ?_); refine awp_cond (by rfl) (fun hc => ?_) fun hc => ?_
    · exfalso; first | exact Bool.noConfusion hc | (have hc := of_decide_eq_true hc; omega)
    · refine awp_exit ?_; simp only [go_sem]
      exact ⟨gs0, (bks_mk hsc (.live _ _ _ _ (.same _) (.live _ _ _ _ (.same _) (.live _ _ _ _ (.same _) (.nil _)))) (by simp) ⟨.same _, .same _, .same _, trivial⟩ (by simp))⟩
  · try simp only [go_sem]
    unfold glosswrightequalHierarchyOf_a0 at h
    refine awp_bks hb ?_
    (repeat refine awp_seq ?_); refine ev_region ?_; simp only [go_sem]
    (repeat refine awp_seq ?_); refine ev_region ?_; simp only [go_sem]
    (repeat refine awp_seq ?_); refine awp_ret ?_
    try simp only [go_sem]
    have hr := Option.some.inj h
    refine finb_of ?_; simp only [go_sem]
    exact fin_old' (d' := .agg [.sl false 2 40 (rows ApiType.cells t0), .sl false 3 32 (rows ApiFeat.cells a2)]) hsc (.agg _ _ (.cons _ _ _ _ (.ref _ _ _ _ _ _ _ _ _ (get_new.trans rfl) look_out (by decide) (rows_imm _) (by simp only [go_sem])) (.cons _ _ _ _ (.same _) .nil))) (by simp) ⟨by subst hr; rfl, rfl⟩

set_option maxHeartbeats 2000000 in
set_option maxRecDepth 100000 in
theorem ok_glosswrightequalBound (a0 : Int) (r : ApiTerm) (h : glosswrightequalBound a0 = some r) : Pure Tryd.prog gl 26 [.int .i64 a0] (.agg [.int .i64 r.kind, .str r.name, .int .i64 r.index, .str r.type.base, .sl false 2 40 (rows ApiSimple.cells r.type.args), .sl false 6 96 (rows ApiTerm.cells r.args)]) := by
  intro st
  unfold glosswrightequalBound at h
  refine spec_fb (N := 5) (rs := [.cell 2 73]) (keep := [0, 2]) Tryd.func26 rfl rfl rfl (by kernel_rfl) rfl fun hsc => ?_
  (repeat refine awp_seq ?_); refine ev_region ?_; simp only [go_sem]
  (repeat refine awp_seq ?_); refine ev_region ?_; simp only [go_sem]
  (repeat refine awp_seq ?_); refine awp_ret ?_
  try simp only [go_sem]
  have hr := Option.some.inj h
  refine finb_of ?_; simp only [go_sem]
  exact fin_old' (d' := .agg [.int .i64 2, .str [], .int .i64 a0, .str [], .sl false 2 40 (rows ApiSimple.cells []), .sl false 6 96 (rows ApiTerm.cells [])]) hsc (.agg _ _ (.cons _ _ _ _ (.same _) (.cons _ _ _ _ (.same _) (.cons _ _ _ _ (.same _) (.cons _ _ _ _ (.same _) (.cons _ _ _ _ (.nils _ _ _ (by decide)) (.cons _ _ _ _ (.nils _ _ _ (by decide)) .nil))))))) (by simp) ⟨by subst hr; rfl, rfl⟩

set_option maxHeartbeats 2000000 in
set_option maxRecDepth 100000 in
theorem ok_glosswrightequalApp (a0 : ApiTerm) (a1 : ApiTerm) (r : ApiTerm) (h : glosswrightequalApp a0 a1 = some r) : Pure Tryd.prog gl 25 [.agg [.int .i64 a0.kind, .str a0.name, .int .i64 a0.index, .str a0.type.base, .sl false 2 40 (rows ApiSimple.cells a0.type.args), .sl false 6 96 (rows ApiTerm.cells a0.args)], .agg [.int .i64 a1.kind, .str a1.name, .int .i64 a1.index, .str a1.type.base, .sl false 2 40 (rows ApiSimple.cells a1.type.args), .sl false 6 96 (rows ApiTerm.cells a1.args)]] (.agg [.int .i64 r.kind, .str r.name, .int .i64 r.index, .str r.type.base, .sl false 2 40 (rows ApiSimple.cells r.type.args), .sl false 6 96 (rows ApiTerm.cells r.args)]) := by
  intro st
  unfold glosswrightequalApp at h
  refine spec_fb (N := 9) (rs := [.cell 4 73]) (keep := [0, 1, 2, 3, 4]) Tryd.func25 rfl rfl rfl (by kernel_rfl) rfl fun hsc => ?_
  (repeat refine awp_seq ?_); refine ev_region ?_; simp only [go_sem]
  have e1 : (192 ≤ top) = True := by simp [top]
  (repeat refine awp_seq ?_); refine ev_region ?_; simp only [go_sem, e1]
  (repeat refine awp_seq ?_); refine awp_ret ?_
  try simp only [go_sem]
  have hr := Option.some.inj h
  refine finb_of ?_; simp only [go_sem]
  exact fin_old' (d' := .agg [.int .i64 4, .str [], .int .i64 0, .str [], .sl false 2 40 (rows ApiSimple.cells []), .sl false 6 96 (rows ApiTerm.cells [a0, a1])]) hsc (.agg _ _ (.cons _ _ _ _ (.same _) (.cons _ _ _ _ (.same _) (.cons _ _ _ _ (.same _) (.cons _ _ _ _ (.same _) (.cons _ _ _ _ (.nils _ _ _ (by decide)) (.cons _ _ _ _ (.ref _ _ _ _ _ _ _ _ _ (get_new.trans rfl) look_out (by decide) (by simp [Imm, D.imm]) (by simp only [go_sem, rows, List.map_cons, List.map_nil])) .nil))))))) (by simp) ⟨by subst hr; rfl, rfl⟩

set_option maxHeartbeats 2000000 in
set_option maxRecDepth 100000 in
theorem ok_glosswrightequalAbs (a0 : ApiSimple) (a1 : ApiTerm) (r : ApiTerm) (h : glosswrightequalAbs a0 a1 = some r) : Pure Tryd.prog gl 24 [.agg [.str a0.base, .sl false 2 40 (rows ApiSimple.cells a0.args)], .agg [.int .i64 a1.kind, .str a1.name, .int .i64 a1.index, .str a1.type.base, .sl false 2 40 (rows ApiSimple.cells a1.type.args), .sl false 6 96 (rows ApiTerm.cells a1.args)]] (.agg [.int .i64 r.kind, .str r.name, .int .i64 r.index, .str r.type.base, .sl false 2 40 (rows ApiSimple.cells r.type.args), .sl false 6 96 (rows ApiTerm.cells r.args)]) := by
  intro st
  unfold glosswrightequalAbs at h
  refine spec_fb (N := 9) (rs := [.cell 4 73]) (keep := [0, 1, 2, 3, 4]) Tryd.func24 rfl rfl rfl (by kernel_rfl) rfl fun hsc => ?_
  (repeat refine awp_seq ?_); refine ev_region ?_; simp only [go_sem]
  have e1 : (96 ≤ top) = True := by simp [top]
  (repeat refine awp_seq ?_); refine ev_region ?_; simp only [go_sem, e1]
  (repeat refine awp_seq ?_); refine awp_ret ?_
  try simp only [go_sem]
  have hr := Option.some.inj h
  refine finb_of ?_; simp only [go_sem]
  exact fin_old' (d' := .agg [.int .i64 3, .str [], .int .i64 0, .str a0.base, .sl false 2 40 (rows ApiSimple.cells a0.args), .sl false 6 96 (rows ApiTerm.cells [a1])]) hsc (.agg _ _ (.cons _ _ _ _ (.same _) (.cons _ _ _ _ (.same _) (.cons _ _ _ _ (.same _) (.cons _ _ _ _ (.same _) (.cons _ _ _ _ (.same _) (.cons _ _ _ _ (.ref _ _ _ _ _ _ _ _ _ (get_new.trans rfl) look_out (by decide) (by simp [Imm, D.imm]) (by simp only [go_sem, rows, List.map_cons, List.map_nil])) .nil))))))) (by simp) ⟨by subst hr; rfl, rfl⟩

set_option maxHeartbeats 2000000 in
set_option maxRecDepth 100000 in
theorem ok_glosswrightequalMeanings (a0 : Bool) (r : (List ApiTerm)) (h : glosswrightequalMeanings a0 = some r) : Pure Tryd.prog gl 19 [.bool a0] (.sl false 6 96 (rows ApiTerm.cells r)) := by
  intro st
  unfold glosswrightequalMeanings at h
  refine spec_fb (N := 128) (rs := [.tmp 2]) (keep := [0, 2, 3, 4, 5, 6, 7, 8, 9, 91]) Tryd.func19 rfl rfl rfl (by kernel_rfl) rfl fun hsc => ?_
  (repeat refine awp_seq ?_); refine ev_region ?_; simp only [go_sem]
  (repeat refine awp_seq ?_); refine ev_region ?_; simp only [go_sem]
  obtain ⟨v1, hv1, h⟩ := bind_some h
  refine ((ok_glosswrightequalBase _ _ hv1)).to ?_
  try simp only [go_sem]
  obtain ⟨v2, hv2, h⟩ := bind_some h
  refine ((ok_glosswrightequalBase _ _ hv2)).to ?_
  try simp only [go_sem]
  (repeat refine awp_seq ?_); refine ev_region ?_; simp only [go_sem]
  obtain ⟨v3, hv3, h⟩ := bind_some h
  refine ((ok_glosswrightequalFun _ _ _ hv3)).to ?_
  try simp only [go_sem]
  (repeat refine awp_seq ?_); refine ev_region ?_; simp only [go_sem]
  obtain ⟨v4, hv4, h⟩ := bind_some h
  refine ((ok_glosswrightequalFun _ _ _ hv4)).to ?_
  try simp only [go_sem]
  (repeat refine awp_seq ?_); refine ev_region ?_; simp only [go_sem]
  obtain ⟨v5, hv5, h⟩ := bind_some h
  refine ((ok_glosswrightequalFun _ _ _ hv5)).to ?_
  try simp only [go_sem]
  (repeat refine awp_seq ?_); refine ev_region ?_; simp only [go_sem]
  obtain ⟨v6, hv6, h⟩ := bind_some h
  refine ((ok_glosswrightequalFun _ _ _ hv6)).to ?_
  try simp only [go_sem]
  (repeat refine awp_seq ?_); refine ev_draw_region [] 1 follows (by kernel_rfl) (by rfl) ?_; simp only [go_sem, List.replicate_succ, List.replicate_zero]
  obtain ⟨v7, hv7, h⟩ := bind_some h
  refine dc_pure (ok_glosswrightequalBound _ _ hv7) ?_
  try simp only [go_sem]
  obtain ⟨v8, hv8, h⟩ := bind_some h
  refine dc_pure (ok_glosswrightequalBound _ _ hv8) ?_
  try simp only [go_sem]
  obtain ⟨v9, hv9, h⟩ := bind_some h
  refine dc_pure (ok_glosswrightequalApp _ _ _ hv9) ?_
  try simp only [go_sem]
  obtain ⟨v10, hv10, h⟩ := bind_some h
  refine dc_pure (ok_glosswrightequalAbs _ _ _ hv10) ?_
  try simp only [go_sem]
  obtain ⟨v11, hv11, h⟩ := bind_some h
  refine dc_pure (ok_glosswrightequalAbs _ _ _ hv11) ?_
  try simp only [go_sem]
  obtain ⟨v12, hv12, h⟩ := bind_some h
  refine dc_pure (ok_glosswrightequalBound _ _ hv12) ?_
  try simp only [go_sem]
  obtain ⟨v13, hv13, h⟩ := bind_some h
  refine dc_pure (ok_glosswrightequalBound _ _ hv13) ?_
  try simp only [go_sem]
  obtain ⟨v14, hv14, h⟩ := bind_some h
  refine dc_pure (ok_glosswrightequalApp _ _ _ hv14) ?_
  try simp only [go_sem]
  obtain ⟨v15, hv15, h⟩ := bind_some h
  refine dc_pure (ok_glosswrightequalAbs _ _ _ hv15) ?_
  try simp only [go_sem]
  obtain ⟨v16, hv16, h⟩ := bind_some h
  refine dc_pure (ok_glosswrightequalAbs _ _ _ hv16) ?_
  try simp only [go_sem]
  obtain ⟨v17, hv17, h⟩ := bind_some h
  refine dc_pure (ok_glosswrightequalBound _ _ hv17) ?_
  try simp only [go_sem]
  obtain ⟨v18, hv18, h⟩ := bind_some h
  refine dc_pure (ok_glosswrightequalAbs _ _ _ hv18) ?_
  try simp only [go_sem]
  obtain ⟨v19, hv19, h⟩ := bind_some h
  refine dc_pure (ok_glosswrightequalBound _ _ hv19) ?_
  try simp only [go_sem]
  obtain ⟨v20, hv20, h⟩ := bind_some h
  refine dc_pure (ok_glosswrightequalBound _ _ hv20) ?_
  try simp only [go_sem]
  obtain ⟨v21, hv21, h⟩ := bind_some h
  refine dc_pure (ok_glosswrightequalBound _ _ hv21) ?_
  try simp only [go_sem]
  obtain ⟨v22, hv22, h⟩ := bind_some h
  refine dc_pure (ok_glosswrightequalApp _ _ _ hv22) ?_
  try simp only [go_sem]
  obtain ⟨v23, hv23, h⟩ := bind_some h
  refine dc_pure (ok_glosswrightequalBound _ _ hv23) ?_
  try simp only [go_sem]
  obtain ⟨v24, hv24, h⟩ := bind_some h
  refine dc_pure (ok_glosswrightequalApp _ _ _ hv24) ?_
  try simp only [go_sem]
  obtain ⟨v25, hv25, h⟩ := bind_some h
  refine dc_pure (ok_glosswrightequalAbs _ _ _ hv25) ?_
  try simp only [go_sem]
  obtain ⟨v26, hv26, h⟩ := bind_some h
  refine dc_pure (ok_glosswrightequalApp _ _ _ hv26) ?_
  try simp only [go_sem]
  obtain ⟨v27, hv27, h⟩ := bind_some h
  refine dc_pure (ok_glosswrightequalAbs _ _ _ hv27) ?_
  try simp only [go_sem]
  obtain ⟨v28, hv28, h⟩ := bind_some h
  refine dc_pure (ok_glosswrightequalAbs _ _ _ hv28) ?_
  try simp only [go_sem]
  obtain ⟨v29, hv29, h⟩ := bind_some h
  refine dc_pure (ok_glosswrightequalAbs _ _ _ hv29) ?_
  try simp only [go_sem]
  obtain ⟨v30, hv30, h⟩ := bind_some h
  refine dc_pure (ok_glosswrightequalFun _ _ _ hv30) ?_
  try simp only [go_sem]
  obtain ⟨v31, hv31, h⟩ := bind_some h
  refine dc_pure (ok_glosswrightequalBound _ _ hv31) ?_
  try simp only [go_sem]
  obtain ⟨v32, hv32, h⟩ := bind_some h
  refine dc_pure (ok_glosswrightequalBound _ _ hv32) ?_
  try simp only [go_sem]
  obtain ⟨v33, hv33, h⟩ := bind_some h
  refine dc_pure (ok_glosswrightequalBound _ _ hv33) ?_
  try simp only [go_sem]
  obtain ⟨v34, hv34, h⟩ := bind_some h
  refine dc_pure (ok_glosswrightequalApp _ _ _ hv34) ?_
  try simp only [go_sem]
  obtain ⟨v35, hv35, h⟩ := bind_some h
  refine dc_pure (ok_glosswrightequalApp _ _ _ hv35) ?_
  try simp only [go_sem]
  obtain ⟨v36, hv36, h⟩ := bind_some h
  refine dc_pure (ok_glosswrightequalAbs _ _ _ hv36) ?_
  try simp only [go_sem]
  obtain ⟨v37, hv37, h⟩ := bind_some h
  refine dc_pure (ok_glosswrightequalAbs _ _ _ hv37) ?_
  try simp only [go_sem]
  obtain ⟨v38, hv38, h⟩ := bind_some h
  refine dc_pure (ok_glosswrightequalAbs _ _ _ hv38) ?_
  try simp only [go_sem]
  obtain ⟨v39, hv39, h⟩ := bind_some h
  refine dc_pure (ok_glosswrightequalFun _ _ _ hv39) ?_
  try simp only [go_sem]
  obtain ⟨v40, hv40, h⟩ := bind_some h
  refine dc_pure (ok_glosswrightequalFun _ _ _ hv40) ?_
  try simp only [go_sem]
  obtain ⟨v41, hv41, h⟩ := bind_some h
  refine dc_pure (ok_glosswrightequalBound _ _ hv41) ?_
  try simp only [go_sem]
  obtain ⟨v42, hv42, h⟩ := bind_some h
  refine dc_pure (ok_glosswrightequalBound _ _ hv42) ?_
  try simp only [go_sem]
  obtain ⟨v43, hv43, h⟩ := bind_some h
  refine dc_pure (ok_glosswrightequalBound _ _ hv43) ?_
  try simp only [go_sem]
  obtain ⟨v44, hv44, h⟩ := bind_some h
  refine dc_pure (ok_glosswrightequalApp _ _ _ hv44) ?_
  try simp only [go_sem]
  obtain ⟨v45, hv45, h⟩ := bind_some h
  refine dc_pure (ok_glosswrightequalApp _ _ _ hv45) ?_
  try simp only [go_sem]
  obtain ⟨v46, hv46, h⟩ := bind_some h
  refine dc_pure (ok_glosswrightequalBound _ _ hv46) ?_
  try simp only [go_sem]
  obtain ⟨v47, hv47, h⟩ := bind_some h
  refine dc_pure (ok_glosswrightequalBound _ _ hv47) ?_
  try simp only [go_sem]
  obtain ⟨v48, hv48, h⟩ := bind_some h
  refine dc_pure (ok_glosswrightequalApp _ _ _ hv48) ?_
  try simp only [go_sem]
  obtain ⟨v49, hv49, h⟩ := bind_some h
  refine dc_pure (ok_glosswrightequalApp _ _ _ hv49) ?_
  try simp only [go_sem]
  obtain ⟨v50, hv50, h⟩ := bind_some h
  refine dc_pure (ok_glosswrightequalAbs _ _ _ hv50) ?_
  try simp only [go_sem]
  obtain ⟨v51, hv51, h⟩ := bind_some h
  refine dc_pure (ok_glosswrightequalAbs _ _ _ hv51) ?_
  try simp only [go_sem]
  obtain ⟨v52, hv52, h⟩ := bind_some h
  refine dc_pure (ok_glosswrightequalAbs _ _ _ hv52) ?_
  try simp only [go_sem]
  obtain ⟨v53, hv53, h⟩ := bind_some h
  refine dc_pure (ok_glosswrightequalAbs _ _ _ hv53) ?_
  have e54 : (576 ≤ top) = True := by simp [top]
  try simp only [go_sem, e54]
  (repeat refine awp_seq ?_); refine ev_region ?_; simp only [go_sem]
  (repeat refine awp_seq ?_); refine awp_cond (by rfl) (fun hc => ?_) fun hc => ?_
  · replace h := cond_t h (by first | exact hc | simpa using hc)
    (repeat refine awp_seq ?_); refine ev_draw_region [] 0 follows (by kernel_rfl) (by rfl) ?_; simp only [go_sem, List.replicate_succ, List.replicate_zero]
    obtain ⟨v55, hv55, h⟩ := bind_some h
    refine dc_pure (ok_glosswrightequalBound _ _ hv55) ?_
    try simp only [go_sem]
    obtain ⟨v56, hv56, h⟩ := bind_some h
    refine dc_pure (ok_glosswrightequalBound _ _ hv56) ?_
    try simp only [go_sem]
    obtain ⟨v57, hv57, h⟩ := bind_some h
    refine dc_pure (ok_glosswrightequalApp _ _ _ hv57) ?_
    try simp only [go_sem]
    obtain ⟨v58, hv58, h⟩ := bind_some h
    refine dc_pure (ok_glosswrightequalAbs _ _ _ hv58) ?_
    try simp only [go_sem]
    obtain ⟨v59, hv59, h⟩ := bind_some h
    refine dc_pure (ok_glosswrightequalAbs _ _ _ hv59) ?_
    try simp only [go_sem]
    (repeat refine awp_seq ?_); refine ev_draw_region [] 0 follows (by kernel_rfl) (by rfl) ?_; simp only [go_sem, List.replicate_succ, List.replicate_zero]
    obtain ⟨v60, hv60, h⟩ := bind_some h
    refine dc_pure (ok_glosswrightequalBound _ _ hv60) ?_
    try simp only [go_sem]
    obtain ⟨v61, hv61, h⟩ := bind_some h
    refine dc_pure (ok_glosswrightequalBound _ _ hv61) ?_
    try simp only [go_sem]
    obtain ⟨v62, hv62, h⟩ := bind_some h
    refine dc_pure (ok_glosswrightequalApp _ _ _ hv62) ?_
    try simp only [go_sem]
    obtain ⟨v63, hv63, h⟩ := bind_some h
    refine dc_pure (ok_glosswrightequalAbs _ _ _ hv63) ?_
    try simp only [go_sem]
    obtain ⟨v64, hv64, h⟩ := bind_some h
    refine dc_pure (ok_glosswrightequalAbs _ _ _ hv64) ?_
    try simp only [go_sem]
    (repeat refine awp_seq ?_); refine ev_draw_region [] 0 follows (by kernel_rfl) (by rfl) ?_; simp only [go_sem, List.replicate_succ, List.replicate_zero]
    obtain ⟨v65, hv65, h⟩ := bind_some h
    refine dc_pure (ok_glosswrightequalBound _ _ hv65) ?_
    try simp only [go_sem]
    obtain ⟨v66, hv66, h⟩ := bind_some h
    refine dc_pure (ok_glosswrightequalBound _ _ hv66) ?_
    try simp only [go_sem]
    obtain ⟨v67, hv67, h⟩ := bind_some h
    refine dc_pure (ok_glosswrightequalBound _ _ hv67) ?_
    try simp only [go_sem]
    obtain ⟨v68, hv68, h⟩ := bind_some h
    refine dc_pure (ok_glosswrightequalApp _ _ _ hv68) ?_
    try simp only [go_sem]
    obtain ⟨v69, hv69, h⟩ := bind_some h
    refine dc_pure (ok_glosswrightequalBound _ _ hv69) ?_
    try simp only [go_sem]
    obtain ⟨v70, hv70, h⟩ := bind_some h
    refine dc_pure (ok_glosswrightequalApp _ _ _ hv70) ?_
    try simp only [go_sem]
    obtain ⟨v71, hv71, h⟩ := bind_some h
    refine dc_pure (ok_glosswrightequalAbs _ _ _ hv71) ?_
    try simp only [go_sem]
    obtain ⟨v72, hv72, h⟩ := bind_some h
    refine dc_pure (ok_glosswrightequalApp _ _ _ hv72) ?_
    try simp only [go_sem]
    obtain ⟨v73, hv73, h⟩ := bind_some h
    refine dc_pure (ok_glosswrightequalAbs _ _ _ hv73) ?_
    try simp only [go_sem]
    obtain ⟨v74, hv74, h⟩ := bind_some h
    refine dc_pure (ok_glosswrightequalAbs _ _ _ hv74) ?_
    try simp only [go_sem]
    obtain ⟨v75, hv75, h⟩ := bind_some h
    refine dc_pure (ok_glosswrightequalAbs _ _ _ hv75) ?_
    try simp only [go_sem]
    (repeat refine awp_seq ?_); refine ev_region ?_; simp only [go_sem]
    (repeat refine awp_seq ?_); refine awp_ret ?_
    try simp only [go_sem]
    have hr := Option.some.inj h
    refine finb_of ?_; simp only [go_sem]
    exact fin_old' (d' := .sl false 6 96 (rows ApiTerm.cells [v59, v64, v18, v75, v38, v53])) hsc (.ref _ _ _ _ _ _ _ _ _ (get_new.trans rfl) look_out (by decide) (by simp [Imm, D.imm]) (by simp only [go_sem, rows, List.map_cons, List.map_nil])) (by simp) ⟨by subst hr; rfl, rfl⟩
  · replace h := cond_f h (by first | exact hc | simpa using hc)
    refine awp_skip ?_; try simp only [go_sem]
    (repeat refine awp_seq ?_); refine ev_region ?_; simp only [go_sem]
    (repeat refine awp_seq ?_); refine awp_ret ?_
    try simp only [go_sem]
    have hr := Option.some.inj h
    refine finb_of ?_; simp only [go_sem]
    exact fin_old' (d' := .sl false 6 96 (rows ApiTerm.cells [v11, v16, v18, v29, v38, v53])) hsc (.ref _ _ _ _ _ _ _ _ _ (get_new.trans rfl) look_out (by decide) (by simp [Imm, D.imm]) (by simp only [go_sem, rows, List.map_cons, List.map_nil])) (by simp) ⟨by subst hr; rfl, rfl⟩

set_option maxHeartbeats 2000000 in
set_option maxRecDepth 100000 in
theorem ok_glosswrightequalGraphOf (n : Nat) (a0 : (List (List Int))) (r : ApiGraph) (h : glosswrightequalGraphOf n a0 = some r) : Pure Tryd.prog gl 20 [.sl false 1 24 (rows (slc 1 8 i64c) a0)] (.agg [.sl false 2 32 (rows ApiNode.cells r.nodes)]) := by
  intro st
  unfold glosswrightequalGraphOf at h
  refine spec_fb (N := 48) (rs := [.cell 2 30]) (keep := [0, 2, 3, 5, 6, 7, 8, 9, 10, 11, 22]) Tryd.func20 rfl rfl rfl (by kernel_rfl) rfl fun hsc => ?_
  (repeat refine awp_seq ?_); refine ev_region ?_; simp only [go_sem]
  (repeat refine awp_seq ?_); refine ev_region ?_; simp only [go_sem]
  (repeat refine awp_seq ?_); refine ev_region ?_; simp only [go_sem]
  (repeat refine awp_seq ?_); refine awp_ph 2 32 ?_
  try simp only [List.append_assoc, List.cons_append, List.nil_append]
  refine awp_bks (F := [(2, .ptr st.length 0 0 0), (3, .ptr (st.length + 1) 0 0 0), (8, .sl false 1 24 (rows (slc 1 8 i64c) a0)), (9, .int .i64 (↑a0.length : Int)), (10, .int .i64 0)]) (T := st ++ [some (.arr 0 1 0 [[.nils]]), some (.arr 0 1 0 [[.ref false (st.length + 2) 0 0 0]]), some (.arr 0 2 32 (rows ApiNode.cells []))]) (bks_mk hsc (.live _ _ _ _ (.same _) (.live _ _ _ _ (.arr _ _ _ _ _ (.cons _ _ _ _ (.cons _ _ _ _ (.nref _ _ _ _ _ _ (get_new.trans rfl)) .nil) (.same _))) (.live _ _ _ _ (.same _) (.nil _)))) (by simp) ⟨.same _, .same _, .same _, .same _, .same _, trivial⟩ (by simp)) ?_
  (repeat refine awp_seq ?_); refine awp_len (t := 8) rfl fun hl0 => ?_
  simp only [rows_len] at hl0
  (repeat refine awp_seq ?_); refine awp_range (body := glosswrightequalGraphOf_b0 n a0) (kk := glosswrightequalGraphOf_a0) (n := a0.length) (s0 := [])
    (fun (gs0 : Nat) (k0 : Nat) (s0 : (List ApiNode)) => [(2, .ptr st.length 0 0 0), (3, .ptr (st.length + 1) 0 0 0), (8, .sl false 1 24 (rows (slc 1 8 i64c) a0)), (9, .int .i64 (↑a0.length : Int)), (10, .int .i64 (↑k0 : Int))])
    (fun (gs0 : Nat) (k0 : Nat) (s0 : (List ApiNode)) => st ++ [some (.arr 0 1 0 [[.nils]]), some (.arr 0 1 0 [[.ref false (st.length + 2) gs0 0 s0.length]]), some (.arr gs0 2 32 (rows ApiNode.cells s0))])
    (fun (gt0 : Nat) (t0 : (List ApiNode)) => [(2, .ptr st.length 0 0 0), (3, .ptr (st.length + 1) 0 0 0)])
    (fun (gt0 : Nat) (t0 : (List ApiNode)) => st ++ [some (.arr 0 1 0 [[.nils]]), some (.arr 0 1 0 [[.ref false (st.length + 2) gt0 0 t0.length]]), some (.arr gt0 2 32 (rows ApiNode.cells t0))])
    0 h (bks_mk hsc (.live _ _ _ _ (.same _) (.live _ _ _ _ (.same _) (.live _ _ _ _ (.same _) (.nil _)))) (by simp) ⟨.same _, .same _, .same _, .same _, .same _, trivial⟩ (by simp))
    (fun gs0 k0 s0 b0 hk0 h hx0 => ?_) (fun gs0 s0 => ?_) (fun gt0 t0 fr1 st1 h hb => ?_)
  · unfold glosswrightequalGraphOf_b0 at h
    have hw0 : wr .i64 ((↑k0 : Int) + 1) = (↑(k0 + 1) : Int) := wr_succ hk0 hl0 (by decide)
    (repeat refine awp_seq ?_); refine ev_region ?_; simp only [go_sem]
    (repeat refine awp_seq ?_); refine awp_cond (by rfl) (fun hc => ?_) fun hc => ?_
    · refine awp_skip ?_; try simp only [go_sem]
      (repeat refine awp_seq ?_); refine awp_block ?_
      (repeat refine awp_seq ?_); refine ev_region ?_; simp only [go_sem, hk0, hw0]
      obtain ⟨f23, h⟩ := chk_some h
      (repeat refine awp_seq ?_); refine ev_region ?_; simp only [go_sem, hk0, hw0, f23]
      (repeat refine awp_seq ?_); refine ev_region ?_; simp only [go_sem, hk0, hw0, f23]
      (repeat refine awp_seq ?_); refine awp_ph 2 16 ?_
      try simp only [List.append_assoc, List.cons_append, List.nil_append]
      refine awp_bks (F := [(2, .ptr st.length 0 0 0), (3, .ptr (st.length + 1) 0 0 0), (5, .sl false 1 8 (rows i64c (get a0 k0))), (6, .ptr (st.length + 3) 0 0 0), (7, .int .i64 1), (8, .sl false 1 24 (rows (slc 1 8 i64c) a0)), (9, .int .i64 (↑a0.length : Int)), (10, .int .i64 (↑k0 : Int))]) (T := st ++ [some (.arr 0 1 0 [[.nils]]), some (.arr 0 1 0 [[.ref false (st.length + 2) gs0 0 s0.length]]), some (.arr gs0 2 32 (rows ApiNode.cells s0)), some (.arr 0 2 0 [[.int .i64 (get (get a0 k0) 0), .ref false (st.length + 4) 0 0 0]]), some (.arr 0 2 16 (rows ApiLink.cells []))]) (bks_mk hsc (.live _ _ _ _ (.same _) (.live _ _ _ _ (.same _) (.live _ _ _ _ (.same _) (.live _ _ _ _ (.arr _ _ _ _ _ (.cons _ _ _ _ (.cons _ _ _ _ (.same _) (.cons _ _ _ _ (.nref _ _ _ _ _ _ (get_new.trans rfl)) .nil)) (.same _))) (.live _ _ _ _ (.same _) (.nil _)))))) (by simp) ⟨.same _, .same _, .same _, .same _, .same _, .same _, .same _, .same _, trivial⟩ (by simp)) ?_
      (repeat refine awp_seq ?_); refine awp_while (body := glosswrightequalGraphOf_b2 a0 k0) (kk := glosswrightequalGraphOf_a2 s0 a0 k0) (n := n) (s0 := ([], 1))
        (fun (gs2 : Nat) (s2 : (List ApiLink) × Int) => [(2, .ptr st.length 0 0 0), (3, .ptr (st.length + 1) 0 0 0), (5, .sl false 1 8 (rows i64c (get a0 k0))), (6, .ptr (st.length + 3) 0 0 0), (7, .int .i64 s2.2), (8, .sl false 1 24 (rows (slc 1 8 i64c) a0)), (9, .int .i64 (↑a0.length : Int)), (10, .int .i64 (↑k0 : Int))])
        (fun (gs2 : Nat) (s2 : (List ApiLink) × Int) => st ++ [some (.arr 0 1 0 [[.nils]]), some (.arr 0 1 0 [[.ref false (st.length + 2) gs0 0 s0.length]]), some (.arr gs0 2 32 (rows ApiNode.cells s0)), some (.arr 0 2 0 [[.int .i64 (get (get a0 k0) 0), .ref false (st.length + 4) gs2 0 s2.1.length]]), some (.arr gs2 2 16 (rows ApiLink.cells s2.1))])
        (fun (gt2 : Nat) (t2 : (List ApiLink)) => [(2, .ptr st.length 0 0 0), (3, .ptr (st.length + 1) 0 0 0), (6, .ptr (st.length + 3) 0 0 0), (8, .sl false 1 24 (rows (slc 1 8 i64c) a0)), (9, .int .i64 (↑a0.length : Int)), (10, .int .i64 (↑k0 : Int))])
        (fun (gt2 : Nat) (t2 : (List ApiLink)) => st ++ [some (.arr 0 1 0 [[.nils]]), some (.arr 0 1 0 [[.ref false (st.length + 2) gs0 0 s0.length]]), some (.arr gs0 2 32 (rows ApiNode.cells s0)), some (.arr 0 2 0 [[.int .i64 (get (get a0 k0) 0), .ref false (st.length + 4) gt2 0 t2.length]]), some (.arr gt2 2 16 (rows ApiLink.cells t2))])
        0 h (bks_mk hsc (.live _ _ _ _ (.same _) (.live _ _ _ _ (.same _) (.live _ _ _ _ (.same _) (.live _ _ _ _ (.same _) (.live _ _ _ _ (.same _) (.nil _)))))) (by simp) ⟨.same _, .same _, .same _, .same _, .same _, .same _, .same _, .same _, trivial⟩ (by simp))
        (fun gs2 s2 b2 h hx2 => ?_) (fun gt2 t2 fr1 st1 h hb => ?_)
      · unfold glosswrightequalGraphOf_b2 at h
        (repeat refine awp_seq ?_); refine ev_region ?_; simp only [go_sem, hk0, hw0, f23]
        (repeat refine awp_seq ?_); refine awp_cond (by rfl) (fun hc => ?_) fun hc => ?_
        · replace h := cond_t h (by first | exact hc | simpa using hc)
          refine awp_skip ?_; try simp only [go_sem, hk0, hw0, f23]
          (repeat refine awp_seq ?_); refine awp_block ?_
          obtain ⟨⟨f33, f34⟩, h⟩ := chk_some h
          obtain ⟨⟨f35, f36⟩, h⟩ := chk_some h
          have e37 : (16 ≤ top) = True := by simp [top]
          obtain ⟨c38, hc38, h⟩ := let_some h
          have e39 : rows ApiLink.cells s2.1 ++ [[.int .i64 (get (get a0 k0) s2.2.toNat), .int .i64 (get (get a0 k0) ((wr .i64 (s2.2 + 1)).toNat))]] = rows ApiLink.cells c38 := by rw [hc38]; first | exact rows_app (E := ApiLink.cells) s2.1 [(ApiLink.mk (get (get a0 k0) s2.2.toNat) (get (get a0 k0) ((wr .i64 (s2.2 + 1)).toNat)))] | simp only [go_sem, rows, List.map_append, List.map_cons, List.map_nil]
          have e40 : s2.1.length + 1 = c38.length := by rw [hc38]; simp
          obtain ⟨⟨f41, f42⟩, h⟩ := chk_some h
          (repeat refine awp_seq ?_); refine ev_draw_region [] 2 follows (by kernel_rfl) (by rfl) ?_; simp only [go_sem, List.replicate_succ, List.replicate_zero, hk0, hw0, f23, f33, f34, f35, f36, f41, f42, e37, e39, e40]
          (repeat refine awp_seq ?_); refine ev_region ?_; simp only [go_sem, hk0, hw0, f23, f33, f34, f35, f36, f41, f42]
          cases h
          exact pbw_nxt (gs2 + 1) (bks_mk hsc (.live _ _ _ _ (.same _) (.live _ _ _ _ (.same _) (.live _ _ _ _ (.same _) (.live _ _ _ _ (.same _) (.live _ _ _ _ (.same _) (.nil _)))))) (by simp) ⟨.same _, .same _, .same _, .same _, .same _, .same _, .same _, .same _, trivial⟩ (by simp))
        · replace h := cond_f h (by first | exact hc | simpa using hc)
          (repeat refine awp_seq ?_); refine awp_exit ?_; try simp only [go_sem, hk0, hw0, f23]
          cases h
          exact pbw_brk gs2 (bks_mk hsc (.live _ _ _ _ (.same _) (.live _ _ _ _ (.same _) (.live _ _ _ _ (.same _) (.live _ _ _ _ (.same _) (.live _ _ _ _ (.same _) (.nil _)))))) (by simp) ⟨.same _, .same _, .same _, .same _, .same _, .same _, trivial⟩ (by simp))
      · try simp only [go_sem, hk0, hw0, f23]
        unfold glosswrightequalGraphOf_a2 at h
        refine awp_bks hb ?_
        have e43 : (32 ≤ top) = True := by simp [top]
        obtain ⟨⟨f44, f45⟩, h⟩ := chk_some h
        (repeat refine awp_seq ?_); refine ev_region ?_; simp only [go_sem, hk0, hw0, f23, f44, f45, e43]
        (repeat refine awp_seq ?_); refine ev_region ?_; simp only [go_sem, hk0, hw0, f23, f44, f45]
        cases h
        exact pbr_nxt (gs0 + 1) (bks_mk hsc (.live _ _ _ _ (.same _) (.live _ _ _ _ (.arr _ _ _ _ _ (.cons _ _ _ _ (.cons _ _ _ _ (up_eq (by simp)) .nil) (.same _))) (.live _ _ _ _ (.arr _ _ _ _ _ (uprows_pend (.cons _ _ _ _ (.cons _ _ _ _ (.same _) (.cons _ _ _ _ (.ref _ _ _ _ _ _ _ _ _ (get_new.trans rfl) (look_out2 (by first | decide | simp)) (by decide) (rows_imm _) (by simp only [go_sem])) .nil)) .nil))) (.nil _)))) (by simp) ⟨.same _, .same _, .same _, .same _, .same _, trivial⟩ (by simp))
    · exfalso; have hc := of_decide_eq_false hc; omega
  · (repeat refine awp_seq ?_); refine ev_region ?_; simp only [go_sem]
    (repeat refine awp_seq ?_); refine awp_cond (by rfl) (fun hc => ?_) fun hc => ?_
    · exfalso; first | exact Bool.noConfusion hc | (have hc := of_decide_eq_true hc; omega)
    · refine awp_exit ?_; simp only [go_sem]
      exact ⟨gs0, (bks_mk hsc (.live _ _ _ _ (.same _) (.live _ _ _ _ (.same _) (.live _ _ _ _ (.same _) (.nil _)))) (by simp) ⟨.same _, .same _, trivial⟩ (by simp))⟩
  · try simp only [go_sem]
    unfold glosswrightequalGraphOf_a0 at h
    refine awp_bks hb ?_
    (repeat refine awp_seq ?_); refine ev_region ?_; simp only [go_sem]
    (repeat refine awp_seq ?_); refine awp_ret ?_
    try simp only [go_sem]
    have hr := Option.some.inj h
    refine finb_of ?_; simp only [go_sem]
    exact fin_old' (d' := .agg [.sl false 2 32 (rows ApiNode.cells t0)]) hsc (.agg _ _ (.cons _ _ _ _ (.ref _ _ _ _ _ _ _ _ _ (get_new.trans rfl) look_out (by decide) (rows_imm _) (by simp only [go_sem])) .nil)) (by simp) ⟨by subst hr; rfl, rfl⟩


end Go.Proofs.YtaohdfpcdfbnlaaDoor

