/-
  Each Go function of this part does what its plain Lean function says.
-/
import Derived.Test.YtaohdfpcdfbnlaaDoorBase
import Derived.Test.YtaohdfpcdfbnlaaDoorHand
import Derived.Test.YtaohdfpcdfbnlaaDoorMirrors
import Derived.Test.YtaohdfpcdfbnlaaDoorWalk3
set_option linter.unusedVariables false
set_option linter.unusedSimpArgs false
namespace Go.Proofs.YtaohdfpcdfbnlaaDoor
open Go Go.Am

set_option maxHeartbeats 2000000 in
set_option maxRecDepth 100000 in
theorem ok_hierarchyTableSub (a0 : HierarchyTable) (a1 : Int) (a2 : Int) (r : Bool) (h : hierarchyTableSub a0 a1 a2 = some r) : Pure Tryd.prog gl 49 [.agg [.sl false 1 8 (rows u64c a0.up), .sl false 1 8 (rows u64c a0.down)], .int .i64 a1, .int .i64 a2] (.bool r) := by
  intro st
  unfold hierarchyTableSub at h
  refine spec_fb (N := 16) (rs := [.tmp 6]) (keep := [0, 1, 2, 3, 6]) Tryd.func49 rfl rfl rfl (by kernel_rfl) rfl fun hsc => ?_
  (repeat refine awp_seq ?_); refine ev_region ?_; simp only [go_sem]
  obtain ⟨⟨f1, f2⟩, h⟩ := chk_some h
  obtain ⟨f3, h⟩ := chk_some h
  (repeat refine awp_seq ?_); refine ev_region ?_; simp only [go_sem, f1, f2, f3]
  (repeat refine awp_seq ?_); refine awp_ret ?_
  try simp only [go_sem, f1, f2, f3]
  have hr := Option.some.inj h
  refine finb_of ?_; simp only [go_sem, f1, f2, f3]
  exact fin_old' (d' := .bool (decide ((bitop .and .u64 (Int.fdiv (get a0.up a1.toNat) (2 ^ (min a2.toNat 64))) 1) = 1))) hsc (.same _) (by simp) ⟨by subst hr; rfl, rfl⟩

set_option maxHeartbeats 2000000 in
set_option maxRecDepth 100000 in
theorem ok_slicesIndexBoolBool (a0 : (List Bool)) (a1 : Bool) (r : Int) (h : slicesIndexBoolBool a0 a1 = some r) : Pure Tryd.prog gl 69 [.sl false 1 1 (rows boolc a0), .bool a1] (.int .i64 r) := by
  intro st
  unfold slicesIndexBoolBool at h
  refine spec_fb (N := 19) (rs := [.tmp 4]) (keep := [0, 1, 4, 5, 7, 8, 9, 16]) Tryd.func69 rfl rfl rfl (by kernel_rfl) rfl fun hsc => ?_
  (repeat refine awp_seq ?_); refine ev_region ?_; simp only [go_sem]
  (repeat refine awp_seq ?_); refine ev_region ?_; simp only [go_sem]
  (repeat refine awp_seq ?_); refine awp_len (t := 0) rfl fun hl0 => ?_
  simp only [rows_len] at hl0
  (repeat refine awp_seq ?_); refine awp_range (body := slicesIndexBoolBool_b0 a1 a0) (kk := slicesIndexBoolBool_a0) (n := a0.length) (s0 := ())
    (fun (gs0 : Unit) (k0 : Nat) (s0 : Unit) => [(0, .sl false 1 1 (rows boolc a0)), (1, .bool a1), (7, .int .i64 (↑a0.length : Int)), (8, .int .i64 (↑k0 : Int))])
    (fun (gs0 : Unit) (k0 : Nat) (s0 : Unit) => st)
    (fun (gt0 : Unit) (t0 : Unit) => [])
    (fun (gt0 : Unit) (t0 : Unit) => st)
    () h (bks_mk00 hsc ⟨.same _, .same _, .same _, .same _, trivial⟩ (by simp))
    (fun gs0 k0 s0 b0 hk0 h hx0 => ?_) (fun gs0 s0 => ?_) (fun gt0 t0 fr1 st1 h hb => ?_)
  · unfold slicesIndexBoolBool_b0 at h
    have hw0 : wr .i64 ((↑k0 : Int) + 1) = (↑(k0 + 1) : Int) := wr_succ hk0 hl0 (by decide)
    (repeat refine awp_seq ?_); refine ev_region ?_; simp only [go_sem]
    (repeat refine awp_seq ?_); refine awp_cond (by rfl) (fun hc => ?_) fun hc => ?_
    · refine awp_skip ?_; try simp only [go_sem]
      (repeat refine awp_seq ?_); refine awp_block ?_
      (repeat refine awp_seq ?_); refine ev_region ?_; simp only [go_sem, hk0, hw0]
      (repeat refine awp_seq ?_); refine ev_region ?_; simp only [go_sem, hk0, hw0]
      (repeat refine awp_seq ?_); refine awp_cond (by rfl) (fun hc => ?_) fun hc => ?_
      · replace h := cond_t h (by first | exact hc | simpa using hc)
        (repeat refine awp_seq ?_); refine ev_region ?_; simp only [go_sem, hk0, hw0]
        (repeat refine awp_seq ?_); refine awp_ret ?_
        try simp only [go_sem, hk0, hw0]
        obtain rfl := Option.some.inj h
        refine pbr_ret ?_; have hr := hx0 _ rfl; try simp only [go_sem, hk0, hw0]
        refine finb_of ?_; simp only [go_sem, hk0, hw0]
        exact fin_same' (d' := .int .i64 (↑k0 : Int)) hsc (.same _) (by simp) ⟨by subst hr; rfl, rfl⟩
      · replace h := cond_f h (by first | exact hc | simpa using hc)
        refine awp_skip ?_; try simp only [go_sem, hk0, hw0]
        (repeat refine awp_seq ?_); refine ev_region ?_; simp only [go_sem, hk0, hw0]
        cases h
        exact pbr_nxt () (bks_mk00 hsc ⟨.same _, .same _, .same _, .same _, trivial⟩ (by simp))
    · exfalso; have hc := of_decide_eq_false hc; omega
  · (repeat refine awp_seq ?_); refine ev_region ?_; simp only [go_sem]
    (repeat refine awp_seq ?_); refine awp_cond (by rfl) (fun hc => ?_) fun hc => ?_
    · exfalso; first | exact Bool.noConfusion hc | (have hc := of_decide_eq_true hc; omega)
    · refine awp_exit ?_; simp only [go_sem]
      exact ⟨(), (bks_mk00 hsc trivial (by simp))⟩
  · try simp only [go_sem]
    unfold slicesIndexBoolBool_a0 at h
    refine awp_bks hb ?_
    (repeat refine awp_seq ?_); refine ev_region ?_; simp only [go_sem]
    (repeat refine awp_seq ?_); refine awp_ret ?_
    try simp only [go_sem]
    have hr := Option.some.inj h
    refine finb_of ?_; simp only [go_sem]
    exact fin_same' (d' := .int .i64 (-1)) hsc (.same _) (by simp) ⟨by subst hr; rfl, rfl⟩

set_option maxHeartbeats 2000000 in
set_option maxRecDepth 100000 in
theorem ok_graphUnreached (n : Nat) (a0 : ApiGraph) (r : Int) (h : graphUnreached n a0 = some r) : Pure Tryd.prog gl 51 [.agg [.sl false 2 32 (rows ApiNode.cells a0.nodes)]] (.int .i64 r) := by
  intro st
  unfold graphUnreached at h
  refine spec_gl0 ?_; refine spec_fb (N := 58) (rs := [.tmp 2]) (keep := [0, 1, 2, 3, 4, 5, 7, 17, 34, 35, 36, 37, 45]) Tryd.func51 rfl rfl rfl (by kernel_rfl) rfl fun hsc => ?_
  (repeat refine awp_seq ?_); refine ev_region ?_; simp only [go_sem]
  obtain ⟨⟨f1, f2⟩, h⟩ := chk_some h
  have e3 : List.replicate a0.nodes.length [.bool false] = rows boolc (List.replicate a0.nodes.length (default : Bool)) := rows_rep (E := boolc) _ default
  (repeat refine awp_seq ?_); refine ev_region ?_; simp only [go_sem, f1, f2, e3]
  obtain ⟨f4, h⟩ := chk_some h
  have e5 : (rows boolc (List.replicate a0.nodes.length (default : Bool))).getD 0 [] = boolc (get (List.replicate a0.nodes.length (default : Bool)) 0) := rows_get (E := boolc) (l := (List.replicate a0.nodes.length (default : Bool))) (k := 0) (by first | omega | (simp; omega))
  have e6 : 0 < a0.nodes.length := by first | omega | (simp; omega)
  obtain ⟨c7, hc7, h⟩ := let_some h
  have e8 : (rows boolc (List.replicate a0.nodes.length (default : Bool))).set 0 [.bool true] = rows boolc c7 := by rw [hc7]; first | exact rows_set (E := boolc) _ _ _ | simp only [go_sem, rows, List.map_set]
  (repeat refine awp_seq ?_); refine ev_region ?_; simp only [go_sem, f1, f2, f4, e5, e6, e8]
  have e9 : D.ref true (st.length + 1) 0 0 a0.nodes.length = D.ref true (st.length + 1) 0 0 c7.length := by simp [hc7]
  simp only [e9]
  have e10 : (8 ≤ top) = True := by simp [top]
  (repeat refine awp_seq ?_); refine ev_region ?_; simp only [go_sem, f1, f2, f4, e10]
  (repeat refine awp_seq ?_); refine awp_while (body := graphUnreached_b0 a0) (kk := graphUnreached_a0) (n := n) (s0 := (c7, [0], 1))
    (fun (gs0 : Nat × Nat) (s0 : (List Bool) × (List Int) × Nat) => [(1, .ptr st.length 0 0 0), (3, .ref true (st.length + 1) gs0.1 0 s0.1.length), (4, .ref false (st.length + 2) gs0.2 0 s0.2.2)])
    (fun (gs0 : Nat × Nat) (s0 : (List Bool) × (List Int) × Nat) => st ++ [some (.arr 0 1 0 [[.sl false 2 32 (rows ApiNode.cells a0.nodes)]]), some (.arr gs0.1 1 1 (rows boolc s0.1)), some (.arr gs0.2 1 8 (rows i64c s0.2.1))])
    (fun (gt0 : Nat) (t0 : (List Bool)) => [(3, .ref true (st.length + 1) gt0 0 t0.length)])
    (fun (gt0 : Nat) (t0 : (List Bool)) => st ++ [none, some (.arr gt0 1 1 (rows boolc t0))])
    (0, 0) h (bks_mk hsc (.live _ _ _ _ (.same _) (.live _ _ _ _ (.same _) (.live _ _ _ _ (.same _) (.nil _)))) (by simp) ⟨.same _, .same _, .rfull _ _ _ _, trivial⟩ (by simp))
    (fun gs0 s0 b0 h hx0 => ?_) (fun gt0 t0 fr1 st1 h hb => ?_)
  · unfold graphUnreached_b0 at h
    (repeat refine awp_seq ?_); refine ev_region ?_; simp only [go_sem, f1, f2, f4]
    (repeat refine awp_seq ?_); refine awp_cond (by rfl) (fun hc => ?_) fun hc => ?_
    · replace h := cond_t h (by first | exact hc | simpa using hc)
      refine awp_skip ?_; try simp only [go_sem, f1, f2, f4]
      (repeat refine awp_seq ?_); refine awp_block ?_
      obtain ⟨f49, h⟩ := chk_some h
      obtain ⟨⟨f50, f51⟩, h⟩ := chk_some h
      have e52 : (rows i64c s0.2.1).getD ((wr .i64 ((↑s0.2.2 : Int) - 1)).toNat) [] = i64c (get s0.2.1 ((wr .i64 ((↑s0.2.2 : Int) - 1)).toNat)) := rows_get (E := i64c) (l := s0.2.1) (k := (wr .i64 ((↑s0.2.2 : Int) - 1)).toNat) (by first | omega | (simp; omega))
      have e53 : (wr .i64 ((↑s0.2.2 : Int) - 1)).toNat < s0.2.1.length := by first | omega | (simp; omega)
      (repeat refine awp_seq ?_); refine ev_region ?_; simp only [go_sem, f1, f2, f4, f49, f50, f51, e52, e53]
      obtain ⟨f54, h⟩ := chk_some h
      (repeat refine awp_seq ?_); refine ev_region ?_; simp only [go_sem, f1, f2, f4, f49, f50, f51, f54]
      obtain ⟨⟨f55, f56⟩, h⟩ := chk_some h
      (repeat refine awp_seq ?_); refine ev_region ?_; simp only [go_sem, f1, f2, f4, f49, f50, f51, f54, f55, f56]
      (repeat refine awp_seq ?_); refine awp_len (t := 34) rfl fun hl2 => ?_
      simp only [rows_len] at hl2
      (repeat refine awp_seq ?_); refine awp_range (body := graphUnreached_b2 a0 s0) (kk := graphUnreached_a2) (n := ((get a0.nodes ((get s0.2.1 ((wr .i64 ((↑s0.2.2 : Int) - 1)).toNat)).toNat)).links).length) (s0 := (s0.1, s0.2.1, (wr .i64 ((↑s0.2.2 : Int) - 1)).toNat))
        (fun (gs2 : Nat × Nat) (k2 : Nat) (s2 : (List Bool) × (List Int) × Nat) => [(1, .ptr st.length 0 0 0), (3, .ref true (st.length + 1) gs2.1 0 s2.1.length), (4, .ref false (st.length + 2) gs2.2 0 s2.2.2), (34, .sl false 2 16 (rows ApiLink.cells ((get a0.nodes ((get s0.2.1 ((wr .i64 ((↑s0.2.2 : Int) - 1)).toNat)).toNat)).links))), (35, .int .i64 (↑(((get a0.nodes ((get s0.2.1 ((wr .i64 ((↑s0.2.2 : Int) - 1)).toNat)).toNat)).links).length) : Int)), (36, .int .i64 (↑k2 : Int))])
        (fun (gs2 : Nat × Nat) (k2 : Nat) (s2 : (List Bool) × (List Int) × Nat) => st ++ [some (.arr 0 1 0 [[.sl false 2 32 (rows ApiNode.cells a0.nodes)]]), some (.arr gs2.1 1 1 (rows boolc s2.1)), some (.arr gs2.2 1 8 (rows i64c s2.2.1))])
        (fun (gt2 : Nat × Nat) (t2 : (List Bool) × (List Int) × Nat) => [(1, .ptr st.length 0 0 0), (3, .ref true (st.length + 1) gt2.1 0 t2.1.length), (4, .ref false (st.length + 2) gt2.2 0 t2.2.2)])
        (fun (gt2 : Nat × Nat) (t2 : (List Bool) × (List Int) × Nat) => st ++ [some (.arr 0 1 0 [[.sl false 2 32 (rows ApiNode.cells a0.nodes)]]), some (.arr gt2.1 1 1 (rows boolc t2.1)), some (.arr gt2.2 1 8 (rows i64c t2.2.1))])
        (gs0.1, gs0.2) h (bks_mk hsc (.live _ _ _ _ (.same _) (.live _ _ _ _ (.same _) (.live _ _ _ _ (.same _) (.nil _)))) (by simp) ⟨.same _, .same _, .same _, .same _, .same _, .same _, trivial⟩ (by simp))
        (fun gs2 k2 s2 b2 hk2 h hx2 => ?_) (fun gs2 s2 => ?_) (fun gt2 t2 fr1 st1 h hb => ?_)
      · unfold graphUnreached_b2 at h
        have hw2 : wr .i64 ((↑k2 : Int) + 1) = (↑(k2 + 1) : Int) := wr_succ hk2 hl2 (by decide)
        (repeat refine awp_seq ?_); refine ev_region ?_; simp only [go_sem, f1, f2, f4, f49, f50, f51, f54, f55, f56]
        (repeat refine awp_seq ?_); refine awp_cond (by rfl) (fun hc => ?_) fun hc => ?_
        · refine awp_skip ?_; try simp only [go_sem, f1, f2, f4, f49, f50, f51, f54, f55, f56]
          (repeat refine awp_seq ?_); refine awp_block ?_
          (repeat refine awp_seq ?_); refine ev_region ?_; simp only [go_sem, f1, f2, f4, f49, f50, f51, f54, f55, f56, hk2, hw2]
          obtain ⟨⟨f73, f74⟩, h⟩ := chk_some h
          have e75 : (rows boolc s2.1).getD (((get ((get a0.nodes ((get s0.2.1 ((wr .i64 ((↑s0.2.2 : Int) - 1)).toNat)).toNat)).links) k2).to_).toNat) [] = boolc (get s2.1 (((get ((get a0.nodes ((get s0.2.1 ((wr .i64 ((↑s0.2.2 : Int) - 1)).toNat)).toNat)).links) k2).to_).toNat)) := rows_get (E := boolc) (l := s2.1) (k := ((get ((get a0.nodes ((get s0.2.1 ((wr .i64 ((↑s0.2.2 : Int) - 1)).toNat)).toNat)).links) k2).to_).toNat) (by first | omega | (simp; omega))
          have e76 : ((get ((get a0.nodes ((get s0.2.1 ((wr .i64 ((↑s0.2.2 : Int) - 1)).toNat)).toNat)).links) k2).to_).toNat < s2.1.length := by first | omega | (simp; omega)
          (repeat refine awp_seq ?_); refine ev_region ?_; simp only [go_sem, f1, f2, f4, f49, f50, f51, f54, f55, f56, hk2, hw2, f73, f74, e75, e76]
          (repeat refine awp_seq ?_); refine awp_cond (by rfl) (fun hc => ?_) fun hc => ?_
          · replace h := cond_t h (by first | exact hc | simpa using hc)
            have e77 : (rows boolc s2.1).getD (((get ((get a0.nodes ((get s0.2.1 ((wr .i64 ((↑s0.2.2 : Int) - 1)).toNat)).toNat)).links) k2).to_).toNat) [] = boolc (get s2.1 (((get ((get a0.nodes ((get s0.2.1 ((wr .i64 ((↑s0.2.2 : Int) - 1)).toNat)).toNat)).links) k2).to_).toNat)) := rows_get (E := boolc) (l := s2.1) (k := ((get ((get a0.nodes ((get s0.2.1 ((wr .i64 ((↑s0.2.2 : Int) - 1)).toNat)).toNat)).links) k2).to_).toNat) (by first | omega | (simp; omega))
            have e78 : ((get ((get a0.nodes ((get s0.2.1 ((wr .i64 ((↑s0.2.2 : Int) - 1)).toNat)).toNat)).links) k2).to_).toNat < s2.1.length := by first | omega | (simp; omega)
            obtain ⟨c79, hc79, h⟩ := let_some h
            have e80 : (rows boolc s2.1).set (((get ((get a0.nodes ((get s0.2.1 ((wr .i64 ((↑s0.2.2 : Int) - 1)).toNat)).toNat)).links) k2).to_).toNat) [.bool true] = rows boolc c79 := by rw [hc79]; first | exact rows_set (E := boolc) _ _ _ | simp only [go_sem, rows, List.map_set]
            (repeat refine awp_seq ?_); refine ev_region ?_; simp only [go_sem, f1, f2, f4, f49, f50, f51, f54, f55, f56, hk2, hw2, f73, f74, e77, e78, e80]
            have e81 : D.ref true (st.length + 1) gs2.1 0 s2.1.length = D.ref true (st.length + 1) gs2.1 0 c79.length := by simp [hc79]
            simp only [e81]
            have e82 : (8 ≤ top) = True := by simp [top]
            obtain ⟨f83, h⟩ := chk_some h
            obtain ⟨c84, hc84, h⟩ := let_some h
            have e85 : rows i64c (s2.2.1.take s2.2.2) ++ [[.int .i64 ((get ((get a0.nodes ((get s0.2.1 ((wr .i64 ((↑s0.2.2 : Int) - 1)).toNat)).toNat)).links) k2).to_)]] = rows i64c c84 := by rw [hc84]; first | exact rows_app (E := i64c) (s2.2.1.take s2.2.2) [(get ((get a0.nodes ((get s0.2.1 ((wr .i64 ((↑s0.2.2 : Int) - 1)).toNat)).toNat)).links) k2).to_] | simp only [go_sem, rows, List.map_append, List.map_cons, List.map_nil]
            have e86 : s2.2.2 + 1 = c84.length := by rw [hc84]; simp <;> omega
            obtain ⟨⟨f87, f88⟩, h⟩ := chk_some h
            (repeat refine awp_seq ?_); refine ev_region ?_; simp only [go_sem, f1, f2, f4, f49, f50, f51, f54, f55, f56, hk2, hw2, f73, f74, f83, f87, f88, e82, e85, e86]
            (repeat refine awp_seq ?_); refine ev_region ?_; simp only [go_sem, f1, f2, f4, f49, f50, f51, f54, f55, f56, hk2, hw2, f73, f74, f83, f87, f88]
            cases h
            exact pbr_nxt (gs2.1, (gs2.2 + 1)) (bks_mk hsc (.live _ _ _ _ (.same _) (.live _ _ _ _ (.same _) (.live _ _ _ _ (.same _) (.nil _)))) (by simp) ⟨.same _, .same _, .same _, .same _, .same _, .same _, trivial⟩ (by simp))
          · replace h := cond_f h (by first | exact hc | simpa using hc)
            refine awp_skip ?_; try simp only [go_sem, f1, f2, f4, f49, f50, f51, f54, f55, f56, hk2, hw2, f73, f74]
            (repeat refine awp_seq ?_); refine ev_region ?_; simp only [go_sem, f1, f2, f4, f49, f50, f51, f54, f55, f56, hk2, hw2, f73, f74]
            cases h
            exact pbr_nxt (gs2.1, gs2.2) (bks_mk hsc (.live _ _ _ _ (.same _) (.live _ _ _ _ (.same _) (.live _ _ _ _ (.same _) (.nil _)))) (by simp) ⟨.same _, .same _, .same _, .same _, .same _, .same _, trivial⟩ (by simp))
        · exfalso; have hc := of_decide_eq_false hc; omega
      · (repeat refine awp_seq ?_); refine ev_region ?_; simp only [go_sem, f1, f2, f4, f49, f50, f51, f54, f55, f56]
        (repeat refine awp_seq ?_); refine awp_cond (by rfl) (fun hc => ?_) fun hc => ?_
        · exfalso; first | exact Bool.noConfusion hc | (have hc := of_decide_eq_true hc; omega)
        · refine awp_exit ?_; simp only [go_sem, f1, f2, f4, f49, f50, f51, f54, f55, f56]
          exact ⟨(gs2.1, gs2.2), (bks_mk hsc (.live _ _ _ _ (.same _) (.live _ _ _ _ (.same _) (.live _ _ _ _ (.same _) (.nil _)))) (by simp) ⟨.same _, .same _, .same _, trivial⟩ (by simp))⟩
      · try simp only [go_sem, f1, f2, f4, f49, f50, f51, f54, f55, f56]
        unfold graphUnreached_a2 at h
        cases h
        exact pbw_nxt (gt2.1, gt2.2) (hb.trans (bks_mk hsc (.live _ _ _ _ (.same _) (.live _ _ _ _ (.same _) (.live _ _ _ _ (.same _) (.nil _)))) (by simp) ⟨.same _, .same _, .same _, trivial⟩ (by simp)))
    · replace h := cond_f h (by first | exact hc | simpa using hc)
      (repeat refine awp_seq ?_); refine awp_exit ?_; try simp only [go_sem, f1, f2, f4]
      cases h
      exact pbw_brk gs0.1 (bks_mk hsc (.dead _ _ _ (.live _ _ _ _ (.same _) (.nil _))) (by simp) ⟨.same _, trivial⟩ (by simp))
  · try simp only [go_sem, f1, f2, f4]
    unfold graphUnreached_a0 at h
    refine awp_bks hb ?_
    (repeat refine awp_seq ?_); refine ev_region ?_; simp only [go_sem, f1, f2, f4]
    obtain ⟨v89, hv89, h⟩ := bind_some h
    refine spec_gl1 ?_; refine ((ok_slicesIndexBoolBool _ _ _ hv89).borrow (args := [.ref true (st.length + 1) gt0 0 t0.length, .bool false]) (.cons _ _ _ _ (.ref _ _ _ _ _ _ _ _ _ (get_new.trans rfl) look_dead (by decide) (rows_imm _) (by simp only [go_sem])) (.cons _ _ _ _ (.same _) .nil)) (by simp) rfl ) ?_
    try simp only [go_sem, f1, f2, f4]
    (repeat refine awp_seq ?_); refine awp_ret ?_
    try simp only [go_sem, f1, f2, f4]
    have hr := Option.some.inj h
    refine finb_of ?_; simp only [go_sem, f1, f2, f4]
    exact fin_old' (d' := .int .i64 v89) hsc (.same _) (by simp) ⟨by subst hr; rfl, rfl⟩

set_option maxHeartbeats 2000000 in
set_option maxRecDepth 100000 in
theorem ok_graphWithin (n : Nat) (a0 : ApiHierarchy) (a1 : HierarchyTable) (a2 : ApiGraph) (r : ApiFault) (h : graphWithin n a0 a1 a2 = some r) : Pure Tryd.prog gl 34 [.agg [.sl false 2 40 (rows ApiType.cells a0.types), .sl false 3 32 (rows ApiFeat.cells a0.feats)], .agg [.sl false 1 8 (rows u64c a1.up), .sl false 1 8 (rows u64c a1.down)], .agg [.sl false 2 32 (rows ApiNode.cells a2.nodes)]] (.agg [.int .i64 r.code, .int .i64 r.index]) := by
  intro st
  unfold graphWithin at h
  refine spec_fb (N := 74) (rs := [.cell 6 41]) (keep := [0, 1, 2, 3, 4, 5, 6, 7, 8, 9, 11, 12, 13, 19, 22, 23, 24, 25, 30, 31, 32, 33, 50, 51, 52, 53, 54, 55, 56, 57, 58, 59, 60, 61, 62, 70]) Tryd.func34 rfl rfl rfl (by kernel_rfl) rfl fun hsc => ?_
  (repeat refine awp_seq ?_); refine ev_region ?_; simp only [go_sem]
  (repeat refine awp_seq ?_); refine ev_region ?_; simp only [go_sem]
  obtain ⟨v1, hv1, h⟩ := bind_some h
  refine ((ok_graphLoose _ _ _ hv1)).to ?_
  try simp only [go_sem]
  (repeat refine awp_seq ?_); refine ev_region ?_; simp only [go_sem]
  (repeat refine awp_seq ?_); refine awp_cond (by rfl) (fun hc => ?_) fun hc => ?_
  · replace h := cond_t h (by first | exact hc | simpa using hc)
    (repeat refine awp_seq ?_); refine ev_region ?_; simp only [go_sem]
    (repeat refine awp_seq ?_); refine awp_ret ?_
    try simp only [go_sem]
    have hr := Option.some.inj h
    refine finb_of ?_; simp only [go_sem]
    exact fin_old' (d' := .agg [.int .i64 v1.code, .int .i64 v1.index]) hsc (.same _) (by simp) ⟨by subst hr; rfl, rfl⟩
  · replace h := cond_f h (by first | exact hc | simpa using hc)
    refine awp_skip ?_; try simp only [go_sem]
    (repeat refine awp_seq ?_); refine ev_region ?_; simp only [go_sem]
    (repeat refine awp_seq ?_); refine awp_len (t := 22) rfl fun hl0 => ?_
    simp only [rows_len] at hl0
    (repeat refine awp_seq ?_); refine awp_range (body := graphWithin_b0 a2 a0 a1) (kk := graphWithin_a0 n a2) (n := a2.nodes.length) (s0 := ())
      (fun (gs0 : Unit) (k0 : Nat) (s0 : Unit) => [(3, .ptr st.length 0 0 0), (4, .ptr (st.length + 1) 0 0 0), (5, .ptr (st.length + 2) 0 0 0), (6, .ptr (st.length + 3) 0 0 0), (22, .sl false 2 32 (rows ApiNode.cells a2.nodes)), (23, .int .i64 (↑a2.nodes.length : Int)), (24, .int .i64 (↑k0 : Int))])
      (fun (gs0 : Unit) (k0 : Nat) (s0 : Unit) => st ++ [some (.arr 0 2 0 [[.sl false 2 40 (rows ApiType.cells a0.types), .sl false 3 32 (rows ApiFeat.cells a0.feats)]]), some (.arr 0 2 0 [[.sl false 1 8 (rows u64c a1.up), .sl false 1 8 (rows u64c a1.down)]]), some (.arr 0 1 0 [[.sl false 2 32 (rows ApiNode.cells a2.nodes)]]), some (.arr 0 2 0 [[.int .i64 0, .int .i64 0]])])
      (fun (gt0 : Unit) (t0 : Unit) => [(5, .ptr (st.length + 2) 0 0 0), (6, .ptr (st.length + 3) 0 0 0)])
      (fun (gt0 : Unit) (t0 : Unit) => st ++ [none, none, some (.arr 0 1 0 [[.sl false 2 32 (rows ApiNode.cells a2.nodes)]]), some (.arr 0 2 0 [[.int .i64 0, .int .i64 0]])])
      () h (bks_mk hsc (.live _ _ _ _ (.same _) (.live _ _ _ _ (.same _) (.live _ _ _ _ (.same _) (.live _ _ _ _ (.same _) (.nil _))))) (by simp) ⟨.same _, .same _, .same _, .same _, .same _, .same _, .same _, trivial⟩ (by simp))
      (fun gs0 k0 s0 b0 hk0 h hx0 => ?_) (fun gs0 s0 => ?_) (fun gt0 t0 fr1 st1 h hb => ?_)
    · unfold graphWithin_b0 at h
      have hw0 : wr .i64 ((↑k0 : Int) + 1) = (↑(k0 + 1) : Int) := wr_succ hk0 hl0 (by decide)
      (repeat refine awp_seq ?_); refine ev_region ?_; simp only [go_sem]
      (repeat refine awp_seq ?_); refine awp_cond (by rfl) (fun hc => ?_) fun hc => ?_
      · refine awp_skip ?_; try simp only [go_sem]
        (repeat refine awp_seq ?_); refine awp_block ?_
        (repeat refine awp_seq ?_); refine ev_region ?_; simp only [go_sem, hk0, hw0]
        (repeat refine awp_seq ?_); refine ev_region ?_; simp only [go_sem, hk0, hw0]
        (repeat refine awp_seq ?_); refine awp_len (t := 30) rfl fun hl2 => ?_
        simp only [rows_len] at hl2
        (repeat refine awp_seq ?_); refine awp_range (body := graphWithin_b2 a2 k0 a0 a1) (kk := graphWithin_a2) (n := ((get a2.nodes k0).links).length) (s0 := ())
          (fun (gs2 : Unit) (k2 : Nat) (s2 : Unit) => [(3, .ptr st.length 0 0 0), (4, .ptr (st.length + 1) 0 0 0), (5, .ptr (st.length + 2) 0 0 0), (6, .ptr (st.length + 3) 0 0 0), (8, .int .i64 (↑k0 : Int)), (9, .ptr (st.length + 4) 0 0 0), (22, .sl false 2 32 (rows ApiNode.cells a2.nodes)), (23, .int .i64 (↑a2.nodes.length : Int)), (24, .int .i64 (↑k0 : Int)), (30, .sl false 2 16 (rows ApiLink.cells ((get a2.nodes k0).links))), (31, .int .i64 (↑(((get a2.nodes k0).links).length) : Int)), (32, .int .i64 (↑k2 : Int))])
          (fun (gs2 : Unit) (k2 : Nat) (s2 : Unit) => st ++ [some (.arr 0 2 0 [[.sl false 2 40 (rows ApiType.cells a0.types), .sl false 3 32 (rows ApiFeat.cells a0.feats)]]), some (.arr 0 2 0 [[.sl false 1 8 (rows u64c a1.up), .sl false 1 8 (rows u64c a1.down)]]), some (.arr 0 1 0 [[.sl false 2 32 (rows ApiNode.cells a2.nodes)]]), some (.arr 0 2 0 [[.int .i64 0, .int .i64 0]]), some (.arr 0 2 0 [[.int .i64 ((get a2.nodes k0).type), .sl false 2 16 (rows ApiLink.cells ((get a2.nodes k0).links))]])])
          (fun (gt2 : Unit) (t2 : Unit) => [(3, .ptr st.length 0 0 0), (4, .ptr (st.length + 1) 0 0 0), (5, .ptr (st.length + 2) 0 0 0), (6, .ptr (st.length + 3) 0 0 0), (22, .sl false 2 32 (rows ApiNode.cells a2.nodes)), (23, .int .i64 (↑a2.nodes.length : Int)), (24, .int .i64 (↑k0 : Int))])
          (fun (gt2 : Unit) (t2 : Unit) => st ++ [some (.arr 0 2 0 [[.sl false 2 40 (rows ApiType.cells a0.types), .sl false 3 32 (rows ApiFeat.cells a0.feats)]]), some (.arr 0 2 0 [[.sl false 1 8 (rows u64c a1.up), .sl false 1 8 (rows u64c a1.down)]]), some (.arr 0 1 0 [[.sl false 2 32 (rows ApiNode.cells a2.nodes)]]), some (.arr 0 2 0 [[.int .i64 0, .int .i64 0]])])
          () h (bks_mk hsc (.live _ _ _ _ (.same _) (.live _ _ _ _ (.same _) (.live _ _ _ _ (.same _) (.live _ _ _ _ (.same _) (.live _ _ _ _ (.same _) (.nil _)))))) (by simp) ⟨.same _, .same _, .same _, .same _, .same _, .same _, .same _, .same _, .same _, .same _, .same _, .same _, trivial⟩ (by simp))
          (fun gs2 k2 s2 b2 hk2 h hx2 => ?_) (fun gs2 s2 => ?_) (fun gt2 t2 fr1 st1 h hb => ?_)
        · unfold graphWithin_b2 at h
          have hw2 : wr .i64 ((↑k2 : Int) + 1) = (↑(k2 + 1) : Int) := wr_succ hk2 hl2 (by decide)
          (repeat refine awp_seq ?_); refine ev_region ?_; simp only [go_sem, hk0, hw0]
          (repeat refine awp_seq ?_); refine awp_cond (by rfl) (fun hc => ?_) fun hc => ?_
          · refine awp_skip ?_; try simp only [go_sem, hk0, hw0]
            (repeat refine awp_seq ?_); refine awp_block ?_
            (repeat refine awp_seq ?_); refine ev_region ?_; simp only [go_sem, hk0, hw0, hk2, hw2]
            obtain ⟨⟨f26, f27⟩, h⟩ := chk_some h
            (repeat refine awp_seq ?_); refine ev_region ?_; simp only [go_sem, hk0, hw0, hk2, hw2, f26, f27]
            (repeat refine awp_seq ?_); refine ev_draw_region [] 0 follows (by kernel_rfl) (by rfl) ?_; simp only [go_sem, List.replicate_succ, List.replicate_zero, hk0, hw0, hk2, hw2, f26, f27]
            obtain ⟨v28, hv28, h⟩ := bind_some h
            refine dc_pure (ok_hierarchyTableSub _ _ _ _ hv28) ?_
            obtain ⟨⟨f30, f31⟩, h⟩ := chk_some h
            try simp only [go_sem, hk0, hw0, hk2, hw2, f26, f27, f30, f31]
            obtain ⟨v32, hv32, h⟩ := bind_some h
            refine dgc_pure (fun hG => (ok_hierarchyTableSub _ _ _ _ (gd_t hv32 (by simpa using hG)))) ?_
            try simp only [go_sem, hk0, hw0, hk2, hw2, f26, f27, f30, f31]
            (repeat refine awp_seq ?_); refine awp_cond (by rfl) (fun hc => ?_) fun hc => ?_
            · replace h := cond_t h (by first | exact hc | simpa using hc)
              (repeat refine awp_seq ?_); refine ev_region ?_; simp only [go_sem, hk0, hw0, hk2, hw2, f26, f27, f30, f31]
              obtain ⟨v33, hv33, h⟩ := bind_some h
              refine ((ok_graphFault _ _ _ hv33)).to ?_
              try simp only [go_sem, hk0, hw0, hk2, hw2, f26, f27, f30, f31]
              (repeat refine awp_seq ?_); refine awp_ret ?_
              try simp only [go_sem, hk0, hw0, hk2, hw2, f26, f27, f30, f31]
              obtain rfl := Option.some.inj h
              refine pbr_ret ?_; obtain rfl := hx2 _ rfl; try simp only [go_sem, hk0, hw0, hk2, hw2, f26, f27, f30, f31]
              refine pbr_ret ?_; have hr := hx0 _ rfl; try simp only [go_sem, hk0, hw0, hk2, hw2, f26, f27, f30, f31]
              refine finb_of ?_; simp only [go_sem, hk0, hw0, hk2, hw2, f26, f27, f30, f31]
              exact fin_old' (d' := .agg [.int .i64 v33.code, .int .i64 v33.index]) hsc (.same _) (by simp) ⟨by subst hr; rfl, rfl⟩
            · replace h := cond_f h (by first | exact hc | simpa using hc)
              refine awp_skip ?_; try simp only [go_sem, hk0, hw0, hk2, hw2, f26, f27, f30, f31]
              (repeat refine awp_seq ?_); refine ev_region ?_; simp only [go_sem, hk0, hw0, hk2, hw2, f26, f27, f30, f31]
              cases h
              exact pbr_nxt () (bks_mk hsc (.live _ _ _ _ (.same _) (.live _ _ _ _ (.same _) (.live _ _ _ _ (.same _) (.live _ _ _ _ (.same _) (.live _ _ _ _ (.same _) (.nil _)))))) (by simp) ⟨.same _, .same _, .same _, .same _, .same _, .same _, .same _, .same _, .same _, .same _, .same _, .same _, trivial⟩ (by simp))
          · exfalso; have hc := of_decide_eq_false hc; omega
        · (repeat refine awp_seq ?_); refine ev_region ?_; simp only [go_sem, hk0, hw0]
          (repeat refine awp_seq ?_); refine awp_cond (by rfl) (fun hc => ?_) fun hc => ?_
          · exfalso; first | exact Bool.noConfusion hc | (have hc := of_decide_eq_true hc; omega)
          · refine awp_exit ?_; simp only [go_sem, hk0, hw0]
            exact ⟨(), (bks_mk hsc (.live _ _ _ _ (.same _) (.live _ _ _ _ (.same _) (.live _ _ _ _ (.same _) (.live _ _ _ _ (.same _) (.nil _))))) (by simp) ⟨.same _, .same _, .same _, .same _, .same _, .same _, .same _, trivial⟩ (by simp))⟩
        · try simp only [go_sem, hk0, hw0]
          unfold graphWithin_a2 at h
          refine awp_bks hb ?_
          (repeat refine awp_seq ?_); refine ev_region ?_; simp only [go_sem, hk0, hw0]
          cases h
          exact pbr_nxt () (bks_mk hsc (.live _ _ _ _ (.same _) (.live _ _ _ _ (.same _) (.live _ _ _ _ (.same _) (.live _ _ _ _ (.same _) (.nil _))))) (by simp) ⟨.same _, .same _, .same _, .same _, .same _, .same _, .same _, trivial⟩ (by simp))
      · exfalso; have hc := of_decide_eq_false hc; omega
    · (repeat refine awp_seq ?_); refine ev_region ?_; simp only [go_sem]
      (repeat refine awp_seq ?_); refine awp_cond (by rfl) (fun hc => ?_) fun hc => ?_
      · exfalso; first | exact Bool.noConfusion hc | (have hc := of_decide_eq_true hc; omega)
      · refine awp_exit ?_; simp only [go_sem]
        exact ⟨(), (bks_mk hsc (.dead _ _ _ (.dead _ _ _ (.live _ _ _ _ (.same _) (.live _ _ _ _ (.same _) (.nil _))))) (by simp) ⟨.same _, .same _, trivial⟩ (by simp))⟩
    · try simp only [go_sem]
      unfold graphWithin_a0 at h
      refine awp_bks hb ?_
      (repeat refine awp_seq ?_); refine ev_region ?_; simp only [go_sem]
      obtain ⟨v34, hv34, h⟩ := bind_some h
      refine ((ok_graphUnreached n _ _ hv34)).to ?_
      try simp only [go_sem]
      (repeat refine awp_seq ?_); refine ev_region ?_; simp only [go_sem]
      (repeat refine awp_seq ?_); refine awp_cond (by rfl) (fun hc => ?_) fun hc => ?_
      · replace h := cond_t h (by first | exact hc | simpa using hc)
        (repeat refine awp_seq ?_); refine ev_region ?_; simp only [go_sem]
        obtain ⟨v35, hv35, h⟩ := bind_some h
        refine ((ok_graphFault _ _ _ hv35)).to ?_
        try simp only [go_sem]
        (repeat refine awp_seq ?_); refine awp_ret ?_
        try simp only [go_sem]
        have hr := Option.some.inj h
        refine finb_of ?_; simp only [go_sem]
        exact fin_old' (d' := .agg [.int .i64 v35.code, .int .i64 v35.index]) hsc (.same _) (by simp) ⟨by subst hr; rfl, rfl⟩
      · replace h := cond_f h (by first | exact hc | simpa using hc)
        refine awp_skip ?_; try simp only [go_sem]
        (repeat refine awp_seq ?_); refine ev_region ?_; simp only [go_sem]
        (repeat refine awp_seq ?_); refine awp_ret ?_
        try simp only [go_sem]
        have hr := Option.some.inj h
        refine finb_of ?_; simp only [go_sem]
        exact fin_old' (d' := .agg [.int .i64 0, .int .i64 0]) hsc (.same _) (by simp) ⟨by subst hr; rfl, rfl⟩


end Go.Proofs.YtaohdfpcdfbnlaaDoor

