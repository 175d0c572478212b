/-
  Each Go function of this part does what its plain Lean function says.
-/
import Derived.Test.YtaohdfpcdfbnlaaDoorBase
import Derived.Test.YtaohdfpcdfbnlaaDoorHand
import Derived.Test.YtaohdfpcdfbnlaaDoorMirrors
import Derived.Test.YtaohdfpcdfbnlaaDoorWalk4
import Derived.Test.YtaohdfpcdfbnlaaDoorWalk5
import Derived.Test.YtaohdfpcdfbnlaaDoorWalk6
set_option linter.unusedVariables false
set_option linter.unusedSimpArgs false
namespace Go.Proofs.YtaohdfpcdfbnlaaDoor
open Go Go.Am

set_option maxHeartbeats 2000000 in
set_option maxRecDepth 100000 in
theorem ok_simpleSame : ∀ (n : Nat) (a0 : ApiSimple) (a1 : ApiSimple) (r : Bool) (h : simpleSame n a0 a1 = some r), Pure Tryd.prog gl 74 [.agg [.str a0.base, .sl false 2 40 (rows ApiSimple.cells a0.args)], .agg [.str a1.base, .sl false 2 40 (rows ApiSimple.cells a1.args)]] (.bool r) := by
  intro n
  induction n with
  | zero => intro a0 a1 r h; cases h
  | succ n ih =>
    intro a0 a1 r h st
    unfold simpleSame at h
    refine spec_fb (N := 39) (rs := [.tmp 4]) (keep := [0, 1, 2, 3, 4, 5, 12, 13, 14, 15, 16, 17, 18, 19, 22, 23, 24, 37]) Tryd.func74 rfl rfl rfl (by kernel_rfl) rfl fun hsc => ?_
    (repeat refine awp_seq ?_); refine ev_region ?_; simp only [go_sem]
    (repeat refine awp_seq ?_); refine ev_region ?_; simp only [go_sem]
    (repeat refine awp_seq ?_); refine awp_cond (by rfl) (fun hc => ?_) fun hc => ?_
    · replace h := cond_t h (by first | exact hc | simpa using hc)
      (repeat refine awp_seq ?_); refine ev_region ?_; simp only [go_sem]
      (repeat refine awp_seq ?_); refine awp_ret ?_
      try simp only [go_sem]
      have hr := Option.some.inj h
      refine finb_of ?_; simp only [go_sem]
      exact fin_old' (d' := .bool false) hsc (.same _) (by simp) ⟨by subst hr; rfl, rfl⟩
    · replace h := cond_f h (by first | exact hc | simpa using hc)
      refine awp_skip ?_; try simp only [go_sem]
      (repeat refine awp_seq ?_); refine ev_region ?_; simp only [go_sem]
      obtain ⟨f1, h⟩ := chk_some h
      (repeat refine awp_seq ?_); refine awp_range (body := simpleSame_b0 (simpleSame n) a1 a0) (kk := simpleSame_a0) (n := a0.args.length) (s0 := ())
        (fun (gs0 : Unit) (k0 : Nat) (s0 : Unit) => [(2, .ptr st.length 0 0 0), (3, .ptr (st.length + 1) 0 0 0), (22, .int .i64 (↑a0.args.length : Int)), (23, .int .i64 (↑k0 : Int))])
        (fun (gs0 : Unit) (k0 : Nat) (s0 : Unit) => st ++ [some (.arr 0 2 0 [[.str a0.base, .sl false 2 40 (rows ApiSimple.cells a0.args)]]), some (.arr 0 2 0 [[.str a1.base, .sl false 2 40 (rows ApiSimple.cells a1.args)]])])
        (fun (gt0 : Unit) (t0 : Unit) => [])
        (fun (gt0 : Unit) (t0 : Unit) => st)
        () h (bks_mk hsc (.live _ _ _ _ (.same _) (.live _ _ _ _ (.same _) (.nil _))) (by simp) ⟨.same _, .same _, .same _, .same _, trivial⟩ (by simp))
        (fun gs0 k0 s0 b0 hk0 h hx0 => ?_) (fun gs0 s0 => ?_) (fun gt0 t0 fr1 st1 h hb => ?_)
      · unfold simpleSame_b0 at h
        have hw0 : wr .i64 ((↑k0 : Int) + 1) = (↑(k0 + 1) : Int) := wr_le hk0 f1
        (repeat refine awp_seq ?_); refine ev_region ?_; simp only [go_sem, f1]
        (repeat refine awp_seq ?_); refine awp_cond (by rfl) (fun hc => ?_) fun hc => ?_
        · refine awp_skip ?_; try simp only [go_sem, f1]
          (repeat refine awp_seq ?_); refine awp_block ?_
          (repeat refine awp_seq ?_); refine ev_region ?_; simp only [go_sem, f1, hk0, hw0]
          obtain ⟨f2, h⟩ := chk_some h
          (repeat refine awp_seq ?_); refine ev_draw_region [] 0 follows (by kernel_rfl) (by rfl) ?_; simp only [go_sem, List.replicate_succ, List.replicate_zero, f1, hk0, hw0, f2]
          obtain ⟨v3, hv3, h⟩ := bind_some h
          refine dc_pure (ih _ _ _ hv3) ?_
          try simp only [go_sem, f1, hk0, hw0, f2]
          (repeat refine awp_seq ?_); refine awp_cond (by rfl) (fun hc => ?_) fun hc => ?_
          · replace h := cond_t h (by first | exact hc | simpa using hc)
            (repeat refine awp_seq ?_); refine ev_region ?_; simp only [go_sem, f1, hk0, hw0, f2]
            (repeat refine awp_seq ?_); refine awp_ret ?_
            try simp only [go_sem, f1, hk0, hw0, f2]
            obtain rfl := Option.some.inj h
            refine pbr_ret ?_; have hr := hx0 _ rfl; try simp only [go_sem, f1, hk0, hw0, f2]
            refine finb_of ?_; simp only [go_sem, f1, hk0, hw0, f2]
            exact fin_old' (d' := .bool false) hsc (.same _) (by simp) ⟨by subst hr; rfl, rfl⟩
          · replace h := cond_f h (by first | exact hc | simpa using hc)
            refine awp_skip ?_; try simp only [go_sem, f1, hk0, hw0, f2]
            (repeat refine awp_seq ?_); refine ev_region ?_; simp only [go_sem, f1, hk0, hw0, f2]
            cases h
            exact pbr_nxt () (bks_mk hsc (.live _ _ _ _ (.same _) (.live _ _ _ _ (.same _) (.nil _))) (by simp) ⟨.same _, .same _, .same _, .same _, trivial⟩ (by simp))
        · exfalso; have hc := of_decide_eq_false hc; omega
      · (repeat refine awp_seq ?_); refine ev_region ?_; simp only [go_sem, f1]
        (repeat refine awp_seq ?_); refine awp_cond (by rfl) (fun hc => ?_) fun hc => ?_
        · exfalso; first | exact Bool.noConfusion hc | (have hc := of_decide_eq_true hc; omega)
        · refine awp_exit ?_; simp only [go_sem, f1]
          exact ⟨(), (bks_mk0 hsc trivial (by simp))⟩
      · try simp only [go_sem, f1]
        unfold simpleSame_a0 at h
        refine awp_bks hb ?_
        (repeat refine awp_seq ?_); refine ev_region ?_; simp only [go_sem, f1]
        (repeat refine awp_seq ?_); refine awp_ret ?_
        try simp only [go_sem, f1]
        have hr := Option.some.inj h
        refine finb_of ?_; simp only [go_sem, f1]
        exact fin_same' (d' := .bool true) hsc (.same _) (by simp) ⟨by subst hr; rfl, rfl⟩

set_option maxHeartbeats 2000000 in
set_option maxRecDepth 100000 in
theorem ok_termTyped_2 : ∀ (n : Nat) (a0 : ApiTerm) (l0 : (List ApiSimple)) (r : ApiSimple × Bool) (h : termTyped_2 n a0 l0 = some r), ∀ (st : St) (o0 q0 : Nat) (hnd : [o0].Nodup) (hlo0 : Am.look st o0 = some (.arr q0 2 40 (rows ApiSimple.cells l0))), Am.Spec Tryd.prog gl 65 [.agg [.int .i64 a0.kind, .str a0.name, .int .i64 a0.index, .str a0.type.base, .sl false 2 40 (rows ApiSimple.cells a0.type.args), .sl false 6 96 (rows ApiTerm.cells a0.args)], .ref false o0 q0 0 l0.length] st (fun d st' => d = .tup [.agg [.str r.1.base, .sl false 2 40 (rows ApiSimple.cells r.1.args)], .bool r.2] ∧ st' = puts st []) := by
  intro n
  induction n with
  | zero => intro a0 l0 r h; cases h
  | succ n ih =>
    intro a0 l0 r h st o0 q0 hnd hlo0
    unfold termTyped_2 at h
    have ho0 := look_lt hlo0
    refine spec_fb (N := 101) (rs := [.cell 4 63, .tmp 5]) (keep := [0, 1, 2, 4, 5, 6, 7, 8, 9, 10, 11, 12, 14, 15, 19, 30, 78, 79, 82, 83, 84, 85, 88, 89, 90, 91, 92, 93, 94, 95]) Tryd.func65 rfl rfl rfl (by kernel_rfl) rfl fun hsc => ?_
    refine awp_st (s' := (upds st [(o0, (.arr q0 2 40 (rows ApiSimple.cells l0)))])) (upds_self (by simp [hlo0])) ?_
    (repeat refine awp_seq ?_); refine ev_region ?_; simp only [go_sem, set_upds ho0, set_upds0 ho0, look_upds ho0, look_upds0 ho0]
    (repeat refine awp_seq ?_); refine ev_region ?_; simp only [go_sem, set_upds ho0, set_upds0 ho0, look_upds ho0, look_upds0 ho0]
    (repeat refine awp_seq ?_); refine awp_block ?_
    (repeat refine awp_seq ?_); refine ev_region ?_; simp only [go_sem, set_upds ho0, set_upds0 ho0, look_upds ho0, look_upds0 ho0]
    (repeat refine awp_seq ?_); refine awp_cond (by rfl) (fun hc => ?_) fun hc => ?_
    · replace h := cond_t h (by first | exact hc | simpa using hc)
      (repeat refine awp_seq ?_); refine ev_region ?_; simp only [go_sem, set_upds ho0, set_upds0 ho0, look_upds ho0, look_upds0 ho0]
      (repeat refine awp_seq ?_); refine awp_ret ?_
      try simp only [go_sem, set_upds ho0, set_upds0 ho0, look_upds ho0, look_upds0 ho0]
      have hr := Option.some.inj h
      refine finb_of ?_; simp only [go_sem, set_upds ho0, set_upds0 ho0, look_upds ho0, look_upds0 ho0]
      exact finu_old (d' := .tup [.agg [.str a0.type.base, .sl false 2 40 (rows ApiSimple.cells a0.type.args)], .bool true]) (by simp) (upds_sc hsc (by simp <;> omega)) (.same _) (by simp <;> omega) ⟨by subst hr; rfl, by exact upds_self (by simp [hlo0])⟩
    · replace h := cond_f h (by first | exact hc | simpa using hc)
      (repeat refine awp_seq ?_); refine ev_region ?_; simp only [go_sem, set_upds ho0, set_upds0 ho0, look_upds ho0, look_upds0 ho0]
      (repeat refine awp_seq ?_); refine awp_cond (by rfl) (fun hc => ?_) fun hc => ?_
      · replace h := cond_t h (by first | exact hc | simpa using hc)
        obtain ⟨⟨f1, f2⟩, h⟩ := chk_some h
        have e3 : (rows ApiSimple.cells l0).getD ((wr .i64 ((wr .i64 ((↑l0.length : Int) - 1)) - a0.index)).toNat) [] = ApiSimple.cells (get l0 ((wr .i64 ((wr .i64 ((↑l0.length : Int) - 1)) - a0.index)).toNat)) := rows_get (E := ApiSimple.cells) (l := l0) (k := (wr .i64 ((wr .i64 ((↑l0.length : Int) - 1)) - a0.index)).toNat) (by first | omega | (simp; omega))
        have e4 : (wr .i64 ((wr .i64 ((↑l0.length : Int) - 1)) - a0.index)).toNat < l0.length := by first | omega | (simp; omega)
        (repeat refine awp_seq ?_); refine ev_region ?_; simp only [go_sem, set_upds ho0, set_upds0 ho0, look_upds ho0, look_upds0 ho0, f1, f2, e3, e4]
        (repeat refine awp_seq ?_); refine awp_ret ?_
        try simp only [go_sem, set_upds ho0, set_upds0 ho0, look_upds ho0, look_upds0 ho0, f1, f2]
        have hr := Option.some.inj h
        refine finb_of ?_; simp only [go_sem, set_upds ho0, set_upds0 ho0, look_upds ho0, look_upds0 ho0, f1, f2]
        exact finu_old (d' := .tup [.agg [.str ((get l0 ((wr .i64 ((wr .i64 ((↑l0.length : Int) - 1)) - a0.index)).toNat)).base), .sl false 2 40 (rows ApiSimple.cells ((get l0 ((wr .i64 ((wr .i64 ((↑l0.length : Int) - 1)) - a0.index)).toNat)).args))], .bool true]) (by simp) (upds_sc hsc (by simp <;> omega)) (.same _) (by simp <;> omega) ⟨by subst hr; rfl, by exact upds_self (by simp [hlo0])⟩
      · replace h := cond_f h (by first | exact hc | simpa using hc)
        (repeat refine awp_seq ?_); refine ev_region ?_; simp only [go_sem, set_upds ho0, set_upds0 ho0, look_upds ho0, look_upds0 ho0]
        (repeat refine awp_seq ?_); refine awp_cond (by rfl) (fun hc => ?_) fun hc => ?_
        · replace h := cond_t h (by first | exact hc | simpa using hc)
          obtain ⟨⟨f5, f6⟩, h⟩ := chk_some h
          have e7 : (40 ≤ top) = True := by simp [top]
          obtain ⟨c8, hc8, h⟩ := let_some h
          have e9 : rows ApiSimple.cells l0 ++ [[.str a0.type.base, .sl false 2 40 (rows ApiSimple.cells a0.type.args)]] = rows ApiSimple.cells c8 := by rw [hc8]; first | exact rows_app (E := ApiSimple.cells) l0 [a0.type] | simp only [go_sem, rows, List.map_append, List.map_cons, List.map_nil]
          have e10 : l0.length + 1 = c8.length := by rw [hc8]; simp
          obtain ⟨⟨f11, f12⟩, h⟩ := chk_some h
          (repeat refine awp_seq ?_); refine ev_draw_region [] 2 follows (by kernel_rfl) (by rfl) ?_; simp only [go_sem, List.replicate_succ, List.replicate_zero, set_upds ho0, set_upds0 ho0, look_upds ho0, look_upds0 ho0, f5, f6, f11, f12, e7, e9, e10]
          obtain ⟨f13, h⟩ := chk_some h
          (repeat refine awp_seq ?_); refine ev_region ?_; simp only [go_sem, set_upds ho0, set_upds0 ho0, look_upds ho0, look_upds0 ho0, f5, f6, f11, f12, f13]
          obtain ⟨v14, hv14, h⟩ := bind_some h
          refine (ih _ _ _ hv14 _ _ 0 (by simp) (look_updsn.trans rfl)).mono ?_
          rintro d1 st1 ⟨rfl, rfl⟩
          try simp only [go_sem, set_upds ho0, set_upds0 ho0, look_upds ho0, look_upds0 ho0, f5, f6, f11, f12, f13]
          have e15 : (80 ≤ top) = True := by simp [top]
          (repeat refine awp_seq ?_); refine ev_region ?_; simp only [go_sem, set_upds ho0, set_upds0 ho0, look_upds ho0, look_upds0 ho0, f5, f6, f11, f12, f13, e15]
          (repeat refine awp_seq ?_); refine awp_ret ?_
          try simp only [go_sem, set_upds ho0, set_upds0 ho0, look_upds ho0, look_upds0 ho0, f5, f6, f11, f12, f13]
          have hr := Option.some.inj h
          refine finb_of ?_; simp only [go_sem, set_upds ho0, set_upds0 ho0, look_upds ho0, look_upds0 ho0, f5, f6, f11, f12, f13]
          exact finu_old (d' := .tup [.agg [.str [], .sl false 2 40 (rows ApiSimple.cells [a0.type, v14.1])], .bool v14.2]) (by simp) (upds_sc hsc (by simp <;> omega)) (.tup _ _ (.cons _ _ _ _ (.agg _ _ (.cons _ _ _ _ (.same _) (.cons _ _ _ _ (.ref _ _ _ _ _ _ _ _ _ (get_updsn.trans rfl) look_outu (by decide) (by simp [Imm, D.imm]) (by simp only [go_sem, rows, List.map_cons, List.map_nil])) .nil))) (.cons _ _ _ _ (.same _) .nil)) rfl) (by simp <;> omega) ⟨by subst hr; rfl, by exact upds_self (by simp [hlo0])⟩
        · replace h := cond_f h (by first | exact hc | simpa using hc)
          refine awp_skip ?_; try simp only [go_sem, set_upds ho0, set_upds0 ho0, look_upds ho0, look_upds0 ho0]
          obtain ⟨f16, h⟩ := chk_some h
          (repeat refine awp_seq ?_); refine ev_region ?_; simp only [go_sem, set_upds ho0, set_upds0 ho0, look_upds ho0, look_upds0 ho0, f16]
          obtain ⟨v17, hv17, h⟩ := bind_some h
          refine (ih _ _ _ hv17 _ _ q0 hnd (by simp only [go_sem, set_upds ho0, set_upds0 ho0, look_upds ho0, look_upds0 ho0, f16])).mono ?_
          rintro d1 st1 ⟨rfl, rfl⟩
          try simp only [go_sem, set_upds ho0, set_upds0 ho0, look_upds ho0, look_upds0 ho0, f16]
          obtain ⟨f18, h⟩ := chk_some h
          (repeat refine awp_seq ?_); refine ev_region ?_; simp only [go_sem, set_upds ho0, set_upds0 ho0, look_upds ho0, look_upds0 ho0, f16, f18]
          obtain ⟨v19, hv19, h⟩ := bind_some h
          refine (ih _ _ _ hv19 _ _ q0 hnd (by simp only [go_sem, set_upds ho0, set_upds0 ho0, look_upds ho0, look_upds0 ho0, f16, f18])).mono ?_
          rintro d1 st1 ⟨rfl, rfl⟩
          try simp only [go_sem, set_upds ho0, set_upds0 ho0, look_upds ho0, look_upds0 ho0, f16, f18]
          obtain ⟨f21, h⟩ := chk_some h
          (repeat refine awp_seq ?_); refine ev_draw_region [] 0 follows (by kernel_rfl) (by rfl) ?_; simp only [go_sem, List.replicate_succ, List.replicate_zero, set_upds ho0, set_upds0 ho0, look_upds ho0, look_upds0 ho0, f16, f18, f21]
          obtain ⟨v22, hv22, h⟩ := bind_some h
          refine dgc_pure (fun hG => (ok_simpleSame n _ _ _ (gd_t hv22 (by simpa using hG)))) ?_
          try simp only [go_sem, set_upds ho0, set_upds0 ho0, look_upds ho0, look_upds0 ho0, f16, f18, f21]
          (repeat refine awp_seq ?_); refine awp_cond (by rfl) (fun hc => ?_) fun hc => ?_
          · replace h := cond_t h (by first | exact hc | simpa using hc)
            (repeat refine awp_seq ?_); refine ev_region ?_; simp only [go_sem, set_upds ho0, set_upds0 ho0, look_upds ho0, look_upds0 ho0, f16, f18, f21]
            (repeat refine awp_seq ?_); refine awp_ret ?_
            try simp only [go_sem, set_upds ho0, set_upds0 ho0, look_upds ho0, look_upds0 ho0, f16, f18, f21]
            have hr := Option.some.inj h
            refine finb_of ?_; simp only [go_sem, set_upds ho0, set_upds0 ho0, look_upds ho0, look_upds0 ho0, f16, f18, f21]
            exact finu_old (d' := .tup [.agg [.str [], .sl false 2 40 (rows ApiSimple.cells [])], .bool false]) (by simp) (upds_sc hsc (by simp <;> omega)) (.tup _ _ (.cons _ _ _ _ (.agg _ _ (.cons _ _ _ _ (.same _) (.cons _ _ _ _ (.nils _ _ _ (by decide)) .nil))) (.cons _ _ _ _ (.same _) .nil)) rfl) (by simp <;> omega) ⟨by subst hr; rfl, by exact upds_self (by simp [hlo0])⟩
          · replace h := cond_f h (by first | exact hc | simpa using hc)
            refine awp_skip ?_; try simp only [go_sem, set_upds ho0, set_upds0 ho0, look_upds ho0, look_upds0 ho0, f16, f18, f21]
            obtain ⟨f23, h⟩ := chk_some h
            (repeat refine awp_seq ?_); refine ev_region ?_; simp only [go_sem, set_upds ho0, set_upds0 ho0, look_upds ho0, look_upds0 ho0, f16, f18, f21, f23]
            (repeat refine awp_seq ?_); refine awp_ret ?_
            try simp only [go_sem, set_upds ho0, set_upds0 ho0, look_upds ho0, look_upds0 ho0, f16, f18, f21, f23]
            have hr := Option.some.inj h
            refine finb_of ?_; simp only [go_sem, set_upds ho0, set_upds0 ho0, look_upds ho0, look_upds0 ho0, f16, f18, f21, f23]
            exact finu_old (d' := .tup [.agg [.str ((get v17.1.args 1).base), .sl false 2 40 (rows ApiSimple.cells ((get v17.1.args 1).args))], .bool true]) (by simp) (upds_sc hsc (by simp <;> omega)) (.same _) (by simp <;> omega) ⟨by subst hr; rfl, by exact upds_self (by simp [hlo0])⟩

set_option maxHeartbeats 2000000 in
set_option maxRecDepth 100000 in
theorem ok_termTyped : ∀ (n : Nat) (a0 : ApiTerm) (a1 : (List ApiSimple)) (r : ApiSimple × Bool) (h : termTyped n a0 a1 = some r), Pure Tryd.prog gl 65 [.agg [.int .i64 a0.kind, .str a0.name, .int .i64 a0.index, .str a0.type.base, .sl false 2 40 (rows ApiSimple.cells a0.type.args), .sl false 6 96 (rows ApiTerm.cells a0.args)], .sl false 2 40 (rows ApiSimple.cells a1)] (.tup [.agg [.str r.1.base, .sl false 2 40 (rows ApiSimple.cells r.1.args)], .bool r.2]) := by
  intro n
  induction n with
  | zero => intro a0 a1 r h; cases h
  | succ n ih =>
    intro a0 a1 r h st
    unfold termTyped at h
    refine spec_fb (N := 101) (rs := [.cell 4 63, .tmp 5]) (keep := [0, 1, 2, 4, 5, 6, 7, 8, 9, 10, 11, 12, 14, 15, 19, 30, 78, 79, 82, 83, 84, 85, 88, 89, 90, 91, 92, 93, 94, 95]) Tryd.func65 rfl rfl rfl (by kernel_rfl) rfl fun hsc => ?_
    (repeat refine awp_seq ?_); refine ev_region ?_; simp only [go_sem]
    (repeat refine awp_seq ?_); refine ev_region ?_; simp only [go_sem]
    (repeat refine awp_seq ?_); refine awp_block ?_
    (repeat refine awp_seq ?_); refine ev_region ?_; simp only [go_sem]
    (repeat refine awp_seq ?_); refine awp_cond (by rfl) (fun hc => ?_) fun hc => ?_
    · replace h := cond_t h (by first | exact hc | simpa using hc)
      (repeat refine awp_seq ?_); refine ev_region ?_; simp only [go_sem]
      (repeat refine awp_seq ?_); refine awp_ret ?_
      try simp only [go_sem]
      have hr := Option.some.inj h
      refine finb_of ?_; simp only [go_sem]
      exact fin_old' (d' := .tup [.agg [.str a0.type.base, .sl false 2 40 (rows ApiSimple.cells a0.type.args)], .bool true]) hsc (.same _) (by simp) ⟨by subst hr; rfl, rfl⟩
    · replace h := cond_f h (by first | exact hc | simpa using hc)
      (repeat refine awp_seq ?_); refine ev_region ?_; simp only [go_sem]
      (repeat refine awp_seq ?_); refine awp_cond (by rfl) (fun hc => ?_) fun hc => ?_
      · replace h := cond_t h (by first | exact hc | simpa using hc)
        obtain ⟨⟨f1, f2⟩, h⟩ := chk_some h
        (repeat refine awp_seq ?_); refine ev_region ?_; simp only [go_sem, f1, f2]
        (repeat refine awp_seq ?_); refine awp_ret ?_
        try simp only [go_sem, f1, f2]
        have hr := Option.some.inj h
        refine finb_of ?_; simp only [go_sem, f1, f2]
        exact fin_old' (d' := .tup [.agg [.str ((get a1 ((wr .i64 ((wr .i64 ((↑a1.length : Int) - 1)) - a0.index)).toNat)).base), .sl false 2 40 (rows ApiSimple.cells ((get a1 ((wr .i64 ((wr .i64 ((↑a1.length : Int) - 1)) - a0.index)).toNat)).args))], .bool true]) hsc (.same _) (by simp) ⟨by subst hr; rfl, rfl⟩
      · replace h := cond_f h (by first | exact hc | simpa using hc)
        (repeat refine awp_seq ?_); refine ev_region ?_; simp only [go_sem]
        (repeat refine awp_seq ?_); refine awp_cond (by rfl) (fun hc => ?_) fun hc => ?_
        · replace h := cond_t h (by first | exact hc | simpa using hc)
          obtain ⟨⟨f3, f4⟩, h⟩ := chk_some h
          have e5 : (40 ≤ top) = True := by simp [top]
          obtain ⟨c6, hc6, h⟩ := let_some h
          have e7 : rows ApiSimple.cells a1 ++ [[.str a0.type.base, .sl false 2 40 (rows ApiSimple.cells a0.type.args)]] = rows ApiSimple.cells c6 := by rw [hc6]; first | exact rows_app (E := ApiSimple.cells) a1 [a0.type] | simp only [go_sem, rows, List.map_append, List.map_cons, List.map_nil]
          have e8 : a1.length + 1 = c6.length := by rw [hc6]; simp
          obtain ⟨⟨f9, f10⟩, h⟩ := chk_some h
          (repeat refine awp_seq ?_); refine ev_draw_region [] 2 follows (by kernel_rfl) (by rfl) ?_; simp only [go_sem, List.replicate_succ, List.replicate_zero, f3, f4, f9, f10, e5, e7, e8]
          obtain ⟨f11, h⟩ := chk_some h
          (repeat refine awp_seq ?_); refine ev_region ?_; simp only [go_sem, f3, f4, f9, f10, f11]
          obtain ⟨v12, hv12, h⟩ := bind_some h
          refine (ok_termTyped_2 n _ _ _ hv12 _ _ 0 (by simp) (look_new.trans rfl)).mono ?_
          rintro d1 st1 ⟨rfl, rfl⟩
          try simp only [go_sem, f3, f4, f9, f10, f11]
          have e13 : (80 ≤ top) = True := by simp [top]
          (repeat refine awp_seq ?_); refine ev_region ?_; simp only [go_sem, f3, f4, f9, f10, f11, e13]
          (repeat refine awp_seq ?_); refine awp_ret ?_
          try simp only [go_sem, f3, f4, f9, f10, f11]
          have hr := Option.some.inj h
          refine finb_of ?_; simp only [go_sem, f3, f4, f9, f10, f11]
          exact fin_old' (d' := .tup [.agg [.str [], .sl false 2 40 (rows ApiSimple.cells [a0.type, v12.1])], .bool v12.2]) hsc (.tup _ _ (.cons _ _ _ _ (.agg _ _ (.cons _ _ _ _ (.same _) (.cons _ _ _ _ (.ref _ _ _ _ _ _ _ _ _ (get_new.trans rfl) look_out (by decide) (by simp [Imm, D.imm]) (by simp only [go_sem, rows, List.map_cons, List.map_nil])) .nil))) (.cons _ _ _ _ (.same _) .nil)) rfl) (by simp) ⟨by subst hr; rfl, rfl⟩
        · replace h := cond_f h (by first | exact hc | simpa using hc)
          refine awp_skip ?_; try simp only [go_sem]
          obtain ⟨f14, h⟩ := chk_some h
          (repeat refine awp_seq ?_); refine ev_region ?_; simp only [go_sem, f14]
          obtain ⟨v15, hv15, h⟩ := bind_some h
          refine ((ih _ _ _ hv15)).to ?_
          try simp only [go_sem, f14]
          obtain ⟨f16, h⟩ := chk_some h
          (repeat refine awp_seq ?_); refine ev_region ?_; simp only [go_sem, f14, f16]
          obtain ⟨v17, hv17, h⟩ := bind_some h
          refine ((ih _ _ _ hv17)).to ?_
          try simp only [go_sem, f14, f16]
          obtain ⟨f19, h⟩ := chk_some h
          (repeat refine awp_seq ?_); refine ev_draw_region [] 0 follows (by kernel_rfl) (by rfl) ?_; simp only [go_sem, List.replicate_succ, List.replicate_zero, f14, f16, f19]
          obtain ⟨v20, hv20, h⟩ := bind_some h
          refine dgc_pure (fun hG => (ok_simpleSame n _ _ _ (gd_t hv20 (by simpa using hG)))) ?_
          try simp only [go_sem, f14, f16, f19]
          (repeat refine awp_seq ?_); refine awp_cond (by rfl) (fun hc => ?_) fun hc => ?_
          · replace h := cond_t h (by first | exact hc | simpa using hc)
            (repeat refine awp_seq ?_); refine ev_region ?_; simp only [go_sem, f14, f16, f19]
            (repeat refine awp_seq ?_); refine awp_ret ?_
            try simp only [go_sem, f14, f16, f19]
            have hr := Option.some.inj h
            refine finb_of ?_; simp only [go_sem, f14, f16, f19]
            exact fin_old' (d' := .tup [.agg [.str [], .sl false 2 40 (rows ApiSimple.cells [])], .bool false]) hsc (.tup _ _ (.cons _ _ _ _ (.agg _ _ (.cons _ _ _ _ (.same _) (.cons _ _ _ _ (.nils _ _ _ (by decide)) .nil))) (.cons _ _ _ _ (.same _) .nil)) rfl) (by simp) ⟨by subst hr; rfl, rfl⟩
          · replace h := cond_f h (by first | exact hc | simpa using hc)
            refine awp_skip ?_; try simp only [go_sem, f14, f16, f19]
            obtain ⟨f21, h⟩ := chk_some h
            (repeat refine awp_seq ?_); refine ev_region ?_; simp only [go_sem, f14, f16, f19, f21]
            (repeat refine awp_seq ?_); refine awp_ret ?_
            try simp only [go_sem, f14, f16, f19, f21]
            have hr := Option.some.inj h
            refine finb_of ?_; simp only [go_sem, f14, f16, f19, f21]
            exact fin_old' (d' := .tup [.agg [.str ((get v15.1.args 1).base), .sl false 2 40 (rows ApiSimple.cells ((get v15.1.args 1).args))], .bool true]) hsc (.same _) (by simp) ⟨by subst hr; rfl, rfl⟩

set_option maxHeartbeats 2000000 in
set_option maxRecDepth 100000 in
theorem ok_termValidate (n : Nat) (a0 : ApiTerm) (r : ApiFault) (h : termValidate n a0 = some r) : Pure Tryd.prog gl 46 [.agg [.int .i64 a0.kind, .str a0.name, .int .i64 a0.index, .str a0.type.base, .sl false 2 40 (rows ApiSimple.cells a0.type.args), .sl false 6 96 (rows ApiTerm.cells a0.args)]] (.agg [.int .i64 r.code, .int .i64 r.index]) := by
  intro st
  unfold termValidate at h
  refine spec_fb (N := 25) (rs := [.cell 2 41]) (keep := [0, 1, 2, 3, 4, 5, 7, 14, 22]) Tryd.func46 rfl rfl rfl (by kernel_rfl) rfl fun hsc => ?_
  (repeat refine awp_seq ?_); refine ev_region ?_; simp only [go_sem]
  (repeat refine awp_seq ?_); refine ev_region ?_; simp only [go_sem]
  (repeat refine awp_seq ?_); refine ev_region ?_; simp only [go_sem]
  (repeat refine awp_seq ?_); refine ev_region ?_; simp only [go_sem]
  (repeat refine awp_seq ?_); refine ev_region ?_; simp only [go_sem]
  obtain ⟨v1, hv1, h⟩ := bind_some h
  refine (ok_termValidate1 n _ _ _ _ _ hv1 _ _ _ (by simp) (look_new.trans rfl) (look_new.trans rfl)).mono ?_
  rintro d1 st1 ⟨rfl, rfl⟩
  try simp only [go_sem]
  (repeat refine awp_seq ?_); refine ev_region ?_; simp only [go_sem]
  (repeat refine awp_seq ?_); refine awp_cond (by rfl) (fun hc => ?_) fun hc => ?_
  · replace h := cond_t h (by first | exact hc | simpa using hc)
    (repeat refine awp_seq ?_); refine ev_region ?_; simp only [go_sem]
    (repeat refine awp_seq ?_); refine awp_ret ?_
    try simp only [go_sem]
    have hr := Option.some.inj h
    refine finb_of ?_; simp only [go_sem]
    exact fin_old' (d' := .agg [.int .i64 v1.1.code, .int .i64 v1.1.index]) hsc (.same _) (by simp) ⟨by subst hr; rfl, rfl⟩
  · replace h := cond_f h (by first | exact hc | simpa using hc)
    refine awp_skip ?_; try simp only [go_sem]
    (repeat refine awp_seq ?_); refine ev_region ?_; simp only [go_sem]
    obtain ⟨v2, hv2, h⟩ := bind_some h
    refine (((ok_termTyped n _ _ _ hv2).up (fun _ => (.cons _ _ _ _ (.same _) (.cons _ _ _ _ (.nils _ _ _ (by decide)) .nil))) (.inr fun n => by simp))).to ?_
    try simp only [go_sem]
    (repeat refine awp_seq ?_); refine ev_region ?_; simp only [go_sem]
    (repeat refine awp_seq ?_); refine awp_cond (by rfl) (fun hc => ?_) fun hc => ?_
    · replace h := cond_t h (by first | exact hc | simpa using hc)
      (repeat refine awp_seq ?_); refine ev_region ?_; simp only [go_sem]
      (repeat refine awp_seq ?_); refine awp_ret ?_
      try simp only [go_sem]
      have hr := Option.some.inj h
      refine finb_of ?_; simp only [go_sem]
      exact fin_old' (d' := .agg [.int .i64 12, .int .i64 (-1)]) hsc (.same _) (by simp) ⟨by subst hr; rfl, rfl⟩
    · replace h := cond_f h (by first | exact hc | simpa using hc)
      refine awp_skip ?_; try simp only [go_sem]
      (repeat refine awp_seq ?_); refine ev_region ?_; simp only [go_sem]
      (repeat refine awp_seq ?_); refine awp_ret ?_
      try simp only [go_sem]
      have hr := Option.some.inj h
      refine finb_of ?_; simp only [go_sem]
      exact fin_old' (d' := .agg [.int .i64 0, .int .i64 0]) hsc (.same _) (by simp) ⟨by subst hr; rfl, rfl⟩

set_option maxHeartbeats 2000000 in
set_option maxRecDepth 100000 in
theorem ok_grammarRule (n : Nat) (a0 : ApiHierarchy) (a1 : HierarchyTable) (a2 : ApiRule) (r : Int) (h : grammarRule n a0 a1 a2 = some r) : Pure Tryd.prog gl 32 [.agg [.sl false 2 40 (rows ApiType.cells a0.types), .sl false 3 32 (rows ApiFeat.cells a0.feats)], .agg [.sl false 1 8 (rows u64c a1.up), .sl false 1 8 (rows u64c a1.down)], .agg [.str a2.name, .sl false 2 32 (rows ApiNode.cells a2.graph.nodes), .int .i64 a2.kids, .int .i64 a2.weight, .int .i64 a2.meaning.kind, .str a2.meaning.name, .int .i64 a2.meaning.index, .str a2.meaning.type.base, .sl false 2 40 (rows ApiSimple.cells a2.meaning.type.args), .sl false 6 96 (rows ApiTerm.cells a2.meaning.args)]] (.int .i64 r) := by
  intro st
  unfold grammarRule at h
  refine spec_fb (N := 46) (rs := [.tmp 6]) (keep := [0, 1, 2, 3, 4, 5, 6, 7, 12, 13, 14, 17, 18, 19, 22, 23, 24, 25, 33, 41]) Tryd.func32 rfl rfl rfl (by kernel_rfl) rfl fun hsc => ?_
  (repeat refine awp_seq ?_); refine ev_region ?_; simp only [go_sem]
  (repeat refine awp_seq ?_); refine ev_region ?_; simp only [go_sem]
  (repeat refine awp_seq ?_); refine awp_cond (by rfl) (fun hc => ?_) fun hc => ?_
  · replace h := cond_t h (by first | exact hc | simpa using hc)
    (repeat refine awp_seq ?_); refine ev_region ?_; simp only [go_sem]
    (repeat refine awp_seq ?_); refine awp_ret ?_
    try simp only [go_sem]
    have hr := Option.some.inj h
    refine finb_of ?_; simp only [go_sem]
    exact fin_old' (d' := .int .i64 3) hsc (.same _) (by simp) ⟨by subst hr; rfl, rfl⟩
  · replace h := cond_f h (by first | exact hc | simpa using hc)
    refine awp_skip ?_; try simp only [go_sem]
    (repeat refine awp_seq ?_); refine ev_region ?_; simp only [go_sem]
    obtain ⟨v1, hv1, h⟩ := bind_some h
    refine ((ok_graphWithin n _ _ _ _ hv1)).to ?_
    try simp only [go_sem]
    (repeat refine awp_seq ?_); refine ev_region ?_; simp only [go_sem]
    (repeat refine awp_seq ?_); refine awp_cond (by rfl) (fun hc => ?_) fun hc => ?_
    · replace h := cond_t h (by first | exact hc | simpa using hc)
      (repeat refine awp_seq ?_); refine ev_region ?_; simp only [go_sem]
      (repeat refine awp_seq ?_); refine awp_ret ?_
      try simp only [go_sem]
      have hr := Option.some.inj h
      refine finb_of ?_; simp only [go_sem]
      exact fin_old' (d' := .int .i64 v1.code) hsc (.same _) (by simp) ⟨by subst hr; rfl, rfl⟩
    · replace h := cond_f h (by first | exact hc | simpa using hc)
      refine awp_skip ?_; try simp only [go_sem]
      (repeat refine awp_seq ?_); refine ev_region ?_; simp only [go_sem]
      obtain ⟨v2, hv2, h⟩ := bind_some h
      refine ((ok_lexrulePlaces n _ _ _ hv2)).to ?_
      try simp only [go_sem]
      (repeat refine awp_seq ?_); refine awp_cond (by rfl) (fun hc => ?_) fun hc => ?_
      · replace h := cond_t h (by first | exact hc | simpa using hc)
        (repeat refine awp_seq ?_); refine ev_region ?_; simp only [go_sem]
        (repeat refine awp_seq ?_); refine awp_ret ?_
        try simp only [go_sem]
        have hr := Option.some.inj h
        refine finb_of ?_; simp only [go_sem]
        exact fin_old' (d' := .int .i64 5) hsc (.same _) (by simp) ⟨by subst hr; rfl, rfl⟩
      · replace h := cond_f h (by first | exact hc | simpa using hc)
        refine awp_skip ?_; try simp only [go_sem]
        (repeat refine awp_seq ?_); refine ev_region ?_; simp only [go_sem]
        obtain ⟨v3, hv3, h⟩ := bind_some h
        refine ((ok_termValidate n _ _ hv3)).to ?_
        try simp only [go_sem]
        (repeat refine awp_seq ?_); refine awp_ret ?_
        try simp only [go_sem]
        have hr := Option.some.inj h
        refine finb_of ?_; simp only [go_sem]
        exact fin_old' (d' := .int .i64 v3.code) hsc (.same _) (by simp) ⟨by subst hr; rfl, rfl⟩


end Go.Proofs.YtaohdfpcdfbnlaaDoor

