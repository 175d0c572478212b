import Derived.Test.YtaohdfpcdfbnlaaGreatDoorBase
import Derived.Test.YtaohdfpcdfbnlaaGreatDoorHand
import Derived.Test.YtaohdfpcdfbnlaaGreatDoorMirrors
import Derived.Test.YtaohdfpcdfbnlaaGreatDoorWalk4
import Derived.Test.YtaohdfpcdfbnlaaGreatDoorWalk5
import Derived.Test.YtaohdfpcdfbnlaaGreatDoorWalk6
set_option linter.unusedVariables false
set_option linter.unusedSimpArgs false
set_option maxHeartbeats 2000000
set_option maxRecDepth 100000
namespace Go.Proofs.YtaohdfpcdfbnlaaGreatDoor
open Go Go.Am
theorem mH : ∀ (n : Nat) (a0 : u0) (a1 : u0) (r : Bool) (h : bD n a0 a1 = some r), Pure Tryz.prog gl 95 [.agg [.str a0.base, .sl false 2 40 (rows u0.cells a0.args)], .agg [.str a1.base, .sl false 2 40 (rows u0.cells a1.args)]] (.bool r) := by
 intro n
 induction n with
 | zero => intro a0 a1 r h; cases h
 | succ n ih =>
  intro a0 a1 r h st
  unfold bD at h
  refine O4 (N := 39) (rs := [.tmp 4]) (keep := [0, 1, 2, 3, 4, 5, 12, 13, 14, 15, 16, 17, 18, 19, 22, 23, 24, 37]) Tryz.func95 rfl rfl rfl (by kernel_rfl) rfl fun hsc => ?_
  (repeat apply sq_); apply er_; simp only [go_sem]
  (repeat apply sq_); apply er_; simp only [go_sem]
  (repeat apply sq_); refine D4 (by rfl) (fun hc => ?_) fun hc => ?_
  ·replace h := B0 h (by first | exact hc | simpa using hc)
   (repeat apply sq_); apply er_; simp only [go_sem]
   (repeat apply sq_); refine E3 ?_
   try simp only [go_sem]
   have hr := Option.some.inj h
   refine E4 ?_; simp only [go_sem]
   exact y3 (d' := .bool false) hsc (.same _) (by simp) ⟨by subst hr; rfl, rfl⟩
  ·replace h := B1 h (by first | exact hc | simpa using hc)
   refine E6 ?_; try simp only [go_sem]
   (repeat apply sq_); apply er_; simp only [go_sem]
   obtain ⟨f1, h⟩ := G1 h
   (repeat apply sq_); refine arg_ (body := fB (bD n) a1 a0) (kk := iU) (n := a0.args.length) (s0 := ())
    (fun (gs0 : Unit) (k0 : Nat) (s0 : Unit) => [(2, .ptr st.length 0 0 0), (3, .ptr (st.length + 1) 0 0 0), (22, .int .i64 (↑a0.args.length : Int)), (23, .int .i64 (↑k0 : Int))])
    (fun (gs0 : Unit) (k0 : Nat) (s0 : Unit) => st ++ [some (.arr 0 2 0 [[.str a0.base, .sl false 2 40 (rows u0.cells a0.args)]]), some (.arr 0 2 0 [[.str a1.base, .sl false 2 40 (rows u0.cells a1.args)]])])
    (fun (gt0 : Unit) (t0 : Unit) => [])
    (fun (gt0 : Unit) (t0 : Unit) => st)
    () h (G0 hsc (.lv (.lv (.nil _))) (by simp) ⟨.s, .s, .s, .s, trivial⟩ (by simp))
    (fun gs0 k0 s0 b0 hk0 h hx0 => ?_) (fun gs0 s0 => ?_) (fun gt0 t0 fr1 st1 h hb => ?_)
   ·unfold fB at h
    have hw0 : wr .i64 ((↑k0 : Int) + 1) = (↑(k0 + 1) : Int) := nY hk0 f1
    (repeat apply sq_); apply er_; simp only [go_sem, f1]
    (repeat apply sq_); refine D4 (by rfl) (fun hc => ?_) fun hc => ?_
    ·refine E6 ?_; try simp only [go_sem, f1]
     (repeat apply sq_); refine U8 ?_
     (repeat apply sq_); apply er_; simp only [go_sem, f1, hk0, hw0]
     obtain ⟨f2, h⟩ := G1 h
     (repeat apply sq_); refine ak [] 0 follows (by kernel_rfl) (by rfl) ?_; simp only [go_sem, List.replicate_succ, List.replicate_zero, f1, hk0, hw0, f2]
     obtain ⟨v3, hv3, h⟩ := C6 h
     refine A0 (ih _ _ _ hv3) ?_
     try simp only [go_sem, f1, hk0, hw0, f2]
     (repeat apply sq_); refine D4 (by rfl) (fun hc => ?_) fun hc => ?_
     ·replace h := B0 h (by first | exact hc | simpa using hc)
      (repeat apply sq_); apply er_; simp only [go_sem, f1, hk0, hw0, f2]
      (repeat apply sq_); refine E3 ?_
      try simp only [go_sem, f1, hk0, hw0, f2]
      obtain rfl := Option.some.inj h
      refine F9 ?_; have hr := hx0 _ rfl; try simp only [go_sem, f1, hk0, hw0, f2]
      refine E4 ?_; simp only [go_sem, f1, hk0, hw0, f2]
      exact y3 (d' := .bool false) hsc (.same _) (by simp) ⟨by subst hr; rfl, rfl⟩
     ·replace h := B1 h (by first | exact hc | simpa using hc)
      refine E6 ?_; try simp only [go_sem, f1, hk0, hw0, f2]
      (repeat apply sq_); apply er_; simp only [go_sem, f1, hk0, hw0, f2]
      cases h
      exact bK () (G0 hsc (.lv (.lv (.nil _))) (by simp) ⟨.s, .s, .s, .s, trivial⟩ (by simp))
    ·exfalso; have hc := of_decide_eq_false hc; omega
   ·(repeat apply sq_); apply er_; simp only [go_sem, f1]
    (repeat apply sq_); refine D4 (by rfl) (fun hc => ?_) fun hc => ?_
    ·exfalso; first | exact Bool.noConfusion hc | (have hc := of_decide_eq_true hc; omega)
    ·refine Y2 ?_; simp only [go_sem, f1]
     exact ⟨(), (aO hsc trivial (by simp))⟩
   ·try simp only [go_sem, f1]
    unfold iU at h
    refine L6 hb ?_
    (repeat apply sq_); apply er_; simp only [go_sem, f1]
    (repeat apply sq_); refine E3 ?_
    try simp only [go_sem, f1]
    have hr := Option.some.inj h
    refine E4 ?_; simp only [go_sem, f1]
    exact B9 (d' := .bool true) hsc (.same _) (by simp) ⟨by subst hr; rfl, rfl⟩
theorem qI : ∀ (n : Nat) (a0 : w5) (l0 : (List u0)) (r : u0 × Bool) (h : Q9 n a0 l0 = some r), ∀ (st : St) (o0 q0 : Nat) (hnd : [o0].Nodup) (ji : Am.look st o0 = some (.arr q0 2 40 (rows u0.cells l0))), Am.Spec Tryz.prog gl 85 [.agg [.int .i64 a0.kind, .str a0.name, .int .i64 a0.index, .str a0.type.base, .sl false 2 40 (rows u0.cells a0.type.args), .sl false 6 96 (rows w5.cells a0.args)], .ref false o0 q0 0 l0.length] st (fun d st' => d = .tup [.agg [.str r.1.base, .sl false 2 40 (rows u0.cells r.1.args)], .bool r.2] ∧ st' = puts st []) := by
 intro n
 induction n with
 | zero => intro a0 l0 r h; cases h
 | succ n ih =>
  intro a0 l0 r h st o0 q0 hnd ji
  unfold Q9 at h
  have ho0 := fP ji
  refine O4 (N := 101) (rs := [.cell 4 61, .tmp 5]) (keep := [0, 1, 2, 4, 5, 6, 7, 8, 9, 10, 11, 12, 14, 15, 19, 30, 78, 79, 82, 83, 84, 85, 88, 89, 90, 91, 92, 93, 94, 95]) Tryz.func85 rfl rfl rfl (by kernel_rfl) rfl fun hsc => ?_
  refine pO (s' := (gu st [(o0, (.arr q0 2 40 (rows u0.cells l0)))])) (L7 (by simp [ji])) ?_
  (repeat apply sq_); apply er_; simp only [go_sem, C4 ho0, x7 ho0, C2 ho0, x6 ho0]
  (repeat apply sq_); apply er_; simp only [go_sem, C4 ho0, x7 ho0, C2 ho0, x6 ho0]
  (repeat apply sq_); refine U8 ?_
  (repeat apply sq_); apply er_; simp only [go_sem, C4 ho0, x7 ho0, C2 ho0, x6 ho0]
  (repeat apply sq_); refine D4 (by rfl) (fun hc => ?_) fun hc => ?_
  ·replace h := B0 h (by first | exact hc | simpa using hc)
   (repeat apply sq_); apply er_; simp only [go_sem, C4 ho0, x7 ho0, C2 ho0, x6 ho0]
   (repeat apply sq_); refine E3 ?_
   try simp only [go_sem, C4 ho0, x7 ho0, C2 ho0, x6 ho0]
   have hr := Option.some.inj h
   refine E4 ?_; simp only [go_sem, C4 ho0, x7 ho0, C2 ho0, x6 ho0]
   exact J2 (d' := .tup [.agg [.str a0.type.base, .sl false 2 40 (rows u0.cells a0.type.args)], .bool true]) (by simp) (G2 hsc (by simp <;> omega)) (.same _) (by simp <;> omega) ⟨by subst hr; rfl, by exact L7 (by simp [ji])⟩
  ·replace h := B1 h (by first | exact hc | simpa using hc)
   (repeat apply sq_); apply er_; simp only [go_sem, C4 ho0, x7 ho0, C2 ho0, x6 ho0]
   (repeat apply sq_); refine D4 (by rfl) (fun hc => ?_) fun hc => ?_
   ·replace h := B0 h (by first | exact hc | simpa using hc)
    obtain ⟨⟨f1, f2⟩, h⟩ := G1 h
    have e3 : (rows u0.cells l0).getD ((wr .i64 ((wr .i64 ((↑l0.length : Int) - 1)) - a0.index)).toNat) [] = u0.cells (get l0 ((wr .i64 ((wr .i64 ((↑l0.length : Int) - 1)) - a0.index)).toNat)) := vn (E := u0.cells) (l := l0) (k := (wr .i64 ((wr .i64 ((↑l0.length : Int) - 1)) - a0.index)).toNat) (by first | omega | (simp; omega))
    have e4 : (wr .i64 ((wr .i64 ((↑l0.length : Int) - 1)) - a0.index)).toNat < l0.length := by first | omega | (simp; omega)
    (repeat apply sq_); apply er_; simp only [go_sem, C4 ho0, x7 ho0, C2 ho0, x6 ho0, f1, f2, e3, e4]
    (repeat apply sq_); refine E3 ?_
    try simp only [go_sem, C4 ho0, x7 ho0, C2 ho0, x6 ho0, f1, f2]
    have hr := Option.some.inj h
    refine E4 ?_; simp only [go_sem, C4 ho0, x7 ho0, C2 ho0, x6 ho0, f1, f2]
    exact J2 (d' := .tup [.agg [.str ((get l0 ((wr .i64 ((wr .i64 ((↑l0.length : Int) - 1)) - a0.index)).toNat)).base), .sl false 2 40 (rows u0.cells ((get l0 ((wr .i64 ((wr .i64 ((↑l0.length : Int) - 1)) - a0.index)).toNat)).args))], .bool true]) (by simp) (G2 hsc (by simp <;> omega)) (.same _) (by simp <;> omega) ⟨by subst hr; rfl, by exact L7 (by simp [ji])⟩
   ·replace h := B1 h (by first | exact hc | simpa using hc)
    (repeat apply sq_); apply er_; simp only [go_sem, C4 ho0, x7 ho0, C2 ho0, x6 ho0]
    (repeat apply sq_); refine D4 (by rfl) (fun hc => ?_) fun hc => ?_
    ·replace h := B0 h (by first | exact hc | simpa using hc)
     obtain ⟨⟨f5, f6⟩, h⟩ := G1 h
     have e7 : (40 ≤ top) = True := by simp [top]
     obtain ⟨c8, hc8, h⟩ := lD h
     have e9 : rows u0.cells l0 ++ [[.str a0.type.base, .sl false 2 40 (rows u0.cells a0.type.args)]] = rows u0.cells c8 := by rw [hc8]; first | exact L5 (E := u0.cells) l0 [a0.type] | simp only [go_sem, rows, List.map_append, List.map_cons, List.map_nil]
     have e10 : l0.length + 1 = c8.length := by rw [hc8]; simp
     obtain ⟨⟨f11, f12⟩, h⟩ := G1 h
     (repeat apply sq_); refine ak [] 2 follows (by kernel_rfl) (by rfl) ?_; simp only [go_sem, List.replicate_succ, List.replicate_zero, C4 ho0, x7 ho0, C2 ho0, x6 ho0, f5, f6, f11, f12, e7, e9, e10]
     obtain ⟨f13, h⟩ := G1 h
     (repeat apply sq_); apply er_; simp only [go_sem, C4 ho0, x7 ho0, C2 ho0, x6 ho0, f5, f6, f11, f12, f13]
     obtain ⟨v14, hv14, h⟩ := C6 h
     refine (ih _ _ _ hv14 _ _ 0 (by simp) (S9.trans rfl)).mono ?_
     rintro d1 st1 ⟨rfl, rfl⟩
     try simp only [go_sem, C4 ho0, x7 ho0, C2 ho0, x6 ho0, f5, f6, f11, f12, f13]
     have e15 : (80 ≤ top) = True := by simp [top]
     (repeat apply sq_); apply er_; simp only [go_sem, C4 ho0, x7 ho0, C2 ho0, x6 ho0, f5, f6, f11, f12, f13, e15]
     (repeat apply sq_); refine E3 ?_
     try simp only [go_sem, C4 ho0, x7 ho0, C2 ho0, x6 ho0, f5, f6, f11, f12, f13]
     have hr := Option.some.inj h
     refine E4 ?_; simp only [go_sem, C4 ho0, x7 ho0, C2 ho0, x6 ho0, f5, f6, f11, f12, f13]
     exact J2 (d' := .tup [.agg [.str [], .sl false 2 40 (rows u0.cells [a0.type, v14.1])], .bool v14.2]) (by simp) (G2 hsc (by simp <;> omega)) (.tup _ _ (.cons _ _ _ _ (.agg _ _ (.cons _ _ _ _ .s (.cons _ _ _ _ (.ref _ _ _ _ _ _ _ _ _ (tM.trans rfl) tN (by decide) (by simp [Imm, D.imm]) (by simp only [go_sem, rows, List.map_cons, List.map_nil])) .nil))) (.cons _ _ _ _ .s .nil)) rfl) (by simp <;> omega) ⟨by subst hr; rfl, by exact L7 (by simp [ji])⟩
    ·replace h := B1 h (by first | exact hc | simpa using hc)
     refine E6 ?_; try simp only [go_sem, C4 ho0, x7 ho0, C2 ho0, x6 ho0]
     obtain ⟨f16, h⟩ := G1 h
     (repeat apply sq_); apply er_; simp only [go_sem, C4 ho0, x7 ho0, C2 ho0, x6 ho0, f16]
     obtain ⟨v17, hv17, h⟩ := C6 h
     refine (ih _ _ _ hv17 _ _ q0 hnd (by simp only [go_sem, C4 ho0, x7 ho0, C2 ho0, x6 ho0, f16])).mono ?_
     rintro d1 st1 ⟨rfl, rfl⟩
     try simp only [go_sem, C4 ho0, x7 ho0, C2 ho0, x6 ho0, f16]
     obtain ⟨f18, h⟩ := G1 h
     (repeat apply sq_); apply er_; simp only [go_sem, C4 ho0, x7 ho0, C2 ho0, x6 ho0, f16, f18]
     obtain ⟨v19, hv19, h⟩ := C6 h
     refine (ih _ _ _ hv19 _ _ q0 hnd (by simp only [go_sem, C4 ho0, x7 ho0, C2 ho0, x6 ho0, f16, f18])).mono ?_
     rintro d1 st1 ⟨rfl, rfl⟩
     try simp only [go_sem, C4 ho0, x7 ho0, C2 ho0, x6 ho0, f16, f18]
     obtain ⟨f21, h⟩ := G1 h
     (repeat apply sq_); refine ak [] 0 follows (by kernel_rfl) (by rfl) ?_; simp only [go_sem, List.replicate_succ, List.replicate_zero, C4 ho0, x7 ho0, C2 ho0, x6 ho0, f16, f18, f21]
     obtain ⟨v22, hv22, h⟩ := C6 h
     refine Y3 (fun hG => (mH n _ _ _ (iu hv22 (by simpa using hG)))) ?_
     try simp only [go_sem, C4 ho0, x7 ho0, C2 ho0, x6 ho0, f16, f18, f21]
     (repeat apply sq_); refine D4 (by rfl) (fun hc => ?_) fun hc => ?_
     ·replace h := B0 h (by first | exact hc | simpa using hc)
      (repeat apply sq_); apply er_; simp only [go_sem, C4 ho0, x7 ho0, C2 ho0, x6 ho0, f16, f18, f21]
      (repeat apply sq_); refine E3 ?_
      try simp only [go_sem, C4 ho0, x7 ho0, C2 ho0, x6 ho0, f16, f18, f21]
      have hr := Option.some.inj h
      refine E4 ?_; simp only [go_sem, C4 ho0, x7 ho0, C2 ho0, x6 ho0, f16, f18, f21]
      exact J2 (d' := .tup [.agg [.str [], .sl false 2 40 (rows u0.cells [])], .bool false]) (by simp) (G2 hsc (by simp <;> omega)) (.tup _ _ (.cons _ _ _ _ (.agg _ _ (.cons _ _ _ _ .s (.cons _ _ _ _ (.B4 _ _ _ (by decide)) .nil))) (.cons _ _ _ _ .s .nil)) rfl) (by simp <;> omega) ⟨by subst hr; rfl, by exact L7 (by simp [ji])⟩
     ·replace h := B1 h (by first | exact hc | simpa using hc)
      refine E6 ?_; try simp only [go_sem, C4 ho0, x7 ho0, C2 ho0, x6 ho0, f16, f18, f21]
      obtain ⟨f23, h⟩ := G1 h
      (repeat apply sq_); apply er_; simp only [go_sem, C4 ho0, x7 ho0, C2 ho0, x6 ho0, f16, f18, f21, f23]
      (repeat apply sq_); refine E3 ?_
      try simp only [go_sem, C4 ho0, x7 ho0, C2 ho0, x6 ho0, f16, f18, f21, f23]
      have hr := Option.some.inj h
      refine E4 ?_; simp only [go_sem, C4 ho0, x7 ho0, C2 ho0, x6 ho0, f16, f18, f21, f23]
      exact J2 (d' := .tup [.agg [.str ((get v17.1.args 1).base), .sl false 2 40 (rows u0.cells ((get v17.1.args 1).args))], .bool true]) (by simp) (G2 hsc (by simp <;> omega)) (.same _) (by simp <;> omega) ⟨by subst hr; rfl, by exact L7 (by simp [ji])⟩
theorem vj : ∀ (n : Nat) (a0 : w5) (a1 : (List u0)) (r : u0 × Bool) (h : bX n a0 a1 = some r), Pure Tryz.prog gl 85 [.agg [.int .i64 a0.kind, .str a0.name, .int .i64 a0.index, .str a0.type.base, .sl false 2 40 (rows u0.cells a0.type.args), .sl false 6 96 (rows w5.cells a0.args)], .sl false 2 40 (rows u0.cells a1)] (.tup [.agg [.str r.1.base, .sl false 2 40 (rows u0.cells r.1.args)], .bool r.2]) := by
 intro n
 induction n with
 | zero => intro a0 a1 r h; cases h
 | succ n ih =>
  intro a0 a1 r h st
  unfold bX at h
  refine O4 (N := 101) (rs := [.cell 4 61, .tmp 5]) (keep := [0, 1, 2, 4, 5, 6, 7, 8, 9, 10, 11, 12, 14, 15, 19, 30, 78, 79, 82, 83, 84, 85, 88, 89, 90, 91, 92, 93, 94, 95]) Tryz.func85 rfl rfl rfl (by kernel_rfl) rfl fun hsc => ?_
  (repeat apply sq_); apply er_; simp only [go_sem]
  (repeat apply sq_); apply er_; simp only [go_sem]
  (repeat apply sq_); refine U8 ?_
  (repeat apply sq_); apply er_; simp only [go_sem]
  (repeat apply sq_); refine D4 (by rfl) (fun hc => ?_) fun hc => ?_
  ·replace h := B0 h (by first | exact hc | simpa using hc)
   (repeat apply sq_); apply er_; simp only [go_sem]
   (repeat apply sq_); refine E3 ?_
   try simp only [go_sem]
   have hr := Option.some.inj h
   refine E4 ?_; simp only [go_sem]
   exact y3 (d' := .tup [.agg [.str a0.type.base, .sl false 2 40 (rows u0.cells a0.type.args)], .bool true]) hsc (.same _) (by simp) ⟨by subst hr; rfl, rfl⟩
  ·replace h := B1 h (by first | exact hc | simpa using hc)
   (repeat apply sq_); apply er_; simp only [go_sem]
   (repeat apply sq_); refine D4 (by rfl) (fun hc => ?_) fun hc => ?_
   ·replace h := B0 h (by first | exact hc | simpa using hc)
    obtain ⟨⟨f1, f2⟩, h⟩ := G1 h
    (repeat apply sq_); apply er_; simp only [go_sem, f1, f2]
    (repeat apply sq_); refine E3 ?_
    try simp only [go_sem, f1, f2]
    have hr := Option.some.inj h
    refine E4 ?_; simp only [go_sem, f1, f2]
    exact y3 (d' := .tup [.agg [.str ((get a1 ((wr .i64 ((wr .i64 ((↑a1.length : Int) - 1)) - a0.index)).toNat)).base), .sl false 2 40 (rows u0.cells ((get a1 ((wr .i64 ((wr .i64 ((↑a1.length : Int) - 1)) - a0.index)).toNat)).args))], .bool true]) hsc (.same _) (by simp) ⟨by subst hr; rfl, rfl⟩
   ·replace h := B1 h (by first | exact hc | simpa using hc)
    (repeat apply sq_); apply er_; simp only [go_sem]
    (repeat apply sq_); refine D4 (by rfl) (fun hc => ?_) fun hc => ?_
    ·replace h := B0 h (by first | exact hc | simpa using hc)
     obtain ⟨⟨f3, f4⟩, h⟩ := G1 h
     have e5 : (40 ≤ top) = True := by simp [top]
     obtain ⟨c6, hc6, h⟩ := lD h
     have e7 : rows u0.cells a1 ++ [[.str a0.type.base, .sl false 2 40 (rows u0.cells a0.type.args)]] = rows u0.cells c6 := by rw [hc6]; first | exact L5 (E := u0.cells) a1 [a0.type] | simp only [go_sem, rows, List.map_append, List.map_cons, List.map_nil]
     have e8 : a1.length + 1 = c6.length := by rw [hc6]; simp
     obtain ⟨⟨f9, f10⟩, h⟩ := G1 h
     (repeat apply sq_); refine ak [] 2 follows (by kernel_rfl) (by rfl) ?_; simp only [go_sem, List.replicate_succ, List.replicate_zero, f3, f4, f9, f10, e5, e7, e8]
     obtain ⟨f11, h⟩ := G1 h
     (repeat apply sq_); apply er_; simp only [go_sem, f3, f4, f9, f10, f11]
     obtain ⟨v12, hv12, h⟩ := C6 h
     refine (qI n _ _ _ hv12 _ _ 0 (by simp) (Y0.trans rfl)).mono ?_
     rintro d1 st1 ⟨rfl, rfl⟩
     try simp only [go_sem, f3, f4, f9, f10, f11]
     have e13 : (80 ≤ top) = True := by simp [top]
     (repeat apply sq_); apply er_; simp only [go_sem, f3, f4, f9, f10, f11, e13]
     (repeat apply sq_); refine E3 ?_
     try simp only [go_sem, f3, f4, f9, f10, f11]
     have hr := Option.some.inj h
     refine E4 ?_; simp only [go_sem, f3, f4, f9, f10, f11]
     exact y3 (d' := .tup [.agg [.str [], .sl false 2 40 (rows u0.cells [a0.type, v12.1])], .bool v12.2]) hsc (.tup _ _ (.cons _ _ _ _ (.agg _ _ (.cons _ _ _ _ .s (.cons _ _ _ _ (.ref _ _ _ _ _ _ _ _ _ (dH.trans rfl) oD (by decide) (by simp [Imm, D.imm]) (by simp only [go_sem, rows, List.map_cons, List.map_nil])) .nil))) (.cons _ _ _ _ .s .nil)) rfl) (by simp) ⟨by subst hr; rfl, rfl⟩
    ·replace h := B1 h (by first | exact hc | simpa using hc)
     refine E6 ?_; try simp only [go_sem]
     obtain ⟨f14, h⟩ := G1 h
     (repeat apply sq_); apply er_; simp only [go_sem, f14]
     obtain ⟨v15, hv15, h⟩ := C6 h
     refine ((ih _ _ _ hv15)).to ?_
     try simp only [go_sem, f14]
     obtain ⟨f16, h⟩ := G1 h
     (repeat apply sq_); apply er_; simp only [go_sem, f14, f16]
     obtain ⟨v17, hv17, h⟩ := C6 h
     refine ((ih _ _ _ hv17)).to ?_
     try simp only [go_sem, f14, f16]
     obtain ⟨f19, h⟩ := G1 h
     (repeat apply sq_); refine ak [] 0 follows (by kernel_rfl) (by rfl) ?_; simp only [go_sem, List.replicate_succ, List.replicate_zero, f14, f16, f19]
     obtain ⟨v20, hv20, h⟩ := C6 h
     refine Y3 (fun hG => (mH n _ _ _ (iu hv20 (by simpa using hG)))) ?_
     try simp only [go_sem, f14, f16, f19]
     (repeat apply sq_); refine D4 (by rfl) (fun hc => ?_) fun hc => ?_
     ·replace h := B0 h (by first | exact hc | simpa using hc)
      (repeat apply sq_); apply er_; simp only [go_sem, f14, f16, f19]
      (repeat apply sq_); refine E3 ?_
      try simp only [go_sem, f14, f16, f19]
      have hr := Option.some.inj h
      refine E4 ?_; simp only [go_sem, f14, f16, f19]
      exact y3 (d' := .tup [.agg [.str [], .sl false 2 40 (rows u0.cells [])], .bool false]) hsc (.tup _ _ (.cons _ _ _ _ (.agg _ _ (.cons _ _ _ _ .s (.cons _ _ _ _ (.B4 _ _ _ (by decide)) .nil))) (.cons _ _ _ _ .s .nil)) rfl) (by simp) ⟨by subst hr; rfl, rfl⟩
     ·replace h := B1 h (by first | exact hc | simpa using hc)
      refine E6 ?_; try simp only [go_sem, f14, f16, f19]
      obtain ⟨f21, h⟩ := G1 h
      (repeat apply sq_); apply er_; simp only [go_sem, f14, f16, f19, f21]
      (repeat apply sq_); refine E3 ?_
      try simp only [go_sem, f14, f16, f19, f21]
      have hr := Option.some.inj h
      refine E4 ?_; simp only [go_sem, f14, f16, f19, f21]
      exact y3 (d' := .tup [.agg [.str ((get v15.1.args 1).base), .sl false 2 40 (rows u0.cells ((get v15.1.args 1).args))], .bool true]) hsc (.same _) (by simp) ⟨by subst hr; rfl, rfl⟩
theorem jY (n : Nat) (a0 : w5) (r : y7) (h : cL n a0 = some r) : Pure Tryz.prog gl 69 [.agg [.int .i64 a0.kind, .str a0.name, .int .i64 a0.index, .str a0.type.base, .sl false 2 40 (rows u0.cells a0.type.args), .sl false 6 96 (rows w5.cells a0.args)]] (.agg [.int .i64 r.code, .int .i64 r.index]) := by
 intro st
 unfold cL at h
 refine O4 (N := 25) (rs := [.cell 2 41]) (keep := [0, 1, 2, 3, 4, 5, 7, 14, 22]) Tryz.func69 rfl rfl rfl (by kernel_rfl) rfl fun hsc => ?_
 (repeat apply sq_); apply er_; simp only [go_sem]
 (repeat apply sq_); apply er_; simp only [go_sem]
 (repeat apply sq_); apply er_; simp only [go_sem]
 (repeat apply sq_); apply er_; simp only [go_sem]
 (repeat apply sq_); apply er_; simp only [go_sem]
 obtain ⟨v1, hv1, h⟩ := C6 h
 refine (oo n _ _ _ _ _ hv1 _ _ _ (by simp) (Y0.trans rfl) (Y0.trans rfl)).mono ?_
 rintro d1 st1 ⟨rfl, rfl⟩
 try simp only [go_sem]
 (repeat apply sq_); apply er_; simp only [go_sem]
 (repeat apply sq_); refine D4 (by rfl) (fun hc => ?_) fun hc => ?_
 ·replace h := B0 h (by first | exact hc | simpa using hc)
  (repeat apply sq_); apply er_; simp only [go_sem]
  (repeat apply sq_); refine E3 ?_
  try simp only [go_sem]
  have hr := Option.some.inj h
  refine E4 ?_; simp only [go_sem]
  exact y3 (d' := .agg [.int .i64 v1.1.code, .int .i64 v1.1.index]) hsc (.same _) (by simp) ⟨by subst hr; rfl, rfl⟩
 ·replace h := B1 h (by first | exact hc | simpa using hc)
  refine E6 ?_; try simp only [go_sem]
  (repeat apply sq_); apply er_; simp only [go_sem]
  obtain ⟨v2, hv2, h⟩ := C6 h
  refine (((vj n _ _ _ hv2).up (fun _ => (.cons _ _ _ _ .s (.cons _ _ _ _ (.B4 _ _ _ (by decide)) .nil))) (.inr fun n => by simp))).to ?_
  try simp only [go_sem]
  (repeat apply sq_); apply er_; simp only [go_sem]
  (repeat apply sq_); refine D4 (by rfl) (fun hc => ?_) fun hc => ?_
  ·replace h := B0 h (by first | exact hc | simpa using hc)
   (repeat apply sq_); apply er_; simp only [go_sem]
   (repeat apply sq_); refine E3 ?_
   try simp only [go_sem]
   have hr := Option.some.inj h
   refine E4 ?_; simp only [go_sem]
   exact y3 (d' := .agg [.int .i64 12, .int .i64 (-1)]) hsc (.same _) (by simp) ⟨by subst hr; rfl, rfl⟩
  ·replace h := B1 h (by first | exact hc | simpa using hc)
   refine E6 ?_; try simp only [go_sem]
   (repeat apply sq_); apply er_; simp only [go_sem]
   (repeat apply sq_); refine E3 ?_
   try simp only [go_sem]
   have hr := Option.some.inj h
   refine E4 ?_; simp only [go_sem]
   exact y3 (d' := .agg [.int .i64 0, .int .i64 0]) hsc (.same _) (by simp) ⟨by subst hr; rfl, rfl⟩
theorem qJ (n : Nat) (a0 : w4) (a1 : A9) (a2 : u6) (r : Int) (h : fU n a0 a1 a2 = some r) : Pure Tryz.prog gl 46 [.agg [.sl false 2 40 (rows w7.cells a0.types), .sl false 3 32 (rows x9.cells a0.C9)], .agg [.sl false 1 8 (rows U2 a1.up), .sl false 1 8 (rows U2 a1.down)], .agg [.str a2.name, .sl false 2 32 (rows w8.cells a2.graph.nodes), .int .i64 a2.kids, .int .i64 a2.weight, .int .i64 a2.meaning.kind, .str a2.meaning.name, .int .i64 a2.meaning.index, .str a2.meaning.type.base, .sl false 2 40 (rows u0.cells a2.meaning.type.args), .sl false 6 96 (rows w5.cells a2.meaning.args)]] (.int .i64 r) := by
 intro st
 unfold fU at h
 refine O4 (N := 46) (rs := [.tmp 6]) (keep := [0, 1, 2, 3, 4, 5, 6, 7, 12, 13, 14, 17, 18, 19, 22, 23, 24, 25, 33, 41]) Tryz.func46 rfl rfl rfl (by kernel_rfl) rfl fun hsc => ?_
 (repeat apply sq_); apply er_; simp only [go_sem]
 (repeat apply sq_); apply er_; simp only [go_sem]
 (repeat apply sq_); refine D4 (by rfl) (fun hc => ?_) fun hc => ?_
 ·replace h := B0 h (by first | exact hc | simpa using hc)
  (repeat apply sq_); apply er_; simp only [go_sem]
  (repeat apply sq_); refine E3 ?_
  try simp only [go_sem]
  have hr := Option.some.inj h
  refine E4 ?_; simp only [go_sem]
  exact y3 (d' := .int .i64 3) hsc (.same _) (by simp) ⟨by subst hr; rfl, rfl⟩
 ·replace h := B1 h (by first | exact hc | simpa using hc)
  refine E6 ?_; try simp only [go_sem]
  (repeat apply sq_); apply er_; simp only [go_sem]
  obtain ⟨v1, hv1, h⟩ := C6 h
  refine ((gY n _ _ _ _ hv1)).to ?_
  try simp only [go_sem]
  (repeat apply sq_); apply er_; simp only [go_sem]
  (repeat apply sq_); refine D4 (by rfl) (fun hc => ?_) fun hc => ?_
  ·replace h := B0 h (by first | exact hc | simpa using hc)
   (repeat apply sq_); apply er_; simp only [go_sem]
   (repeat apply sq_); refine E3 ?_
   try simp only [go_sem]
   have hr := Option.some.inj h
   refine E4 ?_; simp only [go_sem]
   exact y3 (d' := .int .i64 v1.code) hsc (.same _) (by simp) ⟨by subst hr; rfl, rfl⟩
  ·replace h := B1 h (by first | exact hc | simpa using hc)
   refine E6 ?_; try simp only [go_sem]
   (repeat apply sq_); apply er_; simp only [go_sem]
   obtain ⟨v2, hv2, h⟩ := C6 h
   refine ((om n _ _ _ hv2)).to ?_
   try simp only [go_sem]
   (repeat apply sq_); refine D4 (by rfl) (fun hc => ?_) fun hc => ?_
   ·replace h := B0 h (by first | exact hc | simpa using hc)
    (repeat apply sq_); apply er_; simp only [go_sem]
    (repeat apply sq_); refine E3 ?_
    try simp only [go_sem]
    have hr := Option.some.inj h
    refine E4 ?_; simp only [go_sem]
    exact y3 (d' := .int .i64 5) hsc (.same _) (by simp) ⟨by subst hr; rfl, rfl⟩
   ·replace h := B1 h (by first | exact hc | simpa using hc)
    refine E6 ?_; try simp only [go_sem]
    (repeat apply sq_); apply er_; simp only [go_sem]
    obtain ⟨v3, hv3, h⟩ := C6 h
    refine ((jY n _ _ hv3)).to ?_
    try simp only [go_sem]
    (repeat apply sq_); refine E3 ?_
    try simp only [go_sem]
    have hr := Option.some.inj h
    refine E4 ?_; simp only [go_sem]
    exact y3 (d' := .int .i64 v3.code) hsc (.same _) (by simp) ⟨by subst hr; rfl, rfl⟩
end Go.Proofs.YtaohdfpcdfbnlaaGreatDoor
