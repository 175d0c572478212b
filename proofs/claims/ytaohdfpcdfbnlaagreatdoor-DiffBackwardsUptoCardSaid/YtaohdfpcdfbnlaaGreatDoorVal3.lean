import Derived.Test.YtaohdfpcdfbnlaaGreatDoorVal2
set_option linter.unusedVariables false
set_option linter.unusedSimpArgs false
namespace Go.Proofs.YtaohdfpcdfbnlaaGreatDoor
open Go Go.Am
theorem get_mem {α : Type} [Inhabited α] {l : List α} {k : Nat} (h : k < l.length) : Am.get l k ∈ l := by
 unfold Am.get
 rw [List.getD_eq_getElem?_getD, List.getElem?_eq_getElem h]
 exact List.getElem_mem h
theorem iD {s : u0} {k : Nat} (h : k < s.args.length) : SizeOf.sizeOf (Am.get s.args k) < SizeOf.sizeOf s := by
 cases s with
 | mk b a =>
  have := List.sizeOf_lt_of_mem (get_mem (l := a) h)
  show SizeOf.sizeOf (Am.get a k) < _
  simp only [u0.mk.sizeOf_spec]
  omega
theorem ju {s : w5} {k : Nat} (h : k < s.args.length) : SizeOf.sizeOf (Am.get s.args k) < SizeOf.sizeOf s := by
 cases s with
 | mk a b c d e =>
  have := List.sizeOf_lt_of_mem (get_mem (l := e) h)
  show SizeOf.sizeOf (Am.get e k) < _
  simp only [w5.mk.sizeOf_spec]
  omega
inductive R6 : u0 → Prop
 | mk (s : u0) (hl : s.args.length ≤ 2) (h : ∀ k, k < s.args.length → R6 (Am.get s.args k)) : R6 s
theorem lZ : ∀ (m : Nat) (s : u0), SizeOf.sizeOf s ≤ m → ∀ d b : Int, Evt (fun n => P9 n s d b) (fun r => r.1 = 0 → R6 s) := by
 intro m
 induction m with
 | zero => intro s h; cases s; simp only [u0.mk.sizeOf_spec] at h; omega
 | succ m ih =>
  intro s hs d b
  refine Evt.succ ?_
  simp only [P9]
  refine Evt.cond (fun _ => Evt.pure fun h => absurd (show (1 : Int) = 0 from h) (by decide)) (fun _ => Evt.cond (fun _ => Evt.pure fun h => absurd (show (5 : Int) = 0 from h) (by decide)) (fun e => ?_))
  simp only [Bool.cond_true_left, Bool.cond_false_right, Bool.not_eq_true', Bool.not_eq_false', Bool.or_eq_true, Bool.or_eq_false_iff, Bool.and_eq_true, Bool.and_eq_false_imp, Bool.not_true, Bool.not_false, decide_eq_true_eq, decide_eq_false_iff_not, Decidable.not_not, Int.not_lt, Int.not_le, Nat.not_lt, Nat.not_le, not_or, Bool.not_not, Bool.not_eq_true, Bool.true_eq_false, Bool.false_eq_true, Bool.or_true, Bool.true_or, Bool.and_true, Bool.true_and] at e
  have hl : s.args.length ≤ 2 := by
   rcases e with e | e
   ·omega
   ·omega
  refine Evt.E0 (Evt.range (fun k _ => ∀ j, j < k → R6 (Am.get s.args j)) (fun _ => False) (fun r : Int × Int => r.1 ≠ 0) (fun j h => absurd h (Nat.not_lt_zero _)) (fun k u hk hj => ?_)) (fun t ht => Evt.pure fun _ => ⟨s, hl, by simp only [ExP, or_false] at ht; exact ht⟩) (fun r hr h => absurd h hr)
  unfold aA
  have := iD hk
  refine Evt.bind (ih _ (by omega) _ _) fun v hv => Evt.cond (fun e => Evt.pure ?_) (fun e => Evt.pure ?_)
  ·simp only [Bool.cond_true_left, Bool.cond_false_right, Bool.not_eq_true', Bool.not_eq_false', Bool.or_eq_true, Bool.or_eq_false_iff, Bool.and_eq_true, Bool.and_eq_false_imp, Bool.not_true, Bool.not_false, decide_eq_true_eq, decide_eq_false_iff_not, Decidable.not_not, Int.not_lt, Int.not_le, Nat.not_lt, Nat.not_le, not_or, Bool.not_not, Bool.not_eq_true, Bool.true_eq_false, Bool.false_eq_true, Bool.or_true, Bool.true_or, Bool.and_true, Bool.true_and] at e
   exact e
  ·simp only [Bool.cond_true_left, Bool.cond_false_right, Bool.not_eq_true', Bool.not_eq_false', Bool.or_eq_true, Bool.or_eq_false_iff, Bool.and_eq_true, Bool.and_eq_false_imp, Bool.not_true, Bool.not_false, decide_eq_true_eq, decide_eq_false_iff_not, Decidable.not_not, Int.not_lt, Int.not_le, Nat.not_lt, Nat.not_le, not_or, Bool.not_not, Bool.not_eq_true, Bool.true_eq_false, Bool.false_eq_true, Bool.or_true, Bool.true_or, Bool.and_true, Bool.true_and] at e
   intro j hj'
   by_cases ej : j = k
   ·subst ej; exact hv e
   ·exact hj j (by omega)
theorem ig (s : u0) : Evt (fun n => ah n s) (fun f => f.code = 0 → R6 s) := by
 unfold ah
 exact Evt.bind (lZ _ s (Nat.le_refl _) _ _) fun v hv => Evt.pure hv
theorem sC : ∀ (m : Nat) (s : u0), SizeOf.sizeOf s ≤ m → R6 s → ∀ t, Evt (fun n => bw n s t) (fun _ => True) := by
 intro m
 induction m with
 | zero => intro s h; cases s; simp only [u0.mk.sizeOf_spec] at h; omega
 | succ m ih =>
  intro s hs ho t
  obtain ⟨_, hl, ho⟩ := ho
  refine Evt.succ ?_
  simp only [bw]
  refine Evt.cond (fun _ => Evt.pure trivial) (fun e => ?_)
  simp only [Bool.cond_true_left, Bool.cond_false_right, Bool.not_eq_true', Bool.not_eq_false', Bool.or_eq_true, Bool.or_eq_false_iff, Bool.and_eq_true, Bool.and_eq_false_imp, Bool.not_true, Bool.not_false, decide_eq_true_eq, decide_eq_false_iff_not, Decidable.not_not, Int.not_lt, Int.not_le, Nat.not_lt, Nat.not_le, not_or, Bool.not_not, Bool.not_eq_true, Bool.true_eq_false, Bool.false_eq_true, Bool.or_true, Bool.true_or, Bool.and_true, Bool.true_and] at e
  refine Evt.chk (by omega) ?_
  refine Evt.E0 (Evt.range (fun _ _ => True) (fun _ => True) (fun _ => True) trivial (fun k u hk _ => ?_)) (fun t _ => Evt.pure trivial) (fun _ _ => trivial)
  unfold eY
  have := iD hk
  exact Evt.chk (by omega) (Evt.bind (ih _ (by omega) (ho k hk) _) fun v _ => Evt.cond (fun _ => Evt.pure trivial) (fun _ => Evt.pure trivial))
inductive jJ : Int → w5 → Prop
 | con (b : Int) (t : w5) (h : t.kind = 1) (hs : R6 t.type) : jJ b t
 | var (b : Int) (t : w5) (h : t.kind = 2) (h0 : 0 ≤ t.index) (h1 : t.index < b) : jJ b t
 | abs (b : Int) (t : w5) (h : t.kind = 3) (hb : b ≤ 40) (hs : R6 t.type) (hl : t.args.length = 1) (h0 : jJ (b + 1) (Am.get t.args 0)) : jJ b t
 | app (b : Int) (t : w5) (h : t.kind = 4) (hl : t.args.length = 2) (h0 : jJ b (Am.get t.args 0)) (h1 : jJ b (Am.get t.args 1)) : jJ b t
theorem mY (a b : Int) {P : y7 → Prop} (h : P ⟨a, b⟩) : Evt (fun _ => I0 a b) P := Evt.pure h
theorem pX (s : u0) : Evt (fun _ => lW s) (fun _ => True) := Evt.pure trivial
theorem kI {a b c : Int} {t : w5} {bd : Int} (h : a ≠ 0) : Evt (fun _ => (I0 a b).bind fun v => some (v, c)) (fun r => r.1.code = 0 → jJ bd t) :=
 Evt.bind (mY _ _ (P := Bad) (cH h)) fun v hv => Evt.pure fun e => absurd e hv
theorem nR : ∀ (m : Nat) (t : w5), SizeOf.sizeOf t ≤ m → ∀ d b c : Int, 0 ≤ b → b ≤ d → Evt (fun n => T3 n t d b c) (fun r => r.1.code = 0 → jJ b t) := by
 intro m
 induction m with
 | zero => intro s h; cases s; simp only [w5.mk.sizeOf_spec] at h; omega
 | succ m ih =>
  intro t ht d b c h0 h1
  refine Evt.succ ?_
  simp only [T3]
  refine Evt.cond (fun _ => kI (by decide)) (fun e => ?_)
  simp only [Bool.cond_true_left, Bool.cond_false_right, Bool.not_eq_true', Bool.not_eq_false', Bool.or_eq_true, Bool.or_eq_false_iff, Bool.and_eq_true, Bool.and_eq_false_imp, Bool.not_true, Bool.not_false, decide_eq_true_eq, decide_eq_false_iff_not, Decidable.not_not, Int.not_lt, Int.not_le, Nat.not_lt, Nat.not_le, not_or, Bool.not_not, Bool.not_eq_true, Bool.true_eq_false, Bool.false_eq_true, Bool.or_true, Bool.true_or, Bool.and_true, Bool.true_and] at e
  have hd := e.2
  have hw1 : wr .i64 (d + 1) = d + 1 := X4 (by omega) (by omega)
  have hw2 : wr .i64 (b + 1) = b + 1 := X4 (by omega) (by omega)
  rw [hw1, hw2]
  refine Evt.cond (fun k => ?_) (fun _ => Evt.cond (fun k => ?_) (fun _ => Evt.cond (fun k => ?_) (fun _ => Evt.cond (fun k => ?_) (fun _ => kI (by decide)))))
  ·simp only [Bool.cond_true_left, Bool.cond_false_right, Bool.not_eq_true', Bool.not_eq_false', Bool.or_eq_true, Bool.or_eq_false_iff, Bool.and_eq_true, Bool.and_eq_false_imp, Bool.not_true, Bool.not_false, decide_eq_true_eq, decide_eq_false_iff_not, Decidable.not_not, Int.not_lt, Int.not_le, Nat.not_lt, Nat.not_le, not_or, Bool.not_not, Bool.not_eq_true, Bool.true_eq_false, Bool.false_eq_true, Bool.or_true, Bool.true_or, Bool.and_true, Bool.true_and] at k
   refine Evt.cond (fun _ => kI (by decide)) (fun _ => Evt.bind (iN _) fun v _ => Evt.cond (fun _ => kI (by decide)) (fun _ => Evt.bind (ig _) fun f hf => Evt.cond (fun _ => kI (by decide)) (fun e => Evt.pure fun _ => ?_)))
   simp only [Bool.cond_true_left, Bool.cond_false_right, Bool.not_eq_true', Bool.not_eq_false', Bool.or_eq_true, Bool.or_eq_false_iff, Bool.and_eq_true, Bool.and_eq_false_imp, Bool.not_true, Bool.not_false, decide_eq_true_eq, decide_eq_false_iff_not, Decidable.not_not, Int.not_lt, Int.not_le, Nat.not_lt, Nat.not_le, not_or, Bool.not_not, Bool.not_eq_true, Bool.true_eq_false, Bool.false_eq_true, Bool.or_true, Bool.true_or, Bool.and_true, Bool.true_and] at e
   exact .con _ _ k (hf e)
  ·simp only [Bool.cond_true_left, Bool.cond_false_right, Bool.not_eq_true', Bool.not_eq_false', Bool.or_eq_true, Bool.or_eq_false_iff, Bool.and_eq_true, Bool.and_eq_false_imp, Bool.not_true, Bool.not_false, decide_eq_true_eq, decide_eq_false_iff_not, Decidable.not_not, Int.not_lt, Int.not_le, Nat.not_lt, Nat.not_le, not_or, Bool.not_not, Bool.not_eq_true, Bool.true_eq_false, Bool.false_eq_true, Bool.or_true, Bool.true_or, Bool.and_true, Bool.true_and] at k
   refine Evt.bind (Evt.gd (fun _ => pX _) (fun _ => trivial)) fun v _ => Evt.cond (fun _ => kI (by decide)) (fun _ => Evt.cond (fun _ => kI (by decide)) (fun e => Evt.pure fun _ => ?_))
   simp only [Bool.cond_true_left, Bool.cond_false_right, Bool.not_eq_true', Bool.not_eq_false', Bool.or_eq_true, Bool.or_eq_false_iff, Bool.and_eq_true, Bool.and_eq_false_imp, Bool.not_true, Bool.not_false, decide_eq_true_eq, decide_eq_false_iff_not, Decidable.not_not, Int.not_lt, Int.not_le, Nat.not_lt, Nat.not_le, not_or, Bool.not_not, Bool.not_eq_true, Bool.true_eq_false, Bool.false_eq_true, Bool.or_true, Bool.true_or, Bool.and_true, Bool.true_and] at e
   exact .var _ _ k e.1 e.2
  ·simp only [Bool.cond_true_left, Bool.cond_false_right, Bool.not_eq_true', Bool.not_eq_false', Bool.or_eq_true, Bool.or_eq_false_iff, Bool.and_eq_true, Bool.and_eq_false_imp, Bool.not_true, Bool.not_false, decide_eq_true_eq, decide_eq_false_iff_not, Decidable.not_not, Int.not_lt, Int.not_le, Nat.not_lt, Nat.not_le, not_or, Bool.not_not, Bool.not_eq_true, Bool.true_eq_false, Bool.false_eq_true, Bool.or_true, Bool.true_or, Bool.and_true, Bool.true_and] at k
   refine Evt.cond (fun _ => kI (by decide)) (fun e => ?_)
   simp only [Bool.cond_true_left, Bool.cond_false_right, Bool.not_eq_true', Bool.not_eq_false', Bool.or_eq_true, Bool.or_eq_false_iff, Bool.and_eq_true, Bool.and_eq_false_imp, Bool.not_true, Bool.not_false, decide_eq_true_eq, decide_eq_false_iff_not, Decidable.not_not, Int.not_lt, Int.not_le, Nat.not_lt, Nat.not_le, not_or, Bool.not_not, Bool.not_eq_true, Bool.true_eq_false, Bool.false_eq_true, Bool.or_true, Bool.true_or, Bool.and_true, Bool.true_and] at e
   have hl : t.args.length = 1 := by omega
   have := ju (s := t) (k := 0) (by omega)
   refine Evt.bind (ig _) fun f hf => Evt.cond (fun _ => kI (by decide)) (fun e2 => ?_)
   simp only [Bool.cond_true_left, Bool.cond_false_right, Bool.not_eq_true', Bool.not_eq_false', Bool.or_eq_true, Bool.or_eq_false_iff, Bool.and_eq_true, Bool.and_eq_false_imp, Bool.not_true, Bool.not_false, decide_eq_true_eq, decide_eq_false_iff_not, Decidable.not_not, Int.not_lt, Int.not_le, Nat.not_lt, Nat.not_le, not_or, Bool.not_not, Bool.not_eq_true, Bool.true_eq_false, Bool.false_eq_true, Bool.or_true, Bool.true_or, Bool.and_true, Bool.true_and] at e2
   exact Evt.chk (by omega) (Evt.bind (ih _ (by omega) _ _ _ (by omega) (by omega)) fun v hv => Evt.pure fun e3 => .abs _ _ k (by omega) (hf e2) hl (hv e3))
  ·simp only [Bool.cond_true_left, Bool.cond_false_right, Bool.not_eq_true', Bool.not_eq_false', Bool.or_eq_true, Bool.or_eq_false_iff, Bool.and_eq_true, Bool.and_eq_false_imp, Bool.not_true, Bool.not_false, decide_eq_true_eq, decide_eq_false_iff_not, Decidable.not_not, Int.not_lt, Int.not_le, Nat.not_lt, Nat.not_le, not_or, Bool.not_not, Bool.not_eq_true, Bool.true_eq_false, Bool.false_eq_true, Bool.or_true, Bool.true_or, Bool.and_true, Bool.true_and] at k
   refine Evt.bind (Evt.gd (fun _ => pX _) (fun _ => trivial)) fun v _ => Evt.cond (fun _ => kI (by decide)) (fun e => ?_)
   simp only [Bool.cond_true_left, Bool.cond_false_right, Bool.not_eq_true', Bool.not_eq_false', Bool.or_eq_true, Bool.or_eq_false_iff, Bool.and_eq_true, Bool.and_eq_false_imp, Bool.not_true, Bool.not_false, decide_eq_true_eq, decide_eq_false_iff_not, Decidable.not_not, Int.not_lt, Int.not_le, Nat.not_lt, Nat.not_le, not_or, Bool.not_not, Bool.not_eq_true, Bool.true_eq_false, Bool.false_eq_true, Bool.or_true, Bool.true_or, Bool.and_true, Bool.true_and] at e
   have hl : t.args.length = 2 := by omega
   have s0 := ju (s := t) (k := 0) (by omega)
   have s1 := ju (s := t) (k := 1) (by omega)
   refine Evt.chk (by omega) (Evt.bind (ih _ (by omega) _ _ _ h0 (by omega)) fun v hv => Evt.cond (fun e3 => Evt.pure fun e4 => ?_) (fun e3 => ?_))
   ·simp only [Bool.cond_true_left, Bool.cond_false_right, Bool.not_eq_true', Bool.not_eq_false', Bool.or_eq_true, Bool.or_eq_false_iff, Bool.and_eq_true, Bool.and_eq_false_imp, Bool.not_true, Bool.not_false, decide_eq_true_eq, decide_eq_false_iff_not, Decidable.not_not, Int.not_lt, Int.not_le, Nat.not_lt, Nat.not_le, not_or, Bool.not_not, Bool.not_eq_true, Bool.true_eq_false, Bool.false_eq_true, Bool.or_true, Bool.true_or, Bool.and_true, Bool.true_and] at e3
    exact absurd e4 e3
   ·simp only [Bool.cond_true_left, Bool.cond_false_right, Bool.not_eq_true', Bool.not_eq_false', Bool.or_eq_true, Bool.or_eq_false_iff, Bool.and_eq_true, Bool.and_eq_false_imp, Bool.not_true, Bool.not_false, decide_eq_true_eq, decide_eq_false_iff_not, Decidable.not_not, Int.not_lt, Int.not_le, Nat.not_lt, Nat.not_le, not_or, Bool.not_not, Bool.not_eq_true, Bool.true_eq_false, Bool.false_eq_true, Bool.or_true, Bool.true_or, Bool.and_true, Bool.true_and] at e3
    exact Evt.chk (by omega) (Evt.bind (ih _ (by omega) _ _ _ h0 (by omega)) fun u hu => Evt.pure fun e4 => .app _ _ k hl (hv e3) (hu e4))
theorem uz : R6 (u0.mk [] []) := ⟨_, by show 0 ≤ 2; omega, fun k h => absurd h (Nat.not_lt_zero _)⟩
theorem me {a b : u0} (ha : R6 a) (hb : R6 b) : R6 (u0.mk [] [a, b]) := ⟨_, by show 2 ≤ 2; omega, fun k h => by
 have : k < 2 := h
 match k, this with
 | 0, _ => exact ha
 | 1, _ => exact hb⟩
theorem uD {f x : u0 × Bool} (hf : R6 f.1) : Evt (fun n =>
  chk (aK (!(bif (bif (!f.2) then true else (!x.2)) then true else (!decide ((f.1.args.length : Int) = 2)))) (0 < (f.1.args.length : Int))) <|
  (gd (!(bif (bif (!f.2) then true else (!x.2)) then true else (!decide ((f.1.args.length : Int) = 2)))) (bw n (Am.get f.1.args 0) x.1) default).bind fun v22 =>
  bif (bif (bif (bif (!f.2) then true else (!x.2)) then true else (!decide ((f.1.args.length : Int) = 2))) then true else (!v22)) then
   some ((u0.mk [] []), false)
  else
   chk (1 < (f.1.args.length : Int)) <|
   some ((Am.get f.1.args 1), true)) (fun r => R6 r.1) := by
 obtain ⟨_, hl, ho⟩ := hf
 refine Evt.chk (P0 fun e => ?_) (Evt.bind (P := fun _ => True) (Evt.gd (fun e => ?_) (fun _ => trivial)) fun v _ => Evt.cond (fun _ => Evt.pure uz) (fun e => ?_))
 ·simp only [Bool.cond_true_left, Bool.cond_false_right, Bool.not_eq_true', Bool.not_eq_false', Bool.or_eq_true, Bool.or_eq_false_iff, Bool.and_eq_true, Bool.and_eq_false_imp, Bool.not_true, Bool.not_false, decide_eq_true_eq, decide_eq_false_iff_not, Decidable.not_not, Int.not_lt, Int.not_le, Nat.not_lt, Nat.not_le, not_or, Bool.not_not, Bool.not_eq_true, Bool.true_eq_false, Bool.false_eq_true, Bool.or_true, Bool.true_or, Bool.and_true, Bool.true_and] at e
  omega
 ·simp only [Bool.cond_true_left, Bool.cond_false_right, Bool.not_eq_true', Bool.not_eq_false', Bool.or_eq_true, Bool.or_eq_false_iff, Bool.and_eq_true, Bool.and_eq_false_imp, Bool.not_true, Bool.not_false, decide_eq_true_eq, decide_eq_false_iff_not, Decidable.not_not, Int.not_lt, Int.not_le, Nat.not_lt, Nat.not_le, not_or, Bool.not_not, Bool.not_eq_true, Bool.true_eq_false, Bool.false_eq_true, Bool.or_true, Bool.true_or, Bool.and_true, Bool.true_and] at e
  exact sC _ _ (Nat.le_refl _) (ho 0 (by omega)) _
 ·simp only [Bool.cond_true_left, Bool.cond_false_right, Bool.not_eq_true', Bool.not_eq_false', Bool.or_eq_true, Bool.or_eq_false_iff, Bool.and_eq_true, Bool.and_eq_false_imp, Bool.not_true, Bool.not_false, decide_eq_true_eq, decide_eq_false_iff_not, Decidable.not_not, Int.not_lt, Int.not_le, Nat.not_lt, Nat.not_le, not_or, Bool.not_not, Bool.not_eq_true, Bool.true_eq_false, Bool.false_eq_true, Bool.or_true, Bool.true_or, Bool.and_true, Bool.true_and] at e
  exact Evt.chk (by omega) (Evt.pure (ho 1 (by omega)))
theorem uE {l : List u0} {b : Int} {t : w5} (hb : b = l.length) (h0 : 0 ≤ t.index) (h1 : t.index < b) (hL : l.length ≤ 1000) :
  0 ≤ wr .i64 (wr .i64 ((l.length : Int) - 1) - t.index) ∧ wr .i64 (wr .i64 ((l.length : Int) - 1) - t.index) < l.length := by
 rw [X4 (n := (l.length : Int) - 1) (by omega) (by omega), X4 (by omega) (by omega)]
 omega
theorem sD {t : w5} {b : Int} (h : jJ b t) : ∀ l : List u0, b = l.length → l.length ≤ 41 → (∀ k, k < l.length → R6 (Am.get l k)) → Evt (fun n => Q0 n t l) (fun r => R6 r.1) := by
 induction h with
 | con b t hk hs =>
  intro l hb hL hl
  refine Evt.succ ?_
  simp only [Q0, hk, Int.reduceEq, decide_false, decide_true, cond_false, cond_true]
  exact Evt.pure hs
 | var b t hk h0 h1 =>
  intro l hb hL hl
  refine Evt.succ ?_
  simp only [Q0, hk, Int.reduceEq, decide_false, decide_true, cond_false, cond_true]
  have hv := uE hb h0 h1 (by omega)
  exact Evt.chk hv (Evt.pure (hl _ (by omega)))
 | abs b t hk Mq hs hlen h0 ih =>
  intro l hb hL hl
  refine Evt.succ ?_
  simp only [Q0, hk, Int.reduceEq, decide_false, decide_true, cond_false, cond_true]
  have e : (l ++ [t.type]).length = l.length + 1 := by simp
  refine Evt.chk (by omega) (Evt.eJ (Evt.chk (by rw [e, bC]; omega) (Evt.chk (by omega) (Evt.bind (ih _ (by rw [e]; omega) (by rw [e]; omega) (fun k hk2 => ?_)) fun v hv => Evt.pure (me hs hv)))))
  rw [e] at hk2
  by_cases ek : k = l.length
  ·subst ek; rw [kT]; exact hs
  ·rw [pV (by omega)]; exact hl k (by omega)
 | app b t hk hlen h0 h1 ih0 ih1 =>
  intro l hb hL hl
  refine Evt.succ ?_
  simp only [Q0, hk, Int.reduceEq, decide_false, decide_true, cond_false, cond_true]
  exact Evt.chk (by omega) (Evt.bind (ih0 l hb hL hl) fun f hf => Evt.chk (by omega) (Evt.bind (ih1 l hb hL hl) fun x hx => uD hf))
theorem uF {t : w5} {b : Int} (h : jJ b t) : ∀ l : List u0, b = l.length → l.length ≤ 40 → (∀ k, k < l.length → R6 (Am.get l k)) → Evt (fun n => bR n t l) (fun r => R6 r.1) := by
 induction h with
 | con b t hk hs =>
  intro l hb hL hl
  refine Evt.succ ?_
  simp only [bR, hk, Int.reduceEq, decide_false, decide_true, cond_false, cond_true]
  exact Evt.pure hs
 | var b t hk h0 h1 =>
  intro l hb hL hl
  refine Evt.succ ?_
  simp only [bR, hk, Int.reduceEq, decide_false, decide_true, cond_false, cond_true]
  have hv := uE hb h0 h1 (by omega)
  exact Evt.chk hv (Evt.pure (hl _ (by omega)))
 | abs b t hk Mq hs hlen h0 ih =>
  intro l hb hL hl
  refine Evt.succ ?_
  simp only [bR, hk, Int.reduceEq, decide_false, decide_true, cond_false, cond_true]
  have e : (l ++ [t.type]).length = l.length + 1 := by simp
  refine Evt.chk (by omega) (Evt.eJ (Evt.chk (by rw [e, bC]; omega) (Evt.chk (by omega) (Evt.bind (sD h0 _ (by rw [e]; omega) (by rw [e]; omega) (fun k hk2 => ?_)) fun v hv => Evt.pure (me hs hv)))))
  rw [e] at hk2
  by_cases ek : k = l.length
  ·subst ek; rw [kT]; exact hs
  ·rw [pV (by omega)]; exact hl k (by omega)
 | app b t hk hlen h0 h1 ih0 ih1 =>
  intro l hb hL hl
  refine Evt.succ ?_
  simp only [bR, hk, Int.reduceEq, decide_false, decide_true, cond_false, cond_true]
  exact Evt.chk (by omega) (Evt.bind (ih0 l hb hL hl) fun f hf => Evt.chk (by omega) (Evt.bind (ih1 l hb hL hl) fun x hx => uD hf))
theorem jK (t : w5) : Evt (fun n => cF n t) (fun _ => True) := by
 unfold cF
 refine Evt.bind (nR _ t (Nat.le_refl _) 1 0 0 (by omega) (by omega)) fun v hv => Evt.cond (fun _ => Evt.pure trivial) (fun e => ?_)
 simp only [Bool.cond_true_left, Bool.cond_false_right, Bool.not_eq_true', Bool.not_eq_false', Bool.or_eq_true, Bool.or_eq_false_iff, Bool.and_eq_true, Bool.and_eq_false_imp, Bool.not_true, Bool.not_false, decide_eq_true_eq, decide_eq_false_iff_not, Decidable.not_not, Int.not_lt, Int.not_le, Nat.not_lt, Nat.not_le, not_or, Bool.not_not, Bool.not_eq_true, Bool.true_eq_false, Bool.false_eq_true, Bool.or_true, Bool.true_or, Bool.and_true, Bool.true_and] at e
 refine Evt.bind (uF (hv e) [] rfl (by simp) (fun k h => absurd h (Nat.not_lt_zero _))) fun r _ => ?_
 exact Evt.cond (fun _ => Evt.pure trivial) (fun _ => Evt.pure trivial)
theorem qu {h : w4} (hh : xI h) {t : A9} (ht : yK h.types.length t) (r : u6) : Evt (fun n => fK n h t r) (fun _ => True) := by
 unfold fK
 refine Evt.cond (fun _ => Evt.pure trivial) (fun _ => Evt.bind (gN hh ht _) fun f hf => Evt.cond (fun _ => Evt.pure trivial) (fun e => ?_))
 simp only [Bool.cond_true_left, Bool.cond_false_right, Bool.not_eq_true', Bool.not_eq_false', Bool.or_eq_true, Bool.or_eq_false_iff, Bool.and_eq_true, Bool.and_eq_false_imp, Bool.not_true, Bool.not_false, decide_eq_true_eq, decide_eq_false_iff_not, Decidable.not_not, Int.not_lt, Int.not_le, Nat.not_lt, Nat.not_le, not_or, Bool.not_not, Bool.not_eq_true, Bool.true_eq_false, Bool.false_eq_true, Bool.or_true, Bool.true_or, Bool.and_true, Bool.true_and] at e
 exact Evt.bind (nQ (hf e) hh.C9 _) fun b _ => Evt.cond (fun _ => Evt.pure trivial) (fun _ => Evt.bind (jK _) fun v _ => Evt.pure trivial)
end Go.Proofs.YtaohdfpcdfbnlaaGreatDoor
