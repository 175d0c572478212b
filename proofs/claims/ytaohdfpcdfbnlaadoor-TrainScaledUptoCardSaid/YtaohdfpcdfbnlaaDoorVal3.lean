/-
  PL, part 4: the checks of types and terms come to an end at every input.
-/
import Derived.Test.YtaohdfpcdfbnlaaDoorVal2
set_option linter.unusedVariables false
set_option linter.unusedSimpArgs false
namespace Go.Proofs.YtaohdfpcdfbnlaaDoor
open Go Go.Am

theorem get_mem {α : Type} [Inhabited α] {l : List α} {k : Nat} (h : k < l.length) : Am.get l k ∈ l := by
  unfold Am.get
  rw [List.getD_eq_getElem?_getD, List.getElem?_eq_getElem h]
  exact List.getElem_mem h
theorem simple_size {s : ApiSimple} {k : Nat} (h : k < s.args.length) : SizeOf.sizeOf (Am.get s.args k) < SizeOf.sizeOf s := by
  cases s with
  | mk b a =>
    have := List.sizeOf_lt_of_mem (get_mem (l := a) h)
    show SizeOf.sizeOf (Am.get a k) < _
    simp only [ApiSimple.mk.sizeOf_spec]
    omega
theorem term_size {s : ApiTerm} {k : Nat} (h : k < s.args.length) : SizeOf.sizeOf (Am.get s.args k) < SizeOf.sizeOf s := by
  cases s with
  | mk a b c d e =>
    have := List.sizeOf_lt_of_mem (get_mem (l := e) h)
    show SizeOf.sizeOf (Am.get e k) < _
    simp only [ApiTerm.mk.sizeOf_spec]
    omega
theorem tree_size {s : ApiTree} {k : Nat} (h : k < s.kids.length) : SizeOf.sizeOf (Am.get s.kids k) < SizeOf.sizeOf s := by
  cases s with
  | mk a b e =>
    have := List.sizeOf_lt_of_mem (get_mem (l := e) h)
    show SizeOf.sizeOf (Am.get e k) < _
    simp only [ApiTree.mk.sizeOf_spec]
    omega

inductive SimpleOk : ApiSimple → Prop
  | mk (s : ApiSimple) (hl : s.args.length ≤ 2) (h : ∀ k, k < s.args.length → SimpleOk (Am.get s.args k)) : SimpleOk s

theorem simpleValidate1_ev : ∀ (m : Nat) (s : ApiSimple), SizeOf.sizeOf s ≤ m → ∀ d b : Int, Evt (fun n => simpleValidate1 n s d b) (fun r => r.1 = 0 → SimpleOk s) := by
  intro m
  induction m with
  | zero => intro s h; cases s; simp only [ApiSimple.mk.sizeOf_spec] at h; omega
  | succ m ih =>
    intro s hs d b
    refine Evt.succ ?_
    simp only [simpleValidate1]
    refine Evt.cond (fun _ => Evt.pure fun h => absurd (show (1 : Int) = 0 from h) (by decide)) (fun _ => Evt.cond (fun _ => Evt.pure fun h => absurd (show (5 : Int) = 0 from h) (by decide)) (fun e => ?_))
    simp only [Bool.cond_true_left, Bool.cond_false_right, Bool.not_eq_true', Bool.not_eq_false', Bool.or_eq_true, Bool.or_eq_false_iff, Bool.and_eq_true, Bool.and_eq_false_imp, Bool.not_true, Bool.not_false, decide_eq_true_eq, decide_eq_false_iff_not, Decidable.not_not, Int.not_lt, Int.not_le, Nat.not_lt, Nat.not_le, not_or, Bool.not_not, Bool.not_eq_true, Bool.true_eq_false, Bool.false_eq_true, Bool.or_true, Bool.true_or, Bool.and_true, Bool.true_and] at e
    have hl : s.args.length ≤ 2 := by
      rcases e with e | e
      · omega
      · omega
    refine Evt.thenM (Evt.range (fun k _ => ∀ j, j < k → SimpleOk (Am.get s.args j)) (fun _ => False) (fun r : Int × Int => r.1 ≠ 0) (fun j h => absurd h (Nat.not_lt_zero _)) (fun k u hk hj => ?_)) (fun t ht => Evt.pure fun _ => ⟨s, hl, by simp only [ExP, or_false] at ht; exact ht⟩) (fun r hr h => absurd h hr)
    unfold simpleValidate1_b0
    have := simple_size hk
    refine Evt.bind (ih _ (by omega) _ _) fun v hv => Evt.cond (fun e => Evt.pure ?_) (fun e => Evt.pure ?_)
    · simp only [Bool.cond_true_left, Bool.cond_false_right, Bool.not_eq_true', Bool.not_eq_false', Bool.or_eq_true, Bool.or_eq_false_iff, Bool.and_eq_true, Bool.and_eq_false_imp, Bool.not_true, Bool.not_false, decide_eq_true_eq, decide_eq_false_iff_not, Decidable.not_not, Int.not_lt, Int.not_le, Nat.not_lt, Nat.not_le, not_or, Bool.not_not, Bool.not_eq_true, Bool.true_eq_false, Bool.false_eq_true, Bool.or_true, Bool.true_or, Bool.and_true, Bool.true_and] at e
      exact e
    · simp only [Bool.cond_true_left, Bool.cond_false_right, Bool.not_eq_true', Bool.not_eq_false', Bool.or_eq_true, Bool.or_eq_false_iff, Bool.and_eq_true, Bool.and_eq_false_imp, Bool.not_true, Bool.not_false, decide_eq_true_eq, decide_eq_false_iff_not, Decidable.not_not, Int.not_lt, Int.not_le, Nat.not_lt, Nat.not_le, not_or, Bool.not_not, Bool.not_eq_true, Bool.true_eq_false, Bool.false_eq_true, Bool.or_true, Bool.true_or, Bool.and_true, Bool.true_and] at e
      intro j hj'
      by_cases ej : j = k
      · subst ej; exact hv e
      · exact hj j (by omega)
theorem simpleValidate_ev (s : ApiSimple) : Evt (fun n => simpleValidate n s) (fun f => f.code = 0 → SimpleOk s) := by
  unfold simpleValidate
  exact Evt.bind (simpleValidate1_ev _ s (Nat.le_refl _) _ _) fun v hv => Evt.pure hv

theorem simpleSame_ev : ∀ (m : Nat) (s : ApiSimple), SizeOf.sizeOf s ≤ m → SimpleOk s → ∀ t, Evt (fun n => simpleSame n s t) (fun _ => True) := by
  intro m
  induction m with
  | zero => intro s h; cases s; simp only [ApiSimple.mk.sizeOf_spec] at h; omega
  | succ m ih =>
    intro s hs ho t
    obtain ⟨_, hl, ho⟩ := ho
    refine Evt.succ ?_
    simp only [simpleSame]
    refine Evt.cond (fun _ => Evt.pure trivial) (fun e => ?_)
    simp only [Bool.cond_true_left, Bool.cond_false_right, Bool.not_eq_true', Bool.not_eq_false', Bool.or_eq_true, Bool.or_eq_false_iff, Bool.and_eq_true, Bool.and_eq_false_imp, Bool.not_true, Bool.not_false, decide_eq_true_eq, decide_eq_false_iff_not, Decidable.not_not, Int.not_lt, Int.not_le, Nat.not_lt, Nat.not_le, not_or, Bool.not_not, Bool.not_eq_true, Bool.true_eq_false, Bool.false_eq_true, Bool.or_true, Bool.true_or, Bool.and_true, Bool.true_and] at e
    refine Evt.chk (by omega) ?_
    refine Evt.thenM (Evt.range (fun _ _ => True) (fun _ => True) (fun _ => True) trivial (fun k u hk _ => ?_)) (fun t _ => Evt.pure trivial) (fun _ _ => trivial)
    unfold simpleSame_b0
    have := simple_size hk
    exact Evt.chk (by omega) (Evt.bind (ih _ (by omega) (ho k hk) _) fun v _ => Evt.cond (fun _ => Evt.pure trivial) (fun _ => Evt.pure trivial))

inductive TermOk : Int → ApiTerm → Prop
  | con (b : Int) (t : ApiTerm) (h : t.kind = 1) (hs : SimpleOk t.type) : TermOk b t
  | var (b : Int) (t : ApiTerm) (h : t.kind = 2) (h0 : 0 ≤ t.index) (h1 : t.index < b) : TermOk b t
  | abs (b : Int) (t : ApiTerm) (h : t.kind = 3) (hb : b ≤ 40) (hs : SimpleOk t.type) (hl : t.args.length = 1) (h0 : TermOk (b + 1) (Am.get t.args 0)) : TermOk b t
  | app (b : Int) (t : ApiTerm) (h : t.kind = 4) (hl : t.args.length = 2) (h0 : TermOk b (Am.get t.args 0)) (h1 : TermOk b (Am.get t.args 1)) : TermOk b t

theorem termValidate11_ev (a b : Int) {P : ApiFault → Prop} (h : P ⟨a, b⟩) : Evt (fun _ => termValidate11 a b) P := Evt.pure h
theorem termNone_ev (s : ApiSimple) : Evt (fun _ => termNone s) (fun _ => True) := Evt.pure trivial
/-- a refusal -/
theorem tv_bad {a b c : Int} {t : ApiTerm} {bd : Int} (h : a ≠ 0) : Evt (fun _ => (termValidate11 a b).bind fun v => some (v, c)) (fun r => r.1.code = 0 → TermOk bd t) :=
  Evt.bind (termValidate11_ev _ _ (P := Bad) (bad_of h)) fun v hv => Evt.pure fun e => absurd e hv

theorem termValidate1_ev : ∀ (m : Nat) (t : ApiTerm), SizeOf.sizeOf t ≤ m → ∀ d b c : Int, 0 ≤ b → b ≤ d → Evt (fun n => termValidate1 n t d b c) (fun r => r.1.code = 0 → TermOk b t) := by
  intro m
  induction m with
  | zero => intro s h; cases s; simp only [ApiTerm.mk.sizeOf_spec] at h; omega
  | succ m ih =>
    intro t ht d b c h0 h1
    refine Evt.succ ?_
    simp only [termValidate1]
    refine Evt.cond (fun _ => tv_bad (by decide)) (fun e => ?_)
    simp only [Bool.cond_true_left, Bool.cond_false_right, Bool.not_eq_true', Bool.not_eq_false', Bool.or_eq_true, Bool.or_eq_false_iff, Bool.and_eq_true, Bool.and_eq_false_imp, Bool.not_true, Bool.not_false, decide_eq_true_eq, decide_eq_false_iff_not, Decidable.not_not, Int.not_lt, Int.not_le, Nat.not_lt, Nat.not_le, not_or, Bool.not_not, Bool.not_eq_true, Bool.true_eq_false, Bool.false_eq_true, Bool.or_true, Bool.true_or, Bool.and_true, Bool.true_and] at e
    have hd := e.2
    have hw1 : wr .i64 (d + 1) = d + 1 := wr_id (by omega) (by omega)
    have hw2 : wr .i64 (b + 1) = b + 1 := wr_id (by omega) (by omega)
    rw [hw1, hw2]
    refine Evt.cond (fun k => ?_) (fun _ => Evt.cond (fun k => ?_) (fun _ => Evt.cond (fun k => ?_) (fun _ => Evt.cond (fun k => ?_) (fun _ => tv_bad (by decide)))))
    · simp only [Bool.cond_true_left, Bool.cond_false_right, Bool.not_eq_true', Bool.not_eq_false', Bool.or_eq_true, Bool.or_eq_false_iff, Bool.and_eq_true, Bool.and_eq_false_imp, Bool.not_true, Bool.not_false, decide_eq_true_eq, decide_eq_false_iff_not, Decidable.not_not, Int.not_lt, Int.not_le, Nat.not_lt, Nat.not_le, not_or, Bool.not_not, Bool.not_eq_true, Bool.true_eq_false, Bool.false_eq_true, Bool.or_true, Bool.true_or, Bool.and_true, Bool.true_and] at k
      refine Evt.cond (fun _ => tv_bad (by decide)) (fun _ => Evt.bind (termName_ev _) fun v _ => Evt.cond (fun _ => tv_bad (by decide)) (fun _ => Evt.bind (simpleValidate_ev _) fun f hf => Evt.cond (fun _ => tv_bad (by decide)) (fun e => Evt.pure fun _ => ?_)))
      simp only [Bool.cond_true_left, Bool.cond_false_right, Bool.not_eq_true', Bool.not_eq_false', Bool.or_eq_true, Bool.or_eq_false_iff, Bool.and_eq_true, Bool.and_eq_false_imp, Bool.not_true, Bool.not_false, decide_eq_true_eq, decide_eq_false_iff_not, Decidable.not_not, Int.not_lt, Int.not_le, Nat.not_lt, Nat.not_le, not_or, Bool.not_not, Bool.not_eq_true, Bool.true_eq_false, Bool.false_eq_true, Bool.or_true, Bool.true_or, Bool.and_true, Bool.true_and] at e
      exact .con _ _ k (hf e)
    · simp only [Bool.cond_true_left, Bool.cond_false_right, Bool.not_eq_true', Bool.not_eq_false', Bool.or_eq_true, Bool.or_eq_false_iff, Bool.and_eq_true, Bool.and_eq_false_imp, Bool.not_true, Bool.not_false, decide_eq_true_eq, decide_eq_false_iff_not, Decidable.not_not, Int.not_lt, Int.not_le, Nat.not_lt, Nat.not_le, not_or, Bool.not_not, Bool.not_eq_true, Bool.true_eq_false, Bool.false_eq_true, Bool.or_true, Bool.true_or, Bool.and_true, Bool.true_and] at k
      refine Evt.bind (Evt.gd (fun _ => termNone_ev _) (fun _ => trivial)) fun v _ => Evt.cond (fun _ => tv_bad (by decide)) (fun _ => Evt.cond (fun _ => tv_bad (by decide)) (fun e => Evt.pure fun _ => ?_))
      simp only [Bool.cond_true_left, Bool.cond_false_right, Bool.not_eq_true', Bool.not_eq_false', Bool.or_eq_true, Bool.or_eq_false_iff, Bool.and_eq_true, Bool.and_eq_false_imp, Bool.not_true, Bool.not_false, decide_eq_true_eq, decide_eq_false_iff_not, Decidable.not_not, Int.not_lt, Int.not_le, Nat.not_lt, Nat.not_le, not_or, Bool.not_not, Bool.not_eq_true, Bool.true_eq_false, Bool.false_eq_true, Bool.or_true, Bool.true_or, Bool.and_true, Bool.true_and] at e
      exact .var _ _ k e.1 e.2
    · simp only [Bool.cond_true_left, Bool.cond_false_right, Bool.not_eq_true', Bool.not_eq_false', Bool.or_eq_true, Bool.or_eq_false_iff, Bool.and_eq_true, Bool.and_eq_false_imp, Bool.not_true, Bool.not_false, decide_eq_true_eq, decide_eq_false_iff_not, Decidable.not_not, Int.not_lt, Int.not_le, Nat.not_lt, Nat.not_le, not_or, Bool.not_not, Bool.not_eq_true, Bool.true_eq_false, Bool.false_eq_true, Bool.or_true, Bool.true_or, Bool.and_true, Bool.true_and] at k
      refine Evt.cond (fun _ => tv_bad (by decide)) (fun e => ?_)
      simp only [Bool.cond_true_left, Bool.cond_false_right, Bool.not_eq_true', Bool.not_eq_false', Bool.or_eq_true, Bool.or_eq_false_iff, Bool.and_eq_true, Bool.and_eq_false_imp, Bool.not_true, Bool.not_false, decide_eq_true_eq, decide_eq_false_iff_not, Decidable.not_not, Int.not_lt, Int.not_le, Nat.not_lt, Nat.not_le, not_or, Bool.not_not, Bool.not_eq_true, Bool.true_eq_false, Bool.false_eq_true, Bool.or_true, Bool.true_or, Bool.and_true, Bool.true_and] at e
      have hl : t.args.length = 1 := by omega
      have := term_size (s := t) (k := 0) (by omega)
      refine Evt.bind (simpleValidate_ev _) fun f hf => Evt.cond (fun _ => tv_bad (by decide)) (fun e2 => ?_)
      simp only [Bool.cond_true_left, Bool.cond_false_right, Bool.not_eq_true', Bool.not_eq_false', Bool.or_eq_true, Bool.or_eq_false_iff, Bool.and_eq_true, Bool.and_eq_false_imp, Bool.not_true, Bool.not_false, decide_eq_true_eq, decide_eq_false_iff_not, Decidable.not_not, Int.not_lt, Int.not_le, Nat.not_lt, Nat.not_le, not_or, Bool.not_not, Bool.not_eq_true, Bool.true_eq_false, Bool.false_eq_true, Bool.or_true, Bool.true_or, Bool.and_true, Bool.true_and] at e2
      exact Evt.chk (by omega) (Evt.bind (ih _ (by omega) _ _ _ (by omega) (by omega)) fun v hv => Evt.pure fun e3 => .abs _ _ k (by omega) (hf e2) hl (hv e3))
    · simp only [Bool.cond_true_left, Bool.cond_false_right, Bool.not_eq_true', Bool.not_eq_false', Bool.or_eq_true, Bool.or_eq_false_iff, Bool.and_eq_true, Bool.and_eq_false_imp, Bool.not_true, Bool.not_false, decide_eq_true_eq, decide_eq_false_iff_not, Decidable.not_not, Int.not_lt, Int.not_le, Nat.not_lt, Nat.not_le, not_or, Bool.not_not, Bool.not_eq_true, Bool.true_eq_false, Bool.false_eq_true, Bool.or_true, Bool.true_or, Bool.and_true, Bool.true_and] at k
      refine Evt.bind (Evt.gd (fun _ => termNone_ev _) (fun _ => trivial)) fun v _ => Evt.cond (fun _ => tv_bad (by decide)) (fun e => ?_)
      simp only [Bool.cond_true_left, Bool.cond_false_right, Bool.not_eq_true', Bool.not_eq_false', Bool.or_eq_true, Bool.or_eq_false_iff, Bool.and_eq_true, Bool.and_eq_false_imp, Bool.not_true, Bool.not_false, decide_eq_true_eq, decide_eq_false_iff_not, Decidable.not_not, Int.not_lt, Int.not_le, Nat.not_lt, Nat.not_le, not_or, Bool.not_not, Bool.not_eq_true, Bool.true_eq_false, Bool.false_eq_true, Bool.or_true, Bool.true_or, Bool.and_true, Bool.true_and] at e
      have hl : t.args.length = 2 := by omega
      have s0 := term_size (s := t) (k := 0) (by omega)
      have s1 := term_size (s := t) (k := 1) (by omega)
      refine Evt.chk (by omega) (Evt.bind (ih _ (by omega) _ _ _ h0 (by omega)) fun v hv => Evt.cond (fun e3 => Evt.pure fun e4 => ?_) (fun e3 => ?_))
      · simp only [Bool.cond_true_left, Bool.cond_false_right, Bool.not_eq_true', Bool.not_eq_false', Bool.or_eq_true, Bool.or_eq_false_iff, Bool.and_eq_true, Bool.and_eq_false_imp, Bool.not_true, Bool.not_false, decide_eq_true_eq, decide_eq_false_iff_not, Decidable.not_not, Int.not_lt, Int.not_le, Nat.not_lt, Nat.not_le, not_or, Bool.not_not, Bool.not_eq_true, Bool.true_eq_false, Bool.false_eq_true, Bool.or_true, Bool.true_or, Bool.and_true, Bool.true_and] at e3
        exact absurd e4 e3
      · simp only [Bool.cond_true_left, Bool.cond_false_right, Bool.not_eq_true', Bool.not_eq_false', Bool.or_eq_true, Bool.or_eq_false_iff, Bool.and_eq_true, Bool.and_eq_false_imp, Bool.not_true, Bool.not_false, decide_eq_true_eq, decide_eq_false_iff_not, Decidable.not_not, Int.not_lt, Int.not_le, Nat.not_lt, Nat.not_le, not_or, Bool.not_not, Bool.not_eq_true, Bool.true_eq_false, Bool.false_eq_true, Bool.or_true, Bool.true_or, Bool.and_true, Bool.true_and] at e3
        exact Evt.chk (by omega) (Evt.bind (ih _ (by omega) _ _ _ h0 (by omega)) fun u hu => Evt.pure fun e4 => .app _ _ k hl (hv e3) (hu e4))

theorem simpleOk_nil : SimpleOk (ApiSimple.mk [] []) := ⟨_, by show 0 ≤ 2; omega, fun k h => absurd h (Nat.not_lt_zero _)⟩
theorem simpleOk_pair {a b : ApiSimple} (ha : SimpleOk a) (hb : SimpleOk b) : SimpleOk (ApiSimple.mk [] [a, b]) := ⟨_, by show 2 ≤ 2; omega, fun k h => by
  have : k < 2 := h
  match k, this with
  | 0, _ => exact ha
  | 1, _ => exact hb⟩

theorem typed_app {f x : ApiSimple × Bool} (hf : SimpleOk f.1) : Evt (fun n =>
    chk (gImp (!(bif (bif (!f.2) then true else (!x.2)) then true else (!decide ((f.1.args.length : Int) = 2)))) (0 < (f.1.args.length : Int))) <|
    (gd (!(bif (bif (!f.2) then true else (!x.2)) then true else (!decide ((f.1.args.length : Int) = 2)))) (simpleSame n (Am.get f.1.args 0) x.1) default).bind fun v22 =>
    bif (bif (bif (bif (!f.2) then true else (!x.2)) then true else (!decide ((f.1.args.length : Int) = 2))) then true else (!v22)) then
      some ((ApiSimple.mk [] []), false)
    else
      chk (1 < (f.1.args.length : Int)) <|
      some ((Am.get f.1.args 1), true)) (fun r => SimpleOk r.1) := by
  obtain ⟨_, hl, ho⟩ := hf
  refine Evt.chk (gImp_of fun e => ?_) (Evt.bind (P := fun _ => True) (Evt.gd (fun e => ?_) (fun _ => trivial)) fun v _ => Evt.cond (fun _ => Evt.pure simpleOk_nil) (fun e => ?_))
  · simp only [Bool.cond_true_left, Bool.cond_false_right, Bool.not_eq_true', Bool.not_eq_false', Bool.or_eq_true, Bool.or_eq_false_iff, Bool.and_eq_true, Bool.and_eq_false_imp, Bool.not_true, Bool.not_false, decide_eq_true_eq, decide_eq_false_iff_not, Decidable.not_not, Int.not_lt, Int.not_le, Nat.not_lt, Nat.not_le, not_or, Bool.not_not, Bool.not_eq_true, Bool.true_eq_false, Bool.false_eq_true, Bool.or_true, Bool.true_or, Bool.and_true, Bool.true_and] at e
    omega
  · simp only [Bool.cond_true_left, Bool.cond_false_right, Bool.not_eq_true', Bool.not_eq_false', Bool.or_eq_true, Bool.or_eq_false_iff, Bool.and_eq_true, Bool.and_eq_false_imp, Bool.not_true, Bool.not_false, decide_eq_true_eq, decide_eq_false_iff_not, Decidable.not_not, Int.not_lt, Int.not_le, Nat.not_lt, Nat.not_le, not_or, Bool.not_not, Bool.not_eq_true, Bool.true_eq_false, Bool.false_eq_true, Bool.or_true, Bool.true_or, Bool.and_true, Bool.true_and] at e
    exact simpleSame_ev _ _ (Nat.le_refl _) (ho 0 (by omega)) _
  · simp only [Bool.cond_true_left, Bool.cond_false_right, Bool.not_eq_true', Bool.not_eq_false', Bool.or_eq_true, Bool.or_eq_false_iff, Bool.and_eq_true, Bool.and_eq_false_imp, Bool.not_true, Bool.not_false, decide_eq_true_eq, decide_eq_false_iff_not, Decidable.not_not, Int.not_lt, Int.not_le, Nat.not_lt, Nat.not_le, not_or, Bool.not_not, Bool.not_eq_true, Bool.true_eq_false, Bool.false_eq_true, Bool.or_true, Bool.true_or, Bool.and_true, Bool.true_and] at e
    exact Evt.chk (by omega) (Evt.pure (ho 1 (by omega)))

theorem typed_var {l : List ApiSimple} {b : Int} {t : ApiTerm} (hb : b = l.length) (h0 : 0 ≤ t.index) (h1 : t.index < b) (hL : l.length ≤ 1000) :
    0 ≤ wr .i64 (wr .i64 ((l.length : Int) - 1) - t.index) ∧ wr .i64 (wr .i64 ((l.length : Int) - 1) - t.index) < l.length := by
  rw [wr_id (n := (l.length : Int) - 1) (by omega) (by omega), wr_id (by omega) (by omega)]
  omega

theorem termTyped2_ev {t : ApiTerm} {b : Int} (h : TermOk b t) : ∀ l : List ApiSimple, b = l.length → l.length ≤ 41 → (∀ k, k < l.length → SimpleOk (Am.get l k)) → Evt (fun n => termTyped_2 n t l) (fun r => SimpleOk r.1) := by
  induction h with
  | con b t hk hs =>
    intro l hb hL hl
    refine Evt.succ ?_
    simp only [termTyped_2, hk, Int.reduceEq, decide_false, decide_true, cond_false, cond_true]
    exact Evt.pure hs
  | var b t hk h0 h1 =>
    intro l hb hL hl
    refine Evt.succ ?_
    simp only [termTyped_2, hk, Int.reduceEq, decide_false, decide_true, cond_false, cond_true]
    have hv := typed_var hb h0 h1 (by omega)
    exact Evt.chk hv (Evt.pure (hl _ (by omega)))
  | abs b t hk hb40 hs hlen h0 ih =>
    intro l hb hL hl
    refine Evt.succ ?_
    simp only [termTyped_2, hk, Int.reduceEq, decide_false, decide_true, cond_false, cond_true]
    have e : (l ++ [t.type]).length = l.length + 1 := by simp
    refine Evt.chk (by omega) (Evt.letM (Evt.chk (by rw [e, top_eq]; omega) (Evt.chk (by omega) (Evt.bind (ih _ (by rw [e]; omega) (by rw [e]; omega) (fun k hk2 => ?_)) fun v hv => Evt.pure (simpleOk_pair hs hv)))))
    rw [e] at hk2
    by_cases ek : k = l.length
    · subst ek; rw [get_app_new]; exact hs
    · rw [get_app_l (by omega)]; exact hl k (by omega)
  | app b t hk hlen h0 h1 ih0 ih1 =>
    intro l hb hL hl
    refine Evt.succ ?_
    simp only [termTyped_2, hk, Int.reduceEq, decide_false, decide_true, cond_false, cond_true]
    exact Evt.chk (by omega) (Evt.bind (ih0 l hb hL hl) fun f hf => Evt.chk (by omega) (Evt.bind (ih1 l hb hL hl) fun x hx => typed_app hf))

theorem termTyped_ev {t : ApiTerm} {b : Int} (h : TermOk b t) : ∀ l : List ApiSimple, b = l.length → l.length ≤ 40 → (∀ k, k < l.length → SimpleOk (Am.get l k)) → Evt (fun n => termTyped n t l) (fun r => SimpleOk r.1) := by
  induction h with
  | con b t hk hs =>
    intro l hb hL hl
    refine Evt.succ ?_
    simp only [termTyped, hk, Int.reduceEq, decide_false, decide_true, cond_false, cond_true]
    exact Evt.pure hs
  | var b t hk h0 h1 =>
    intro l hb hL hl
    refine Evt.succ ?_
    simp only [termTyped, hk, Int.reduceEq, decide_false, decide_true, cond_false, cond_true]
    have hv := typed_var hb h0 h1 (by omega)
    exact Evt.chk hv (Evt.pure (hl _ (by omega)))
  | abs b t hk hb40 hs hlen h0 ih =>
    intro l hb hL hl
    refine Evt.succ ?_
    simp only [termTyped, hk, Int.reduceEq, decide_false, decide_true, cond_false, cond_true]
    have e : (l ++ [t.type]).length = l.length + 1 := by simp
    refine Evt.chk (by omega) (Evt.letM (Evt.chk (by rw [e, top_eq]; omega) (Evt.chk (by omega) (Evt.bind (termTyped2_ev h0 _ (by rw [e]; omega) (by rw [e]; omega) (fun k hk2 => ?_)) fun v hv => Evt.pure (simpleOk_pair hs hv)))))
    rw [e] at hk2
    by_cases ek : k = l.length
    · subst ek; rw [get_app_new]; exact hs
    · rw [get_app_l (by omega)]; exact hl k (by omega)
  | app b t hk hlen h0 h1 ih0 ih1 =>
    intro l hb hL hl
    refine Evt.succ ?_
    simp only [termTyped, hk, Int.reduceEq, decide_false, decide_true, cond_false, cond_true]
    exact Evt.chk (by omega) (Evt.bind (ih0 l hb hL hl) fun f hf => Evt.chk (by omega) (Evt.bind (ih1 l hb hL hl) fun x hx => typed_app hf))

theorem termValidate_ev (t : ApiTerm) : Evt (fun n => termValidate n t) (fun _ => True) := by
  unfold termValidate
  refine Evt.bind (termValidate1_ev _ t (Nat.le_refl _) 1 0 0 (by omega) (by omega)) fun v hv => Evt.cond (fun _ => Evt.pure trivial) (fun e => ?_)
  simp only [Bool.cond_true_left, Bool.cond_false_right, Bool.not_eq_true', Bool.not_eq_false', Bool.or_eq_true, Bool.or_eq_false_iff, Bool.and_eq_true, Bool.and_eq_false_imp, Bool.not_true, Bool.not_false, decide_eq_true_eq, decide_eq_false_iff_not, Decidable.not_not, Int.not_lt, Int.not_le, Nat.not_lt, Nat.not_le, not_or, Bool.not_not, Bool.not_eq_true, Bool.true_eq_false, Bool.false_eq_true, Bool.or_true, Bool.true_or, Bool.and_true, Bool.true_and] at e
  refine Evt.bind (termTyped_ev (hv e) [] rfl (by simp) (fun k h => absurd h (Nat.not_lt_zero _))) fun r _ => ?_
  exact Evt.cond (fun _ => Evt.pure trivial) (fun _ => Evt.pure trivial)

theorem grammarRule_ev {h : ApiHierarchy} (hh : HierOk h) {t : HierarchyTable} (ht : TabOk h.types.length t) (r : ApiRule) : Evt (fun n => grammarRule n h t r) (fun _ => True) := by
  unfold grammarRule
  refine Evt.cond (fun _ => Evt.pure trivial) (fun _ => Evt.bind (graphWithin_ev hh ht _) fun f hf => Evt.cond (fun _ => Evt.pure trivial) (fun e => ?_))
  simp only [Bool.cond_true_left, Bool.cond_false_right, Bool.not_eq_true', Bool.not_eq_false', Bool.or_eq_true, Bool.or_eq_false_iff, Bool.and_eq_true, Bool.and_eq_false_imp, Bool.not_true, Bool.not_false, decide_eq_true_eq, decide_eq_false_iff_not, Decidable.not_not, Int.not_lt, Int.not_le, Nat.not_lt, Nat.not_le, not_or, Bool.not_not, Bool.not_eq_true, Bool.true_eq_false, Bool.false_eq_true, Bool.or_true, Bool.true_or, Bool.and_true, Bool.true_and] at e
  exact Evt.bind (lexrulePlaces_ev (hf e) hh.feats _) fun b _ => Evt.cond (fun _ => Evt.pure trivial) (fun _ => Evt.bind (termValidate_ev _) fun v _ => Evt.pure trivial)

end Go.Proofs.YtaohdfpcdfbnlaaDoor

