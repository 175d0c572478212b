import Derived.Test.YtaohdfpcdfbnlaaGreatDoorVal2
set_option linter.unusedVariables false
set_option linter.unusedSimpArgs false
namespace Go.Proofs.YtaohdfpcdfbnlaaGreatDoor
open Go Go.Am
theorem get_mem {α : Type} [Inhabited α] {l : List α} {k : Nat} (h : k < l.length) : Am.get l k ∈ l := by
 unfold Am.get
 rw [List.getD_eq_getElem?_getD, List.getElem?_eq_getElem h]
 exact List.getElem_mem h
theorem iN {s : u0} {k : Nat} (h : k < s.args.length) : SizeOf.sizeOf (Am.get s.args k) < SizeOf.sizeOf s := by
 cases s with
 | mk b a =>
  have := List.sizeOf_lt_of_mem (get_mem (l := a) h)
  show SizeOf.sizeOf (Am.get a k) < _
  simp only [u0.mk.sizeOf_spec]
  omega
theorem jB {s : w5} {k : Nat} (h : k < s.args.length) : SizeOf.sizeOf (Am.get s.args k) < SizeOf.sizeOf s := by
 cases s with
 | mk a b c d e =>
  have := List.sizeOf_lt_of_mem (get_mem (l := e) h)
  show SizeOf.sizeOf (Am.get e k) < _
  simp only [w5.mk.sizeOf_spec]
  omega
inductive S2 : u0 → Prop
 | mk (s : u0) (hl : s.args.length ≤ 2) (h : ∀ k, k < s.args.length → S2 (Am.get s.args k)) : S2 s
theorem mz : ∀ (m : Nat) (s : u0), SizeOf.sizeOf s ≤ m → ∀ d b : Int, Evt (fun n => Q8 n s d b) (fun r => r.1 = 0 → S2 s) := by
 intro m
 induction m with
 | zero => intro s h; cases s; simp only [u0.mk.sizeOf_spec] at h; omega
 | succ m ih =>
  intro s hs d b
  refine Evt.succ ?_
  simp only [Q8]
  refine Evt.cond (fun _ => Evt.pure fun h => absurd (show (1 : Int) = 0 from h) (by decide)) (fun _ => Evt.cond (fun _ => Evt.pure fun h => absurd (show (5 : Int) = 0 from h) (by decide)) (fun e => ?_))
  simp only [Bool.cond_true_left, Bool.cond_false_right, Bool.not_eq_true', Bool.not_eq_false', Bool.or_eq_true, Bool.or_eq_false_iff, Bool.and_eq_true, Bool.and_eq_false_imp, Bool.not_true, Bool.not_false, decide_eq_true_eq, decide_eq_false_iff_not, Decidable.not_not, Int.not_lt, Int.not_le, Nat.not_lt, Nat.not_le, not_or, Bool.not_not, Bool.not_eq_true, Bool.true_eq_false, Bool.false_eq_true, Bool.or_true, Bool.true_or, Bool.and_true, Bool.true_and] at e
  have hl : s.args.length ≤ 2 := by
   rcases e with e | e
   ·omega
   ·omega
  refine Evt.E0 (Evt.range (fun k _ => ∀ j, j < k → S2 (Am.get s.args j)) (fun _ => False) (fun r : Int × Int => r.1 ≠ 0) (fun j h => absurd h (Nat.not_lt_zero _)) (fun k u hk hj => ?_)) (fun t ht => Evt.pure fun _ => ⟨s, hl, by simp only [ExP, or_false] at ht; exact ht⟩) (fun r hr h => absurd h hr)
  unfold aD
  have := iN hk
  refine Evt.bind (ih _ (by omega) _ _) fun v hv => Evt.cond (fun e => Evt.pure ?_) (fun e => Evt.pure ?_)
  ·simp only [Bool.cond_true_left, Bool.cond_false_right, Bool.not_eq_true', Bool.not_eq_false', Bool.or_eq_true, Bool.or_eq_false_iff, Bool.and_eq_true, Bool.and_eq_false_imp, Bool.not_true, Bool.not_false, decide_eq_true_eq, decide_eq_false_iff_not, Decidable.not_not, Int.not_lt, Int.not_le, Nat.not_lt, Nat.not_le, not_or, Bool.not_not, Bool.not_eq_true, Bool.true_eq_false, Bool.false_eq_true, Bool.or_true, Bool.true_or, Bool.and_true, Bool.true_and] at e
   exact e
  ·simp only [Bool.cond_true_left, Bool.cond_false_right, Bool.not_eq_true', Bool.not_eq_false', Bool.or_eq_true, Bool.or_eq_false_iff, Bool.and_eq_true, Bool.and_eq_false_imp, Bool.not_true, Bool.not_false, decide_eq_true_eq, decide_eq_false_iff_not, Decidable.not_not, Int.not_lt, Int.not_le, Nat.not_lt, Nat.not_le, not_or, Bool.not_not, Bool.not_eq_true, Bool.true_eq_false, Bool.false_eq_true, Bool.or_true, Bool.true_or, Bool.and_true, Bool.true_and] at e
   intro j hj'
   by_cases ej : j = k
   ·subst ej; exact hv e
   ·exact hj j (by omega)
theorem iC (s : u0) : Evt (fun n => ao n s) (fun f => f.code = 0 → S2 s) := by
 unfold ao
 exact Evt.bind (mz _ s (Nat.le_refl _) _ _) fun v hv => Evt.pure hv
theorem sR : ∀ (m : Nat) (s : u0), SizeOf.sizeOf s ≤ m → S2 s → ∀ t, Evt (fun n => bD n s t) (fun _ => True) := by
 intro m
 induction m with
 | zero => intro s h; cases s; simp only [u0.mk.sizeOf_spec] at h; omega
 | succ m ih =>
  intro s hs ho t
  obtain ⟨_, hl, ho⟩ := ho
  refine Evt.succ ?_
  simp only [bD]
  refine Evt.cond (fun _ => Evt.pure trivial) (fun e => ?_)
  simp only [Bool.cond_true_left, Bool.cond_false_right, Bool.not_eq_true', Bool.not_eq_false', Bool.or_eq_true, Bool.or_eq_false_iff, Bool.and_eq_true, Bool.and_eq_false_imp, Bool.not_true, Bool.not_false, decide_eq_true_eq, decide_eq_false_iff_not, Decidable.not_not, Int.not_lt, Int.not_le, Nat.not_lt, Nat.not_le, not_or, Bool.not_not, Bool.not_eq_true, Bool.true_eq_false, Bool.false_eq_true, Bool.or_true, Bool.true_or, Bool.and_true, Bool.true_and] at e
  refine Evt.chk (by omega) ?_
  refine Evt.E0 (Evt.range (fun _ _ => True) (fun _ => True) (fun _ => True) trivial (fun k u hk _ => ?_)) (fun t _ => Evt.pure trivial) (fun _ _ => trivial)
  unfold fB
  have := iN hk
  exact Evt.chk (by omega) (Evt.bind (ih _ (by omega) (ho k hk) _) fun v _ => Evt.cond (fun _ => Evt.pure trivial) (fun _ => Evt.pure trivial))
inductive jR : Int → w5 → Prop
 | con (b : Int) (t : w5) (h : t.kind = 1) (hs : S2 t.type) : jR b t
 | var (b : Int) (t : w5) (h : t.kind = 2) (h0 : 0 ≤ t.index) (h1 : t.index < b) : jR b t
 | abs (b : Int) (t : w5) (h : t.kind = 3) (hb : b ≤ 40) (hs : S2 t.type) (hl : t.args.length = 1) (h0 : jR (b + 1) (Am.get t.args 0)) : jR b t
 | app (b : Int) (t : w5) (h : t.kind = 4) (hl : t.args.length = 2) (h0 : jR b (Am.get t.args 0)) (h1 : jR b (Am.get t.args 1)) : jR b t
theorem nu (a b : Int) {P : y7 → Prop} (h : P ⟨a, b⟩) : Evt (fun _ => I0 a b) P := Evt.pure h
theorem qh (s : u0) : Evt (fun _ => mo s) (fun _ => True) := Evt.pure trivial
theorem kR {a b c : Int} {t : w5} {bd : Int} (h : a ≠ 0) : Evt (fun _ => (I0 a b).bind fun v => some (v, c)) (fun r => r.1.code = 0 → jR bd t) :=
 Evt.bind (nu _ _ (P := Bad) (cN h)) fun v hv => Evt.pure fun e => absurd e hv
theorem og : ∀ (m : Nat) (t : w5), SizeOf.sizeOf t ≤ m → ∀ d b c : Int, 0 ≤ b → b ≤ d → Evt (fun n => T8 n t d b c) (fun r => r.1.code = 0 → jR b t) := by
 intro m
 induction m with
 | zero => intro s h; cases s; simp only [w5.mk.sizeOf_spec] at h; omega
 | succ m ih =>
  intro t ht d b c h0 h1
  refine Evt.succ ?_
  simp only [T8]
  refine Evt.cond (fun _ => kR (by decide)) (fun e => ?_)
  simp only [Bool.cond_true_left, Bool.cond_false_right, Bool.not_eq_true', Bool.not_eq_false', Bool.or_eq_true, Bool.or_eq_false_iff, Bool.and_eq_true, Bool.and_eq_false_imp, Bool.not_true, Bool.not_false, decide_eq_true_eq, decide_eq_false_iff_not, Decidable.not_not, Int.not_lt, Int.not_le, Nat.not_lt, Nat.not_le, not_or, Bool.not_not, Bool.not_eq_true, Bool.true_eq_false, Bool.false_eq_true, Bool.or_true, Bool.true_or, Bool.and_true, Bool.true_and] at e
  have hd := e.2
  have hw1 : wr .i64 (d + 1) = d + 1 := W0 (by omega) (by omega)
  have hw2 : wr .i64 (b + 1) = b + 1 := W0 (by omega) (by omega)
  rw [hw1, hw2]
  refine Evt.cond (fun k => ?_) (fun _ => Evt.cond (fun k => ?_) (fun _ => Evt.cond (fun k => ?_) (fun _ => Evt.cond (fun k => ?_) (fun _ => kR (by decide)))))
  ·simp only [Bool.cond_true_left, Bool.cond_false_right, Bool.not_eq_true', Bool.not_eq_false', Bool.or_eq_true, Bool.or_eq_false_iff, Bool.and_eq_true, Bool.and_eq_false_imp, Bool.not_true, Bool.not_false, decide_eq_true_eq, decide_eq_false_iff_not, Decidable.not_not, Int.not_lt, Int.not_le, Nat.not_lt, Nat.not_le, not_or, Bool.not_not, Bool.not_eq_true, Bool.true_eq_false, Bool.false_eq_true, Bool.or_true, Bool.true_or, Bool.and_true, Bool.true_and] at k
   refine Evt.cond (fun _ => kR (by decide)) (fun _ => Evt.bind (iW _) fun v _ => Evt.cond (fun _ => kR (by decide)) (fun _ => Evt.bind (iC _) fun f hf => Evt.cond (fun _ => kR (by decide)) (fun e => Evt.pure fun _ => ?_)))
   simp only [Bool.cond_true_left, Bool.cond_false_right, Bool.not_eq_true', Bool.not_eq_false', Bool.or_eq_true, Bool.or_eq_false_iff, Bool.and_eq_true, Bool.and_eq_false_imp, Bool.not_true, Bool.not_false, decide_eq_true_eq, decide_eq_false_iff_not, Decidable.not_not, Int.not_lt, Int.not_le, Nat.not_lt, Nat.not_le, not_or, Bool.not_not, Bool.not_eq_true, Bool.true_eq_false, Bool.false_eq_true, Bool.or_true, Bool.true_or, Bool.and_true, Bool.true_and] at e
   exact .con _ _ k (hf e)
  ·simp only [Bool.cond_true_left, Bool.cond_false_right, Bool.not_eq_true', Bool.not_eq_false', Bool.or_eq_true, Bool.or_eq_false_iff, Bool.and_eq_true, Bool.and_eq_false_imp, Bool.not_true, Bool.not_false, decide_eq_true_eq, decide_eq_false_iff_not, Decidable.not_not, Int.not_lt, Int.not_le, Nat.not_lt, Nat.not_le, not_or, Bool.not_not, Bool.not_eq_true, Bool.true_eq_false, Bool.false_eq_true, Bool.or_true, Bool.true_or, Bool.and_true, Bool.true_and] at k
   refine Evt.bind (Evt.gd (fun _ => qh _) (fun _ => trivial)) fun v _ => Evt.cond (fun _ => kR (by decide)) (fun _ => Evt.cond (fun _ => kR (by decide)) (fun e => Evt.pure fun _ => ?_))
   simp only [Bool.cond_true_left, Bool.cond_false_right, Bool.not_eq_true', Bool.not_eq_false', Bool.or_eq_true, Bool.or_eq_false_iff, Bool.and_eq_true, Bool.and_eq_false_imp, Bool.not_true, Bool.not_false, decide_eq_true_eq, decide_eq_false_iff_not, Decidable.not_not, Int.not_lt, Int.not_le, Nat.not_lt, Nat.not_le, not_or, Bool.not_not, Bool.not_eq_true, Bool.true_eq_false, Bool.false_eq_true, Bool.or_true, Bool.true_or, Bool.and_true, Bool.true_and] at e
   exact .var _ _ k e.1 e.2
  ·simp only [Bool.cond_true_left, Bool.cond_false_right, Bool.not_eq_true', Bool.not_eq_false', Bool.or_eq_true, Bool.or_eq_false_iff, Bool.and_eq_true, Bool.and_eq_false_imp, Bool.not_true, Bool.not_false, decide_eq_true_eq, decide_eq_false_iff_not, Decidable.not_not, Int.not_lt, Int.not_le, Nat.not_lt, Nat.not_le, not_or, Bool.not_not, Bool.not_eq_true, Bool.true_eq_false, Bool.false_eq_true, Bool.or_true, Bool.true_or, Bool.and_true, Bool.true_and] at k
   refine Evt.cond (fun _ => kR (by decide)) (fun e => ?_)
   simp only [Bool.cond_true_left, Bool.cond_false_right, Bool.not_eq_true', Bool.not_eq_false', Bool.or_eq_true, Bool.or_eq_false_iff, Bool.and_eq_true, Bool.and_eq_false_imp, Bool.not_true, Bool.not_false, decide_eq_true_eq, decide_eq_false_iff_not, Decidable.not_not, Int.not_lt, Int.not_le, Nat.not_lt, Nat.not_le, not_or, Bool.not_not, Bool.not_eq_true, Bool.true_eq_false, Bool.false_eq_true, Bool.or_true, Bool.true_or, Bool.and_true, Bool.true_and] at e
   have hl : t.args.length = 1 := by omega
   have := jB (s := t) (k := 0) (by omega)
   refine Evt.bind (iC _) fun f hf => Evt.cond (fun _ => kR (by decide)) (fun e2 => ?_)
   simp only [Bool.cond_true_left, Bool.cond_false_right, Bool.not_eq_true', Bool.not_eq_false', Bool.or_eq_true, Bool.or_eq_false_iff, Bool.and_eq_true, Bool.and_eq_false_imp, Bool.not_true, Bool.not_false, decide_eq_true_eq, decide_eq_false_iff_not, Decidable.not_not, Int.not_lt, Int.not_le, Nat.not_lt, Nat.not_le, not_or, Bool.not_not, Bool.not_eq_true, Bool.true_eq_false, Bool.false_eq_true, Bool.or_true, Bool.true_or, Bool.and_true, Bool.true_and] at e2
   exact Evt.chk (by omega) (Evt.bind (ih _ (by omega) _ _ _ (by omega) (by omega)) fun v hv => Evt.pure fun e3 => .abs _ _ k (by omega) (hf e2) hl (hv e3))
  ·simp only [Bool.cond_true_left, Bool.cond_false_right, Bool.not_eq_true', Bool.not_eq_false', Bool.or_eq_true, Bool.or_eq_false_iff, Bool.and_eq_true, Bool.and_eq_false_imp, Bool.not_true, Bool.not_false, decide_eq_true_eq, decide_eq_false_iff_not, Decidable.not_not, Int.not_lt, Int.not_le, Nat.not_lt, Nat.not_le, not_or, Bool.not_not, Bool.not_eq_true, Bool.true_eq_false, Bool.false_eq_true, Bool.or_true, Bool.true_or, Bool.and_true, Bool.true_and] at k
   refine Evt.bind (Evt.gd (fun _ => qh _) (fun _ => trivial)) fun v _ => Evt.cond (fun _ => kR (by decide)) (fun e => ?_)
   simp only [Bool.cond_true_left, Bool.cond_false_right, Bool.not_eq_true', Bool.not_eq_false', Bool.or_eq_true, Bool.or_eq_false_iff, Bool.and_eq_true, Bool.and_eq_false_imp, Bool.not_true, Bool.not_false, decide_eq_true_eq, decide_eq_false_iff_not, Decidable.not_not, Int.not_lt, Int.not_le, Nat.not_lt, Nat.not_le, not_or, Bool.not_not, Bool.not_eq_true, Bool.true_eq_false, Bool.false_eq_true, Bool.or_true, Bool.true_or, Bool.and_true, Bool.true_and] at e
   have hl : t.args.length = 2 := by omega
   have s0 := jB (s := t) (k := 0) (by omega)
   have s1 := jB (s := t) (k := 1) (by omega)
   refine Evt.chk (by omega) (Evt.bind (ih _ (by omega) _ _ _ h0 (by omega)) fun v hv => Evt.cond (fun e3 => Evt.pure fun e4 => ?_) (fun e3 => ?_))
   ·simp only [Bool.cond_true_left, Bool.cond_false_right, Bool.not_eq_true', Bool.not_eq_false', Bool.or_eq_true, Bool.or_eq_false_iff, Bool.and_eq_true, Bool.and_eq_false_imp, Bool.not_true, Bool.not_false, decide_eq_true_eq, decide_eq_false_iff_not, Decidable.not_not, Int.not_lt, Int.not_le, Nat.not_lt, Nat.not_le, not_or, Bool.not_not, Bool.not_eq_true, Bool.true_eq_false, Bool.false_eq_true, Bool.or_true, Bool.true_or, Bool.and_true, Bool.true_and] at e3
    exact absurd e4 e3
   ·simp only [Bool.cond_true_left, Bool.cond_false_right, Bool.not_eq_true', Bool.not_eq_false', Bool.or_eq_true, Bool.or_eq_false_iff, Bool.and_eq_true, Bool.and_eq_false_imp, Bool.not_true, Bool.not_false, decide_eq_true_eq, decide_eq_false_iff_not, Decidable.not_not, Int.not_lt, Int.not_le, Nat.not_lt, Nat.not_le, not_or, Bool.not_not, Bool.not_eq_true, Bool.true_eq_false, Bool.false_eq_true, Bool.or_true, Bool.true_or, Bool.and_true, Bool.true_and] at e3
    exact Evt.chk (by omega) (Evt.bind (ih _ (by omega) _ _ _ h0 (by omega)) fun u hu => Evt.pure fun e4 => .app _ _ k hl (hv e3) (hu e4))
theorem uR : S2 (u0.mk [] []) := ⟨_, by show 0 ≤ 2; omega, fun k h => absurd h (Nat.not_lt_zero _)⟩
theorem mA {a b : u0} (ha : S2 a) (hb : S2 b) : S2 (u0.mk [] [a, b]) := ⟨_, by show 2 ≤ 2; omega, fun k h => by
 have : k < 2 := h
 match k, this with
 | 0, _ => exact ha
 | 1, _ => exact hb⟩
theorem uS {f x : u0 × Bool} (hf : S2 f.1) : Evt (fun n =>
  chk (aN (!(bif (bif (!f.2) then true else (!x.2)) then true else (!decide ((f.1.args.length : Int) = 2)))) (0 < (f.1.args.length : Int))) <|
  (gd (!(bif (bif (!f.2) then true else (!x.2)) then true else (!decide ((f.1.args.length : Int) = 2)))) (bD n (Am.get f.1.args 0) x.1) default).bind fun v22 =>
  bif (bif (bif (bif (!f.2) then true else (!x.2)) then true else (!decide ((f.1.args.length : Int) = 2))) then true else (!v22)) then
   some ((u0.mk [] []), false)
  else
   chk (1 < (f.1.args.length : Int)) <|
   some ((Am.get f.1.args 1), true)) (fun r => S2 r.1) := by
 obtain ⟨_, hl, ho⟩ := hf
 refine Evt.chk (P3 fun e => ?_) (Evt.bind (P := fun _ => True) (Evt.gd (fun e => ?_) (fun _ => trivial)) fun v _ => Evt.cond (fun _ => Evt.pure uR) (fun e => ?_))
 ·simp only [Bool.cond_true_left, Bool.cond_false_right, Bool.not_eq_true', Bool.not_eq_false', Bool.or_eq_true, Bool.or_eq_false_iff, Bool.and_eq_true, Bool.and_eq_false_imp, Bool.not_true, Bool.not_false, decide_eq_true_eq, decide_eq_false_iff_not, Decidable.not_not, Int.not_lt, Int.not_le, Nat.not_lt, Nat.not_le, not_or, Bool.not_not, Bool.not_eq_true, Bool.true_eq_false, Bool.false_eq_true, Bool.or_true, Bool.true_or, Bool.and_true, Bool.true_and] at e
  omega
 ·simp only [Bool.cond_true_left, Bool.cond_false_right, Bool.not_eq_true', Bool.not_eq_false', Bool.or_eq_true, Bool.or_eq_false_iff, Bool.and_eq_true, Bool.and_eq_false_imp, Bool.not_true, Bool.not_false, decide_eq_true_eq, decide_eq_false_iff_not, Decidable.not_not, Int.not_lt, Int.not_le, Nat.not_lt, Nat.not_le, not_or, Bool.not_not, Bool.not_eq_true, Bool.true_eq_false, Bool.false_eq_true, Bool.or_true, Bool.true_or, Bool.and_true, Bool.true_and] at e
  exact sR _ _ (Nat.le_refl _) (ho 0 (by omega)) _
 ·simp only [Bool.cond_true_left, Bool.cond_false_right, Bool.not_eq_true', Bool.not_eq_false', Bool.or_eq_true, Bool.or_eq_false_iff, Bool.and_eq_true, Bool.and_eq_false_imp, Bool.not_true, Bool.not_false, decide_eq_true_eq, decide_eq_false_iff_not, Decidable.not_not, Int.not_lt, Int.not_le, Nat.not_lt, Nat.not_le, not_or, Bool.not_not, Bool.not_eq_true, Bool.true_eq_false, Bool.false_eq_true, Bool.or_true, Bool.true_or, Bool.and_true, Bool.true_and] at e
  exact Evt.chk (by omega) (Evt.pure (ho 1 (by omega)))
theorem uT {l : List u0} {b : Int} {t : w5} (hb : b = l.length) (h0 : 0 ≤ t.index) (h1 : t.index < b) (hL : l.length ≤ 1000) :
  0 ≤ wr .i64 (wr .i64 ((l.length : Int) - 1) - t.index) ∧ wr .i64 (wr .i64 ((l.length : Int) - 1) - t.index) < l.length := by
 rw [W0 (n := (l.length : Int) - 1) (by omega) (by omega), W0 (by omega) (by omega)]
 omega
theorem sS {t : w5} {b : Int} (h : jR b t) : ∀ l : List u0, b = l.length → l.length ≤ 41 → (∀ k, k < l.length → S2 (Am.get l k)) → Evt (fun n => Q9 n t l) (fun r => S2 r.1) := by
 induction h with
 | con b t hk hs =>
  intro l hb hL hl
  refine Evt.succ ?_
  simp only [Q9, hk, Int.reduceEq, decide_false, decide_true, cond_false, cond_true]
  exact Evt.pure hs
 | var b t hk h0 h1 =>
  intro l hb hL hl
  refine Evt.succ ?_
  simp only [Q9, hk, Int.reduceEq, decide_false, decide_true, cond_false, cond_true]
  have hv := uT hb h0 h1 (by omega)
  exact Evt.chk hv (Evt.pure (hl _ (by omega)))
 | abs b t hk Mz hs hlen h0 ih =>
  intro l hb hL hl
  refine Evt.succ ?_
  simp only [Q9, hk, Int.reduceEq, decide_false, decide_true, cond_false, cond_true]
  have e : (l ++ [t.type]).length = l.length + 1 := by simp
  refine Evt.chk (by omega) (Evt.eV (Evt.chk (by rw [e, bI]; omega) (Evt.chk (by omega) (Evt.bind (ih _ (by rw [e]; omega) (by rw [e]; omega) (fun k hk2 => ?_)) fun v hv => Evt.pure (mA hs hv)))))
  rw [e] at hk2
  by_cases ek : k = l.length
  ·subst ek; rw [lq]; exact hs
  ·rw [qe (by omega)]; exact hl k (by omega)
 | app b t hk hlen h0 h1 ih0 ih1 =>
  intro l hb hL hl
  refine Evt.succ ?_
  simp only [Q9, hk, Int.reduceEq, decide_false, decide_true, cond_false, cond_true]
  exact Evt.chk (by omega) (Evt.bind (ih0 l hb hL hl) fun f hf => Evt.chk (by omega) (Evt.bind (ih1 l hb hL hl) fun x hx => uS hf))
theorem uU {t : w5} {b : Int} (h : jR b t) : ∀ l : List u0, b = l.length → l.length ≤ 40 → (∀ k, k < l.length → S2 (Am.get l k)) → Evt (fun n => bX n t l) (fun r => S2 r.1) := by
 induction h with
 | con b t hk hs =>
  intro l hb hL hl
  refine Evt.succ ?_
  simp only [bX, hk, Int.reduceEq, decide_false, decide_true, cond_false, cond_true]
  exact Evt.pure hs
 | var b t hk h0 h1 =>
  intro l hb hL hl
  refine Evt.succ ?_
  simp only [bX, hk, Int.reduceEq, decide_false, decide_true, cond_false, cond_true]
  have hv := uT hb h0 h1 (by omega)
  exact Evt.chk hv (Evt.pure (hl _ (by omega)))
 | abs b t hk Mz hs hlen h0 ih =>
  intro l hb hL hl
  refine Evt.succ ?_
  simp only [bX, hk, Int.reduceEq, decide_false, decide_true, cond_false, cond_true]
  have e : (l ++ [t.type]).length = l.length + 1 := by simp
  refine Evt.chk (by omega) (Evt.eV (Evt.chk (by rw [e, bI]; omega) (Evt.chk (by omega) (Evt.bind (sS h0 _ (by rw [e]; omega) (by rw [e]; omega) (fun k hk2 => ?_)) fun v hv => Evt.pure (mA hs hv)))))
  rw [e] at hk2
  by_cases ek : k = l.length
  ·subst ek; rw [lq]; exact hs
  ·rw [qe (by omega)]; exact hl k (by omega)
 | app b t hk hlen h0 h1 ih0 ih1 =>
  intro l hb hL hl
  refine Evt.succ ?_
  simp only [bX, hk, Int.reduceEq, decide_false, decide_true, cond_false, cond_true]
  exact Evt.chk (by omega) (Evt.bind (ih0 l hb hL hl) fun f hf => Evt.chk (by omega) (Evt.bind (ih1 l hb hL hl) fun x hx => uS hf))
theorem jS (t : w5) : Evt (fun n => cL n t) (fun _ => True) := by
 unfold cL
 refine Evt.bind (og _ t (Nat.le_refl _) 1 0 0 (by omega) (by omega)) fun v hv => Evt.cond (fun _ => Evt.pure trivial) (fun e => ?_)
 simp only [Bool.cond_true_left, Bool.cond_false_right, Bool.not_eq_true', Bool.not_eq_false', Bool.or_eq_true, Bool.or_eq_false_iff, Bool.and_eq_true, Bool.and_eq_false_imp, Bool.not_true, Bool.not_false, decide_eq_true_eq, decide_eq_false_iff_not, Decidable.not_not, Int.not_lt, Int.not_le, Nat.not_lt, Nat.not_le, not_or, Bool.not_not, Bool.not_eq_true, Bool.true_eq_false, Bool.false_eq_true, Bool.or_true, Bool.true_or, Bool.and_true, Bool.true_and] at e
 refine Evt.bind (uU (hv e) [] rfl (by simp) (fun k h => absurd h (Nat.not_lt_zero _))) fun r _ => ?_
 exact Evt.cond (fun _ => Evt.pure trivial) (fun _ => Evt.pure trivial)
theorem qD {h : w4} (hh : yc h) {t : A9} (ht : yX h.types.length t) (r : u6) : Evt (fun n => fU n h t r) (fun _ => True) := by
 unfold fU
 refine Evt.cond (fun _ => Evt.pure trivial) (fun _ => Evt.bind (gW hh ht _) fun f hf => Evt.cond (fun _ => Evt.pure trivial) (fun e => ?_))
 simp only [Bool.cond_true_left, Bool.cond_false_right, Bool.not_eq_true', Bool.not_eq_false', Bool.or_eq_true, Bool.or_eq_false_iff, Bool.and_eq_true, Bool.and_eq_false_imp, Bool.not_true, Bool.not_false, decide_eq_true_eq, decide_eq_false_iff_not, Decidable.not_not, Int.not_lt, Int.not_le, Nat.not_lt, Nat.not_le, not_or, Bool.not_not, Bool.not_eq_true, Bool.true_eq_false, Bool.false_eq_true, Bool.or_true, Bool.true_or, Bool.and_true, Bool.true_and] at e
 exact Evt.bind (od (hf e) hh.C9 _) fun b _ => Evt.cond (fun _ => Evt.pure trivial) (fun _ => Evt.bind (jS _) fun v _ => Evt.pure trivial)
end Go.Proofs.YtaohdfpcdfbnlaaGreatDoor
