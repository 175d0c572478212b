/-
  PL, part 6: trees and counts; the law.
-/
import Derived.Test.YtaohdfpcdfbnlaaDoorVal4
import Derived.Test.YtaohdfpcdfbnlaaDoorReady
set_option linter.unusedVariables false
set_option linter.unusedSimpArgs false
namespace Go.Proofs.YtaohdfpcdfbnlaaDoor
open Go Go.Am

inductive TreeOk (R L : Nat) : ApiTree → Prop
  | mk (t : ApiTree) (h1 : t.rule < 0 → 0 ≤ t.lex ∧ t.lex < L) (h2 : t.rule < R) (h : ∀ k, k < t.kids.length → TreeOk R L (Am.get t.kids k)) : TreeOk R L t

/-- a refusal of a tree -/
theorem df_bad {a b c e : Int} {P : Prop} (h : a ≠ 0) : Evt (fun _ => (deriveFault a b).bind fun v => some (v, c, e)) (fun r => r.1.code = 0 → P) :=
  Evt.bind (deriveFault_ev _ _ (P := Bad) (bad_of h)) fun v hv => Evt.pure fun e => absurd e hv

theorem deriveFits1_ev (Ts : List ApiType) (Fs : List ApiFeat) (Rs : List ApiRule) (Ls : List ApiLex) (Ns : List ApiNode) : ∀ (m : Nat) (t : ApiTree), SizeOf.sizeOf t ≤ m → ∀ d c a b : Int,
    Evt (fun n => deriveFits1 n t d c a Ts Fs Rs Ls Ns b) (fun r => r.1.code = 0 → TreeOk Rs.length Ls.length t) := by
  intro m
  induction m with
  | zero => intro s h; cases s; simp only [ApiTree.mk.sizeOf_spec] at h; omega
  | succ m ih =>
    intro t ht d c a b
    refine Evt.succ ?_
    simp only [deriveFits1]
    refine Evt.cond (fun _ => df_bad (by decide)) (fun _ => Evt.cond (fun _ => df_bad (by decide)) (fun e => Evt.cond (fun _ => df_bad (by decide)) (fun _ => ?_)))
    have h1 : t.rule < 0 → 0 ≤ t.lex ∧ t.lex < Ls.length := by
      intro hr
      have e1 : decide (t.rule < -1) = false := by
        cases h : decide (t.rule < -1)
        · rfl
        · rw [h] at e; cases e
      have e1' := of_decide_eq_false e1
      have e2 : decide (t.rule = -1) = true := decide_eq_true (by omega)
      rw [e2] at e
      simp only [Bool.cond_true_left, Bool.cond_false_right, Bool.not_eq_true', Bool.not_eq_false', Bool.or_eq_true, Bool.or_eq_false_iff, Bool.and_eq_true, Bool.and_eq_false_imp, Bool.not_true, Bool.not_false, decide_eq_true_eq, decide_eq_false_iff_not, Decidable.not_not, Int.not_lt, Int.not_le, Nat.not_lt, Nat.not_le, not_or, Bool.not_not, Bool.not_eq_true, Bool.true_eq_false, Bool.false_eq_true, Bool.or_true, Bool.true_or, Bool.and_true, Bool.true_and] at e
      omega
    have h2 : t.rule < Rs.length := by
      simp only [Bool.cond_true_left, Bool.cond_false_right, Bool.not_eq_true', Bool.not_eq_false', Bool.or_eq_true, Bool.or_eq_false_iff, Bool.and_eq_true, Bool.and_eq_false_imp, Bool.not_true, Bool.not_false, decide_eq_true_eq, decide_eq_false_iff_not, Decidable.not_not, Int.not_lt, Int.not_le, Nat.not_lt, Nat.not_le, not_or, Bool.not_not, Bool.not_eq_true, Bool.true_eq_false, Bool.false_eq_true, Bool.or_true, Bool.true_or, Bool.and_true, Bool.true_and] at e
      omega
    have hj1 : ∀ (j0 : Int × Int) (j1 : Int), Evt (fun n => deriveFits1_j1 (deriveFits1 n) a j0 t d Ts Fs Rs Ls Ns j1) (fun r => r.1.code = 0 → TreeOk Rs.length Ls.length t) := by
      intro j0 j1
      unfold deriveFits1_j1
      refine Evt.cond (fun _ => df_bad (by decide)) (fun _ => ?_)
      refine Evt.thenM (Evt.range (fun k _ => ∀ j, j < k → TreeOk Rs.length Ls.length (Am.get t.kids j)) (fun _ => False) (fun r : ApiFault × Int × Int => r.1.code ≠ 0) (fun j h => absurd h (Nat.not_lt_zero _)) (fun k u hk hj => ?_)) (fun u hu => ?_) (fun r (hr : r.1.code ≠ 0) e => absurd e hr)
      · unfold deriveFits1_b2
        have := tree_size hk
        refine Evt.bind (ih _ (by omega) _ _ _ _) fun v hv => Evt.cond (fun e => Evt.pure ?_) (fun e => Evt.pure ?_)
        · simp only [Bool.cond_true_left, Bool.cond_false_right, Bool.not_eq_true', Bool.not_eq_false', Bool.or_eq_true, Bool.or_eq_false_iff, Bool.and_eq_true, Bool.and_eq_false_imp, Bool.not_true, Bool.not_false, decide_eq_true_eq, decide_eq_false_iff_not, Decidable.not_not, Int.not_lt, Int.not_le, Nat.not_lt, Nat.not_le, not_or, Bool.not_not, Bool.not_eq_true, Bool.true_eq_false, Bool.false_eq_true, Bool.or_true, Bool.true_or, Bool.and_true, Bool.true_and] at e
          exact e
        · simp only [Bool.cond_true_left, Bool.cond_false_right, Bool.not_eq_true', Bool.not_eq_false', Bool.or_eq_true, Bool.or_eq_false_iff, Bool.and_eq_true, Bool.and_eq_false_imp, Bool.not_true, Bool.not_false, decide_eq_true_eq, decide_eq_false_iff_not, Decidable.not_not, Int.not_lt, Int.not_le, Nat.not_lt, Nat.not_le, not_or, Bool.not_not, Bool.not_eq_true, Bool.true_eq_false, Bool.false_eq_true, Bool.or_true, Bool.true_or, Bool.and_true, Bool.true_and] at e
          intro j hj'
          by_cases ej : j = k
          · subst ej; exact hv e
          · exact hj j (by omega)
      · simp only [ExP, or_false] at hu
        unfold deriveFits1_a2
        exact Evt.pure fun _ => ⟨t, h1, h2, hu⟩
    have hj0 : ∀ j0 : Int × Int, Evt (fun n => deriveFits1_j0 (deriveFits1 n) t a d Ts Fs Rs Ls Ns c j0) (fun r => r.1.code = 0 → TreeOk Rs.length Ls.length t) := by
      intro j0
      unfold deriveFits1_j0
      exact Evt.cond (fun _ => df_bad (by decide)) (fun _ => Evt.cond (fun _ => hj1 _ _) (fun _ => hj1 _ _))
    refine Evt.cond (fun e => ?_) (fun _ => hj0 _)
    simp only [Bool.cond_true_left, Bool.cond_false_right, Bool.not_eq_true', Bool.not_eq_false', Bool.or_eq_true, Bool.or_eq_false_iff, Bool.and_eq_true, Bool.and_eq_false_imp, Bool.not_true, Bool.not_false, decide_eq_true_eq, decide_eq_false_iff_not, Decidable.not_not, Int.not_lt, Int.not_le, Nat.not_lt, Nat.not_le, not_or, Bool.not_not, Bool.not_eq_true, Bool.true_eq_false, Bool.false_eq_true, Bool.or_true, Bool.true_or, Bool.and_true, Bool.true_and] at e
    exact Evt.chk ⟨e, h2⟩ (hj0 _)

theorem deriveFits_ev (g : ApiGrammar) (t : ApiTree) : Evt (fun n => deriveFits n g t) (fun f => f.code = 0 → TreeOk g.rules.length g.lexes.length t) := by
  unfold deriveFits
  refine Evt.bind (deriveFits1_ev _ _ _ _ _ _ t (Nat.le_refl _) _ _ _ _) fun v hv => Evt.cond (fun e => Evt.pure fun e2 => ?_) (fun e => ?_)
  · simp only [Bool.cond_true_left, Bool.cond_false_right, Bool.not_eq_true', Bool.not_eq_false', Bool.or_eq_true, Bool.or_eq_false_iff, Bool.and_eq_true, Bool.and_eq_false_imp, Bool.not_true, Bool.not_false, decide_eq_true_eq, decide_eq_false_iff_not, Decidable.not_not, Int.not_lt, Int.not_le, Nat.not_lt, Nat.not_le, not_or, Bool.not_not, Bool.not_eq_true, Bool.true_eq_false, Bool.false_eq_true, Bool.or_true, Bool.true_or, Bool.and_true, Bool.true_and] at e
    exact absurd e2 e
  simp only [Bool.cond_true_left, Bool.cond_false_right, Bool.not_eq_true', Bool.not_eq_false', Bool.or_eq_true, Bool.or_eq_false_iff, Bool.and_eq_true, Bool.and_eq_false_imp, Bool.not_true, Bool.not_false, decide_eq_true_eq, decide_eq_false_iff_not, Decidable.not_not, Int.not_lt, Int.not_le, Nat.not_lt, Nat.not_le, not_or, Bool.not_not, Bool.not_eq_true, Bool.true_eq_false, Bool.false_eq_true, Bool.or_true, Bool.true_or, Bool.and_true, Bool.true_and] at e
  exact Evt.cond (fun _ => Evt.bind (deriveFault_ev _ _ (P := Bad) (bad_of (by decide))) fun r hr => Evt.pure fun e => absurd e hr) (fun _ => Evt.pure fun _ => hv e)

/-! ### numbers modulo 2^64 -/

def Cg (x y : Int) : Prop := (x - y) % 18446744073709551616 = 0
theorem wr_cg (x : Int) : Cg (wr .i64 x) x := by
  unfold Cg wr IntKind.wrap
  have h1 : IntKind.i64.signed = true := rfl
  have h2 : IntKind.i64.bits = 64 := rfl
  have h3 : ((2 : Int) ^ 64) = 18446744073709551616 := by decide
  have h4 : ((2 : Int) ^ (64 - 1)) = 9223372036854775808 := by decide
  simp only [h1, h2, h3, h4]
  split <;> omega
def InR (x : Int) : Prop := -9223372036854775808 ≤ x ∧ x ≤ 9223372036854775807
theorem wr_in (x : Int) : InR (wr .i64 x) := by
  unfold InR wr IntKind.wrap
  have h1 : IntKind.i64.signed = true := rfl
  have h2 : IntKind.i64.bits = 64 := rfl
  have h3 : ((2 : Int) ^ 64) = 18446744073709551616 := by decide
  have h4 : ((2 : Int) ^ (64 - 1)) = 9223372036854775808 := by decide
  simp only [h1, h2, h3, h4, Bool.true_and, decide_eq_true_eq]
  split <;> omega
theorem cg_eq {x y : Int} (hx : InR x) (hy : InR y) (h : Cg x y) : x = y := by
  unfold Cg at h; unfold InR at hx hy; omega

/-- two lists of counts, of R and L numbers -/
structure Cnt (R L : Nat) (s : List Int × List Int) : Prop where
  r : s.1.length = R
  l : s.2.length = L
  inr : ∀ i, InR (Am.get s.1 i)
  inl : ∀ i, InR (Am.get s.2 i)
/-- one pair of lists is the other one and d -/
def Plus (s s' : List Int × List Int) (d : (Nat → Int) × (Nat → Int)) : Prop := ∀ i, Cg (Am.get s'.1 i) (Am.get s.1 i + d.1 i) ∧ Cg (Am.get s'.2 i) (Am.get s.2 i + d.2 i)
def zeroD : (Nat → Int) × (Nat → Int) := (fun _ => 0, fun _ => 0)
def addD (d e : (Nat → Int) × (Nat → Int)) : (Nat → Int) × (Nat → Int) := (fun i => d.1 i + e.1 i, fun i => d.2 i + e.2 i)
theorem plus_zero (s : List Int × List Int) : Plus s s zeroD := fun i => by
  constructor
  · show Cg (Am.get s.1 i) (Am.get s.1 i + 0)
    unfold Cg; omega
  · show Cg (Am.get s.2 i) (Am.get s.2 i + 0)
    unfold Cg; omega
theorem plus_trans {s t u : List Int × List Int} {d e : (Nat → Int) × (Nat → Int)} (h : Plus s t d) (h2 : Plus t u e) : Plus s u (addD d e) := fun i => by
  obtain ⟨a, b⟩ := h i
  obtain ⟨a2, b2⟩ := h2 i
  unfold Cg at *
  constructor
  · show (_ - (_ + (d.1 i + e.1 i))) % _ = 0
    omega
  · show (_ - (_ + (d.2 i + e.2 i))) % _ = 0
    omega
/-- the sum of the first m -/
def sumD (f : Nat → (Nat → Int) × (Nat → Int)) : Nat → (Nat → Int) × (Nat → Int)
  | 0 => zeroD
  | m + 1 => addD (sumD f m) (f m)

theorem set_cnt {R L : Nat} {s : List Int × List Int} (h : Cnt R L s) (i : Nat) (x : Int) (hx : InR x) : Cnt R L (s.1.set i x, s.2) ∧ Cnt R L (s.1, s.2.set i x) := by
  refine ⟨⟨by simp; exact h.r, h.l, fun j => ?_, h.inl⟩, ⟨h.r, by simp; exact h.l, h.inr, fun j => ?_⟩⟩
  · show InR (Am.get (s.1.set i x) j)
    rw [get_set]; split
    · exact hx
    · exact h.inr j
  · show InR (Am.get (s.2.set i x) j)
    rw [get_set]; split
    · exact hx
    · exact h.inl j

theorem trainCount1_ex {R L : Nat} {t : ApiTree} (ht : TreeOk R L t) : ∃ d, ∀ s, Cnt R L s → Evt (fun n => trainCount1 n t s.1 s.2) (fun r => Cnt R L r ∧ Plus s r d) := by
  induction ht with
  | mk t h1 h2 h ih =>
    let f : Nat → (Nat → Int) × (Nat → Int) := fun k => if hk : k < t.kids.length then Classical.choose (ih k hk) else zeroD
    have hf : ∀ k (hk : k < t.kids.length) s, Cnt R L s → Evt (fun n => trainCount1 n (Am.get t.kids k) s.1 s.2) (fun r => Cnt R L r ∧ Plus s r (f k)) := fun k hk s hs => by
      have e : f k = Classical.choose (ih k hk) := dif_pos hk
      rw [e]
      exact Classical.choose_spec (ih k hk) s hs
    have hj : ∀ s, Cnt R L s → Evt (fun n => trainCount1_j0 (trainCount1 n) t s) (fun r => Cnt R L r ∧ Plus s r (sumD f t.kids.length)) := fun s hs => by
      unfold trainCount1_j0
      refine Evt.thenM (Evt.range (fun k u => Cnt R L u ∧ Plus s u (sumD f k)) (fun _ => False) (fun _ => False) ⟨hs, plus_zero _⟩ (fun k u hk hu => ?_)) (fun u hu => ?_) (fun r (hr : False) => hr.elim)
      · unfold trainCount1_b1
        exact Evt.bind (hf k hk u hu.1) fun v hv => Evt.pure ⟨hv.1, plus_trans hu.2 hv.2⟩
      · simp only [ExP, or_false] at hu
        unfold trainCount1_a1
        exact Evt.pure hu
    by_cases hr : t.rule < 0
    · refine ⟨addD (fun _ => 0, fun i => if t.lex.toNat = i then 1 else 0) (sumD f t.kids.length), fun s hs => ?_⟩
      refine Evt.succ ?_
      simp only [trainCount1]
      refine Evt.cond (fun _ => ?_) (fun e => ?_)
      · have h3 := h1 hr
        have h4 := hs.l
        refine Evt.chk (by omega) (Evt.letM ((hj _ (set_cnt hs _ _ (wr_in _)).2).mono fun r hr => ⟨hr.1, plus_trans (fun i => ⟨?_, ?_⟩) hr.2⟩))
        · show Cg (Am.get s.1 i) (Am.get s.1 i + 0)
          unfold Cg; omega
        · show Cg (Am.get (s.2.set t.lex.toNat _) i) (Am.get s.2 i + (if t.lex.toNat = i then 1 else 0))
          rw [get_set]
          by_cases ei : t.lex.toNat = i
          · subst ei
            rw [if_pos ⟨rfl, by omega⟩, if_pos rfl]
            exact wr_cg _
          · rw [if_neg (fun x => ei x.1), if_neg ei]
            unfold Cg; omega
      · simp only [Bool.cond_true_left, Bool.cond_false_right, Bool.not_eq_true', Bool.not_eq_false', Bool.or_eq_true, Bool.or_eq_false_iff, Bool.and_eq_true, Bool.and_eq_false_imp, Bool.not_true, Bool.not_false, decide_eq_true_eq, decide_eq_false_iff_not, Decidable.not_not, Int.not_lt, Int.not_le, Nat.not_lt, Nat.not_le, not_or, Bool.not_not, Bool.not_eq_true, Bool.true_eq_false, Bool.false_eq_true, Bool.or_true, Bool.true_or, Bool.and_true, Bool.true_and] at e
        omega
    · refine ⟨addD (fun i => if t.rule.toNat = i then 1 else 0, fun _ => 0) (sumD f t.kids.length), fun s hs => ?_⟩
      refine Evt.succ ?_
      simp only [trainCount1]
      refine Evt.cond (fun e => ?_) (fun e => ?_)
      · simp only [Bool.cond_true_left, Bool.cond_false_right, Bool.not_eq_true', Bool.not_eq_false', Bool.or_eq_true, Bool.or_eq_false_iff, Bool.and_eq_true, Bool.and_eq_false_imp, Bool.not_true, Bool.not_false, decide_eq_true_eq, decide_eq_false_iff_not, Decidable.not_not, Int.not_lt, Int.not_le, Nat.not_lt, Nat.not_le, not_or, Bool.not_not, Bool.not_eq_true, Bool.true_eq_false, Bool.false_eq_true, Bool.or_true, Bool.true_or, Bool.and_true, Bool.true_and] at e
        omega
      · have h4 := hs.r
        refine Evt.chk (by omega) (Evt.letM ((hj _ (set_cnt hs _ _ (wr_in _)).1).mono fun r hr => ⟨hr.1, plus_trans (fun i => ⟨?_, ?_⟩) hr.2⟩))
        · show Cg (Am.get (s.1.set t.rule.toNat _) i) (Am.get s.1 i + (if t.rule.toNat = i then 1 else 0))
          rw [get_set]
          by_cases ei : t.rule.toNat = i
          · subst ei
            rw [if_pos ⟨rfl, by omega⟩, if_pos rfl]
            exact wr_cg _
          · rw [if_neg (fun x => ei x.1), if_neg ei]
            unfold Cg; omega
        · show Cg (Am.get s.2 i) (Am.get s.2 i + 0)
          unfold Cg; omega

open Classical in
/-- what a tree adds to the counts -/
noncomputable def occ (R L : Nat) (t : ApiTree) : (Nat → Int) × (Nat → Int) := if h : TreeOk R L t then Classical.choose (trainCount1_ex h) else zeroD
theorem trainCount1_ev {R L : Nat} {t : ApiTree} (ht : TreeOk R L t) (s : List Int × List Int) (hs : Cnt R L s) : Evt (fun n => trainCount1 n t s.1 s.2) (fun r => Cnt R L r ∧ Plus s r (occ R L t)) := by
  have e : occ R L t = Classical.choose (trainCount1_ex ht) := dif_pos ht
  rw [e]
  exact Classical.choose_spec (trainCount1_ex ht) s hs

/-- the counts of a list of trees -/
noncomputable def occs (g : ApiGrammar) (l : List ApiTree) : (Nat → Int) × (Nat → Int) := sumD (fun k => occ g.rules.length g.lexes.length (Am.get l k)) l.length
def rep0 (g : ApiGrammar) : List Int × List Int := (List.replicate g.rules.length (default : Int), List.replicate g.lexes.length (default : Int))
theorem rep0_cnt (g : ApiGrammar) : Cnt g.rules.length g.lexes.length (rep0 g) := ⟨by simp [rep0], by simp [rep0], fun i => by
  show InR (Am.get (List.replicate _ default) i)
  rw [get_rep]; show InR 0; unfold InR; omega, fun i => by
  show InR (Am.get (List.replicate _ default) i)
  rw [get_rep]; show InR 0; unfold InR; omega⟩
/-- what a good answer of Count says -/
def CountIs (g : ApiGrammar) (l : List ApiTree) (r : ApiCounts × ApiFault) : Prop := r.2.code = 0 → GramOk g ∧ Cnt g.rules.length g.lexes.length (r.1.rules, r.1.lexes) ∧ Plus (rep0 g) (r.1.rules, r.1.lexes) (occs g l)

theorem trainCount_ev (g : ApiGrammar) (hw : ∀ k, k < g.lexes.length → (Am.get g.lexes k).word.length < 4294967281) (l : List ApiTree) : Evt (fun n => trainCount n g l) (CountIs g l) := by
  unfold trainCount
  refine Evt.bind (grammarValidate_ev g hw) fun f hf => Evt.cond (fun e => Evt.pure fun e2 => ?_) (fun e => ?_)
  · simp only [Bool.cond_true_left, Bool.cond_false_right, Bool.not_eq_true', Bool.not_eq_false', Bool.or_eq_true, Bool.or_eq_false_iff, Bool.and_eq_true, Bool.and_eq_false_imp, Bool.not_true, Bool.not_false, decide_eq_true_eq, decide_eq_false_iff_not, Decidable.not_not, Int.not_lt, Int.not_le, Nat.not_lt, Nat.not_le, not_or, Bool.not_not, Bool.not_eq_true, Bool.true_eq_false, Bool.false_eq_true, Bool.or_true, Bool.true_or, Bool.and_true, Bool.true_and] at e
    exact absurd e2 e
  simp only [Bool.cond_true_left, Bool.cond_false_right, Bool.not_eq_true', Bool.not_eq_false', Bool.or_eq_true, Bool.or_eq_false_iff, Bool.and_eq_true, Bool.and_eq_false_imp, Bool.not_true, Bool.not_false, decide_eq_true_eq, decide_eq_false_iff_not, Decidable.not_not, Int.not_lt, Int.not_le, Nat.not_lt, Nat.not_le, not_or, Bool.not_not, Bool.not_eq_true, Bool.true_eq_false, Bool.false_eq_true, Bool.or_true, Bool.true_or, Bool.and_true, Bool.true_and] at e
  have hg := hf e
  have hg1 := hg.rules
  have hg2 := hg.lexes
  refine Evt.cond (fun _ => Evt.bind (trainFault_ev _ _ (P := Bad) (bad_of (by decide))) fun r hr => Evt.pure fun e => absurd e hr) (fun e2 => ?_)
  simp only [Bool.cond_true_left, Bool.cond_false_right, Bool.not_eq_true', Bool.not_eq_false', Bool.or_eq_true, Bool.or_eq_false_iff, Bool.and_eq_true, Bool.and_eq_false_imp, Bool.not_true, Bool.not_false, decide_eq_true_eq, decide_eq_false_iff_not, Decidable.not_not, Int.not_lt, Int.not_le, Nat.not_lt, Nat.not_le, not_or, Bool.not_not, Bool.not_eq_true, Bool.true_eq_false, Bool.false_eq_true, Bool.or_true, Bool.true_or, Bool.and_true, Bool.true_and] at e2
  refine Evt.chk (by rw [top_eq]; omega) (Evt.chk (by rw [top_eq]; omega) (Evt.chk (by omega) ?_))
  refine Evt.thenM (Evt.range (fun k u => Cnt g.rules.length g.lexes.length u ∧ Plus (rep0 g) u (sumD (fun k => occ g.rules.length g.lexes.length (Am.get l k)) k)) (fun _ => False) (fun r : ApiCounts × ApiFault => r.2.code ≠ 0) ⟨rep0_cnt g, plus_zero _⟩ (fun k u hk hu => ?_)) (fun u hu => ?_) (fun r (hr : r.2.code ≠ 0) e => absurd e hr)
  · unfold trainCount_b0
    refine Evt.bind (deriveFits_ev g _) fun v hv => Evt.cond (fun e3 => ?_) (fun e3 => ?_)
    · simp only [Bool.cond_true_left, Bool.cond_false_right, Bool.not_eq_true', Bool.not_eq_false', Bool.or_eq_true, Bool.or_eq_false_iff, Bool.and_eq_true, Bool.and_eq_false_imp, Bool.not_true, Bool.not_false, decide_eq_true_eq, decide_eq_false_iff_not, Decidable.not_not, Int.not_lt, Int.not_le, Nat.not_lt, Nat.not_le, not_or, Bool.not_not, Bool.not_eq_true, Bool.true_eq_false, Bool.false_eq_true, Bool.or_true, Bool.true_or, Bool.and_true, Bool.true_and] at e3
      exact Evt.bind (trainFault_ev _ _ (P := Bad) (bad_of e3)) fun r hr => Evt.pure hr
    · simp only [Bool.cond_true_left, Bool.cond_false_right, Bool.not_eq_true', Bool.not_eq_false', Bool.or_eq_true, Bool.or_eq_false_iff, Bool.and_eq_true, Bool.and_eq_false_imp, Bool.not_true, Bool.not_false, decide_eq_true_eq, decide_eq_false_iff_not, Decidable.not_not, Int.not_lt, Int.not_le, Nat.not_lt, Nat.not_le, not_or, Bool.not_not, Bool.not_eq_true, Bool.true_eq_false, Bool.false_eq_true, Bool.or_true, Bool.true_or, Bool.and_true, Bool.true_and] at e3
      exact Evt.bind (trainCount1_ev (hv e3) u hu.1) fun r hr => Evt.pure ⟨hr.1, plus_trans hu.2 hr.2⟩
  · simp only [ExP, or_false] at hu
    unfold trainCount_a0
    exact Evt.pure fun _ => ⟨hg, hu⟩

theorem trainCount2_ev (g : ApiGrammar) (hw : ∀ k, k < g.lexes.length → (Am.get g.lexes k).word.length < 4294967281) (l : List ApiTree) : Evt (fun n => trainCount_2 n g l) (CountIs g l) := by
  unfold trainCount_2
  refine Evt.bind (grammarValidate_ev g hw) fun f hf => Evt.cond (fun e => Evt.pure fun e2 => ?_) (fun e => ?_)
  · simp only [Bool.cond_true_left, Bool.cond_false_right, Bool.not_eq_true', Bool.not_eq_false', Bool.or_eq_true, Bool.or_eq_false_iff, Bool.and_eq_true, Bool.and_eq_false_imp, Bool.not_true, Bool.not_false, decide_eq_true_eq, decide_eq_false_iff_not, Decidable.not_not, Int.not_lt, Int.not_le, Nat.not_lt, Nat.not_le, not_or, Bool.not_not, Bool.not_eq_true, Bool.true_eq_false, Bool.false_eq_true, Bool.or_true, Bool.true_or, Bool.and_true, Bool.true_and] at e
    exact absurd e2 e
  simp only [Bool.cond_true_left, Bool.cond_false_right, Bool.not_eq_true', Bool.not_eq_false', Bool.or_eq_true, Bool.or_eq_false_iff, Bool.and_eq_true, Bool.and_eq_false_imp, Bool.not_true, Bool.not_false, decide_eq_true_eq, decide_eq_false_iff_not, Decidable.not_not, Int.not_lt, Int.not_le, Nat.not_lt, Nat.not_le, not_or, Bool.not_not, Bool.not_eq_true, Bool.true_eq_false, Bool.false_eq_true, Bool.or_true, Bool.true_or, Bool.and_true, Bool.true_and] at e
  have hg := hf e
  have hg1 := hg.rules
  have hg2 := hg.lexes
  refine Evt.cond (fun _ => Evt.bind (trainFault_ev _ _ (P := Bad) (bad_of (by decide))) fun r hr => Evt.pure fun e => absurd e hr) (fun e2 => ?_)
  simp only [Bool.cond_true_left, Bool.cond_false_right, Bool.not_eq_true', Bool.not_eq_false', Bool.or_eq_true, Bool.or_eq_false_iff, Bool.and_eq_true, Bool.and_eq_false_imp, Bool.not_true, Bool.not_false, decide_eq_true_eq, decide_eq_false_iff_not, Decidable.not_not, Int.not_lt, Int.not_le, Nat.not_lt, Nat.not_le, not_or, Bool.not_not, Bool.not_eq_true, Bool.true_eq_false, Bool.false_eq_true, Bool.or_true, Bool.true_or, Bool.and_true, Bool.true_and] at e2
  refine Evt.chk (by rw [top_eq]; omega) (Evt.chk (by rw [top_eq]; omega) ?_)
  refine Evt.thenM (Evt.range (fun k u => Cnt g.rules.length g.lexes.length u ∧ Plus (rep0 g) u (sumD (fun k => occ g.rules.length g.lexes.length (Am.get l k)) k)) (fun _ => False) (fun r : ApiCounts × ApiFault => r.2.code ≠ 0) ⟨rep0_cnt g, plus_zero _⟩ (fun k u hk hu => ?_)) (fun u hu => ?_) (fun r (hr : r.2.code ≠ 0) e => absurd e hr)
  · unfold trainCount_2_b0
    refine Evt.bind (deriveFits_ev g _) fun v hv => Evt.cond (fun e3 => ?_) (fun e3 => ?_)
    · simp only [Bool.cond_true_left, Bool.cond_false_right, Bool.not_eq_true', Bool.not_eq_false', Bool.or_eq_true, Bool.or_eq_false_iff, Bool.and_eq_true, Bool.and_eq_false_imp, Bool.not_true, Bool.not_false, decide_eq_true_eq, decide_eq_false_iff_not, Decidable.not_not, Int.not_lt, Int.not_le, Nat.not_lt, Nat.not_le, not_or, Bool.not_not, Bool.not_eq_true, Bool.true_eq_false, Bool.false_eq_true, Bool.or_true, Bool.true_or, Bool.and_true, Bool.true_and] at e3
      exact Evt.bind (trainFault_ev _ _ (P := Bad) (bad_of e3)) fun r hr => Evt.pure hr
    · simp only [Bool.cond_true_left, Bool.cond_false_right, Bool.not_eq_true', Bool.not_eq_false', Bool.or_eq_true, Bool.or_eq_false_iff, Bool.and_eq_true, Bool.and_eq_false_imp, Bool.not_true, Bool.not_false, decide_eq_true_eq, decide_eq_false_iff_not, Decidable.not_not, Int.not_lt, Int.not_le, Nat.not_lt, Nat.not_le, not_or, Bool.not_not, Bool.not_eq_true, Bool.true_eq_false, Bool.false_eq_true, Bool.or_true, Bool.true_or, Bool.and_true, Bool.true_and] at e3
      exact Evt.bind (trainCount1_ev (hv e3) u hu.1) fun r hr => Evt.pure ⟨hr.1, plus_trans hu.2 hr.2⟩
  · simp only [ExP, or_false] at hu
    unfold trainCount_2_a0
    exact Evt.pure fun _ => ⟨hg, hu⟩

theorem sumD_app (f : Nat → (Nat → Int) × (Nat → Int)) (m : Nat) : ∀ k, sumD f (m + k) = addD (sumD f m) (sumD (fun j => f (m + j)) k)
  | 0 => by
    show sumD f m = addD (sumD f m) zeroD
    unfold addD zeroD
    simp
  | k + 1 => by
    show addD (sumD f (m + k)) (f (m + k)) = addD (sumD f m) (addD (sumD (fun j => f (m + j)) k) (f (m + k)))
    rw [sumD_app f m k]
    unfold addD
    simp only [Int.add_assoc]
theorem sumD_congr {f g : Nat → (Nat → Int) × (Nat → Int)} : ∀ m, (∀ k, k < m → f k = g k) → sumD f m = sumD g m
  | 0, _ => rfl
  | m + 1, h => by
    show addD (sumD f m) (f m) = addD (sumD g m) (g m)
    rw [sumD_congr m (fun k hk => h k (by omega)), h m (by omega)]
theorem get_app_r {α : Type} [Inhabited α] {l m : List α} {i : Nat} : Am.get (l ++ m) (l.length + i) = Am.get m i := by
  unfold Am.get
  rw [List.getD_eq_getElem?_getD, List.getD_eq_getElem?_getD, List.getElem?_append_right (by omega)]
  congr 2
  omega
theorem occs_app (g : ApiGrammar) (a b : List ApiTree) : occs g (a ++ b) = addD (occs g a) (occs g b) := by
  unfold occs
  rw [List.length_append, sumD_app]
  congr 1
  · exact sumD_congr _ fun k hk => by rw [get_app_l hk]
  · exact sumD_congr _ fun k hk => by rw [get_app_r]

theorem sum_at {g : ApiGrammar} {a b : List ApiTree} {x y z : List Int × List Int} (hx : Plus (rep0 g) x (occs g a)) (hy : Plus (rep0 g) y (occs g b)) (hz : Plus (rep0 g) z (occs g (a ++ b))) (i : Nat)
    (h1 : InR (Am.get z.1 i)) (h2 : InR (Am.get z.2 i)) : Am.get z.1 i = wr .i64 (Am.get x.1 i + Am.get y.1 i) ∧ Am.get z.2 i = wr .i64 (Am.get x.2 i + Am.get y.2 i) := by
  rw [occs_app] at hz
  obtain ⟨x1, x2⟩ := hx i
  obtain ⟨y1, y2⟩ := hy i
  obtain ⟨z1, z2⟩ := hz i
  have e1 : Am.get (rep0 g).1 i = 0 := get_rep _ _
  have e2 : Am.get (rep0 g).2 i = 0 := get_rep _ _
  rw [e1] at x1 y1 z1
  rw [e2] at x2 y2 z2
  have w1 := wr_cg (Am.get x.1 i + Am.get y.1 i)
  have w2 := wr_cg (Am.get x.2 i + Am.get y.2 i)
  have z1 : Cg (Am.get z.1 i) (0 + ((occs g a).1 i + (occs g b).1 i)) := z1
  have z2 : Cg (Am.get z.2 i) (0 + ((occs g a).2 i + (occs g b).2 i)) := z2
  refine ⟨cg_eq h1 (wr_in _) ?_, cg_eq h2 (wr_in _) ?_⟩
  · unfold Cg at *; omega
  · unfold Cg at *; omega

theorem copy_ev (l : List ApiTree) (s : List ApiTree) (body : List ApiTree × Int → Option (Ctl Bool (List ApiTree × Int) (List ApiTree)))
    (hbody : ∀ u : List ApiTree × Int, body u = (bif (decide (u.2 < (l.length : Int))) then
      chk (0 ≤ u.2 ∧ u.2 < (l.length : Int)) <| letM (u.1 ++ [(Am.get l u.2.toNat)]) fun c => chk (c.length * 40 ≤ top ∧ c.length ≤ top) <| some (.nxt (c, (wr .i64 (u.2 + 1)))) else some (.brk u.1)))
    (hl : s.length + l.length ≤ 2097152) : Evt (fun n => loopM body n (s, 0)) (ExP (fun t => t = s ++ l) (fun _ => False)) := by
  refine Evt.loop (fun u : List ApiTree × Int => l.length - u.2.toNat) (fun u => 0 ≤ u.2 ∧ u.2 ≤ l.length ∧ u.1 = s ++ l.take u.2.toNat) _ _ ⟨by show (0 : Int) ≤ 0; omega, by show (0 : Int) ≤ _; omega, by simp⟩ (fun u hu => ?_)
  obtain ⟨h0, h1, h2⟩ := hu
  rw [show (fun _ : Nat => body u) = fun _ => _ from funext fun _ => hbody u]
  refine Evt.cond (fun e => ?_) (fun e => Evt.pure ?_)
  · simp only [Bool.cond_true_left, Bool.cond_false_right, Bool.not_eq_true', Bool.not_eq_false', Bool.or_eq_true, Bool.or_eq_false_iff, Bool.and_eq_true, Bool.and_eq_false_imp, Bool.not_true, Bool.not_false, decide_eq_true_eq, decide_eq_false_iff_not, Decidable.not_not, Int.not_lt, Int.not_le, Nat.not_lt, Nat.not_le, not_or, Bool.not_not, Bool.not_eq_true, Bool.true_eq_false, Bool.false_eq_true, Bool.or_true, Bool.true_or, Bool.and_true, Bool.true_and] at e
    have hlen : (u.1 ++ [Am.get l u.2.toNat]).length = s.length + u.2.toNat + 1 := by
      rw [h2]; simp; omega
    have hw : wr .i64 (u.2 + 1) = u.2 + 1 := wr_id (by omega) (by omega)
    refine Evt.chk (by omega) (Evt.letM (Evt.chk (by rw [hlen, top_eq]; omega) (Evt.pure ?_)))
    rw [hw]
    refine ⟨⟨by show (0 : Int) ≤ u.2 + 1; omega, by show u.2 + 1 ≤ _; omega, ?_⟩, by show l.length - (u.2 + 1).toNat < l.length - u.2.toNat; omega⟩
    show u.1 ++ [Am.get l u.2.toNat] = s ++ l.take (u.2 + 1).toNat
    have e3 : (u.2 + 1).toNat = u.2.toNat + 1 := by omega
    rw [h2, e3, List.append_assoc, List.take_add_one]
    congr 2
    unfold Am.get
    rw [List.getD_eq_getElem?_getD, List.getElem?_eq_getElem (by omega)]
    rfl
  · simp only [Bool.cond_true_left, Bool.cond_false_right, Bool.not_eq_true', Bool.not_eq_false', Bool.or_eq_true, Bool.or_eq_false_iff, Bool.and_eq_true, Bool.and_eq_false_imp, Bool.not_true, Bool.not_false, decide_eq_true_eq, decide_eq_false_iff_not, Decidable.not_not, Int.not_lt, Int.not_le, Nat.not_lt, Nat.not_le, not_or, Bool.not_not, Bool.not_eq_true, Bool.true_eq_false, Bool.false_eq_true, Bool.or_true, Bool.true_or, Bool.and_true, Bool.true_and] at e
    show u.1 = s ++ l
    have e3 : u.2.toNat = l.length := by omega
    rw [h2, e3, List.take_length]

theorem law_ev (g : ApiGrammar) (a b : List ApiTree) (hw : ∀ k, k < g.lexes.length → (Am.get g.lexes k).word.length < 4294967281) (hl : a.length + b.length ≤ 2097152) : Evt (fun n => glosswrightlaw8TrainCountsAddUp n g a b) (fun r => r = true) := by
  unfold glosswrightlaw8TrainCountsAddUp
  refine Evt.bind trainReady_true fun v hv => Evt.cond (fun e => ?_) (fun _ => ?_)
  · subst hv; cases e
  refine Evt.thenM (copy_ev a [] _ (fun u => rfl) (by simp; omega)) (fun t ht => ?_) (fun r (hr : False) => hr.elim)
  have ht : t = [] ++ a := ht
  rw [List.nil_append] at ht
  subst ht
  unfold glosswrightlaw8TrainCountsAddUp_a0
  refine Evt.thenM (copy_ev b t _ (fun u => rfl) hl) (fun t2 ht => ?_) (fun r (hr : False) => hr.elim)
  have ht : t2 = t ++ b := ht
  subst ht
  unfold glosswrightlaw8TrainCountsAddUp_a1
  refine Evt.bind (trainCount2_ev g hw t) fun x hx => Evt.bind (trainCount2_ev g hw b) fun y hy => Evt.bind (trainCount_ev g hw (t ++ b)) fun z hz => Evt.cond (fun _ => Evt.pure rfl) (fun e => ?_)
  simp only [Bool.cond_true_left, Bool.cond_false_right, Bool.not_eq_true', Bool.not_eq_false', Bool.or_eq_true, Bool.or_eq_false_iff, Bool.and_eq_true, Bool.and_eq_false_imp, Bool.not_true, Bool.not_false, decide_eq_true_eq, decide_eq_false_iff_not, Decidable.not_not, Int.not_lt, Int.not_le, Nat.not_lt, Nat.not_le, not_or, Bool.not_not, Bool.not_eq_true, Bool.true_eq_false, Bool.false_eq_true, Bool.or_true, Bool.true_or, Bool.and_true, Bool.true_and] at e
  obtain ⟨hg, cx, px⟩ := hx e.1.1
  obtain ⟨_, cy, py⟩ := hy e.1.2
  obtain ⟨_, cz, pz⟩ := hz e.2
  have hg1 := hg.rules
  have hg2 := hg.lexes
  have hx1 : x.1.rules.length = g.rules.length := cx.r
  have hx2 : x.1.lexes.length = g.lexes.length := cx.l
  have hy1 : y.1.rules.length = g.rules.length := cy.r
  have hy2 : y.1.lexes.length = g.lexes.length := cy.l
  have hz1 : z.1.rules.length = g.rules.length := cz.r
  have hz2 : z.1.lexes.length = g.lexes.length := cz.l
  refine Evt.cond (fun e2 => ?_) (fun _ => ?_)
  · exfalso
    rw [hx1, hx2, hy1, hy2, hz1, hz2] at e2
    simp at e2
  refine Evt.thenM (P := ExP (fun _ => True) (fun r => r = true)) (Evt.loop (fun u : Int => z.1.rules.length - u.toNat) (fun u => 0 ≤ u ∧ u ≤ z.1.rules.length) _ _ ⟨by omega, by omega⟩ (fun u hu => ?_)) (fun _ _ => ?_) (fun r hr => hr)
  · unfold glosswrightlaw8TrainCountsAddUp_b2
    refine Evt.cond (fun e3 => ?_) (fun _ => Evt.pure trivial)
    simp only [Bool.cond_true_left, Bool.cond_false_right, Bool.not_eq_true', Bool.not_eq_false', Bool.or_eq_true, Bool.or_eq_false_iff, Bool.and_eq_true, Bool.and_eq_false_imp, Bool.not_true, Bool.not_false, decide_eq_true_eq, decide_eq_false_iff_not, Decidable.not_not, Int.not_lt, Int.not_le, Nat.not_lt, Nat.not_le, not_or, Bool.not_not, Bool.not_eq_true, Bool.true_eq_false, Bool.false_eq_true, Bool.or_true, Bool.true_or, Bool.and_true, Bool.true_and] at e3
    refine Evt.chk (by omega) (Evt.chk (by omega) (Evt.chk (by omega) (Evt.cond (fun e4 => ?_) (fun _ => Evt.pure ?_))))
    · exfalso
      simp only [Bool.cond_true_left, Bool.cond_false_right, Bool.not_eq_true', Bool.not_eq_false', Bool.or_eq_true, Bool.or_eq_false_iff, Bool.and_eq_true, Bool.and_eq_false_imp, Bool.not_true, Bool.not_false, decide_eq_true_eq, decide_eq_false_iff_not, Decidable.not_not, Int.not_lt, Int.not_le, Nat.not_lt, Nat.not_le, not_or, Bool.not_not, Bool.not_eq_true, Bool.true_eq_false, Bool.false_eq_true, Bool.or_true, Bool.true_or, Bool.and_true, Bool.true_and] at e4
      exact e4 (sum_at px py pz u.toNat (cz.inr _) (cz.inl _)).1
    · have hw : wr .i64 (u + 1) = u + 1 := wr_id (by omega) (by omega)
      rw [hw]
      exact ⟨⟨by omega, by omega⟩, by omega⟩
  · unfold glosswrightlaw8TrainCountsAddUp_a2
    refine Evt.thenM (P := ExP (fun _ => True) (fun r => r = true)) (Evt.loop (fun u : Int => z.1.lexes.length - u.toNat) (fun u => 0 ≤ u ∧ u ≤ z.1.lexes.length) _ _ ⟨by omega, by omega⟩ (fun u hu => ?_)) (fun _ _ => Evt.pure rfl) (fun r hr => hr)
    unfold glosswrightlaw8TrainCountsAddUp_b3
    refine Evt.cond (fun e3 => ?_) (fun _ => Evt.pure trivial)
    simp only [Bool.cond_true_left, Bool.cond_false_right, Bool.not_eq_true', Bool.not_eq_false', Bool.or_eq_true, Bool.or_eq_false_iff, Bool.and_eq_true, Bool.and_eq_false_imp, Bool.not_true, Bool.not_false, decide_eq_true_eq, decide_eq_false_iff_not, Decidable.not_not, Int.not_lt, Int.not_le, Nat.not_lt, Nat.not_le, not_or, Bool.not_not, Bool.not_eq_true, Bool.true_eq_false, Bool.false_eq_true, Bool.or_true, Bool.true_or, Bool.and_true, Bool.true_and] at e3
    refine Evt.chk (by omega) (Evt.chk (by omega) (Evt.chk (by omega) (Evt.cond (fun e4 => ?_) (fun _ => Evt.pure ?_))))
    · exfalso
      simp only [Bool.cond_true_left, Bool.cond_false_right, Bool.not_eq_true', Bool.not_eq_false', Bool.or_eq_true, Bool.or_eq_false_iff, Bool.and_eq_true, Bool.and_eq_false_imp, Bool.not_true, Bool.not_false, decide_eq_true_eq, decide_eq_false_iff_not, Decidable.not_not, Int.not_lt, Int.not_le, Nat.not_lt, Nat.not_le, not_or, Bool.not_not, Bool.not_eq_true, Bool.true_eq_false, Bool.false_eq_true, Bool.or_true, Bool.true_or, Bool.and_true, Bool.true_and] at e4
      exact e4 (sum_at px py pz u.toNat (cz.inr _) (cz.inl _)).2
    · have hw : wr .i64 (u + 1) = u + 1 := wr_id (by omega) (by omega)
      rw [hw]
      exact ⟨⟨by omega, by omega⟩, by omega⟩

end Go.Proofs.YtaohdfpcdfbnlaaDoor

