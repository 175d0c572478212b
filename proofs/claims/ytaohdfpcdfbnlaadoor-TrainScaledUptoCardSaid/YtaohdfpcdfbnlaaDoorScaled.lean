/-
  PL: relative frequencies; the law TrainScaled.
-/
import Derived.Test.YtaohdfpcdfbnlaaDoorVal4
import Derived.Test.YtaohdfpcdfbnlaaDoorReady
set_option linter.unusedVariables false
set_option linter.unusedSimpArgs false
namespace Go.Proofs.YtaohdfpcdfbnlaaDoor
open Go Go.Am

theorem Evt.bind2 {α β : Type} {P : α → Prop} {Q : β → Prop} {x : Nat → Option α} {f : Nat → α → Option β} (h : Evt x P) (hf : ∀ r, P r → Evt x (fun s => s = r) → Evt (fun n => f n r) Q) : Evt (fun n => (x n).bind (f n)) Q := by
  obtain ⟨r, hr, N, hN⟩ := h
  obtain ⟨s, hs, M, hM⟩ := hf r hr ⟨r, rfl, N, hN⟩
  exact ⟨s, hs, max N M, fun n hn => by show (x n).bind (f n) = _; rw [hN n (by omega)]; exact hM n (by omega)⟩
theorem Evt.at {α : Type} {P : α → Prop} {x : Nat → Option α} {r : α} (h : Evt x P) (h2 : Evt x (fun s => s = r)) : P r := by
  obtain ⟨s, hs, N, hN⟩ := h
  obtain ⟨t, ht, M, hM⟩ := h2
  have h1 := hN (max N M) (by omega)
  have h2 := hM (max N M) (by omega)
  rw [h1] at h2
  have : s = t := Option.some.inj h2
  rw [← ht, ← this]; exact hs

/-- where the mother of a rule is found -/
def Mother (g : ApiGraph) (v : Int) : Prop := Evt (fun n => graphTarget n g 0 0) (fun u => u = v) ∧ 0 ≤ v ∧ v < g.nodes.length

theorem lexrulePlaces_ev2 {T F : Nat} {g : ApiGraph} (hg : GraphOk T F g) (hF : F ≤ 40) {kids : Int} (hk : 0 ≤ kids) : Evt (fun n => lexrulePlaces n g kids) (fun b => b = true → ∃ v, Mother g v) := by
  unfold lexrulePlaces
  refine Evt.thenM (Evt.range (fun k _ => 0 < k → ∃ v, Mother g v) (fun _ => False) (fun b => b = false) (fun h => absurd h (Nat.lt_irrefl _)) (fun k s hk2 hi => ?_)) (fun t ht => Evt.pure fun _ => ?_) (fun r (hr : r = false) h => by rw [hr] at h; cases h)
  · unfold lexrulePlaces_b0
    refine Evt.bind2 (graphTarget_ev hg hF _) fun v hv he => Evt.cond (fun _ => Evt.pure rfl) (fun e => Evt.pure fun _ => ?_)
    by_cases h0 : k = 0
    · subst h0
      have e1 : decide (0 ≤ v) = true := by
        simp only [Bool.cond_true_left, Bool.cond_false_right, Bool.not_eq_true', Bool.not_eq_false', Bool.or_eq_true, Bool.or_eq_false_iff, Bool.and_eq_true, Bool.and_eq_false_imp, Bool.not_true, Bool.not_false, decide_eq_true_eq, decide_eq_false_iff_not, Decidable.not_not, Int.not_lt, Int.not_le, Nat.not_lt, Nat.not_le, not_or, Bool.not_not, Bool.not_eq_true, Bool.true_eq_false, Bool.false_eq_true, Bool.or_true, Bool.true_or, Bool.and_true, Bool.true_and] at e
        rw [e]
        exact decide_eq_true hk
      have e2 := of_decide_eq_true e1
      exact ⟨v, he, e2, hv e2⟩
    · exact hi (by omega)
  · simp only [ExP, or_false] at ht
    exact ht (by omega)

structure RuleOk (T F : Nat) (r : ApiRule) : Prop where
  graph : GraphOk T F r.graph
  mother : ∃ v, Mother r.graph v

theorem grammarRule_ev2 {h : ApiHierarchy} (hh : HierOk h) {t : HierarchyTable} (ht : TabOk h.types.length t) (r : ApiRule) : Evt (fun n => grammarRule n h t r) (fun c => c = 0 → RuleOk h.types.length h.feats.length r) := by
  unfold grammarRule
  refine Evt.cond (fun _ => Evt.pure fun h => absurd h (by decide)) (fun ek => Evt.bind (graphWithin_ev hh ht _) fun f hf => Evt.cond (fun e => Evt.pure fun e2 => ?_) (fun e => ?_))
  · simp only [Bool.cond_true_left, Bool.cond_false_right, Bool.not_eq_true', Bool.not_eq_false', Bool.or_eq_true, Bool.or_eq_false_iff, Bool.and_eq_true, Bool.and_eq_false_imp, Bool.not_true, Bool.not_false, decide_eq_true_eq, decide_eq_false_iff_not, Decidable.not_not, Int.not_lt, Int.not_le, Nat.not_lt, Nat.not_le, not_or, Bool.not_not, Bool.not_eq_true, Bool.true_eq_false, Bool.false_eq_true, Bool.or_true, Bool.true_or, Bool.and_true, Bool.true_and] at e
    exact absurd e2 e
  simp only [Bool.cond_true_left, Bool.cond_false_right, Bool.not_eq_true', Bool.not_eq_false', Bool.or_eq_true, Bool.or_eq_false_iff, Bool.and_eq_true, Bool.and_eq_false_imp, Bool.not_true, Bool.not_false, decide_eq_true_eq, decide_eq_false_iff_not, Decidable.not_not, Int.not_lt, Int.not_le, Nat.not_lt, Nat.not_le, not_or, Bool.not_not, Bool.not_eq_true, Bool.true_eq_false, Bool.false_eq_true, Bool.or_true, Bool.true_or, Bool.and_true, Bool.true_and] at e
  simp only [Bool.cond_true_left, Bool.cond_false_right, Bool.not_eq_true', Bool.not_eq_false', Bool.or_eq_true, Bool.or_eq_false_iff, Bool.and_eq_true, Bool.and_eq_false_imp, Bool.not_true, Bool.not_false, decide_eq_true_eq, decide_eq_false_iff_not, Decidable.not_not, Int.not_lt, Int.not_le, Nat.not_lt, Nat.not_le, not_or, Bool.not_not, Bool.not_eq_true, Bool.true_eq_false, Bool.false_eq_true, Bool.or_true, Bool.true_or, Bool.and_true, Bool.true_and] at ek
  refine Evt.bind (lexrulePlaces_ev2 (hf e) hh.feats (by omega)) fun b hb => Evt.cond (fun _ => Evt.pure fun h => absurd h (by decide)) (fun e2 => Evt.bind (termValidate_ev _) fun v _ => Evt.pure fun _ => ?_)
  simp only [Bool.cond_true_left, Bool.cond_false_right, Bool.not_eq_true', Bool.not_eq_false', Bool.or_eq_true, Bool.or_eq_false_iff, Bool.and_eq_true, Bool.and_eq_false_imp, Bool.not_true, Bool.not_false, decide_eq_true_eq, decide_eq_false_iff_not, Decidable.not_not, Int.not_lt, Int.not_le, Nat.not_lt, Nat.not_le, not_or, Bool.not_not, Bool.not_eq_true, Bool.true_eq_false, Bool.false_eq_true, Bool.or_true, Bool.true_or, Bool.and_true, Bool.true_and] at e2
  exact ⟨hf e, hb e2⟩

theorem lexruleEntry_ev2 {h : ApiHierarchy} (hh : HierOk h) {t : HierarchyTable} (ht : TabOk h.types.length t) (x : ApiLex) (hw : x.word.length < 4294967281) : Evt (fun n => lexruleEntry n h t x) (fun c => c = 0 → GraphOk h.types.length h.feats.length x.graph) := by
  unfold lexruleEntry
  refine Evt.bind (lexruleWord_ev _ hw) fun b _ => Evt.cond (fun _ => Evt.pure fun h => absurd h (by decide)) (fun _ => Evt.cond (fun _ => Evt.pure fun h => absurd h (by decide)) (fun _ => Evt.bind (graphWithin_ev hh ht _) fun f hf => Evt.cond (fun e => Evt.pure fun e2 => ?_) (fun e => ?_)))
  · simp only [Bool.cond_true_left, Bool.cond_false_right, Bool.not_eq_true', Bool.not_eq_false', Bool.or_eq_true, Bool.or_eq_false_iff, Bool.and_eq_true, Bool.and_eq_false_imp, Bool.not_true, Bool.not_false, decide_eq_true_eq, decide_eq_false_iff_not, Decidable.not_not, Int.not_lt, Int.not_le, Nat.not_lt, Nat.not_le, not_or, Bool.not_not, Bool.not_eq_true, Bool.true_eq_false, Bool.false_eq_true, Bool.or_true, Bool.true_or, Bool.and_true, Bool.true_and] at e
    exact absurd e2 e
  · simp only [Bool.cond_true_left, Bool.cond_false_right, Bool.not_eq_true', Bool.not_eq_false', Bool.or_eq_true, Bool.or_eq_false_iff, Bool.and_eq_true, Bool.and_eq_false_imp, Bool.not_true, Bool.not_false, decide_eq_true_eq, decide_eq_false_iff_not, Decidable.not_not, Int.not_lt, Int.not_le, Nat.not_lt, Nat.not_le, not_or, Bool.not_not, Bool.not_eq_true, Bool.true_eq_false, Bool.false_eq_true, Bool.or_true, Bool.true_or, Bool.and_true, Bool.true_and] at e
    exact Evt.bind (termValidate_ev _) fun v _ => Evt.pure fun _ => hf e

structure GramW (g : ApiGrammar) : Prop where
  types : g.hierarchy.types.length ≤ 60
  rules : g.rules.length ≤ 40
  lexes : g.lexes.length ≤ 100
  rule : ∀ k, k < g.rules.length → RuleOk g.hierarchy.types.length g.hierarchy.feats.length (Am.get g.rules k)
  lex : ∀ k, k < g.lexes.length → GraphOk g.hierarchy.types.length g.hierarchy.feats.length (Am.get g.lexes k).graph

theorem grammarValidate_ev2 (g : ApiGrammar) (hw : ∀ k, k < g.lexes.length → (Am.get g.lexes k).word.length < 4294967281) : Evt (fun n => grammarValidate n g) (fun f => f.code = 0 → GramW g) := by
  unfold grammarValidate
  refine Evt.bind (hierarchyValidate_ev _) fun f hf => Evt.cond (fun e => Evt.pure fun e2 => ?_) (fun e => ?_)
  · simp only [Bool.cond_true_left, Bool.cond_false_right, Bool.not_eq_true', Bool.not_eq_false', Bool.or_eq_true, Bool.or_eq_false_iff, Bool.and_eq_true, Bool.and_eq_false_imp, Bool.not_true, Bool.not_false, decide_eq_true_eq, decide_eq_false_iff_not, Decidable.not_not, Int.not_lt, Int.not_le, Nat.not_lt, Nat.not_le, not_or, Bool.not_not, Bool.not_eq_true, Bool.true_eq_false, Bool.false_eq_true, Bool.or_true, Bool.true_or, Bool.and_true, Bool.true_and] at e
    exact absurd e2 e
  simp only [Bool.cond_true_left, Bool.cond_false_right, Bool.not_eq_true', Bool.not_eq_false', Bool.or_eq_true, Bool.or_eq_false_iff, Bool.and_eq_true, Bool.and_eq_false_imp, Bool.not_true, Bool.not_false, decide_eq_true_eq, decide_eq_false_iff_not, Decidable.not_not, Int.not_lt, Int.not_le, Nat.not_lt, Nat.not_le, not_or, Bool.not_not, Bool.not_eq_true, Bool.true_eq_false, Bool.false_eq_true, Bool.or_true, Bool.true_or, Bool.and_true, Bool.true_and] at e
  have hh := hf e
  refine Evt.cond (fun _ => Evt.bind (grammarFault_ev _ _ (P := Bad) (bad_of (by decide))) fun r hr => Evt.pure fun e => absurd e hr) (fun _ => ?_)
  refine Evt.cond (fun _ => Evt.bind (grammarFault_ev _ _ (P := Bad) (bad_of (by decide))) fun r hr => Evt.pure fun e => absurd e hr) (fun e2 => ?_)
  simp only [Bool.cond_true_left, Bool.cond_false_right, Bool.not_eq_true', Bool.not_eq_false', Bool.or_eq_true, Bool.or_eq_false_iff, Bool.and_eq_true, Bool.and_eq_false_imp, Bool.not_true, Bool.not_false, decide_eq_true_eq, decide_eq_false_iff_not, Decidable.not_not, Int.not_lt, Int.not_le, Nat.not_lt, Nat.not_le, not_or, Bool.not_not, Bool.not_eq_true, Bool.true_eq_false, Bool.false_eq_true, Bool.or_true, Bool.true_or, Bool.and_true, Bool.true_and] at e2
  refine Evt.bind (hierarchyTables_ev hh.types) fun t ht => ?_
  refine Evt.thenM (Evt.range (fun k _ => ∀ j, j < k → RuleOk g.hierarchy.types.length g.hierarchy.feats.length (Am.get g.rules j)) (fun _ => False) Bad (fun j h => absurd h (Nat.not_lt_zero _)) (fun k s hk hi => ?_)) (fun u hu => ?_) (fun r hr e => absurd e hr)
  · unfold grammarValidate_b0
    refine Evt.bind (termName_ev _) fun b _ => ?_
    refine Evt.cond (fun _ => Evt.bind (grammarFault_ev _ _ (P := Bad) (bad_of (by decide))) fun r hr => Evt.pure hr) fun _ => ?_
    refine Evt.cond (fun _ => Evt.bind (grammarFault_ev _ _ (P := Bad) (bad_of (by decide))) fun r hr => Evt.pure hr) fun _ => ?_
    refine Evt.letM (Evt.bind (grammarRule_ev2 hh ht _) fun c hc => ?_)
    refine Evt.cond (fun e => ?_) fun e => Evt.pure ?_
    · simp only [Bool.cond_true_left, Bool.cond_false_right, Bool.not_eq_true', Bool.not_eq_false', Bool.or_eq_true, Bool.or_eq_false_iff, Bool.and_eq_true, Bool.and_eq_false_imp, Bool.not_true, Bool.not_false, decide_eq_true_eq, decide_eq_false_iff_not, Decidable.not_not, Int.not_lt, Int.not_le, Nat.not_lt, Nat.not_le, not_or, Bool.not_not, Bool.not_eq_true, Bool.true_eq_false, Bool.false_eq_true, Bool.or_true, Bool.true_or, Bool.and_true, Bool.true_and] at e
      exact Evt.bind (grammarFault_ev _ _ (P := Bad) (bad_of e)) fun r hr => Evt.pure hr
    · simp only [Bool.cond_true_left, Bool.cond_false_right, Bool.not_eq_true', Bool.not_eq_false', Bool.or_eq_true, Bool.or_eq_false_iff, Bool.and_eq_true, Bool.and_eq_false_imp, Bool.not_true, Bool.not_false, decide_eq_true_eq, decide_eq_false_iff_not, Decidable.not_not, Int.not_lt, Int.not_le, Nat.not_lt, Nat.not_le, not_or, Bool.not_not, Bool.not_eq_true, Bool.true_eq_false, Bool.false_eq_true, Bool.or_true, Bool.true_or, Bool.and_true, Bool.true_and] at e
      intro j hj
      by_cases ej : j = k
      · subst ej; exact hc e
      · exact hi j (by omega)
  · simp only [ExP, or_false] at hu
    unfold grammarValidate_a0
    refine Evt.thenM (Evt.range (fun k _ => ∀ j, j < k → GraphOk g.hierarchy.types.length g.hierarchy.feats.length (Am.get g.lexes j).graph) (fun _ => False) Bad (fun j h => absurd h (Nat.not_lt_zero _)) (fun k s hk hi => ?_)) (fun u2 hu2 => ?_) (fun r hr e => absurd e hr)
    · unfold grammarValidate_b1
      refine Evt.bind (lexruleEntry_ev2 hh ht _ (hw k hk)) fun c hc => ?_
      refine Evt.cond (fun e => ?_) fun e => Evt.pure ?_
      · simp only [Bool.cond_true_left, Bool.cond_false_right, Bool.not_eq_true', Bool.not_eq_false', Bool.or_eq_true, Bool.or_eq_false_iff, Bool.and_eq_true, Bool.and_eq_false_imp, Bool.not_true, Bool.not_false, decide_eq_true_eq, decide_eq_false_iff_not, Decidable.not_not, Int.not_lt, Int.not_le, Nat.not_lt, Nat.not_le, not_or, Bool.not_not, Bool.not_eq_true, Bool.true_eq_false, Bool.false_eq_true, Bool.or_true, Bool.true_or, Bool.and_true, Bool.true_and] at e
        exact Evt.bind (grammarFault_ev _ _ (P := Bad) (bad_of e)) fun r hr => Evt.pure hr
      · simp only [Bool.cond_true_left, Bool.cond_false_right, Bool.not_eq_true', Bool.not_eq_false', Bool.or_eq_true, Bool.or_eq_false_iff, Bool.and_eq_true, Bool.and_eq_false_imp, Bool.not_true, Bool.not_false, decide_eq_true_eq, decide_eq_false_iff_not, Decidable.not_not, Int.not_lt, Int.not_le, Nat.not_lt, Nat.not_le, not_or, Bool.not_not, Bool.not_eq_true, Bool.true_eq_false, Bool.false_eq_true, Bool.or_true, Bool.true_or, Bool.and_true, Bool.true_and] at e
        intro j hj
        by_cases ej : j = k
        · subst ej; exact hc e
        · exact hi j (by omega)
    · simp only [ExP, or_false] at hu2
      have hg : GramW g := ⟨hh.types.1, by omega, by omega, hu, hu2⟩
      unfold grammarValidate_a1
      refine Evt.bind (graphWithin_ev hh ht _) fun f _ => ?_
      exact Evt.cond (fun _ => Evt.bind (grammarFault_ev _ _ (P := fun _ => True) trivial) fun r hr => Evt.pure fun _ => hg) fun _ => Evt.pure fun _ => hg

/-! ### fractions -/

theorem fracGcd_ev (a b : Nat) : Evt (fun n => fracGcd n a b) (fun v => v = (Nat.gcd a b : Nat)) := by
  unfold fracGcd
  refine Evt.thenM (P := ExP (fun t : Int => t = (Nat.gcd a b : Nat)) (fun _ : Int => False)) (Evt.loop (fun s : Int × Int => s.2.toNat) (fun s => 0 ≤ s.1 ∧ 0 ≤ s.2 ∧ Nat.gcd s.1.toNat s.2.toNat = Nat.gcd a b) _ _ ⟨by show (0 : Int) ≤ (a : Int); omega, by show (0 : Int) ≤ (b : Int); omega, rfl⟩ (fun s hs => ?_)) (fun t ht => Evt.pure ht) (fun r hr => hr.elim)
  obtain ⟨h0, h1, h2⟩ := hs
  unfold fracGcd_b0
  refine Evt.cond (fun e => ?_) (fun e => Evt.pure ?_)
  · simp only [Bool.cond_true_left, Bool.cond_false_right, Bool.not_eq_true', Bool.not_eq_false', Bool.or_eq_true, Bool.or_eq_false_iff, Bool.and_eq_true, Bool.and_eq_false_imp, Bool.not_true, Bool.not_false, decide_eq_true_eq, decide_eq_false_iff_not, Decidable.not_not, Int.not_lt, Int.not_le, Nat.not_lt, Nat.not_le, not_or, Bool.not_not, Bool.not_eq_true, Bool.true_eq_false, Bool.false_eq_true, Bool.or_true, Bool.true_or, Bool.and_true, Bool.true_and] at e
    have hm : Int.tmod s.1 s.2 = ((s.1.toNat % s.2.toNat : Nat) : Int) := by
      obtain ⟨x, hx⟩ : ∃ x : Nat, s.1 = x := ⟨s.1.toNat, by omega⟩
      obtain ⟨y, hy⟩ : ∃ y : Nat, s.2 = y := ⟨s.2.toNat, by omega⟩
      rw [hx, hy, Int.toNat_natCast, Int.toNat_natCast]
      exact (Int.ofNat_tmod x y).symm
    have hp : 0 < s.2.toNat := by omega
    have hlt : s.1.toNat % s.2.toNat < s.2.toNat := Nat.mod_lt _ hp
    refine Evt.chk e (Evt.pure ?_)
    rw [hm]
    refine ⟨⟨h1, by show (0 : Int) ≤ ((s.1.toNat % s.2.toNat : Nat) : Int); omega, ?_⟩, by show (((s.1.toNat % s.2.toNat : Nat) : Int)).toNat < _; omega⟩
    show Nat.gcd s.2.toNat (((s.1.toNat % s.2.toNat : Nat) : Int)).toNat = _
    rw [Int.toNat_natCast, Nat.gcd_comm, ← Nat.gcd_rec, Nat.gcd_comm, h2]
  · simp only [Bool.cond_true_left, Bool.cond_false_right, Bool.not_eq_true', Bool.not_eq_false', Bool.or_eq_true, Bool.or_eq_false_iff, Bool.and_eq_true, Bool.and_eq_false_imp, Bool.not_true, Bool.not_false, decide_eq_true_eq, decide_eq_false_iff_not, Decidable.not_not, Int.not_lt, Int.not_le, Nat.not_lt, Nat.not_le, not_or, Bool.not_not, Bool.not_eq_true, Bool.true_eq_false, Bool.false_eq_true, Bool.or_true, Bool.true_or, Bool.and_true, Bool.true_and] at e
    show s.1 = _
    rw [e] at h2
    simp at h2
    omega

def shareN (a t : Nat) : ApiFrac := if 0 < t then ⟨((a / Nat.gcd a t : Nat) : Int), ((t / Nat.gcd a t : Nat) : Int)⟩ else ⟨0, 1⟩
theorem shareN_scale (a t b : Nat) (hb : 0 < b) : shareN (a * b) (t * b) = shareN a t := by
  unfold shareN
  by_cases h : 0 < t
  · rw [if_pos h, if_pos (Nat.mul_pos h hb), Nat.gcd_mul_right, Nat.mul_div_mul_right _ _ hb, Nat.mul_div_mul_right _ _ hb]
  · have : t = 0 := by omega
    subst this
    simp

theorem fracSize_ev (a : Nat) (ha : a ≤ 1152921504606846976) : Evt (fun _ => fracSize a) (fun v => v = a) := by
  unfold fracSize
  refine Evt.cond (fun e => ?_) (fun _ => Evt.pure ?_)
  · simp only [Bool.cond_true_left, Bool.cond_false_right, Bool.not_eq_true', Bool.not_eq_false', Bool.or_eq_true, Bool.or_eq_false_iff, Bool.and_eq_true, Bool.and_eq_false_imp, Bool.not_true, Bool.not_false, decide_eq_true_eq, decide_eq_false_iff_not, Decidable.not_not, Int.not_lt, Int.not_le, Nat.not_lt, Nat.not_le, not_or, Bool.not_not, Bool.not_eq_true, Bool.true_eq_false, Bool.false_eq_true, Bool.or_true, Bool.true_or, Bool.and_true, Bool.true_and] at e
    omega
  · exact u64_wrap (by omega)

theorem fracMake_ev (a t : Nat) (ha : a ≤ 1152921504606846976) (ht : t ≤ 1152921504606846976) (h0 : 0 < t) : Evt (fun n => fracMake n a t) (fun r => r.1 = shareN a t) := by
  have hg : 0 < Nat.gcd a t := Nat.gcd_pos_of_pos_right _ h0
  have h1 : a / Nat.gcd a t ≤ a := Nat.div_le_self _ _
  have h2 : t / Nat.gcd a t ≤ t := Nat.div_le_self _ _
  unfold fracMake
  refine Evt.cond (fun e => ?_) (fun _ => ?_)
  · simp only [Bool.cond_true_left, Bool.cond_false_right, Bool.not_eq_true', Bool.not_eq_false', Bool.or_eq_true, Bool.or_eq_false_iff, Bool.and_eq_true, Bool.and_eq_false_imp, Bool.not_true, Bool.not_false, decide_eq_true_eq, decide_eq_false_iff_not, Decidable.not_not, Int.not_lt, Int.not_le, Nat.not_lt, Nat.not_le, not_or, Bool.not_not, Bool.not_eq_true, Bool.true_eq_false, Bool.false_eq_true, Bool.or_true, Bool.true_or, Bool.and_true, Bool.true_and] at e
    omega
  refine Evt.bind (fracSize_ev a ha) fun v1 e1 => Evt.bind (fracSize_ev t ht) fun v2 e2 => ?_
  subst e1; subst e2
  refine Evt.bind (fracGcd_ev a t) fun v3 e3 => ?_
  subst e3
  have d1 : Int.tdiv (a : Int) (Nat.gcd a t : Nat) = ((a / Nat.gcd a t : Nat) : Int) := (Int.ofNat_tdiv a _).symm
  have d2 : Int.tdiv (t : Int) (Nat.gcd a t : Nat) = ((t / Nat.gcd a t : Nat) : Int) := (Int.ofNat_tdiv t _).symm
  rw [d1, d2]
  have hk : ∀ x : Nat, x ≤ 1152921504606846976 → InK .u64 (x : Int) := fun x hx => by
    have e1 : IntKind.u64.min = 0 := by decide
    have e2 : IntKind.u64.max = 18446744073709551615 := by decide
    exact ⟨by omega, by omega⟩
  refine Evt.chk ⟨by omega, hk _ (by omega)⟩ (Evt.chk (hk _ (by omega)) ?_)
  refine Evt.bind (P := fun r : ApiFrac × ApiFault => r.1 = shareN a t) ?_ fun r hr => Evt.pure hr
  unfold fracOf
  refine Evt.cond (fun e => ?_) (fun _ => Evt.cond (fun e => ?_) (fun _ => Evt.pure ?_))
  · exfalso
    simp only [Bool.cond_true_left, Bool.cond_false_right, Bool.not_eq_true', Bool.not_eq_false', Bool.or_eq_true, Bool.or_eq_false_iff, Bool.and_eq_true, Bool.and_eq_false_imp, Bool.not_true, Bool.not_false, decide_eq_true_eq, decide_eq_false_iff_not, Decidable.not_not, Int.not_lt, Int.not_le, Nat.not_lt, Nat.not_le, not_or, Bool.not_not, Bool.not_eq_true, Bool.true_eq_false, Bool.false_eq_true, Bool.or_true, Bool.true_or, Bool.and_true, Bool.true_and] at e
    omega
  · exfalso
    have e1 : decide ((a : Int) < 0) = false := decide_eq_false (by omega)
    have e2 : decide ((t : Int) < 0) = false := decide_eq_false (by omega)
    rw [e1, e2] at e
    cases e
  · show ApiFrac.mk (wr .i64 ((a / Nat.gcd a t : Nat) : Int)) (wr .i64 ((t / Nat.gcd a t : Nat) : Int)) = _
    unfold shareN
    rw [if_pos h0]
    clear d1 d2
    generalize a / Nat.gcd a t = x at h1
    generalize t / Nat.gcd a t = y at h2
    rw [wr_id (by omega) (by omega), wr_id (by omega) (by omega)]

/-! ### classes and sums -/

open Classical in
/-- the class of a rule's mother -/
noncomputable def classR (g : ApiGrammar) (k : Nat) : Nat := if h : ∃ v, Mother (Am.get g.rules k).graph v then (Am.get (Am.get g.rules k).graph.nodes (Classical.choose h).toNat).type.toNat else 0
def classL (g : ApiGrammar) (k : Nat) : Nat := (Am.get (Am.get g.lexes k).graph.nodes 0).type.toNat

theorem classR_at {g : ApiGrammar} (hg : GramW g) {k : Nat} (hk : k < g.rules.length) : ∃ v, Mother (Am.get g.rules k).graph v ∧ (Am.get (Am.get g.rules k).graph.nodes v.toNat).type = classR g k ∧ classR g k < g.hierarchy.types.length := by
  have hr := hg.rule k hk
  have hs := Classical.choose_spec hr.mother
  have ht := hr.graph.type (Classical.choose hr.mother).toNat (by have := hs.2; omega)
  refine ⟨Classical.choose hr.mother, hs, ?_⟩
  have e : classR g k = (Am.get (Am.get g.rules k).graph.nodes (Classical.choose hr.mother).toNat).type.toNat := dif_pos hr.mother
  rw [e]
  omega
theorem classL_at {g : ApiGrammar} (hg : GramW g) {k : Nat} (hk : k < g.lexes.length) : (Am.get (Am.get g.lexes k).graph.nodes 0).type = classL g k ∧ classL g k < g.hierarchy.types.length := by
  have hr := hg.lex k hk
  have ht := hr.type 0 hr.some
  unfold classL
  omega

/-- the sum of the values of a class -/
def acc (cls : Nat → Nat) (v : Nat → Int) : Nat → Nat → Int
  | 0, _ => 0
  | k + 1, c => acc cls v k c + if cls k = c then v k else 0
theorem acc_bounds {cls : Nat → Nat} {v : Nat → Int} {M : Int} (hM : 0 ≤ M) : ∀ k c, (∀ j, j < k → 0 ≤ v j ∧ v j ≤ M) → 0 ≤ acc cls v k c ∧ acc cls v k c ≤ k * M
  | 0, c, _ => by simp [acc]
  | k + 1, c, h => by
    have ih := acc_bounds (cls := cls) hM k c (fun j hj => h j (by omega))
    have hk := h k (by omega)
    have e : ((k + 1 : Nat) : Int) * M = k * M + M := by
      rw [Int.natCast_succ, Int.add_mul, Int.one_mul]
    rw [e]
    unfold acc
    split <;> omega
theorem acc_scale {cls : Nat → Nat} {v u : Nat → Int} {b : Int} : ∀ k c, (∀ j, j < k → u j = v j * b) → acc cls u k c = acc cls v k c * b
  | 0, c, _ => by simp [acc]
  | k + 1, c, h => by
    have ih := acc_scale (cls := cls) k c (fun j hj => h j (by omega))
    unfold acc
    rw [ih, h k (by omega), Int.add_mul]
    split
    · rfl
    · simp
/-- all that is counted of a class -/
noncomputable def tot (g : ApiGrammar) (c : ApiCounts) (cl : Nat) : Int := acc (classR g) (fun k => Am.get c.rules k) g.rules.length cl + acc (classL g) (fun k => Am.get c.lexes k) g.lexes.length cl

structure CntW (g : ApiGrammar) (c : ApiCounts) (M : Int) : Prop where
  r : c.rules.length = g.rules.length
  l : c.lexes.length = g.lexes.length
  vr : ∀ k, k < g.rules.length → 0 ≤ Am.get c.rules k ∧ Am.get c.rules k ≤ M
  vl : ∀ k, k < g.lexes.length → 0 ≤ Am.get c.lexes k ∧ Am.get c.lexes k ≤ M

/-- the state after some items: the sums so far, the classes so far -/
structure WSt (T : Nat) (cls : Nat → Nat) (base : Nat → Int) (v : Nat → Int) (k : Nat) (s : List Int × List Int) : Prop where
  len : s.1.length = T
  sums : ∀ c, c < T → Am.get s.1 c = base c + acc cls v k c
  cl : s.2.length = k
  at_ : ∀ j, j < k → Am.get s.2 j = cls j

theorem WSt.step {T : Nat} {cls : Nat → Nat} {base v : Nat → Int} {k : Nat} {s : List Int × List Int} (h : WSt T cls base v k s) (hc : cls k < T) (hb : ∀ c, c < T → -4611686018427387904 ≤ base c + acc cls v (k + 1) c ∧ base c + acc cls v (k + 1) c ≤ 4611686018427387904) :
    WSt T cls base v (k + 1) (s.1.set (cls k) (wr .i64 (Am.get s.1 (cls k) + v k)), s.2 ++ [(cls k : Int)]) := by
  refine ⟨by simp; exact h.len, fun c hc2 => ?_, by simp; exact h.cl, fun j hj => ?_⟩
  · show Am.get (s.1.set (cls k) _) c = _
    rw [get_set]
    by_cases e : cls k = c
    · subst e
      rw [if_pos ⟨rfl, by rw [h.len]; exact hc⟩, h.sums _ hc]
      have e2 : acc cls v (k + 1) (cls k) = acc cls v k (cls k) + v k := by simp [acc]
      have := hb (cls k) hc
      rw [e2] at this ⊢
      rw [wr_id (by omega) (by omega)]
      omega
    · rw [if_neg (fun x => e x.1), h.sums _ hc2]
      have e2 : acc cls v (k + 1) c = acc cls v k c := by simp [acc, e]
      rw [e2]
  · show Am.get (s.2 ++ [(cls k : Int)]) j = _
    by_cases e : j = k
    · subst e
      have := get_app_new (l := s.2) (x := (cls j : Int))
      rwa [h.cl] at this
    · rw [get_app_l (by rw [h.cl]; omega)]
      exact h.at_ j (by omega)

theorem weights1_ev (T m : Nat) (cls : Nat → Nat) (tt : Nat → Int) (a l0 l2 : List Int) (hm : m ≤ 100) (ha : a.length = m) (h0 : l0.length = m) (h2 : l2.length = T) (hc : ∀ k, k < m → Am.get l0 k = cls k ∧ cls k < T)
    (hs : ∀ c, c < T → Am.get l2 c = tt c ∧ 0 ≤ tt c ∧ tt c ≤ 1152921504606846976) (hv : ∀ k, k < m → 0 ≤ Am.get a k ∧ Am.get a k ≤ 1152921504606846976) :
    Evt (fun n => trainWeights1 n a l0 l2) (fun r => r.length = m ∧ ∀ k, k < m → Am.get r k = shareN (Am.get a k).toNat (tt (cls k)).toNat) := by
  unfold trainWeights1
  refine Evt.chk (by omega) ?_
  refine Evt.thenM (Evt.range (fun k s => s.length = k ∧ ∀ j, j < k → Am.get s j = shareN (Am.get a j).toNat (tt (cls j)).toNat) (fun _ => False) (fun _ => False) ⟨rfl, fun j h => absurd h (Nat.not_lt_zero _)⟩ (fun k s hk hi => ?_)) (fun t ht => ?_) (fun r (hr : False) => hr.elim)
  · rw [h0] at hk
    obtain ⟨e1, e2⟩ := hc k hk
    obtain ⟨e3, e4, e5⟩ := hs (cls k) e2
    have e6 := hv k hk
    have key : ∀ x : ApiFrac, x = shareN (Am.get a k).toNat (tt (cls k)).toNat → (s ++ [x]).length = k + 1 ∧ ∀ j, j < k + 1 → Am.get (s ++ [x]) j = shareN (Am.get a j).toNat (tt (cls j)).toNat := fun x hx => by
      refine ⟨by simp; exact hi.1, fun j hj => ?_⟩
      by_cases ej : j = k
      · subst ej
        have := get_app_new (l := s) (x := x)
        rw [hi.1] at this
        rw [this, hx]
      · rw [get_app_l (by rw [hi.1]; omega)]
        exact hi.2 j (by omega)
    have hlen : ∀ x : ApiFrac, (s ++ [x]).length = k + 1 := fun x => by simp; exact hi.1
    unfold trainWeights1_b0
    rw [e1, Int.toNat_natCast, e3]
    refine Evt.chk (by omega) (Evt.cond (fun e => ?_) (fun e => ?_))
    · simp only [Bool.cond_true_left, Bool.cond_false_right, Bool.not_eq_true', Bool.not_eq_false', Bool.or_eq_true, Bool.or_eq_false_iff, Bool.and_eq_true, Bool.and_eq_false_imp, Bool.not_true, Bool.not_false, decide_eq_true_eq, decide_eq_false_iff_not, Decidable.not_not, Int.not_lt, Int.not_le, Nat.not_lt, Nat.not_le, not_or, Bool.not_not, Bool.not_eq_true, Bool.true_eq_false, Bool.false_eq_true, Bool.or_true, Bool.true_or, Bool.and_true, Bool.true_and] at e
      obtain ⟨x, hx⟩ : ∃ x : Nat, Am.get a k = x := ⟨(Am.get a k).toNat, by omega⟩
      obtain ⟨y, hy⟩ : ∃ y : Nat, tt (cls k) = y := ⟨(tt (cls k)).toNat, by omega⟩
      rw [hx, hy]
      refine Evt.chk (by omega) (Evt.bind (fracMake_ev x y (by omega) (by omega) (by omega)) fun r hr => Evt.letM (Evt.chk (by rw [hlen, top_eq]; omega) (Evt.pure (key _ ?_))))
      rw [hr, hx, hy]
      rfl
    · simp only [Bool.cond_true_left, Bool.cond_false_right, Bool.not_eq_true', Bool.not_eq_false', Bool.or_eq_true, Bool.or_eq_false_iff, Bool.and_eq_true, Bool.and_eq_false_imp, Bool.not_true, Bool.not_false, decide_eq_true_eq, decide_eq_false_iff_not, Decidable.not_not, Int.not_lt, Int.not_le, Nat.not_lt, Nat.not_le, not_or, Bool.not_not, Bool.not_eq_true, Bool.true_eq_false, Bool.false_eq_true, Bool.or_true, Bool.true_or, Bool.and_true, Bool.true_and] at e
      refine Evt.letM (Evt.chk (by rw [hlen, top_eq]; omega) (Evt.pure (key _ ?_)))
      unfold shareN
      rw [if_neg (by omega)]
  · simp only [ExP, or_false] at ht
    rw [h0] at ht
    exact Evt.pure ht

/-- the relative frequencies -/
def WIs (g : ApiGrammar) (c : ApiCounts) (r : List ApiFrac × List ApiFrac) : Prop :=
  (r.1.length = g.rules.length ∧ ∀ k, k < g.rules.length → Am.get r.1 k = shareN (Am.get c.rules k).toNat (tot g c (classR g k)).toNat) ∧
  (r.2.length = g.lexes.length ∧ ∀ k, k < g.lexes.length → Am.get r.2 k = shareN (Am.get c.lexes k).toNat (tot g c (classL g k)).toNat)

theorem trainWeights_ev {g : ApiGrammar} (hg : GramW g) {c : ApiCounts} (hc : CntW g c 1000000000) : Evt (fun n => trainWeights n g c) (WIs g c) := by
  have g1 := hg.types
  have g2 := hg.rules
  have g3 := hg.lexes
  have c1 := hc.r
  have c2 := hc.l
  have hbR : ∀ k cl, k ≤ g.rules.length → 0 ≤ acc (classR g) (fun k => Am.get c.rules k) k cl ∧ acc (classR g) (fun k => Am.get c.rules k) k cl ≤ 40000000000 := fun k cl hk => by
    have := acc_bounds (cls := classR g) (v := fun k => Am.get c.rules k) (M := 1000000000) (by omega) k cl (fun j hj => hc.vr j (by omega))
    omega
  have hbL : ∀ k cl, k ≤ g.lexes.length → 0 ≤ acc (classL g) (fun k => Am.get c.lexes k) k cl ∧ acc (classL g) (fun k => Am.get c.lexes k) k cl ≤ 100000000000 := fun k cl hk => by
    have := acc_bounds (cls := classL g) (v := fun k => Am.get c.lexes k) (M := 1000000000) (by omega) k cl (fun j hj => hc.vl j (by omega))
    omega
  unfold trainWeights
  refine Evt.chk (by rw [top_eq]; omega) ?_
  refine Evt.thenM (Evt.range (fun k s => WSt g.hierarchy.types.length (classR g) (fun _ => 0) (fun k => Am.get c.rules k) k s) (fun _ => False) (fun _ => False) ⟨by simp, fun cl _ => by show Am.get (List.replicate _ default) cl = _; rw [get_rep]; rfl, rfl, fun j h => absurd h (Nat.not_lt_zero _)⟩ (fun k s hk hi => ?_)) (fun t ht => ?_) (fun r (hr : False) => hr.elim)
  · obtain ⟨v, ⟨hm, hv0, hv1⟩, ht, hcl⟩ := classR_at hg hk
    have hs := hi.step hcl (fun cl _ => by have := hbR (k + 1) cl (by omega); omega)
    unfold trainWeights_b0
    refine Evt.bind hm fun u hu => ?_
    subst hu
    rw [ht, Int.toNat_natCast]
    have hl2 : (s.2 ++ [(classR g k : Int)]).length = k + 1 := hs.cl
    refine Evt.chk ⟨hv0, hv1⟩ (Evt.letM (Evt.chk (by rw [hl2, top_eq]; omega) (Evt.chk (by rw [hi.len]; omega) (Evt.chk (by omega) (Evt.letM (Evt.pure hs))))))
  · simp only [ExP, or_false] at ht
    unfold trainWeights_a0
    refine Evt.thenM (Evt.range (fun k s => WSt g.hierarchy.types.length (classL g) (fun cl => acc (classR g) (fun k => Am.get c.rules k) g.rules.length cl) (fun k => Am.get c.lexes k) k s) (fun _ => False) (fun _ => False) ⟨ht.len, fun cl hcl => by have := ht.sums cl hcl; simp only [acc]; omega, rfl, fun j h => absurd h (Nat.not_lt_zero _)⟩ (fun k s hk hi => ?_)) (fun u hu => ?_) (fun r (hr : False) => hr.elim)
    · obtain ⟨ht2, hcl⟩ := classL_at hg hk
      have hs := hi.step hcl (fun cl _ => by have := hbR g.rules.length cl (Nat.le_refl _); have := hbL (k + 1) cl (by omega); omega)
      have hn := (hg.lex k hk).some
      unfold trainWeights_b1
      rw [ht2, Int.toNat_natCast]
      have hl2 : (s.2 ++ [(classL g k : Int)]).length = k + 1 := hs.cl
      exact Evt.chk (by omega) (Evt.letM (Evt.chk (by rw [hl2, top_eq]; omega) (Evt.chk (by rw [hi.len]; omega) (Evt.chk (by omega) (Evt.letM (Evt.pure hs))))))
    · simp only [ExP, or_false] at hu
      have hsum : ∀ cl, cl < g.hierarchy.types.length → Am.get u.1 cl = tot g c cl ∧ 0 ≤ tot g c cl ∧ tot g c cl ≤ 1152921504606846976 := fun cl hcl => by
        have h1 := hu.sums cl hcl
        have h2 := hbR g.rules.length cl (Nat.le_refl _)
        have h3 := hbL g.lexes.length cl (Nat.le_refl _)
        unfold tot
        omega
      unfold trainWeights_a1
      refine Evt.bind (weights1_ev g.hierarchy.types.length g.rules.length (classR g) (tot g c) c.rules t.2 u.1 (by omega) c1 ht.cl hu.len (fun k hk => ⟨ht.at_ k hk, by obtain ⟨_, _, _, h⟩ := classR_at hg hk; exact h⟩) hsum (fun k hk => by have := hc.vr k hk; omega)) fun x hx => ?_
      refine Evt.bind (weights1_ev g.hierarchy.types.length g.lexes.length (classL g) (tot g c) c.lexes u.2 u.1 (by omega) c2 hu.cl hu.len (fun k hk => ⟨hu.at_ k hk, (classL_at hg hk).2⟩) hsum (fun k hk => by have := hc.vl k hk; omega)) fun y hy => ?_
      exact Evt.pure ⟨hx, hy⟩

/-! ### the checks, and the law -/

theorem trainCheck_ev (g : ApiGrammar) (hw : ∀ k, k < g.lexes.length → (Am.get g.lexes k).word.length < 4294967281) (c : ApiCounts) :
    Evt (fun n => trainCheck n g c) (fun f => f.code = 0 → Evt (fun n => grammarValidate n g) (fun f => f.code = 0) ∧ GramW g ∧ CntW g c 1000000) := by
  unfold trainCheck
  refine Evt.bind2 (grammarValidate_ev2 g hw) fun f hf he => Evt.cond (fun e => Evt.pure fun e2 => ?_) (fun e => ?_)
  · simp only [Bool.cond_true_left, Bool.cond_false_right, Bool.not_eq_true', Bool.not_eq_false', Bool.or_eq_true, Bool.or_eq_false_iff, Bool.and_eq_true, Bool.and_eq_false_imp, Bool.not_true, Bool.not_false, decide_eq_true_eq, decide_eq_false_iff_not, Decidable.not_not, Int.not_lt, Int.not_le, Nat.not_lt, Nat.not_le, not_or, Bool.not_not, Bool.not_eq_true, Bool.true_eq_false, Bool.false_eq_true, Bool.or_true, Bool.true_or, Bool.and_true, Bool.true_and] at e
    exact absurd e2 e
  simp only [Bool.cond_true_left, Bool.cond_false_right, Bool.not_eq_true', Bool.not_eq_false', Bool.or_eq_true, Bool.or_eq_false_iff, Bool.and_eq_true, Bool.and_eq_false_imp, Bool.not_true, Bool.not_false, decide_eq_true_eq, decide_eq_false_iff_not, Decidable.not_not, Int.not_lt, Int.not_le, Nat.not_lt, Nat.not_le, not_or, Bool.not_not, Bool.not_eq_true, Bool.true_eq_false, Bool.false_eq_true, Bool.or_true, Bool.true_or, Bool.and_true, Bool.true_and] at e
  have hg := hf e
  refine Evt.cond (fun _ => Evt.bind (trainFault_ev _ _ (P := Bad) (bad_of (by decide))) fun r hr => Evt.pure fun e => absurd e hr) (fun e2 => ?_)
  simp only [Bool.cond_true_left, Bool.cond_false_right, Bool.not_eq_true', Bool.not_eq_false', Bool.or_eq_true, Bool.or_eq_false_iff, Bool.and_eq_true, Bool.and_eq_false_imp, Bool.not_true, Bool.not_false, decide_eq_true_eq, decide_eq_false_iff_not, Decidable.not_not, Int.not_lt, Int.not_le, Nat.not_lt, Nat.not_le, not_or, Bool.not_not, Bool.not_eq_true, Bool.true_eq_false, Bool.false_eq_true, Bool.or_true, Bool.true_or, Bool.and_true, Bool.true_and] at e2
  refine Evt.thenM (Evt.range (fun k _ => ∀ j, j < k → 0 ≤ Am.get c.rules j ∧ Am.get c.rules j ≤ 1000000) (fun _ => False) Bad (fun j h => absurd h (Nat.not_lt_zero _)) (fun k s hk hi => ?_)) (fun u hu => ?_) (fun r hr e => absurd e hr)
  · unfold trainCheck_b0
    refine Evt.cond (fun _ => Evt.bind (trainFault_ev _ _ (P := Bad) (bad_of (by decide))) fun r hr => Evt.pure hr) (fun e3 => Evt.pure ?_)
    simp only [Bool.cond_true_left, Bool.cond_false_right, Bool.not_eq_true', Bool.not_eq_false', Bool.or_eq_true, Bool.or_eq_false_iff, Bool.and_eq_true, Bool.and_eq_false_imp, Bool.not_true, Bool.not_false, decide_eq_true_eq, decide_eq_false_iff_not, Decidable.not_not, Int.not_lt, Int.not_le, Nat.not_lt, Nat.not_le, not_or, Bool.not_not, Bool.not_eq_true, Bool.true_eq_false, Bool.false_eq_true, Bool.or_true, Bool.true_or, Bool.and_true, Bool.true_and] at e3
    intro j hj
    by_cases ej : j = k
    · subst ej; omega
    · exact hi j (by omega)
  · simp only [ExP, or_false] at hu
    unfold trainCheck_a0
    refine Evt.thenM (Evt.range (fun k _ => ∀ j, j < k → 0 ≤ Am.get c.lexes j ∧ Am.get c.lexes j ≤ 1000000) (fun _ => False) Bad (fun j h => absurd h (Nat.not_lt_zero _)) (fun k s hk hi => ?_)) (fun u2 hu2 => ?_) (fun r hr e => absurd e hr)
    · unfold trainCheck_b1
      refine Evt.cond (fun _ => Evt.bind (trainFault_ev _ _ (P := Bad) (bad_of (by decide))) fun r hr => Evt.pure hr) (fun e3 => Evt.pure ?_)
      simp only [Bool.cond_true_left, Bool.cond_false_right, Bool.not_eq_true', Bool.not_eq_false', Bool.or_eq_true, Bool.or_eq_false_iff, Bool.and_eq_true, Bool.and_eq_false_imp, Bool.not_true, Bool.not_false, decide_eq_true_eq, decide_eq_false_iff_not, Decidable.not_not, Int.not_lt, Int.not_le, Nat.not_lt, Nat.not_le, not_or, Bool.not_not, Bool.not_eq_true, Bool.true_eq_false, Bool.false_eq_true, Bool.or_true, Bool.true_or, Bool.and_true, Bool.true_and] at e3
      intro j hj
      by_cases ej : j = k
      · subst ej; omega
      · exact hi j (by omega)
    · simp only [ExP, or_false] at hu2
      unfold trainCheck_a1
      have h1 : c.rules.length = g.rules.length := by omega
      have h2 : c.lexes.length = g.lexes.length := by omega
      exact Evt.pure fun _ => ⟨he.mono fun r hr => by rw [hr]; exact e, hg, h1, h2, fun k hk => hu k (by omega), fun k hk => hu2 k (by omega)⟩

/-- counts of the right lengths for a valid grammar: the check's only complaint is about a number -/
theorem trainCheck_ev3 (g : ApiGrammar) (hv : Evt (fun n => grammarValidate n g) (fun f => f.code = 0)) (c : ApiCounts) (h1 : c.rules.length = g.rules.length) (h2 : c.lexes.length = g.lexes.length) :
    Evt (fun n => trainCheck n g c) (fun f => f.code = 0 ∨ f.code = 3) := by
  unfold trainCheck
  refine Evt.bind hv fun f hf => Evt.cond (fun e => ?_) (fun e => ?_)
  · simp only [Bool.cond_true_left, Bool.cond_false_right, Bool.not_eq_true', Bool.not_eq_false', Bool.or_eq_true, Bool.or_eq_false_iff, Bool.and_eq_true, Bool.and_eq_false_imp, Bool.not_true, Bool.not_false, decide_eq_true_eq, decide_eq_false_iff_not, Decidable.not_not, Int.not_lt, Int.not_le, Nat.not_lt, Nat.not_le, not_or, Bool.not_not, Bool.not_eq_true, Bool.true_eq_false, Bool.false_eq_true, Bool.or_true, Bool.true_or, Bool.and_true, Bool.true_and] at e
    exact absurd hf e
  refine Evt.cond (fun e2 => ?_) (fun e2 => ?_)
  · simp only [Bool.cond_true_left, Bool.cond_false_right, Bool.not_eq_true', Bool.not_eq_false', Bool.or_eq_true, Bool.or_eq_false_iff, Bool.and_eq_true, Bool.and_eq_false_imp, Bool.not_true, Bool.not_false, decide_eq_true_eq, decide_eq_false_iff_not, Decidable.not_not, Int.not_lt, Int.not_le, Nat.not_lt, Nat.not_le, not_or, Bool.not_not, Bool.not_eq_true, Bool.true_eq_false, Bool.false_eq_true, Bool.or_true, Bool.true_or, Bool.and_true, Bool.true_and] at e2
    omega
  refine Evt.thenM (Evt.range (fun k _ => True) (fun _ => False) (fun r : ApiFault => r.code = 3) trivial (fun k s hk hi => ?_)) (fun u hu => ?_) (fun r (hr : r.code = 3) => .inr hr)
  · unfold trainCheck_b0
    exact Evt.cond (fun _ => Evt.bind (trainFault_ev _ _ (P := fun r => r.code = 3) rfl) fun r hr => Evt.pure hr) (fun e3 => Evt.pure trivial)
  · unfold trainCheck_a0
    refine Evt.thenM (Evt.range (fun k _ => True) (fun _ => False) (fun r : ApiFault => r.code = 3) trivial (fun k s hk hi => ?_)) (fun u2 hu2 => Evt.pure (.inl rfl)) (fun r (hr : r.code = 3) => .inr hr)
    unfold trainCheck_b1
    exact Evt.cond (fun _ => Evt.bind (trainFault_ev _ _ (P := fun r => r.code = 3) rfl) fun r hr => Evt.pure hr) (fun e3 => Evt.pure trivial)

theorem CntW.le {g : ApiGrammar} {c : ApiCounts} {M N : Int} (h : CntW g c M) (hm : M ≤ N) : CntW g c N := ⟨h.r, h.l, fun k hk => by have := h.vr k hk; omega, fun k hk => by have := h.vl k hk; omega⟩

theorem weights_ev (g : ApiGrammar) (hw : ∀ k, k < g.lexes.length → (Am.get g.lexes k).word.length < 4294967281) (c : ApiCounts) :
    Evt (fun n => trainWeights_2 n g c) (fun r => r.2.2.code = 0 → Evt (fun n => grammarValidate n g) (fun f => f.code = 0) ∧ GramW g ∧ CntW g c 1000000 ∧ WIs g c (r.1, r.2.1)) := by
  unfold trainWeights_2
  refine Evt.bind (trainCheck_ev g hw c) fun f hf => Evt.cond (fun e => Evt.pure fun e2 => ?_) (fun e => ?_)
  · simp only [Bool.cond_true_left, Bool.cond_false_right, Bool.not_eq_true', Bool.not_eq_false', Bool.or_eq_true, Bool.or_eq_false_iff, Bool.and_eq_true, Bool.and_eq_false_imp, Bool.not_true, Bool.not_false, decide_eq_true_eq, decide_eq_false_iff_not, Decidable.not_not, Int.not_lt, Int.not_le, Nat.not_lt, Nat.not_le, not_or, Bool.not_not, Bool.not_eq_true, Bool.true_eq_false, Bool.false_eq_true, Bool.or_true, Bool.true_or, Bool.and_true, Bool.true_and] at e
    exact absurd e2 e
  simp only [Bool.cond_true_left, Bool.cond_false_right, Bool.not_eq_true', Bool.not_eq_false', Bool.or_eq_true, Bool.or_eq_false_iff, Bool.and_eq_true, Bool.and_eq_false_imp, Bool.not_true, Bool.not_false, decide_eq_true_eq, decide_eq_false_iff_not, Decidable.not_not, Int.not_lt, Int.not_le, Nat.not_lt, Nat.not_le, not_or, Bool.not_not, Bool.not_eq_true, Bool.true_eq_false, Bool.false_eq_true, Bool.or_true, Bool.true_or, Bool.and_true, Bool.true_and] at e
  obtain ⟨h1, h2, h3⟩ := hf e
  exact Evt.bind (trainWeights_ev h2 (h3.le (by omega))) fun r hr => Evt.pure fun _ => ⟨h1, h2, h3, hr⟩

theorem weights_ev3 (g : ApiGrammar) (hv : Evt (fun n => grammarValidate n g) (fun f => f.code = 0)) (hg : GramW g) (c : ApiCounts) (hc : CntW g c 1000000000) :
    Evt (fun n => trainWeights_2 n g c) (fun r => (r.2.2.code = 0 ∧ WIs g c (r.1, r.2.1)) ∨ (r.2.2.code ≠ 0 ∧ r.2.2.code = 3)) := by
  unfold trainWeights_2
  refine Evt.bind (trainCheck_ev3 g hv c hc.r hc.l) fun f hf => Evt.cond (fun e => Evt.pure ?_) (fun e => ?_)
  · simp only [Bool.cond_true_left, Bool.cond_false_right, Bool.not_eq_true', Bool.not_eq_false', Bool.or_eq_true, Bool.or_eq_false_iff, Bool.and_eq_true, Bool.and_eq_false_imp, Bool.not_true, Bool.not_false, decide_eq_true_eq, decide_eq_false_iff_not, Decidable.not_not, Int.not_lt, Int.not_le, Nat.not_lt, Nat.not_le, not_or, Bool.not_not, Bool.not_eq_true, Bool.true_eq_false, Bool.false_eq_true, Bool.or_true, Bool.true_or, Bool.and_true, Bool.true_and] at e
    rcases hf with hf | hf
    · exact absurd hf e
    · exact .inr ⟨e, hf⟩
  · exact Evt.bind (trainWeights_ev hg hc) fun r hr => Evt.pure (.inl ⟨rfl, hr⟩)

theorem times_ev (l : List Int) (b : Int) (hl : l.length ≤ 1000) (hb : 1 ≤ b ∧ b ≤ 1000) (hv : ∀ k, k < l.length → 0 ≤ Am.get l k ∧ Am.get l k ≤ 1000000) (body : List Int × Int → Option (Ctl Bool (List Int × Int) (List Int)))
    (hbody : ∀ u : List Int × Int, body u = (bif (decide (u.2 < (l.length : Int))) then
      chk (0 ≤ u.2 ∧ u.2 < (l.length : Int)) <| letM (u.1 ++ [(wr .i64 (Am.get l u.2.toNat * b))]) fun c => chk (c.length * 8 ≤ top ∧ c.length ≤ top) <| some (.nxt (c, (wr .i64 (u.2 + 1)))) else some (.brk u.1))) :
    Evt (fun n => loopM body n ([], 0)) (ExP (fun t => t.length = l.length ∧ ∀ k, k < l.length → Am.get t k = Am.get l k * b) (fun _ => False)) := by
  refine Evt.loop (fun u : List Int × Int => l.length - u.2.toNat) (fun u => 0 ≤ u.2 ∧ u.2 ≤ l.length ∧ u.1.length = u.2.toNat ∧ ∀ k, k < u.2.toNat → Am.get u.1 k = Am.get l k * b) _ _ ⟨by show (0 : Int) ≤ 0; omega, by show (0 : Int) ≤ _; omega, rfl, fun k h => absurd h (Nat.not_lt_zero _)⟩ (fun u hu => ?_)
  obtain ⟨h0, h1, h2, h3⟩ := hu
  rw [show (fun _ : Nat => body u) = fun _ => _ from funext fun _ => hbody u]
  refine Evt.cond (fun e => ?_) (fun e => Evt.pure ?_)
  · simp only [Bool.cond_true_left, Bool.cond_false_right, Bool.not_eq_true', Bool.not_eq_false', Bool.or_eq_true, Bool.or_eq_false_iff, Bool.and_eq_true, Bool.and_eq_false_imp, Bool.not_true, Bool.not_false, decide_eq_true_eq, decide_eq_false_iff_not, Decidable.not_not, Int.not_lt, Int.not_le, Nat.not_lt, Nat.not_le, not_or, Bool.not_not, Bool.not_eq_true, Bool.true_eq_false, Bool.false_eq_true, Bool.or_true, Bool.true_or, Bool.and_true, Bool.true_and] at e
    have hlen : (u.1 ++ [wr .i64 (Am.get l u.2.toNat * b)]).length = u.2.toNat + 1 := by simp; exact h2
    have hw : wr .i64 (u.2 + 1) = u.2 + 1 := wr_id (by omega) (by omega)
    have hx := hv u.2.toNat (by omega)
    have hp1 : 0 ≤ Am.get l u.2.toNat * b := Int.mul_nonneg hx.1 (by omega)
    have hp2 : Am.get l u.2.toNat * b ≤ 1000000 * 1000 := Int.mul_le_mul hx.2 hb.2 (by omega) (by omega)
    have hw2 : wr .i64 (Am.get l u.2.toNat * b) = Am.get l u.2.toNat * b := wr_id (by omega) (by omega)
    refine Evt.chk (by omega) (Evt.letM (Evt.chk (by rw [hlen, top_eq]; omega) (Evt.pure ?_)))
    rw [hw]
    refine ⟨⟨by show (0 : Int) ≤ u.2 + 1; omega, by show u.2 + 1 ≤ _; omega, by rw [hlen]; show _ = (u.2 + 1).toNat; omega, fun k hk => ?_⟩, by show l.length - (u.2 + 1).toNat < l.length - u.2.toNat; omega⟩
    have hk : k < (u.2 + 1).toNat := hk
    show Am.get (u.1 ++ [_]) k = _
    by_cases ek : k = u.2.toNat
    · subst ek
      have := get_app_new (l := u.1) (x := wr .i64 (Am.get l u.2.toNat * b))
      rw [h2] at this
      rw [this, hw2]
    · rw [get_app_l (by omega)]
      exact h3 k (by omega)
  · simp only [Bool.cond_true_left, Bool.cond_false_right, Bool.not_eq_true', Bool.not_eq_false', Bool.or_eq_true, Bool.or_eq_false_iff, Bool.and_eq_true, Bool.and_eq_false_imp, Bool.not_true, Bool.not_false, decide_eq_true_eq, decide_eq_false_iff_not, Decidable.not_not, Int.not_lt, Int.not_le, Nat.not_lt, Nat.not_le, not_or, Bool.not_not, Bool.not_eq_true, Bool.true_eq_false, Bool.false_eq_true, Bool.or_true, Bool.true_or, Bool.and_true, Bool.true_and] at e
    have e3 : u.2.toNat = l.length := by omega
    rw [e3] at h2 h3
    exact ⟨h2, h3⟩

theorem toNat_mul {x b : Int} (hx : 0 ≤ x) (hb : 0 ≤ b) : (x * b).toNat = x.toNat * b.toNat := by
  obtain ⟨y, rfl⟩ : ∃ y : Nat, x = y := ⟨x.toNat, by omega⟩
  obtain ⟨c, rfl⟩ : ∃ c : Nat, b = c := ⟨b.toNat, by omega⟩
  rw [← Int.natCast_mul, Int.toNat_natCast, Int.toNat_natCast, Int.toNat_natCast]

theorem tot_nonneg {g : ApiGrammar} {c : ApiCounts} {M : Int} (hM : 0 ≤ M) (hc : CntW g c M) (cl : Nat) : 0 ≤ tot g c cl := by
  have h1 := acc_bounds (cls := classR g) (v := fun k => Am.get c.rules k) hM g.rules.length cl (fun j hj => hc.vr j hj)
  have h2 := acc_bounds (cls := classL g) (v := fun k => Am.get c.lexes k) hM g.lexes.length cl (fun j hj => hc.vl j hj)
  unfold tot
  omega

theorem scaled_ev (g : ApiGrammar) (c : ApiCounts) (by_ : Int) (hw : ∀ k, k < g.lexes.length → (Am.get g.lexes k).word.length < 4294967281) : Evt (fun n => glosswrightlaw8TrainScaled n g c by_) (fun r => r = true) := by
  unfold glosswrightlaw8TrainScaled
  refine Evt.bind trainReady_true fun v hv => Evt.cond (fun e => ?_) (fun _ => ?_)
  · subst hv; cases e
  refine Evt.bind (weights_ev g hw c) fun x hx => Evt.cond (fun _ => Evt.pure rfl) (fun e => ?_)
  simp only [Bool.cond_true_left, Bool.cond_false_right, Bool.not_eq_true', Bool.not_eq_false', Bool.or_eq_true, Bool.or_eq_false_iff, Bool.and_eq_true, Bool.and_eq_false_imp, Bool.not_true, Bool.not_false, decide_eq_true_eq, decide_eq_false_iff_not, Decidable.not_not, Int.not_lt, Int.not_le, Nat.not_lt, Nat.not_le, not_or, Bool.not_not, Bool.not_eq_true, Bool.true_eq_false, Bool.false_eq_true, Bool.or_true, Bool.true_or, Bool.and_true, Bool.true_and] at e
  obtain ⟨hval, hg, hc, wx⟩ := hx e.1.1
  have hb : 1 ≤ by_ ∧ by_ ≤ 1000 := by omega
  have g2 := hg.rules
  have g3 := hg.lexes
  have c1 := hc.r
  have c2 := hc.l
  refine Evt.thenM (times_ev c.rules by_ (by omega) hb (fun k hk => hc.vr k (by omega)) _ (fun u => rfl)) (fun t ht => ?_) (fun r (hr : False) => hr.elim)
  obtain ⟨t1, t2⟩ := ht
  unfold glosswrightlaw8TrainScaled_a0
  refine Evt.thenM (times_ev c.lexes by_ (by omega) hb (fun k hk => hc.vl k (by omega)) _ (fun u => rfl)) (fun s hs => ?_) (fun r (hr : False) => hr.elim)
  obtain ⟨s1, s2⟩ := hs
  have hd : CntW g (ApiCounts.mk t s) 1000000000 := ⟨by show t.length = _; omega, by show s.length = _; omega, fun k hk => by
      show 0 ≤ Am.get t k ∧ Am.get t k ≤ _
      rw [t2 k (by omega)]
      have hx := hc.vr k hk
      have := Int.mul_nonneg hx.1 (show 0 ≤ by_ by omega)
      have := Int.mul_le_mul hx.2 hb.2 (by omega) (by omega)
      omega, fun k hk => by
      show 0 ≤ Am.get s k ∧ Am.get s k ≤ _
      rw [s2 k (by omega)]
      have hx := hc.vl k hk
      have := Int.mul_nonneg hx.1 (show 0 ≤ by_ by omega)
      have := Int.mul_le_mul hx.2 hb.2 (by omega) (by omega)
      omega⟩
  have htot : ∀ cl, tot g (ApiCounts.mk t s) cl = tot g c cl * by_ := fun cl => by
    unfold tot
    rw [acc_scale (v := fun k => Am.get c.rules k) (u := fun k => Am.get t k) (b := by_) _ _ (fun j hj => t2 j (by omega)), acc_scale (v := fun k => Am.get c.lexes k) (u := fun k => Am.get s k) (b := by_) _ _ (fun j hj => s2 j (by omega)), Int.add_mul]
  have hsh : ∀ (x : Int) (cl : Nat), 0 ≤ x → shareN (x * by_).toNat (tot g (ApiCounts.mk t s) cl).toNat = shareN x.toNat (tot g c cl).toNat := fun x cl hx => by
    rw [htot, toNat_mul hx (by omega), toNat_mul (tot_nonneg (by omega) hc cl) (by omega)]
    exact shareN_scale _ _ _ (by omega)
  unfold glosswrightlaw8TrainScaled_a1
  refine Evt.bind (weights_ev3 g hval hg _ hd) fun y hy => Evt.cond (fun e2 => Evt.pure ?_) (fun e2 => ?_)
  · simp only [Bool.cond_true_left, Bool.cond_false_right, Bool.not_eq_true', Bool.not_eq_false', Bool.or_eq_true, Bool.or_eq_false_iff, Bool.and_eq_true, Bool.and_eq_false_imp, Bool.not_true, Bool.not_false, decide_eq_true_eq, decide_eq_false_iff_not, Decidable.not_not, Int.not_lt, Int.not_le, Nat.not_lt, Nat.not_le, not_or, Bool.not_not, Bool.not_eq_true, Bool.true_eq_false, Bool.false_eq_true, Bool.or_true, Bool.true_or, Bool.and_true, Bool.true_and] at e2
    rcases hy with hy | hy
    · exact absurd hy.1 e2
    · exact decide_eq_true hy.2
  simp only [Bool.cond_true_left, Bool.cond_false_right, Bool.not_eq_true', Bool.not_eq_false', Bool.or_eq_true, Bool.or_eq_false_iff, Bool.and_eq_true, Bool.and_eq_false_imp, Bool.not_true, Bool.not_false, decide_eq_true_eq, decide_eq_false_iff_not, Decidable.not_not, Int.not_lt, Int.not_le, Nat.not_lt, Nat.not_le, not_or, Bool.not_not, Bool.not_eq_true, Bool.true_eq_false, Bool.false_eq_true, Bool.or_true, Bool.true_or, Bool.and_true, Bool.true_and] at e2
  have wy : WIs g (ApiCounts.mk t s) (y.1, y.2.1) := by
    rcases hy with hy | hy
    · exact hy.2
    · exact absurd e2 hy.1
  obtain ⟨⟨x1, x2⟩, x3, x4⟩ := wx
  obtain ⟨⟨y1, y2⟩, y3, y4⟩ := wy
  simp only at x1 x2 x3 x4 y1 y2 y3 y4
  have er : ∀ k, k < g.rules.length → Am.get x.1 k = Am.get y.1 k := fun k hk => by
    rw [x2 k hk, y2 k hk, t2 k (by omega)]
    exact (hsh _ _ (hc.vr k hk).1).symm
  have el : ∀ k, k < g.lexes.length → Am.get x.2.1 k = Am.get y.2.1 k := fun k hk => by
    rw [x4 k hk, y4 k hk, s2 k (by omega)]
    exact (hsh _ _ (hc.vl k hk).1).symm
  refine Evt.cond (fun e3 => ?_) (fun _ => ?_)
  · exfalso
    rw [x1, x3, y1, y3] at e3
    simp at e3
  refine Evt.thenM (P := ExP (fun _ => True) (fun r => r = true)) (Evt.loop (fun u : Int => x.1.length - u.toNat) (fun u => 0 ≤ u ∧ u ≤ x.1.length) _ _ ⟨by omega, by omega⟩ (fun u hu => ?_)) (fun _ _ => ?_) (fun r hr => hr)
  · unfold glosswrightlaw8TrainScaled_b2
    refine Evt.cond (fun e3 => ?_) (fun _ => Evt.pure trivial)
    simp only [Bool.cond_true_left, Bool.cond_false_right, Bool.not_eq_true', Bool.not_eq_false', Bool.or_eq_true, Bool.or_eq_false_iff, Bool.and_eq_true, Bool.and_eq_false_imp, Bool.not_true, Bool.not_false, decide_eq_true_eq, decide_eq_false_iff_not, Decidable.not_not, Int.not_lt, Int.not_le, Nat.not_lt, Nat.not_le, not_or, Bool.not_not, Bool.not_eq_true, Bool.true_eq_false, Bool.false_eq_true, Bool.or_true, Bool.true_or, Bool.and_true, Bool.true_and] at e3
    have e4 := er u.toNat (by omega)
    refine Evt.chk (by omega) (Evt.chk (by omega) (Evt.cond (fun e5 => ?_) (fun _ => Evt.pure ?_)))
    · exfalso
      rw [e4] at e5
      simp at e5
    · have hw : wr .i64 (u + 1) = u + 1 := wr_id (by omega) (by omega)
      rw [hw]
      exact ⟨⟨by omega, by omega⟩, by omega⟩
  · unfold glosswrightlaw8TrainScaled_a2
    refine Evt.thenM (P := ExP (fun _ => True) (fun r => r = true)) (Evt.loop (fun u : Int => x.2.1.length - u.toNat) (fun u => 0 ≤ u ∧ u ≤ x.2.1.length) _ _ ⟨by omega, by omega⟩ (fun u hu => ?_)) (fun _ _ => Evt.pure rfl) (fun r hr => hr)
    unfold glosswrightlaw8TrainScaled_b3
    refine Evt.cond (fun e3 => ?_) (fun _ => Evt.pure trivial)
    simp only [Bool.cond_true_left, Bool.cond_false_right, Bool.not_eq_true', Bool.not_eq_false', Bool.or_eq_true, Bool.or_eq_false_iff, Bool.and_eq_true, Bool.and_eq_false_imp, Bool.not_true, Bool.not_false, decide_eq_true_eq, decide_eq_false_iff_not, Decidable.not_not, Int.not_lt, Int.not_le, Nat.not_lt, Nat.not_le, not_or, Bool.not_not, Bool.not_eq_true, Bool.true_eq_false, Bool.false_eq_true, Bool.or_true, Bool.true_or, Bool.and_true, Bool.true_and] at e3
    have e4 := el u.toNat (by omega)
    refine Evt.chk (by omega) (Evt.chk (by omega) (Evt.cond (fun e5 => ?_) (fun _ => Evt.pure ?_)))
    · exfalso
      rw [e4] at e5
      simp at e5
    · have hw : wr .i64 (u + 1) = u + 1 := wr_id (by omega) (by omega)
      rw [hw]
      exact ⟨⟨by omega, by omega⟩, by omega⟩

end Go.Proofs.YtaohdfpcdfbnlaaDoor

