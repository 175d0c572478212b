import Derived.Test.YtaohdfpcdfbnlaaGreatDoorVal1
set_option linter.unusedVariables false
set_option linter.unusedSimpArgs false
namespace Go.Proofs.YtaohdfpcdfbnlaaGreatDoor
open Go Go.Am
structure qc (T F : Nat) (g : y5) : Prop where
 some : 0 < g.nodes.length
 few : g.nodes.length ≤ 60
 type : ∀ k, k < g.nodes.length → 0 ≤ (Am.get g.nodes k).type ∧ (Am.get g.nodes k).type < T
 nZ : ∀ k, k < g.nodes.length → ∀ j, j < (Am.get g.nodes k).links.length → 0 ≤ (Am.get (Am.get g.nodes k).links j).nZ ∧ (Am.get (Am.get g.nodes k).links j).nZ < F
 to_ : ∀ k, k < g.nodes.length → ∀ j, j < (Am.get g.nodes k).links.length → 0 ≤ (Am.get (Am.get g.nodes k).links j).to_ ∧ (Am.get (Am.get g.nodes k).links j).to_ < g.nodes.length
 links : ∀ k, k < g.nodes.length → (Am.get g.nodes k).links.length ≤ F
theorem sP (h : w4) (g : y5) : Evt (fun _ => iA h g) (fun f => f.code = 0 → qc h.types.length h.C9.length g) := by
 unfold iA
 refine Evt.cond (fun _ => Evt.bind (bF _ _ (P := Bad) (cN (by decide))) fun r hr => Evt.pure fun e => absurd e hr) (fun hc => ?_)
 simp only [Bool.cond_true_left, Bool.cond_false_right, Bool.not_eq_true', Bool.not_eq_false', Bool.or_eq_true, Bool.or_eq_false_iff, Bool.and_eq_true, Bool.and_eq_false_imp, Bool.not_true, Bool.not_false, decide_eq_true_eq, decide_eq_false_iff_not, Decidable.not_not, Int.not_lt, Int.not_le, Nat.not_lt, Nat.not_le, not_or, Bool.not_not, Bool.not_eq_true, Bool.true_eq_false, Bool.false_eq_true, Bool.or_true, Bool.true_or, Bool.and_true, Bool.true_and] at hc
 refine Evt.E0 (Evt.range (fun k _ => ∀ i, i < k → (0 ≤ (Am.get g.nodes i).type ∧ (Am.get g.nodes i).type < h.types.length) ∧ (∀ j, j < (Am.get g.nodes i).links.length → (0 ≤ (Am.get (Am.get g.nodes i).links j).nZ ∧ (Am.get (Am.get g.nodes i).links j).nZ < h.C9.length) ∧ 0 ≤ (Am.get (Am.get g.nodes i).links j).to_ ∧ (Am.get (Am.get g.nodes i).links j).to_ < g.nodes.length) ∧ (Am.get g.nodes i).links.length ≤ h.C9.length)
  (fun _ => False) Bad (fun i h => absurd h (Nat.not_lt_zero _)) (fun k s hk hi => ?_)) (fun u hu => ?_) (fun r hr e => absurd e hr)
 ·unfold fz
  refine Evt.cond (fun _ => Evt.bind (bF _ _ (P := Bad) (cN (by decide))) fun r hr => Evt.pure hr) (fun e => ?_)
  simp only [Bool.cond_true_left, Bool.cond_false_right, Bool.not_eq_true', Bool.not_eq_false', Bool.or_eq_true, Bool.or_eq_false_iff, Bool.and_eq_true, Bool.and_eq_false_imp, Bool.not_true, Bool.not_false, decide_eq_true_eq, decide_eq_false_iff_not, Decidable.not_not, Int.not_lt, Int.not_le, Nat.not_lt, Nat.not_le, not_or, Bool.not_not, Bool.not_eq_true, Bool.true_eq_false, Bool.false_eq_true, Bool.or_true, Bool.true_or, Bool.and_true, Bool.true_and] at e
  refine Evt.E0 (Evt.range (fun m s => (m : Int) - 1 ≤ s ∧ s < h.C9.length ∧ (∀ j, j < m → (0 ≤ (Am.get (Am.get g.nodes k).links j).nZ ∧ (Am.get (Am.get g.nodes k).links j).nZ < h.C9.length) ∧ 0 ≤ (Am.get (Am.get g.nodes k).links j).to_ ∧ (Am.get (Am.get g.nodes k).links j).to_ < g.nodes.length))
   (fun _ => False) (vo (fun _ => False) (fun _ => False) Bad) ⟨by omega, by omega, fun i h => absurd h (Nat.not_lt_zero _)⟩ (fun m s hm hi2 => ?_)) (fun u hu => ?_) (fun r hr => ?_)
  ·unfold fu
   refine Evt.cond (fun _ => Evt.bind (bF _ _ (P := Bad) (cN (by decide))) fun r hr => Evt.pure hr) (fun e2 => ?_)
   simp only [Bool.cond_true_left, Bool.cond_false_right, Bool.not_eq_true', Bool.not_eq_false', Bool.or_eq_true, Bool.or_eq_false_iff, Bool.and_eq_true, Bool.and_eq_false_imp, Bool.not_true, Bool.not_false, decide_eq_true_eq, decide_eq_false_iff_not, Decidable.not_not, Int.not_lt, Int.not_le, Nat.not_lt, Nat.not_le, not_or, Bool.not_not, Bool.not_eq_true, Bool.true_eq_false, Bool.false_eq_true, Bool.or_true, Bool.true_or, Bool.and_true, Bool.true_and] at e2
   refine Evt.cond (fun _ => Evt.bind (bF _ _ (P := Bad) (cN (by decide))) fun r hr => Evt.pure hr) (fun e3 => Evt.pure ?_)
   simp only [Bool.cond_true_left, Bool.cond_false_right, Bool.not_eq_true', Bool.not_eq_false', Bool.or_eq_true, Bool.or_eq_false_iff, Bool.and_eq_true, Bool.and_eq_false_imp, Bool.not_true, Bool.not_false, decide_eq_true_eq, decide_eq_false_iff_not, Decidable.not_not, Int.not_lt, Int.not_le, Nat.not_lt, Nat.not_le, not_or, Bool.not_not, Bool.not_eq_true, Bool.true_eq_false, Bool.false_eq_true, Bool.or_true, Bool.true_or, Bool.and_true, Bool.true_and] at e3
   refine ⟨by omega, by omega, fun j hj => ?_⟩
   by_cases ej : j = m
   ·subst ej; omega
   ·exact hi2.2.2 j (by omega)
  ·simp only [ExP, or_false] at hu
   unfold fy
   refine Evt.pure ?_
   intro i hi'
   by_cases ei : i = k
   ·subst ei
    exact ⟨by omega, hu.2.2, by omega⟩
   ·exact hi i (by omega)
  ·cases r with
   | nxt s => exact hr.elim
   | brk t => exact hr.elim
   | ret x => exact hr
 ·simp only [ExP, or_false] at hu
  unfold fA
  exact Evt.pure fun _ => ⟨by omega, by omega, fun k hk => (hu k hk).1, fun k hk j hj => ((hu k hk).2.1 j hj).1, fun k hk j hj => ((hu k hk).2.1 j hj).2, fun k hk => (hu k hk).2.2⟩
theorem qd {L : Nat} {t : A9} (h : yX L t) {a b : Int} (ha : 0 ≤ a ∧ a < L) (hb : 0 ≤ b) : Evt (fun _ => Q0 t a b) (fun _ => True) := by
 have := h.up
 unfold Q0
 exact Evt.chk (by omega) (Evt.chk hb (Evt.pure trivial))
theorem uQ (l : List Bool) (b : Bool) : Evt (fun _ => Q7 l b) (fun _ => True) := by
 unfold Q7
 refine Evt.E0 (Evt.range (fun _ _ => True) (fun _ => True) (fun _ => True) trivial (fun k s _ _ => ?_)) (fun t _ => Evt.pure trivial) (fun _ _ => trivial)
 unfold S1
 exact Evt.cond (fun _ => Evt.pure trivial) (fun _ => Evt.pure trivial)
theorem count_set : ∀ (l : List Bool) (i : Nat), i < l.length → Am.get l i = false → (l.set i true).count false + 1 = l.count false
 | [], i, h, _ => absurd h (Nat.not_lt_zero _)
 | b :: l, 0, _, e => by
  have e : b = false := e
  subst e
  simp
 | b :: l, i + 1, h, e => by
  have ih := count_set l i (by simpa using h) e
  simp only [List.set_cons_succ, List.count_cons]
  omega
theorem qe {α : Type} [Inhabited α] {l m : List α} {i : Nat} (h : i < l.length) : Am.get (l ++ m) i = Am.get l i := by
 unfold Am.get
 rw [List.getD_eq_getElem?_getD, List.getD_eq_getElem?_getD, List.getElem?_append_left h]
theorem lq {α : Type} [Inhabited α] {l : List α} {x : α} : Am.get (l ++ [x]) l.length = x := by
 unfold Am.get
 rw [List.getD_eq_getElem?_getD, List.getElem?_append_right (Nat.le_refl _)]
 simp
theorem Cy {α : Type} [Inhabited α] {l : List α} {n i : Nat} (h : i < n) : Am.get (l.take n) i = Am.get l i := by
 unfold Am.get
 rw [List.getD_eq_getElem?_getD, List.getD_eq_getElem?_getD, List.getElem?_take, if_pos h]
structure Reach (N : Nat) (s : List Bool × List Int × Nat) : Prop where
 seen : s.1.length = N
 ln : s.2.2 ≤ s.2.1.length
 stack : ∀ i, i < s.2.2 → 0 ≤ Am.get s.2.1 i ∧ Am.get s.2.1 i < N
 few : s.2.2 + s.1.count false ≤ N
theorem nr {T F : Nat} {g : y5} (hg : qc T F g) : Evt (fun n => bW n g) (fun _ => True) := by
 have h60 := hg.few
 have h1 := hg.some
 unfold bW
 refine Evt.chk (by rw [bI]; omega) (Evt.chk (by omega) (Evt.eV ?_))
 refine Evt.E0 (Evt.loop (fun s : List Bool × List Int × Nat => 2 * s.1.count false + s.2.2) (Reach g.nodes.length) (fun _ => True) (fun _ => True) ?_ (fun s hs => ?_)) (fun t _ => ?_) (fun _ _ => trivial)
 ·refine ⟨by simp, by simp, fun i hi => ?_, ?_⟩
  ·have : i = 0 := by
    have : i < 1 := hi
    omega
   subst this
   show (0 : Int) ≤ 0 ∧ (0 : Int) < _
   omega
  ·have e := count_set (List.replicate g.nodes.length (default : Bool)) 0 (by simp; exact h1) (Bf _ _)
   have e2 : (List.replicate g.nodes.length (default : Bool)).count false ≤ g.nodes.length := by
    have := List.count_le_length (a := false) (l := List.replicate g.nodes.length (default : Bool))
    rwa [List.length_replicate] at this
   show 1 + ((List.replicate g.nodes.length (default : Bool)).set 0 true).count false ≤ _
   omega
 ·obtain ⟨hs1, hs2, hs3, hs4⟩ := hs
  unfold bB
  refine Evt.cond (fun hc => ?_) (fun _ => Evt.pure trivial)
  simp only [Bool.cond_true_left, Bool.cond_false_right, Bool.not_eq_true', Bool.not_eq_false', Bool.or_eq_true, Bool.or_eq_false_iff, Bool.and_eq_true, Bool.and_eq_false_imp, Bool.not_true, Bool.not_false, decide_eq_true_eq, decide_eq_false_iff_not, Decidable.not_not, Int.not_lt, Int.not_le, Nat.not_lt, Nat.not_le, not_or, Bool.not_not, Bool.not_eq_true, Bool.true_eq_false, Bool.false_eq_true, Bool.or_true, Bool.true_or, Bool.and_true, Bool.true_and] at hc
  have hw : wr .i64 ((s.2.2 : Int) - 1) = ((s.2.2 - 1 : Nat) : Int) := by
   rw [W0 (by omega) (by omega)]
   omega
  have h3 := hs3 (s.2.2 - 1) (by omega)
  refine Evt.chk hs2 (Evt.chk (by rw [hw]; omega) (Evt.chk (by rw [hw, Int.toNat_natCast]; omega) (Evt.chk (by rw [hw, Int.toNat_natCast]; exact h3) ?_)))
  refine Evt.E0 (Evt.range (fun _ u => Reach g.nodes.length u ∧ 2 * u.1.count false + u.2.2 < 2 * s.1.count false + s.2.2) (fun _ => False) (fun _ => False) ⟨⟨hs1, ?_, ?_, ?_⟩, ?_⟩ (fun m u hm hu => ?_)) (fun u hu => ?_) (fun r hr => hr.elim)
  ·rw [hw, Int.toNat_natCast]; show s.2.2 - 1 ≤ s.2.1.length; omega
  ·rw [hw, Int.toNat_natCast]; intro i hi; exact hs3 i (by have : i < s.2.2 - 1 := hi; omega)
  ·rw [hw, Int.toNat_natCast]; show s.2.2 - 1 + s.1.count false ≤ _; omega
  ·rw [hw, Int.toNat_natCast]; show 2 * s.1.count false + (s.2.2 - 1) < 2 * s.1.count false + s.2.2; omega
  ·obtain ⟨⟨u1, u2, u3, u4⟩, u5⟩ := hu
   unfold bx
   rw [hw, Int.toNat_natCast] at hm ⊢
   have ht := hg.to_ (Am.get s.2.1 (s.2.2 - 1)).toNat (by omega) m hm
   generalize (Am.get (Am.get g.nodes (Am.get s.2.1 (s.2.2 - 1)).toNat).links m).to_ = x at ht ⊢
   refine Evt.chk (by omega) (Evt.cond (fun e => ?_) (fun _ => Evt.pure ⟨⟨u1, u2, u3, u4⟩, u5⟩))
   simp only [Bool.cond_true_left, Bool.cond_false_right, Bool.not_eq_true', Bool.not_eq_false', Bool.or_eq_true, Bool.or_eq_false_iff, Bool.and_eq_true, Bool.and_eq_false_imp, Bool.not_true, Bool.not_false, decide_eq_true_eq, decide_eq_false_iff_not, Decidable.not_not, Int.not_lt, Int.not_le, Nat.not_lt, Nat.not_le, not_or, Bool.not_not, Bool.not_eq_true, Bool.true_eq_false, Bool.false_eq_true, Bool.or_true, Bool.true_or, Bool.and_true, Bool.true_and] at e
   have Ei := count_set u.1 x.toNat (by omega) e
   have hcl : ((u.2.1.take u.2.2) ++ [x]).length = u.2.2 + 1 := by simp; omega
   refine Evt.eV (Evt.chk u2 (Evt.eV (Evt.chk (by rw [hcl, bI]; omega) (Evt.pure ⟨⟨by simp; exact u1, Nat.le_refl _, ?_, ?_⟩, ?_⟩))))
   ·intro i hi
    rw [hcl] at hi
    have hi : i < u.2.2 + 1 := hi
    by_cases ei : i = u.2.2
    ·subst ei
     have : (u.2.1.take u.2.2).length = u.2.2 := by simp; omega
     have e2 : Am.get (u.2.1.take u.2.2 ++ [x]) u.2.2 = x := by
      have := lq (l := u.2.1.take u.2.2) (x := x)
      rwa [show (u.2.1.take u.2.2).length = u.2.2 by simp; omega] at this
     show 0 ≤ Am.get (u.2.1.take u.2.2 ++ [x]) u.2.2 ∧ Am.get (u.2.1.take u.2.2 ++ [x]) u.2.2 < _
     rw [e2]; exact ht
    ·show 0 ≤ Am.get (u.2.1.take u.2.2 ++ [x]) i ∧ Am.get (u.2.1.take u.2.2 ++ [x]) i < _
     rw [qe (by simp; omega), Cy (by omega)]
     exact u3 i (by omega)
   ·show ((u.2.1.take u.2.2) ++ [x]).length + _ ≤ _
    rw [hcl]; show _ + (u.1.set x.toNat true).count false ≤ _; omega
   ·show 2 * (u.1.set x.toNat true).count false + ((u.2.1.take u.2.2) ++ [x]).length < _
    rw [hcl]; omega
  ·simp only [ExP, or_false] at hu
   unfold bA
   exact Evt.pure hu
 ·unfold bC
  exact Evt.bind (uQ _ _) fun v _ => Evt.pure trivial
theorem gW {h : w4} (hh : yc h) {t : A9} (ht : yX h.types.length t) (g : y5) : Evt (fun n => cu n h t g) (fun f => f.code = 0 → qc h.types.length h.C9.length g) := by
 unfold cu
 refine Evt.bind (sP h g) fun f hf => ?_
 refine Evt.cond (fun e => Evt.pure fun e2 => ?_) (fun e => ?_)
 ·simp only [Bool.cond_true_left, Bool.cond_false_right, Bool.not_eq_true', Bool.not_eq_false', Bool.or_eq_true, Bool.or_eq_false_iff, Bool.and_eq_true, Bool.and_eq_false_imp, Bool.not_true, Bool.not_false, decide_eq_true_eq, decide_eq_false_iff_not, Decidable.not_not, Int.not_lt, Int.not_le, Nat.not_lt, Nat.not_le, not_or, Bool.not_not, Bool.not_eq_true, Bool.true_eq_false, Bool.false_eq_true, Bool.or_true, Bool.true_or, Bool.and_true, Bool.true_and] at e
  exact absurd e2 e
 simp only [Bool.cond_true_left, Bool.cond_false_right, Bool.not_eq_true', Bool.not_eq_false', Bool.or_eq_true, Bool.or_eq_false_iff, Bool.and_eq_true, Bool.and_eq_false_imp, Bool.not_true, Bool.not_false, decide_eq_true_eq, decide_eq_false_iff_not, Decidable.not_not, Int.not_lt, Int.not_le, Nat.not_lt, Nat.not_le, not_or, Bool.not_not, Bool.not_eq_true, Bool.true_eq_false, Bool.false_eq_true, Bool.or_true, Bool.true_or, Bool.and_true, Bool.true_and] at e
 have hg := hf e
 refine Evt.E0 (Evt.range (fun _ _ => True) (fun _ => False) Bad trivial (fun k s hk _ => ?_)) (fun u hu => ?_) (fun r hr e => absurd e hr)
 ·unfold dV
  refine Evt.E0 (Evt.range (fun _ _ => True) (fun _ => False) (vo (fun _ => False) (fun _ => False) Bad) trivial (fun m s hm _ => ?_)) (fun u hu => Evt.pure trivial) (fun r hr => ?_)
  ·unfold dU
   have h1 := hg.nZ k hk m hm
   have h2 := hg.to_ k hk m hm
   have h3 := hh.ranges (Am.get (Am.get g.nodes k).links m).nZ.toNat (by omega)
   have h4 := hg.type k hk
   have h5 := hg.type (Am.get (Am.get g.nodes k).links m).to_.toNat (by omega)
   refine Evt.chk h1 (Evt.bind (qd ht h4 h3.1) fun b _ => Evt.chk ⟨P3 fun _ => h2.1, P3 fun _ => h2.2⟩ (Evt.bind (Evt.gd (fun _ => qd ht h5 h3.2.2.1) (fun _ => trivial)) fun c _ => ?_))
   exact Evt.cond (fun _ => Evt.bind (bF _ _ (P := Bad) (cN (by decide))) fun r hr => Evt.pure hr) (fun _ => Evt.pure trivial)
  ·cases r with
   | nxt s => exact hr.elim
   | brk t => exact hr.elim
   | ret x => exact hr
 ·unfold dW
  refine Evt.bind (nr hg) fun v _ => ?_
  exact Evt.cond (fun _ => Evt.bind (bF _ _ (P := Bad) (cN (by decide))) fun r hr => Evt.pure fun e => absurd e hr) (fun _ => Evt.pure fun _ => hg)
theorem sQ (a b : Int) : Evt (fun _ => dg a b) (fun _ => True) := by
 unfold dg
 refine Evt.bind (P := fun _ => True) (Evt.pure trivial) fun u _ => Evt.bind (P := fun _ => True) (Evt.pure trivial) fun v _ => ?_
 exact Evt.cond (fun _ => Evt.cond (fun _ => Evt.pure trivial) (fun _ => Evt.pure trivial)) (fun _ => Evt.cond (fun _ => Evt.pure trivial) (fun _ => Evt.cond (fun _ => Evt.pure trivial) (fun _ => Evt.cond (fun _ => Evt.pure trivial) (fun _ => Evt.pure trivial))))
theorem rE (a : D8) (b : Int) : Evt (fun _ => cK a b) (fun _ => True) := by
 unfold cK
 exact Evt.bind (sQ _ _) fun v _ => Evt.pure trivial
theorem half {i j : Int} (h0 : 0 ≤ i) (h1 : i < j) (h2 : j ≤ 4611686018427387904) : wr .i64 (Int.fdiv (wr .u64 (wr .i64 (i + j))) (2 ^ (min 1 64))) = (i + j) / 2 := by
 have e1 : wr .i64 (i + j) = i + j := W0 (by omega) (by omega)
 have e2 : wr .u64 (i + j) = i + j := by
  obtain ⟨n, hn⟩ : ∃ n : Nat, i + j = n := ⟨(i + j).toNat, by omega⟩
  rw [hn]
  exact kA (by omega)
 have e3 : ((2 : Int) ^ (min 1 64)) = 2 := by decide
 rw [e1, e2, e3, Int.fdiv_eq_ediv_of_nonneg _ (by decide), W0 (by omega) (by omega)]
theorem qg (l : List D8) (hl : l.length ≤ 1000) (a : Int) : Evt (fun n => E7 n l a) (fun r => r.2 = true → 0 ≤ r.1 ∧ r.1 < l.length) := by
 unfold E7
 refine Evt.E0 (P := ExP (fun t : Int => 0 ≤ t ∧ t ≤ l.length) (fun _ : Int × Bool => False)) (Evt.loop (fun s : Int × Int => (s.1 - s.2).toNat) (fun s => 0 ≤ s.2 ∧ s.2 ≤ s.1 ∧ s.1 ≤ l.length) _ _ ⟨?_, ?_, ?_⟩ (fun s hs => ?_)) (fun t ht => ?_) (fun r hr => hr.elim)
 ·show (0 : Int) ≤ 0; omega
 ·show (0 : Int) ≤ (l.length : Int); omega
 ·show (l.length : Int) ≤ (l.length : Int); omega
 ·unfold F7
  refine Evt.cond (fun e => ?_) (fun e => Evt.pure ⟨by omega, by omega⟩)
  simp only [Bool.cond_true_left, Bool.cond_false_right, Bool.not_eq_true', Bool.not_eq_false', Bool.or_eq_true, Bool.or_eq_false_iff, Bool.and_eq_true, Bool.and_eq_false_imp, Bool.not_true, Bool.not_false, decide_eq_true_eq, decide_eq_false_iff_not, Decidable.not_not, Int.not_lt, Int.not_le, Nat.not_lt, Nat.not_le, not_or, Bool.not_not, Bool.not_eq_true, Bool.true_eq_false, Bool.false_eq_true, Bool.or_true, Bool.true_or, Bool.and_true, Bool.true_and] at e
  rw [half (by omega) e (by omega)]
  have hw : wr .i64 ((s.2 + s.1) / 2 + 1) = (s.2 + s.1) / 2 + 1 := W0 (by omega) (by omega)
  refine Evt.chk (by omega) (Evt.bind (rE _ _) fun v _ => Evt.cond (fun _ => Evt.pure ?_) (fun _ => Evt.pure ?_))
  ·rw [hw]
   exact ⟨⟨by show (0 : Int) ≤ _; omega, by show _ ≤ s.1; omega, hs.2.2⟩, by show (s.1 - ((s.2 + s.1) / 2 + 1)).toNat < _; omega⟩
  ·exact ⟨⟨hs.1, by show s.2 ≤ (s.2 + s.1) / 2; omega, by show (s.2 + s.1) / 2 ≤ _; omega⟩, by show ((s.2 + s.1) / 2 - s.2).toNat < _; omega⟩
 ·simp only [ExP] at ht
  unfold F8
  refine Evt.chk ⟨P3 fun _ => ht.1, P3 fun e => by simpa using e⟩ (Evt.bind (Evt.gd (fun _ => rE _ _) (fun _ => trivial)) fun v _ => Evt.pure ?_)
  intro e
  simp only at e
  simp only [Bool.cond_true_left, Bool.cond_false_right, Bool.not_eq_true', Bool.not_eq_false', Bool.or_eq_true, Bool.or_eq_false_iff, Bool.and_eq_true, Bool.and_eq_false_imp, Bool.not_true, Bool.not_false, decide_eq_true_eq, decide_eq_false_iff_not, Decidable.not_not, Int.not_lt, Int.not_le, Nat.not_lt, Nat.not_le, not_or, Bool.not_not, Bool.not_eq_true, Bool.true_eq_false, Bool.false_eq_true, Bool.or_true, Bool.true_or, Bool.and_true, Bool.true_and] at e
  exact ⟨ht.1, e.1⟩
theorem qC {T F : Nat} {g : y5} (hg : qc T F g) (hF : F ≤ 40) (f : Int) : Evt (fun n => fT n g 0 f) (fun v => 0 ≤ v → v < g.nodes.length) := by
 have h1 := hg.some
 have hl := hg.links 0 h1
 unfold fT
 refine Evt.chk (by omega) (Evt.bind (qg _ (by show (Am.get g.nodes 0).links.length ≤ _; omega) _) fun v hv => ?_)
 refine Evt.cond (fun _ => Evt.pure fun h => by omega) (fun e => ?_)
 simp only [Bool.cond_true_left, Bool.cond_false_right, Bool.not_eq_true', Bool.not_eq_false', Bool.or_eq_true, Bool.or_eq_false_iff, Bool.and_eq_true, Bool.and_eq_false_imp, Bool.not_true, Bool.not_false, decide_eq_true_eq, decide_eq_false_iff_not, Decidable.not_not, Int.not_lt, Int.not_le, Nat.not_lt, Nat.not_le, not_or, Bool.not_not, Bool.not_eq_true, Bool.true_eq_false, Bool.false_eq_true, Bool.or_true, Bool.true_or, Bool.and_true, Bool.true_and] at e
 have h2 := hv e
 refine Evt.chk h2 (Evt.pure fun _ => ?_)
 exact (hg.to_ 0 h1 v.1.toNat (by have := h2; show _ < (Am.get g.nodes (Int.toNat 0)).links.length; omega)).2
theorem od {T F : Nat} {g : y5} (hg : qc T F g) (hF : F ≤ 40) (kids : Int) : Evt (fun n => dh n g kids) (fun _ => True) := by
 unfold dh
 refine Evt.E0 (Evt.range (fun _ _ => True) (fun _ => True) (fun _ => True) trivial (fun k s _ _ => ?_)) (fun t _ => Evt.pure trivial) (fun _ _ => trivial)
 unfold cj
 exact Evt.bind (qC hg hF _) fun v _ => Evt.cond (fun _ => Evt.pure trivial) (fun _ => Evt.pure trivial)
end Go.Proofs.YtaohdfpcdfbnlaaGreatDoor
