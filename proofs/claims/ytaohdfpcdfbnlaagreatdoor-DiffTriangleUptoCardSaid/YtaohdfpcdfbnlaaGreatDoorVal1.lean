import Derived.Lib.TrailingZeros
import Derived.Test.YtaohdfpcdfbnlaaGreatDoorAm3
import Derived.Test.YtaohdfpcdfbnlaaGreatDoorMirrors
set_option linter.unusedVariables false
set_option linter.unusedSimpArgs false
namespace Go.Proofs.YtaohdfpcdfbnlaaGreatDoor
open Go Go.Am
theorem bI : top = 140737488355328 := rfl
theorem P3 {G : Bool} {p : Prop} (h : G = true → p) : aN G p := h
theorem H6 (a b : Int) {P : y7 → Prop} (h : P ⟨a, b⟩) : Evt (fun _ => H9 a b) P := Evt.pure h
theorem R8 (a b : Int) {P : y7 → Prop} (h : P ⟨a, b⟩) : Evt (fun _ => P7 a b) P := Evt.pure h
theorem bF (a b : Int) {P : y7 → Prop} (h : P ⟨a, b⟩) : Evt (fun _ => bw a b) P := Evt.pure h
theorem iW (s : Bs) : Evt (fun _ => termName s) (fun b => b = true → s.length ≤ 30) := by
 unfold termName
 refine Evt.chk (P3 fun h => ?_) ?_
 ·simp only [Bool.cond_true_left, Bool.cond_false_right, Bool.not_eq_true', Bool.not_eq_false', Bool.or_eq_true, Bool.or_eq_false_iff, Bool.and_eq_true, Bool.and_eq_false_imp, Bool.not_true, Bool.not_false, decide_eq_true_eq, decide_eq_false_iff_not, Decidable.not_not, Int.not_lt, Int.not_le, Nat.not_lt, Nat.not_le, not_or, Bool.not_not, Bool.not_eq_true, Bool.true_eq_false, Bool.false_eq_true, Bool.or_true, Bool.true_or, Bool.and_true, Bool.true_and] at h
  omega
 refine Evt.chk (P3 fun h => ?_) ?_
 ·simp only [Bool.cond_true_left, Bool.cond_false_right, Bool.not_eq_true', Bool.not_eq_false', Bool.or_eq_true, Bool.or_eq_false_iff, Bool.and_eq_true, Bool.and_eq_false_imp, Bool.not_true, Bool.not_false, decide_eq_true_eq, decide_eq_false_iff_not, Decidable.not_not, Int.not_lt, Int.not_le, Nat.not_lt, Nat.not_le, not_or, Bool.not_not, Bool.not_eq_true, Bool.true_eq_false, Bool.false_eq_true, Bool.or_true, Bool.true_or, Bool.and_true, Bool.true_and] at h
  omega
 refine Evt.cond (fun h => Evt.pure (fun h => by cases h)) (fun h => ?_)
 have hl : s.length ≤ 30 := by
  simp only [Bool.cond_true_left, Bool.cond_false_right, Bool.not_eq_true', Bool.not_eq_false', Bool.or_eq_true, Bool.or_eq_false_iff, Bool.and_eq_true, Bool.and_eq_false_imp, Bool.not_true, Bool.not_false, decide_eq_true_eq, decide_eq_false_iff_not, Decidable.not_not, Int.not_lt, Int.not_le, Nat.not_lt, Nat.not_le, not_or, Bool.not_not, Bool.not_eq_true, Bool.true_eq_false, Bool.false_eq_true, Bool.or_true, Bool.true_or, Bool.and_true, Bool.true_and] at h
  omega
 refine Evt.chk (by omega) ?_
 refine Evt.E0 (Evt.range (fun _ _ => True) (fun _ => True) (fun b => b = false) trivial (fun k s _ _ => ?_)) (fun t _ => Evt.pure fun _ => hl) (fun r hr => by simp only [ExP] at hr; subst hr; intro h; cases h)
 unfold iS
 refine Evt.cond (fun _ => Evt.pure rfl) (fun _ => Evt.pure trivial)
def Bad (f : y7) : Prop := f.code ≠ 0
theorem cN {a b : Int} (h : a ≠ 0) : Bad ⟨a, b⟩ := h
def sN (l : List w7) : Prop := l.length ≤ 60 ∧ l ≠ [] ∧ ∀ k, k < l.length → ∀ j, j < (get l k).parents.length → 0 ≤ get (get l k).parents j ∧ get (get l k).parents j < k
theorem nq (l : List w7) : Evt (fun _ => bV l) (fun f => f.code = 0 → sN l) := by
 unfold bV
 refine Evt.cond (fun _ => Evt.bind (H6 _ _ (P := Bad) (cN (by decide))) fun r hr => Evt.pure fun h => absurd h hr) (fun h => ?_)
 have hl : l.length ≤ 60 ∧ l ≠ [] := by
  simp only [Bool.cond_true_left, Bool.cond_false_right, Bool.not_eq_true', Bool.not_eq_false', Bool.or_eq_true, Bool.or_eq_false_iff, Bool.and_eq_true, Bool.and_eq_false_imp, Bool.not_true, Bool.not_false, decide_eq_true_eq, decide_eq_false_iff_not, Decidable.not_not, Int.not_lt, Int.not_le, Nat.not_lt, Nat.not_le, not_or, Bool.not_not, Bool.not_eq_true, Bool.true_eq_false, Bool.false_eq_true, Bool.or_true, Bool.true_or, Bool.and_true, Bool.true_and] at h
  exact ⟨by omega, fun e => by subst e; exact h.1 rfl⟩
 refine Evt.E0 (Evt.range (fun k _ => ∀ i, i < k → ∀ j, j < (get l i).parents.length → 0 ≤ get (get l i).parents j ∧ get (get l i).parents j < i) (fun _ => False) Bad (fun i h => absurd h (Nat.not_lt_zero _)) (fun k s hk hi => ?_))
  (fun t ht => Evt.pure fun _ => ⟨hl.1, hl.2, by
   simp only [ExP, or_false] at ht
   exact ht⟩) (fun r hr h => absurd h hr)
 unfold br
 refine Evt.bind (iW _) fun b _ => ?_
 refine Evt.cond (fun _ => Evt.bind (H6 _ _ (P := Bad) (cN (by decide))) fun r hr => Evt.pure hr) fun _ => ?_
 refine Evt.cond (fun _ => Evt.bind (H6 _ _ (P := Bad) (cN (by decide))) fun r hr => Evt.pure hr) fun _ => ?_
 refine Evt.eV ?_
 refine Evt.cond (fun _ => Evt.bind (H6 _ _ (P := Bad) (cN (by decide))) fun r hr => Evt.pure hr) fun _ => ?_
 refine Evt.E0 (Evt.range (fun m _ => ∀ j, j < m → 0 ≤ get (get l k).parents j ∧ get (get l k).parents j < k) (fun _ => False) (fun c => vo (fun _ => False) (fun _ => False) Bad c) (fun i h => absurd h (Nat.not_lt_zero _)) (fun m s hm hj => ?_))
  (fun t ht => ?_) (fun r hr => ?_)
 ·unfold bp
  refine Evt.cond (fun _ => Evt.bind (H6 _ _ (P := Bad) (cN (by decide))) fun r hr => Evt.pure hr) fun h => ?_
  refine Evt.cond (fun _ => Evt.bind (H6 _ _ (P := Bad) (cN (by decide))) fun r hr => Evt.pure hr) fun _ => Evt.pure ?_
  intro j hj'
  by_cases e : j = m
  ·subst e
   simp only [Bool.cond_true_left, Bool.cond_false_right, Bool.not_eq_true', Bool.not_eq_false', Bool.or_eq_true, Bool.or_eq_false_iff, Bool.and_eq_true, Bool.and_eq_false_imp, Bool.not_true, Bool.not_false, decide_eq_true_eq, decide_eq_false_iff_not, Decidable.not_not, Int.not_lt, Int.not_le, Nat.not_lt, Nat.not_le, not_or, Bool.not_not, Bool.not_eq_true, Bool.true_eq_false, Bool.false_eq_true, Bool.or_true, Bool.true_or, Bool.and_true, Bool.true_and] at h
   omega
  ·exact hj j (by omega)
 ·simp only [ExP, or_false] at ht
  unfold bq
  refine Evt.pure ?_
  intro i hi'
  by_cases e : i = k
  ·subst e; exact ht
  ·exact hi i (by omega)
 ·cases r with
  | nxt s => exact hr.elim
  | brk t => exact hr.elim
  | ret x => exact hr
theorem Eb {α : Type} [Inhabited α] (l : List α) (i : Nat) (v : α) (j : Nat) : Am.get (l.set i v) j = if i = j ∧ i < l.length then v else Am.get l j := by
 unfold Am.get
 simp only [List.getD_eq_getElem?_getD, List.getElem?_set]
 by_cases e : i = j
 ·subst e
  by_cases h : i < l.length
  ·simp [h]
  ·have : l[i]? = none := List.getElem?_eq_none (by omega)
   simp [h, this]
 ·simp [e]
theorem Bf {α : Type} [Inhabited α] (n : Nat) (j : Nat) : Am.get (List.replicate n (default : α)) j = default := by
 unfold Am.get
 simp only [List.getD_eq_getElem?_getD, List.getElem?_replicate]
 split <;> rfl
theorem iX {x : Nat} (hx : x < 18446744073709551616) : (BitVec.ofInt 64 (x : Int)).toNat = x := by
 simp only [BitVec.ofInt_natCast, BitVec.toNat_ofNat]
 exact Nat.mod_eq_of_lt hx
theorem kA {x : Nat} (hx : x < 18446744073709551616) : IntKind.u64.wrap (x : Int) = x := by
 have h1 : IntKind.u64.min = 0 := by decide
 have h2 : IntKind.u64.max = 18446744073709551615 := by decide
 exact vJ ⟨by omega, by omega⟩
theorem uO {x y : Nat} (hx : x < 18446744073709551616) (hy : y < 18446744073709551616) : M1 .and .u64 (x : Int) (y : Int) = ((x &&& y : Nat) : Int) := by
 show IntKind.u64.wrap ((BitVec.ofInt 64 (x : Int) &&& BitVec.ofInt 64 (y : Int)).toNat : Int) = _
 rw [BitVec.toNat_and, iX hx, iX hy]
 exact kA (Nat.lt_of_le_of_lt Nat.and_le_left hx)
theorem Cx {x y : Nat} (hx : x < 18446744073709551616) (hy : y < 18446744073709551616) : M1 .or .u64 (x : Int) (y : Int) = ((x ||| y : Nat) : Int) := by
 show IntKind.u64.wrap ((BitVec.ofInt 64 (x : Int) ||| BitVec.ofInt 64 (y : Int)).toNat : Int) = _
 rw [BitVec.toNat_or, iX hx, iX hy]
 exact kA (Nat.or_lt_two_pow (n := 64) hx hy)
def Bits (L : Nat) (x : Int) : Prop := ∃ n : Nat, x = n ∧ n < 2 ^ L
theorem sO {L : Nat} (h : L ≤ 60) : 2 ^ L ≤ 1152921504606846976 := Nat.pow_le_pow_right (n := 2) (by decide) h
structure yX (L : Nat) (t : A9) : Prop where
 up : t.up.length = L
 down : t.down.length = L
 bits : ∀ j, Bits L (Am.get t.down j)
theorem gL {l : List w7} (hl : sN l) : Evt (fun _ => W5 l) (yX l.length) := by
 obtain ⟨h60, _, hp⟩ := hl
 have h2 := sO h60
 unfold W5
 refine Evt.chk (by rw [bI]; omega) ?_
 refine Evt.E0 (Evt.range (fun _ s => s.1.length = l.length ∧ s.2.length = l.length ∧ ∀ j, Bits l.length (Am.get s.2 j)) (fun _ => False) (fun _ => False) ⟨by simp, by simp, fun j => ⟨0, by rw [Bf]; rfl, Nat.pow_pos (by decide)⟩⟩ (fun k s hk hi => ?_))
  (fun t ht => ?_) (fun r hr => hr.elim)
 ·obtain ⟨i1, i2, i3⟩ := hi
  unfold aB
  refine Evt.chk (by omega) (Evt.chk (by omega) (Evt.eV ?_))
  refine Evt.E0 (Evt.range (fun _ s => s.length = l.length) (fun _ => False) (fun _ => False) (by simp; exact i1) (fun m u hm hu => ?_)) (fun t ht => ?_) (fun r hr => hr.elim)
  ·unfold au
   have := hp k hk m hm
   exact Evt.chk (by omega) (Evt.chk (by omega) (Evt.eV (Evt.pure (by simp [vo]; exact hu))))
  ·simp only [ExP, or_false] at ht
   unfold aA
   refine Evt.E0 (Evt.range (fun _ s => s.length = l.length ∧ ∀ j, Bits l.length (Am.get s j)) (fun _ => False) (fun _ => False) ⟨i2, i3⟩ (fun m u hm hu => ?_)) (fun t ht => ?_) (fun r hr => hr.elim)
   ·unfold av
    refine Evt.chk (by omega) (Evt.chk (by omega) (Evt.cond (fun _ => Evt.chk (by omega) (Evt.eV (Evt.pure ?_))) (fun _ => Evt.pure hu)))
    refine ⟨by simp; exact hu.1, fun j => ?_⟩
    rw [Eb]
    split
    ·obtain ⟨a, ha, hb⟩ := hu.2 m
     have hk2 : (2 : Nat) ^ k < 2 ^ l.length := Nat.pow_lt_pow_right (by decide) hk
     have e : wr .u64 (1 * 2 ^ (min k 64)) = ((2 ^ k : Nat) : Int) := by
      have : min k 64 = k := by omega
      rw [this, Int.one_mul]
      have e2 : ((2 : Int) ^ k) = ((2 ^ k : Nat) : Int) := by simp
      rw [e2]
      exact kA (by omega)
     rw [ha, e, Cx (by omega) (by omega)]
     exact ⟨_, rfl, Nat.or_lt_two_pow hb hk2⟩
    ·exact hu.2 j
   ·simp only [ExP, or_false] at ht
    unfold ay
    exact Evt.pure ⟨by assumption, ht⟩
 ·simp only [ExP, or_false] at ht
  unfold aC
  exact Evt.pure ⟨ht.1, ht.2.1, ht.2.2⟩
theorem Ec : Ax = Lib.deBruijn64tab.map (fun n : Nat => (n : Int)) := by decide +kernel
theorem Gy {y k : Nat} (h1 : y < 64) (h3 : Lib.deBruijn64tab.getD y 0 = k) : Am.get (Lib.deBruijn64tab.map fun n : Nat => (n : Int)) y = (k : Int) := by
 unfold Am.get
 rw [List.getD_eq_getElem?_getD, List.getElem?_map]
 rw [List.getD_eq_getElem?_getD] at h3
 have hlen : y < Lib.deBruijn64tab.length := h1
 rw [List.getElem?_eq_getElem hlen] at h3 ⊢
 simp only [Option.getD_some, Option.map_some] at h3 ⊢
 rw [h3]
theorem wL {x L : Nat} (h0 : x ≠ 0) (h : x < 2 ^ L) (hL : L ≤ 60) : Evt (fun _ => L1 (x : Int)) (fun v => 0 ≤ v ∧ v < L) := by
 have h2 := sO hL
 unfold L1
 refine Evt.cond (fun e => ?_) (fun _ => ?_)
 ·simp only [Bool.cond_true_left, Bool.cond_false_right, Bool.not_eq_true', Bool.not_eq_false', Bool.or_eq_true, Bool.or_eq_false_iff, Bool.and_eq_true, Bool.and_eq_false_imp, Bool.not_true, Bool.not_false, decide_eq_true_eq, decide_eq_false_iff_not, Decidable.not_not, Int.not_lt, Int.not_le, Nat.not_lt, Nat.not_le, not_or, Bool.not_not, Bool.not_eq_true, Bool.true_eq_false, Bool.false_eq_true, Bool.or_true, Bool.true_or, Bool.and_true, Bool.true_and] at e
  omega
 have Mx : x &&& (18446744073709551616 - x) = 2 ^ Lib.ctz L x ∧ Lib.ctz L x < L := by
  obtain ⟨m, hm, hk⟩ := Lib.ctzFrom_spec L x (by omega) h
  have e : Lib.ctz L x = Lib.ctzFrom L x := by simp [Lib.ctz, h0]
  rw [e]
  refine ⟨?_, hk⟩
  have := Lib.and_neg 64 (Lib.ctzFrom L x) m (by rw [← hm]; omega)
  rw [← hm] at this
  exact this
 obtain ⟨e1, hk⟩ := Mx
 have e2 : wr .u64 (0 - (x : Int)) = ((18446744073709551616 - x : Nat) : Int) := by
  have : (((18446744073709551616 - x : Nat) : Int)) = 18446744073709551616 - (x : Int) := by omega
  have e3 : wr .u64 (0 - (x : Int)) = wr .u64 (18446744073709551616 - (x : Int)) := by
   unfold wr IntKind.wrap
   have h1 : IntKind.u64.signed = false := by decide
   have h2 : IntKind.u64.bits = 64 := by decide
   simp only [h1, h2]
   have e4 : (0 - (x : Int)) % (2 : Int) ^ 64 = (18446744073709551616 - (x : Int)) % (2 : Int) ^ 64 := by omega
   simp only [e4]
  rw [e3, ← this]
  exact kA (by omega)
 have e3 : M1 .and .u64 (x : Int) (wr .u64 (0 - (x : Int))) = ((2 ^ Lib.ctz L x : Nat) : Int) := by
  rw [e2, uO (by omega) (by omega), e1]
 have hd := Lib.deBruijn64_at (Lib.ctz L x) (by omega)
 have e4 : wr .u64 (((2 ^ Lib.ctz L x : Nat) : Int) * 285870213051353865) = ((2 ^ Lib.ctz L x * 285870213051353865 % 18446744073709551616 : Nat) : Int) := by
  have : ((2 ^ Lib.ctz L x : Nat) : Int) * 285870213051353865 = ((2 ^ Lib.ctz L x * 285870213051353865 : Nat) : Int) := by simp
  rw [this]
  generalize 2 ^ Lib.ctz L x * 285870213051353865 = y
  have e5 : wr .u64 (y : Int) = wr .u64 ((y % 18446744073709551616 : Nat) : Int) := by
   unfold wr IntKind.wrap
   have h1 : IntKind.u64.signed = false := by decide
   have h2 : IntKind.u64.bits = 64 := by decide
   simp only [h1, h2]
   have e4 : (y : Int) % (2 : Int) ^ 64 = ((y % 18446744073709551616 : Nat) : Int) % (2 : Int) ^ 64 := by omega
   simp only [e4]
  rw [e5]
  exact kA (Nat.mod_lt _ (by decide))
 have e5 : Int.fdiv (((2 ^ Lib.ctz L x * 285870213051353865 % 18446744073709551616 : Nat) : Int)) (2 ^ (min 58 64)) = ((2 ^ Lib.ctz L x * 285870213051353865 % 18446744073709551616 / 288230376151711744 : Nat) : Int) := by
  generalize 2 ^ Lib.ctz L x * 285870213051353865 % 18446744073709551616 = y
  have : ((2 : Int) ^ (min 58 64)) = 288230376151711744 := by decide
  rw [this, Int.fdiv_eq_ediv_of_nonneg _ (by decide)]
  omega
 have e6 := Gy hd.1 hd.2
 rw [e3, e4, e5]
 have h1 := hd.1
 generalize 2 ^ Lib.ctz L x * 285870213051353865 % 18446744073709551616 / 288230376151711744 = y at h1 e6
 clear e1 e2 e3 e4 e5 hd
 refine Evt.chk ⟨Int.natCast_nonneg _, Int.ofNat_lt.2 h1⟩ (Evt.pure ?_)
 rw [Int.toNat_natCast, Ec, e6, W0 (by omega) (by omega)]
 omega
theorem uP {L : Nat} {t : A9} (h : yX L t) (hL : L ≤ 60) {a b : Int} (ha : 0 ≤ a ∧ a < L) (hb : 0 ≤ b ∧ b < L) : Evt (fun _ => T7 t a b) (fun _ => True) := by
 have h2 := sO hL
 have hd := h.down
 unfold T7
 obtain ⟨x, ex, hx⟩ := h.bits a.toNat
 obtain ⟨y, ey, hy⟩ := h.bits b.toNat
 refine Evt.chk (by omega) (Evt.chk (by omega) ?_)
 rw [ex, ey, uO (by omega) (by omega)]
 refine Evt.cond (fun _ => Evt.pure trivial) (fun e => ?_)
 have h0 : (x &&& y) ≠ 0 := by
  simp only [Bool.cond_true_left, Bool.cond_false_right, Bool.not_eq_true', Bool.not_eq_false', Bool.or_eq_true, Bool.or_eq_false_iff, Bool.and_eq_true, Bool.and_eq_false_imp, Bool.not_true, Bool.not_false, decide_eq_true_eq, decide_eq_false_iff_not, Decidable.not_not, Int.not_lt, Int.not_le, Nat.not_lt, Nat.not_le, not_or, Bool.not_not, Bool.not_eq_true, Bool.true_eq_false, Bool.false_eq_true, Bool.or_true, Bool.true_or, Bool.and_true, Bool.true_and] at e
  omega
 refine Evt.bind (wL h0 (Nat.lt_of_le_of_lt Nat.and_le_left hx) hL) fun v hv => ?_
 exact Evt.chk (by omega) (Evt.cond (fun _ => Evt.pure trivial) (fun _ => Evt.pure trivial))
structure yc (h : w4) : Prop where
 types : sN h.types
 C9 : h.C9.length ≤ 40
 ranges : ∀ k, k < h.C9.length → 0 ≤ (Am.get h.C9 k).of_ ∧ (Am.get h.C9 k).of_ < h.types.length ∧ 0 ≤ (Am.get h.C9 k).value ∧ (Am.get h.C9 k).value < h.types.length
theorem kC (h : w4) : Evt (fun _ => W6 h) (fun f => f.code = 0 → yc h) := by
 unfold W6
 refine Evt.cond (fun _ => Evt.bind (H6 _ _ (P := Bad) (cN (by decide))) fun r hr => Evt.pure fun h => absurd h hr) (fun hc => ?_)
 have hf : h.C9.length ≤ 40 := by
  simp only [Bool.cond_true_left, Bool.cond_false_right, Bool.not_eq_true', Bool.not_eq_false', Bool.or_eq_true, Bool.or_eq_false_iff, Bool.and_eq_true, Bool.and_eq_false_imp, Bool.not_true, Bool.not_false, decide_eq_true_eq, decide_eq_false_iff_not, Decidable.not_not, Int.not_lt, Int.not_le, Nat.not_lt, Nat.not_le, not_or, Bool.not_not, Bool.not_eq_true, Bool.true_eq_false, Bool.false_eq_true, Bool.or_true, Bool.true_or, Bool.and_true, Bool.true_and] at hc
  omega
 refine Evt.bind (nq _) fun f hty => ?_
 refine Evt.cond (fun e => Evt.pure fun e2 => ?_) (fun e => ?_)
 ·simp only [Bool.cond_true_left, Bool.cond_false_right, Bool.not_eq_true', Bool.not_eq_false', Bool.or_eq_true, Bool.or_eq_false_iff, Bool.and_eq_true, Bool.and_eq_false_imp, Bool.not_true, Bool.not_false, decide_eq_true_eq, decide_eq_false_iff_not, Decidable.not_not, Int.not_lt, Int.not_le, Nat.not_lt, Nat.not_le, not_or, Bool.not_not, Bool.not_eq_true, Bool.true_eq_false, Bool.false_eq_true, Bool.or_true, Bool.true_or, Bool.and_true, Bool.true_and] at e
  exact absurd e2 e
 have hT : sN h.types := hty (by simp only [Bool.cond_true_left, Bool.cond_false_right, Bool.not_eq_true', Bool.not_eq_false', Bool.or_eq_true, Bool.or_eq_false_iff, Bool.and_eq_true, Bool.and_eq_false_imp, Bool.not_true, Bool.not_false, decide_eq_true_eq, decide_eq_false_iff_not, Decidable.not_not, Int.not_lt, Int.not_le, Nat.not_lt, Nat.not_le, not_or, Bool.not_not, Bool.not_eq_true, Bool.true_eq_false, Bool.false_eq_true, Bool.or_true, Bool.true_or, Bool.and_true, Bool.true_and] at e; exact e)
 have h60 := hT.1
 refine Evt.bind (gL hT) fun t ht => ?_
 refine Evt.chk (by omega) ?_
 refine Evt.E0 (Evt.range (fun _ _ => True) (fun _ => False) Bad trivial (fun k s hk _ => ?_)) (fun u _ => ?_) (fun r hr e => absurd e hr)
 ·unfold V3
  refine Evt.chk (by omega) ?_
  refine Evt.E0 (Evt.range (fun _ _ => True) (fun _ => False) (vo (fun _ => False) (fun _ => False) Bad) trivial (fun m s hm _ => ?_)) (fun u _ => Evt.pure trivial) (fun r hr => ?_)
  ·unfold V2
   refine Evt.bind (uP ht h60 (by omega) (by omega)) fun v _ => ?_
   exact Evt.cond (fun _ => Evt.bind (H6 _ _ (P := Bad) (cN (by decide))) fun r hr => Evt.pure hr) (fun _ => Evt.pure trivial)
  ·cases r with
   | nxt s => exact hr.elim
   | brk t => exact hr.elim
   | ret x => exact hr
 ·unfold V6
  refine Evt.E0 (Evt.range (fun k _ => ∀ i, i < k → 0 ≤ (Am.get h.C9 i).of_ ∧ (Am.get h.C9 i).of_ < h.types.length ∧ 0 ≤ (Am.get h.C9 i).value ∧ (Am.get h.C9 i).value < h.types.length) (fun _ => False) Bad (fun i h => absurd h (Nat.not_lt_zero _)) (fun k s hk hi => ?_)) (fun u hu => ?_) (fun r hr e => absurd e hr)
  ·unfold V4
   refine Evt.bind (iW _) fun b _ => ?_
   refine Evt.cond (fun _ => Evt.bind (H6 _ _ (P := Bad) (cN (by decide))) fun r hr => Evt.pure hr) fun _ => ?_
   refine Evt.cond (fun _ => Evt.bind (H6 _ _ (P := Bad) (cN (by decide))) fun r hr => Evt.pure hr) fun _ => ?_
   refine Evt.eV ?_
   refine Evt.cond (fun _ => Evt.bind (H6 _ _ (P := Bad) (cN (by decide))) fun r hr => Evt.pure hr) fun e => Evt.pure ?_
   intro i hi'
   by_cases e2 : i = k
   ·subst e2
    simp only [Bool.cond_true_left, Bool.cond_false_right, Bool.not_eq_true', Bool.not_eq_false', Bool.or_eq_true, Bool.or_eq_false_iff, Bool.and_eq_true, Bool.and_eq_false_imp, Bool.not_true, Bool.not_false, decide_eq_true_eq, decide_eq_false_iff_not, Decidable.not_not, Int.not_lt, Int.not_le, Nat.not_lt, Nat.not_le, not_or, Bool.not_not, Bool.not_eq_true, Bool.true_eq_false, Bool.false_eq_true, Bool.or_true, Bool.true_or, Bool.and_true, Bool.true_and] at e
    omega
   ·exact hi i (by omega)
  ·simp only [ExP, or_false] at hu
   unfold V5
   exact Evt.pure fun _ => ⟨hT, hf, hu⟩
end Go.Proofs.YtaohdfpcdfbnlaaGreatDoor
