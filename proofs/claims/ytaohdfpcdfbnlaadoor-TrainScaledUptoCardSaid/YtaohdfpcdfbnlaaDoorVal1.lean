/-
  PL, part 2: the checks of names, hierarchies and graphs come to an end at every input.
-/
import Derived.Lib.TrailingZeros
import Derived.Test.YtaohdfpcdfbnlaaDoorAm3
import Derived.Test.YtaohdfpcdfbnlaaDoorMirrors
set_option linter.unusedVariables false
set_option linter.unusedSimpArgs false
namespace Go.Proofs.YtaohdfpcdfbnlaaDoor
open Go Go.Am

theorem top_eq : top = 140737488355328 := rfl
theorem gImp_of {G : Bool} {p : Prop} (h : G = true → p) : gImp G p := h

theorem hierarchyFault_ev (a b : Int) {P : ApiFault → Prop} (h : P ⟨a, b⟩) : Evt (fun _ => hierarchyFault a b) P := Evt.pure h
theorem grammarFault_ev (a b : Int) {P : ApiFault → Prop} (h : P ⟨a, b⟩) : Evt (fun _ => grammarFault a b) P := Evt.pure h
theorem graphFault_ev (a b : Int) {P : ApiFault → Prop} (h : P ⟨a, b⟩) : Evt (fun _ => graphFault a b) P := Evt.pure h
theorem trainFault_ev (a b : Int) {P : ApiFault → Prop} (h : P ⟨a, b⟩) : Evt (fun _ => trainFault a b) P := Evt.pure h
theorem deriveFault_ev (a b : Int) {P : ApiFault → Prop} (h : P ⟨a, b⟩) : Evt (fun _ => deriveFault a b) P := Evt.pure h

theorem termName_ev (s : Bs) : Evt (fun _ => termName s) (fun b => b = true → s.length ≤ 30) := by
  unfold termName
  refine Evt.chk (gImp_of fun h => ?_) ?_
  · simp only [Bool.cond_true_left, Bool.cond_false_right, Bool.not_eq_true', Bool.not_eq_false', Bool.or_eq_true, Bool.or_eq_false_iff, Bool.and_eq_true, Bool.and_eq_false_imp, Bool.not_true, Bool.not_false, decide_eq_true_eq, decide_eq_false_iff_not, Decidable.not_not, Int.not_lt, Int.not_le, Nat.not_lt, Nat.not_le, not_or, Bool.not_not, Bool.not_eq_true, Bool.true_eq_false, Bool.false_eq_true, Bool.or_true, Bool.true_or, Bool.and_true, Bool.true_and] at h
    omega
  refine Evt.chk (gImp_of fun h => ?_) ?_
  · simp only [Bool.cond_true_left, Bool.cond_false_right, Bool.not_eq_true', Bool.not_eq_false', Bool.or_eq_true, Bool.or_eq_false_iff, Bool.and_eq_true, Bool.and_eq_false_imp, Bool.not_true, Bool.not_false, decide_eq_true_eq, decide_eq_false_iff_not, Decidable.not_not, Int.not_lt, Int.not_le, Nat.not_lt, Nat.not_le, not_or, Bool.not_not, Bool.not_eq_true, Bool.true_eq_false, Bool.false_eq_true, Bool.or_true, Bool.true_or, Bool.and_true, Bool.true_and] at h
    omega
  refine Evt.cond (fun h => Evt.pure (fun h => by cases h)) (fun h => ?_)
  have hl : s.length ≤ 30 := by
    simp only [Bool.cond_true_left, Bool.cond_false_right, Bool.not_eq_true', Bool.not_eq_false', Bool.or_eq_true, Bool.or_eq_false_iff, Bool.and_eq_true, Bool.and_eq_false_imp, Bool.not_true, Bool.not_false, decide_eq_true_eq, decide_eq_false_iff_not, Decidable.not_not, Int.not_lt, Int.not_le, Nat.not_lt, Nat.not_le, not_or, Bool.not_not, Bool.not_eq_true, Bool.true_eq_false, Bool.false_eq_true, Bool.or_true, Bool.true_or, Bool.and_true, Bool.true_and] at h
    omega
  refine Evt.chk (by omega) ?_
  refine Evt.thenM (Evt.range (fun _ _ => True) (fun _ => True) (fun b => b = false) trivial (fun k s _ _ => ?_)) (fun t _ => Evt.pure fun _ => hl) (fun r hr => by simp only [ExP] at hr; subst hr; intro h; cases h)
  unfold termName_b0
  refine Evt.cond (fun _ => Evt.pure rfl) (fun _ => Evt.pure trivial)

/-- a fault with a code that is not 0 -/
def Bad (f : ApiFault) : Prop := f.code ≠ 0
theorem bad_of {a b : Int} (h : a ≠ 0) : Bad ⟨a, b⟩ := h

/-- the types of a hierarchy: each one's parents are smaller -/
def TypesOk (l : List ApiType) : Prop := l.length ≤ 60 ∧ l ≠ [] ∧ ∀ k, k < l.length → ∀ j, j < (get l k).parents.length → 0 ≤ get (get l k).parents j ∧ get (get l k).parents j < k

theorem hierarchyTypes_ev (l : List ApiType) : Evt (fun _ => hierarchyTypes l) (fun f => f.code = 0 → TypesOk l) := by
  unfold hierarchyTypes
  refine Evt.cond (fun _ => Evt.bind (hierarchyFault_ev _ _ (P := Bad) (bad_of (by decide))) fun r hr => Evt.pure fun h => absurd h hr) (fun h => ?_)
  have hl : l.length ≤ 60 ∧ l ≠ [] := by
    simp only [Bool.cond_true_left, Bool.cond_false_right, Bool.not_eq_true', Bool.not_eq_false', Bool.or_eq_true, Bool.or_eq_false_iff, Bool.and_eq_true, Bool.and_eq_false_imp, Bool.not_true, Bool.not_false, decide_eq_true_eq, decide_eq_false_iff_not, Decidable.not_not, Int.not_lt, Int.not_le, Nat.not_lt, Nat.not_le, not_or, Bool.not_not, Bool.not_eq_true, Bool.true_eq_false, Bool.false_eq_true, Bool.or_true, Bool.true_or, Bool.and_true, Bool.true_and] at h
    exact ⟨by omega, fun e => by subst e; exact h.1 rfl⟩
  refine Evt.thenM (Evt.range (fun k _ => ∀ i, i < k → ∀ j, j < (get l i).parents.length → 0 ≤ get (get l i).parents j ∧ get (get l i).parents j < i) (fun _ => False) Bad (fun i h => absurd h (Nat.not_lt_zero _)) (fun k s hk hi => ?_))
    (fun t ht => Evt.pure fun _ => ⟨hl.1, hl.2, by
      simp only [ExP, or_false] at ht
      exact ht⟩) (fun r hr h => absurd h hr)
  unfold hierarchyTypes_b0
  refine Evt.bind (termName_ev _) fun b _ => ?_
  refine Evt.cond (fun _ => Evt.bind (hierarchyFault_ev _ _ (P := Bad) (bad_of (by decide))) fun r hr => Evt.pure hr) fun _ => ?_
  refine Evt.cond (fun _ => Evt.bind (hierarchyFault_ev _ _ (P := Bad) (bad_of (by decide))) fun r hr => Evt.pure hr) fun _ => ?_
  refine Evt.letM ?_
  refine Evt.cond (fun _ => Evt.bind (hierarchyFault_ev _ _ (P := Bad) (bad_of (by decide))) fun r hr => Evt.pure hr) fun _ => ?_
  refine Evt.thenM (Evt.range (fun m _ => ∀ j, j < m → 0 ≤ get (get l k).parents j ∧ get (get l k).parents j < k) (fun _ => False) (fun c => CtlP (fun _ => False) (fun _ => False) Bad c) (fun i h => absurd h (Nat.not_lt_zero _)) (fun m s hm hj => ?_))
    (fun t ht => ?_) (fun r hr => ?_)
  · unfold hierarchyTypes_b2
    refine Evt.cond (fun _ => Evt.bind (hierarchyFault_ev _ _ (P := Bad) (bad_of (by decide))) fun r hr => Evt.pure hr) fun h => ?_
    refine Evt.cond (fun _ => Evt.bind (hierarchyFault_ev _ _ (P := Bad) (bad_of (by decide))) fun r hr => Evt.pure hr) fun _ => Evt.pure ?_
    intro j hj'
    by_cases e : j = m
    · subst e
      simp only [Bool.cond_true_left, Bool.cond_false_right, Bool.not_eq_true', Bool.not_eq_false', Bool.or_eq_true, Bool.or_eq_false_iff, Bool.and_eq_true, Bool.and_eq_false_imp, Bool.not_true, Bool.not_false, decide_eq_true_eq, decide_eq_false_iff_not, Decidable.not_not, Int.not_lt, Int.not_le, Nat.not_lt, Nat.not_le, not_or, Bool.not_not, Bool.not_eq_true, Bool.true_eq_false, Bool.false_eq_true, Bool.or_true, Bool.true_or, Bool.and_true, Bool.true_and] at h
      omega
    · exact hj j (by omega)
  · simp only [ExP, or_false] at ht
    unfold hierarchyTypes_a2
    refine Evt.pure ?_
    intro i hi'
    by_cases e : i = k
    · subst e; exact ht
    · exact hi i (by omega)
  · cases r with
    | nxt s => exact hr.elim
    | brk t => exact hr.elim
    | ret x => exact hr

theorem get_set {α : Type} [Inhabited α] (l : List α) (i : Nat) (v : α) (j : Nat) : Am.get (l.set i v) j = if i = j ∧ i < l.length then v else Am.get l j := by
  unfold Am.get
  simp only [List.getD_eq_getElem?_getD, List.getElem?_set]
  by_cases e : i = j
  · subst e
    by_cases h : i < l.length
    · simp [h]
    · have : l[i]? = none := List.getElem?_eq_none (by omega)
      simp [h, this]
  · simp [e]
theorem get_rep {α : Type} [Inhabited α] (n : Nat) (j : Nat) : Am.get (List.replicate n (default : α)) j = default := by
  unfold Am.get
  simp only [List.getD_eq_getElem?_getD, List.getElem?_replicate]
  split <;> rfl

theorem ofInt_toNat {x : Nat} (hx : x < 18446744073709551616) : (BitVec.ofInt 64 (x : Int)).toNat = x := by
  simp only [BitVec.ofInt_natCast, BitVec.toNat_ofNat]
  exact Nat.mod_eq_of_lt hx
theorem u64_wrap {x : Nat} (hx : x < 18446744073709551616) : IntKind.u64.wrap (x : Int) = x := by
  have h1 : IntKind.u64.min = 0 := by decide
  have h2 : IntKind.u64.max = 18446744073709551615 := by decide
  exact wrap_in ⟨by omega, by omega⟩
theorem bitop_and {x y : Nat} (hx : x < 18446744073709551616) (hy : y < 18446744073709551616) : bitop .and .u64 (x : Int) (y : Int) = ((x &&& y : Nat) : Int) := by
  show IntKind.u64.wrap ((BitVec.ofInt 64 (x : Int) &&& BitVec.ofInt 64 (y : Int)).toNat : Int) = _
  rw [BitVec.toNat_and, ofInt_toNat hx, ofInt_toNat hy]
  exact u64_wrap (Nat.lt_of_le_of_lt Nat.and_le_left hx)
theorem bitop_or {x y : Nat} (hx : x < 18446744073709551616) (hy : y < 18446744073709551616) : bitop .or .u64 (x : Int) (y : Int) = ((x ||| y : Nat) : Int) := by
  show IntKind.u64.wrap ((BitVec.ofInt 64 (x : Int) ||| BitVec.ofInt 64 (y : Int)).toNat : Int) = _
  rw [BitVec.toNat_or, ofInt_toNat hx, ofInt_toNat hy]
  exact u64_wrap (Nat.or_lt_two_pow (n := 64) hx hy)

/-- a set of bits below L -/
def Bits (L : Nat) (x : Int) : Prop := ∃ n : Nat, x = n ∧ n < 2 ^ L
theorem pow_le60 {L : Nat} (h : L ≤ 60) : 2 ^ L ≤ 1152921504606846976 := Nat.pow_le_pow_right (n := 2) (by decide) h

structure TabOk (L : Nat) (t : HierarchyTable) : Prop where
  up : t.up.length = L
  down : t.down.length = L
  bits : ∀ j, Bits L (Am.get t.down j)

theorem hierarchyTables_ev {l : List ApiType} (hl : TypesOk l) : Evt (fun _ => hierarchyTables l) (TabOk l.length) := by
  obtain ⟨h60, _, hp⟩ := hl
  have h2 := pow_le60 h60
  unfold hierarchyTables
  refine Evt.chk (by rw [top_eq]; omega) ?_
  refine Evt.thenM (Evt.range (fun _ s => s.1.length = l.length ∧ s.2.length = l.length ∧ ∀ j, Bits l.length (Am.get s.2 j)) (fun _ => False) (fun _ => False) ⟨by simp, by simp, fun j => ⟨0, by rw [get_rep]; rfl, Nat.pow_pos (by decide)⟩⟩ (fun k s hk hi => ?_))
    (fun t ht => ?_) (fun r hr => hr.elim)
  · obtain ⟨i1, i2, i3⟩ := hi
    unfold hierarchyTables_b0
    refine Evt.chk (by omega) (Evt.chk (by omega) (Evt.letM ?_))
    refine Evt.thenM (Evt.range (fun _ s => s.length = l.length) (fun _ => False) (fun _ => False) (by simp; exact i1) (fun m u hm hu => ?_)) (fun t ht => ?_) (fun r hr => hr.elim)
    · unfold hierarchyTables_b3
      have := hp k hk m hm
      exact Evt.chk (by omega) (Evt.chk (by omega) (Evt.letM (Evt.pure (by simp [CtlP]; exact hu))))
    · simp only [ExP, or_false] at ht
      unfold hierarchyTables_a3
      refine Evt.thenM (Evt.range (fun _ s => s.length = l.length ∧ ∀ j, Bits l.length (Am.get s j)) (fun _ => False) (fun _ => False) ⟨i2, i3⟩ (fun m u hm hu => ?_)) (fun t ht => ?_) (fun r hr => hr.elim)
      · unfold hierarchyTables_b4
        refine Evt.chk (by omega) (Evt.chk (by omega) (Evt.cond (fun _ => Evt.chk (by omega) (Evt.letM (Evt.pure ?_))) (fun _ => Evt.pure hu)))
        refine ⟨by simp; exact hu.1, fun j => ?_⟩
        rw [get_set]
        split
        · obtain ⟨a, ha, hb⟩ := hu.2 m
          have hk2 : (2 : Nat) ^ k < 2 ^ l.length := Nat.pow_lt_pow_right (by decide) hk
          have e : wr .u64 (1 * 2 ^ (min k 64)) = ((2 ^ k : Nat) : Int) := by
            have : min k 64 = k := by omega
            rw [this, Int.one_mul]
            have e2 : ((2 : Int) ^ k) = ((2 ^ k : Nat) : Int) := by simp
            rw [e2]
            exact u64_wrap (by omega)
          rw [ha, e, bitop_or (by omega) (by omega)]
          exact ⟨_, rfl, Nat.or_lt_two_pow hb hk2⟩
        · exact hu.2 j
      · simp only [ExP, or_false] at ht
        unfold hierarchyTables_a4
        exact Evt.pure ⟨by assumption, ht⟩
  · simp only [ExP, or_false] at ht
    unfold hierarchyTables_a0
    exact Evt.pure ⟨ht.1, ht.2.1, ht.2.2⟩

theorem tab0_eq : tab0 = Lib.deBruijn64tab.map (fun n : Nat => (n : Int)) := by decide +kernel
theorem tab_at {y k : Nat} (h1 : y < 64) (h3 : Lib.deBruijn64tab.getD y 0 = k) : Am.get (Lib.deBruijn64tab.map fun n : Nat => (n : Int)) y = (k : Int) := by
  unfold Am.get
  rw [List.getD_eq_getElem?_getD, List.getElem?_map]
  rw [List.getD_eq_getElem?_getD] at h3
  have hlen : y < Lib.deBruijn64tab.length := h1
  rw [List.getElem?_eq_getElem hlen] at h3 ⊢
  simp only [Option.getD_some, Option.map_some] at h3 ⊢
  rw [h3]
theorem trailing_ev {x L : Nat} (h0 : x ≠ 0) (h : x < 2 ^ L) (hL : L ≤ 60) : Evt (fun _ => mathBitsTrailingZeros64 (x : Int)) (fun v => 0 ≤ v ∧ v < L) := by
  have h2 := pow_le60 hL
  unfold mathBitsTrailingZeros64
  refine Evt.cond (fun e => ?_) (fun _ => ?_)
  · simp only [Bool.cond_true_left, Bool.cond_false_right, Bool.not_eq_true', Bool.not_eq_false', Bool.or_eq_true, Bool.or_eq_false_iff, Bool.and_eq_true, Bool.and_eq_false_imp, Bool.not_true, Bool.not_false, decide_eq_true_eq, decide_eq_false_iff_not, Decidable.not_not, Int.not_lt, Int.not_le, Nat.not_lt, Nat.not_le, not_or, Bool.not_not, Bool.not_eq_true, Bool.true_eq_false, Bool.false_eq_true, Bool.or_true, Bool.true_or, Bool.and_true, Bool.true_and] at e
    omega
  have hlow : x &&& (18446744073709551616 - x) = 2 ^ Lib.ctz L x ∧ Lib.ctz L x < L := by
    obtain ⟨m, hm, hk⟩ := Lib.ctzFrom_spec L x (by omega) h
    have e : Lib.ctz L x = Lib.ctzFrom L x := by simp [Lib.ctz, h0]
    rw [e]
    refine ⟨?_, hk⟩
    have := Lib.and_neg 64 (Lib.ctzFrom L x) m (by rw [← hm]; omega)
    rw [← hm] at this
    exact this
  obtain ⟨e1, hk⟩ := hlow
  have e2 : wr .u64 (0 - (x : Int)) = ((18446744073709551616 - x : Nat) : Int) := by
    have : (((18446744073709551616 - x : Nat) : Int)) = 18446744073709551616 - (x : Int) := by omega
    have e3 : wr .u64 (0 - (x : Int)) = wr .u64 (18446744073709551616 - (x : Int)) := by
      unfold wr IntKind.wrap
      have h1 : IntKind.u64.signed = false := by decide
      have h2 : IntKind.u64.bits = 64 := by decide
      simp only [h1, h2]
      have e4 : (0 - (x : Int)) % (2 : Int) ^ 64 = (18446744073709551616 - (x : Int)) % (2 : Int) ^ 64 := by omega
      simp only [e4]
    rw [e3, ← this]
    exact u64_wrap (by omega)
  have e3 : bitop .and .u64 (x : Int) (wr .u64 (0 - (x : Int))) = ((2 ^ Lib.ctz L x : Nat) : Int) := by
    rw [e2, bitop_and (by omega) (by omega), e1]
  have hd := Lib.deBruijn64_at (Lib.ctz L x) (by omega)
  have e4 : wr .u64 (((2 ^ Lib.ctz L x : Nat) : Int) * 285870213051353865) = ((2 ^ Lib.ctz L x * 285870213051353865 % 18446744073709551616 : Nat) : Int) := by
    have : ((2 ^ Lib.ctz L x : Nat) : Int) * 285870213051353865 = ((2 ^ Lib.ctz L x * 285870213051353865 : Nat) : Int) := by simp
    rw [this]
    generalize 2 ^ Lib.ctz L x * 285870213051353865 = y
    have e5 : wr .u64 (y : Int) = wr .u64 ((y % 18446744073709551616 : Nat) : Int) := by
      unfold wr IntKind.wrap
      have h1 : IntKind.u64.signed = false := by decide
      have h2 : IntKind.u64.bits = 64 := by decide
      simp only [h1, h2]
      have e4 : (y : Int) % (2 : Int) ^ 64 = ((y % 18446744073709551616 : Nat) : Int) % (2 : Int) ^ 64 := by omega
      simp only [e4]
    rw [e5]
    exact u64_wrap (Nat.mod_lt _ (by decide))
  have e5 : Int.fdiv (((2 ^ Lib.ctz L x * 285870213051353865 % 18446744073709551616 : Nat) : Int)) (2 ^ (min 58 64)) = ((2 ^ Lib.ctz L x * 285870213051353865 % 18446744073709551616 / 288230376151711744 : Nat) : Int) := by
    generalize 2 ^ Lib.ctz L x * 285870213051353865 % 18446744073709551616 = y
    have : ((2 : Int) ^ (min 58 64)) = 288230376151711744 := by decide
    rw [this, Int.fdiv_eq_ediv_of_nonneg _ (by decide)]
    omega
  have e6 := tab_at hd.1 hd.2
  rw [e3, e4, e5]
  have h1 := hd.1
  generalize 2 ^ Lib.ctz L x * 285870213051353865 % 18446744073709551616 / 288230376151711744 = y at h1 e6
  clear e1 e2 e3 e4 e5 hd
  refine Evt.chk ⟨Int.natCast_nonneg _, Int.ofNat_lt.2 h1⟩ (Evt.pure ?_)
  rw [Int.toNat_natCast, tab0_eq, e6, wr_id (by omega) (by omega)]
  omega

theorem tableMeet_ev {L : Nat} {t : HierarchyTable} (h : TabOk L t) (hL : L ≤ 60) {a b : Int} (ha : 0 ≤ a ∧ a < L) (hb : 0 ≤ b ∧ b < L) : Evt (fun _ => hierarchyTableMeet t a b) (fun _ => True) := by
  have h2 := pow_le60 hL
  have hd := h.down
  unfold hierarchyTableMeet
  obtain ⟨x, ex, hx⟩ := h.bits a.toNat
  obtain ⟨y, ey, hy⟩ := h.bits b.toNat
  refine Evt.chk (by omega) (Evt.chk (by omega) ?_)
  rw [ex, ey, bitop_and (by omega) (by omega)]
  refine Evt.cond (fun _ => Evt.pure trivial) (fun e => ?_)
  have h0 : (x &&& y) ≠ 0 := by
    simp only [Bool.cond_true_left, Bool.cond_false_right, Bool.not_eq_true', Bool.not_eq_false', Bool.or_eq_true, Bool.or_eq_false_iff, Bool.and_eq_true, Bool.and_eq_false_imp, Bool.not_true, Bool.not_false, decide_eq_true_eq, decide_eq_false_iff_not, Decidable.not_not, Int.not_lt, Int.not_le, Nat.not_lt, Nat.not_le, not_or, Bool.not_not, Bool.not_eq_true, Bool.true_eq_false, Bool.false_eq_true, Bool.or_true, Bool.true_or, Bool.and_true, Bool.true_and] at e
    omega
  refine Evt.bind (trailing_ev h0 (Nat.lt_of_le_of_lt Nat.and_le_left hx) hL) fun v hv => ?_
  exact Evt.chk (by omega) (Evt.cond (fun _ => Evt.pure trivial) (fun _ => Evt.pure trivial))

structure HierOk (h : ApiHierarchy) : Prop where
  types : TypesOk h.types
  feats : h.feats.length ≤ 40
  ranges : ∀ k, k < h.feats.length → 0 ≤ (Am.get h.feats k).of_ ∧ (Am.get h.feats k).of_ < h.types.length ∧ 0 ≤ (Am.get h.feats k).value ∧ (Am.get h.feats k).value < h.types.length

theorem hierarchyValidate_ev (h : ApiHierarchy) : Evt (fun _ => hierarchyValidate h) (fun f => f.code = 0 → HierOk h) := by
  unfold hierarchyValidate
  refine Evt.cond (fun _ => Evt.bind (hierarchyFault_ev _ _ (P := Bad) (bad_of (by decide))) fun r hr => Evt.pure fun h => absurd h hr) (fun hc => ?_)
  have hf : h.feats.length ≤ 40 := by
    simp only [Bool.cond_true_left, Bool.cond_false_right, Bool.not_eq_true', Bool.not_eq_false', Bool.or_eq_true, Bool.or_eq_false_iff, Bool.and_eq_true, Bool.and_eq_false_imp, Bool.not_true, Bool.not_false, decide_eq_true_eq, decide_eq_false_iff_not, Decidable.not_not, Int.not_lt, Int.not_le, Nat.not_lt, Nat.not_le, not_or, Bool.not_not, Bool.not_eq_true, Bool.true_eq_false, Bool.false_eq_true, Bool.or_true, Bool.true_or, Bool.and_true, Bool.true_and] at hc
    omega
  refine Evt.bind (hierarchyTypes_ev _) fun f hty => ?_
  refine Evt.cond (fun e => Evt.pure fun e2 => ?_) (fun e => ?_)
  · simp only [Bool.cond_true_left, Bool.cond_false_right, Bool.not_eq_true', Bool.not_eq_false', Bool.or_eq_true, Bool.or_eq_false_iff, Bool.and_eq_true, Bool.and_eq_false_imp, Bool.not_true, Bool.not_false, decide_eq_true_eq, decide_eq_false_iff_not, Decidable.not_not, Int.not_lt, Int.not_le, Nat.not_lt, Nat.not_le, not_or, Bool.not_not, Bool.not_eq_true, Bool.true_eq_false, Bool.false_eq_true, Bool.or_true, Bool.true_or, Bool.and_true, Bool.true_and] at e
    exact absurd e2 e
  have hT : TypesOk h.types := hty (by simp only [Bool.cond_true_left, Bool.cond_false_right, Bool.not_eq_true', Bool.not_eq_false', Bool.or_eq_true, Bool.or_eq_false_iff, Bool.and_eq_true, Bool.and_eq_false_imp, Bool.not_true, Bool.not_false, decide_eq_true_eq, decide_eq_false_iff_not, Decidable.not_not, Int.not_lt, Int.not_le, Nat.not_lt, Nat.not_le, not_or, Bool.not_not, Bool.not_eq_true, Bool.true_eq_false, Bool.false_eq_true, Bool.or_true, Bool.true_or, Bool.and_true, Bool.true_and] at e; exact e)
  have h60 := hT.1
  refine Evt.bind (hierarchyTables_ev hT) fun t ht => ?_
  refine Evt.chk (by omega) ?_
  refine Evt.thenM (Evt.range (fun _ _ => True) (fun _ => False) Bad trivial (fun k s hk _ => ?_)) (fun u _ => ?_) (fun r hr e => absurd e hr)
  · unfold hierarchyValidate_b0
    refine Evt.chk (by omega) ?_
    refine Evt.thenM (Evt.range (fun _ _ => True) (fun _ => False) (CtlP (fun _ => False) (fun _ => False) Bad) trivial (fun m s hm _ => ?_)) (fun u _ => Evt.pure trivial) (fun r hr => ?_)
    · unfold hierarchyValidate_b1
      refine Evt.bind (tableMeet_ev ht h60 (by omega) (by omega)) fun v _ => ?_
      exact Evt.cond (fun _ => Evt.bind (hierarchyFault_ev _ _ (P := Bad) (bad_of (by decide))) fun r hr => Evt.pure hr) (fun _ => Evt.pure trivial)
    · cases r with
      | nxt s => exact hr.elim
      | brk t => exact hr.elim
      | ret x => exact hr
  · unfold hierarchyValidate_a0
    refine Evt.thenM (Evt.range (fun k _ => ∀ i, i < k → 0 ≤ (Am.get h.feats i).of_ ∧ (Am.get h.feats i).of_ < h.types.length ∧ 0 ≤ (Am.get h.feats i).value ∧ (Am.get h.feats i).value < h.types.length) (fun _ => False) Bad (fun i h => absurd h (Nat.not_lt_zero _)) (fun k s hk hi => ?_)) (fun u hu => ?_) (fun r hr e => absurd e hr)
    · unfold hierarchyValidate_b2
      refine Evt.bind (termName_ev _) fun b _ => ?_
      refine Evt.cond (fun _ => Evt.bind (hierarchyFault_ev _ _ (P := Bad) (bad_of (by decide))) fun r hr => Evt.pure hr) fun _ => ?_
      refine Evt.cond (fun _ => Evt.bind (hierarchyFault_ev _ _ (P := Bad) (bad_of (by decide))) fun r hr => Evt.pure hr) fun _ => ?_
      refine Evt.letM ?_
      refine Evt.cond (fun _ => Evt.bind (hierarchyFault_ev _ _ (P := Bad) (bad_of (by decide))) fun r hr => Evt.pure hr) fun e => Evt.pure ?_
      intro i hi'
      by_cases e2 : i = k
      · subst e2
        simp only [Bool.cond_true_left, Bool.cond_false_right, Bool.not_eq_true', Bool.not_eq_false', Bool.or_eq_true, Bool.or_eq_false_iff, Bool.and_eq_true, Bool.and_eq_false_imp, Bool.not_true, Bool.not_false, decide_eq_true_eq, decide_eq_false_iff_not, Decidable.not_not, Int.not_lt, Int.not_le, Nat.not_lt, Nat.not_le, not_or, Bool.not_not, Bool.not_eq_true, Bool.true_eq_false, Bool.false_eq_true, Bool.or_true, Bool.true_or, Bool.and_true, Bool.true_and] at e
        omega
      · exact hi i (by omega)
    · simp only [ExP, or_false] at hu
      unfold hierarchyValidate_a2
      exact Evt.pure fun _ => ⟨hT, hf, hu⟩

end Go.Proofs.YtaohdfpcdfbnlaaDoor

