import Derived.Lib.RuneCount
import Derived.Test.YtaohdfpcdfbnlaaGreatDoorVal3
set_option linter.unusedVariables false
set_option linter.unusedSimpArgs false
namespace Go.Proofs.YtaohdfpcdfbnlaaGreatDoor
open Go Go.Am
theorem Gz (s : Bs) : (bs s).size = s.length := by simp [bs, ByteArray.size]
theorem qj {s : Bs} {p : Nat} (h : p < s.length) : 1 ≤ kW s p := by
 unfold kW
 rw [if_pos h]
 exact Lib.decode_width_pos _ _ (by rw [Gz]; exact h)
theorem Bg (s : Bs) (i : Int) : 0 ≤ C7 s i := by unfold C7; omega
theorem Bh (s : Bs) (i : Int) : C7 s i < 256 := by
 unfold C7
 have := (s.getD i.toNat 0).toNat_lt
 omega
theorem uV (s : Bs) : Evt (fun n => J3 n s) (fun _ => True) := by
 unfold J3
 refine Evt.E0 (P := ExP (fun _ => True) (fun _ => True)) (Evt.loop (fun u : Nat × Int => s.length - u.1) (fun _ => True) _ _ trivial (fun u _ => ?_)) (fun t _ => Evt.pure trivial) (fun _ _ => trivial)
 unfold J7
 refine Evt.cond (fun e => Evt.pure ?_) (fun _ => Evt.pure trivial)
 simp only [Bool.cond_true_left, Bool.cond_false_right, Bool.not_eq_true', Bool.not_eq_false', Bool.or_eq_true, Bool.or_eq_false_iff, Bool.and_eq_true, Bool.and_eq_false_imp, Bool.not_true, Bool.not_false, decide_eq_true_eq, decide_eq_false_iff_not, Decidable.not_not, Int.not_lt, Int.not_le, Nat.not_lt, Nat.not_le, not_or, Bool.not_not, Bool.not_eq_true, Bool.true_eq_false, Bool.false_eq_true, Bool.or_true, Bool.true_or, Bool.and_true, Bool.true_and] at e
 have := qj e
 exact ⟨trivial, by show s.length - (u.1 + kW s u.1) < s.length - u.1; omega⟩
theorem lu {s : Bs} (h : 8 ≤ s.length) : Evt (fun _ => E8 s) (fun _ => True) := by
 unfold E8
 exact Evt.cond (fun e => by cases e) (fun _ => Evt.chk (by omega) (Evt.chk (by omega) (Evt.chk (by omega) (Evt.chk (by omega) (Evt.chk (by omega) (Evt.chk (by omega) (Evt.chk (by omega) (Evt.chk (by omega) (Evt.pure trivial)))))))))
theorem ny (L : Nat) (s : Bs) (hs : s.length ≤ L) : Evt (fun _ => K4 s) (vo (fun s' => s'.length ≤ L ∧ s'.length < s.length) (fun t => t.length ≤ L) (fun _ => False)) := by
 unfold K4
 refine Evt.bind (P := fun _ => True) (Evt.gd (fun e => lu ?_) (fun _ => trivial)) fun a _ => Evt.chk (P3 fun e => ?_) (Evt.bind (P := fun _ => True) (Evt.gd (fun e => lu ?_) (fun _ => trivial)) fun b _ => Evt.chk (P3 fun e => ?_)
  (Evt.bind (P := fun _ => True) (Evt.gd (fun e => lu ?_) (fun _ => trivial)) fun c _ => Evt.chk ⟨P3 fun e => ?_, P3 fun e => ?_⟩ (Evt.bind (P := fun _ => True) (Evt.gd (fun e => lu ?_) (fun _ => trivial)) fun d _ =>
   Evt.cond (fun e => Evt.chk ?_ (Evt.pure ?_)) (fun _ => Evt.pure hs))))
 all_goals (try simp only [Bool.cond_true_left, Bool.cond_false_right, Bool.not_eq_true', Bool.not_eq_false', Bool.or_eq_true, Bool.or_eq_false_iff, Bool.and_eq_true, Bool.and_eq_false_imp, Bool.not_true, Bool.not_false, decide_eq_true_eq, decide_eq_false_iff_not, Decidable.not_not, Int.not_lt, Int.not_le, Nat.not_lt, Nat.not_le, not_or, Bool.not_not, Bool.not_eq_true, Bool.true_eq_false, Bool.false_eq_true, Bool.or_true, Bool.true_or, Bool.and_true, Bool.true_and] at e)
 ·omega
 ·omega
 ·rw [List.length_drop]; omega
 ·omega
 ·rw [List.length_drop]; omega
 ·omega
 ·omega
 ·rw [List.length_drop]; omega
 ·omega
 ·show (s.drop 32).length ≤ L ∧ (s.drop 32).length < s.length
  rw [List.length_drop]; omega
theorem Ed : gF.all (fun x => decide (0 ≤ x) && decide (x < 256)) = true := by decide +kernel
theorem Ee (k : Nat) (h : k < 256) : 0 ≤ Am.get gF k ∧ Am.get gF k < 256 := by
 have hl : k < gF.length := by rw [xM]; exact h
 have := List.all_eq_true.1 Ed _ (get_mem hl)
 simpa using this
theorem Cz (k : Nat) (h : k < 256) : 0 ≤ Int.fdiv (Am.get gF k) (2 ^ (min 4 8)) ∧ Int.fdiv (Am.get gF k) (2 ^ (min 4 8)) < 16 := by
 have := Ee k h
 have e3 : ((2 : Int) ^ (min 4 8)) = 16 := by decide
 rw [e3, Int.fdiv_eq_ediv_of_nonneg _ (by decide)]
 omega
theorem nA (s : Bs) : Evt (fun n => K5 n s) (vo (fun s' => True ∧ s'.length < s.length) (fun _ => True) (fun _ => True)) := by
 have hd : ∀ k, 0 < k → 0 < s.length → vo (ρ := Bool) (τ := Unit) (fun s' : Bs => True ∧ s'.length < s.length) (fun _ => True) (fun _ => True) (.nxt (s.drop k)) := fun k hk hs => ⟨trivial, by rw [List.length_drop]; omega⟩
 unfold K5
 refine Evt.cond (fun e => ?_) (fun _ => Evt.pure trivial)
 simp only [Bool.cond_true_left, Bool.cond_false_right, Bool.not_eq_true', Bool.not_eq_false', Bool.or_eq_true, Bool.or_eq_false_iff, Bool.and_eq_true, Bool.and_eq_false_imp, Bool.not_true, Bool.not_false, decide_eq_true_eq, decide_eq_false_iff_not, Decidable.not_not, Int.not_lt, Int.not_le, Nat.not_lt, Nat.not_le, not_or, Bool.not_not, Bool.not_eq_true, Bool.true_eq_false, Bool.false_eq_true, Bool.or_true, Bool.true_or, Bool.and_true, Bool.true_and] at e
 have hb := Bg s 0
 have hb2 := Bh s 0
 refine Evt.chk e (Evt.cond (fun _ => ?_) (fun _ => ?_))
 ·refine Evt.chk ⟨by omega, by omega⟩ (Evt.bind (P := fun _ => True) (Evt.gd (fun e2 => lu ?_) (fun _ => trivial)) fun a _ => ?_)
  ·simp only [Bool.cond_true_left, Bool.cond_false_right, Bool.not_eq_true', Bool.not_eq_false', Bool.or_eq_true, Bool.or_eq_false_iff, Bool.and_eq_true, Bool.and_eq_false_imp, Bool.not_true, Bool.not_false, decide_eq_true_eq, decide_eq_false_iff_not, Decidable.not_not, Int.not_lt, Int.not_le, Nat.not_lt, Nat.not_le, not_or, Bool.not_not, Bool.not_eq_true, Bool.true_eq_false, Bool.false_eq_true, Bool.or_true, Bool.true_or, Bool.and_true, Bool.true_and] at e2
   omega
  refine Evt.cond (fun e2 => ?_) (fun _ => Evt.pure (hd 1 (by omega) (by omega)))
  simp only [Bool.cond_true_left, Bool.cond_false_right, Bool.not_eq_true', Bool.not_eq_false', Bool.or_eq_true, Bool.or_eq_false_iff, Bool.and_eq_true, Bool.and_eq_false_imp, Bool.not_true, Bool.not_false, decide_eq_true_eq, decide_eq_false_iff_not, Decidable.not_not, Int.not_lt, Int.not_le, Nat.not_lt, Nat.not_le, not_or, Bool.not_not, Bool.not_eq_true, Bool.true_eq_false, Bool.false_eq_true, Bool.or_true, Bool.true_or, Bool.and_true, Bool.true_and] at e2
  have hl1 : (s.drop 1).length = s.length - 1 := List.length_drop
  have hl8 : ((s.drop 1).drop 8).length = s.length - 9 := by rw [List.length_drop, hl1]; omega
  have h8 : ((s.drop 1).drop 8).length < s.length := by omega
  refine Evt.chk ⟨by omega, by omega⟩ (Evt.bind (P := fun _ => True) (Evt.gd (fun e3 => lu ?_) (fun _ => trivial)) fun b _ => Evt.chk (P3 fun e3 => ?_) (Evt.bind (P := fun _ => True) (Evt.gd (fun e3 => lu ?_) (fun _ => trivial)) fun c _ => ?_))
  ·simp only [Bool.cond_true_left, Bool.cond_false_right, Bool.not_eq_true', Bool.not_eq_false', Bool.or_eq_true, Bool.or_eq_false_iff, Bool.and_eq_true, Bool.and_eq_false_imp, Bool.not_true, Bool.not_false, decide_eq_true_eq, decide_eq_false_iff_not, Decidable.not_not, Int.not_lt, Int.not_le, Nat.not_lt, Nat.not_le, not_or, Bool.not_not, Bool.not_eq_true, Bool.true_eq_false, Bool.false_eq_true, Bool.or_true, Bool.true_or, Bool.and_true, Bool.true_and] at e3
   omega
  ·simp only [Bool.cond_true_left, Bool.cond_false_right, Bool.not_eq_true', Bool.not_eq_false', Bool.or_eq_true, Bool.or_eq_false_iff, Bool.and_eq_true, Bool.and_eq_false_imp, Bool.not_true, Bool.not_false, decide_eq_true_eq, decide_eq_false_iff_not, Decidable.not_not, Int.not_lt, Int.not_le, Nat.not_lt, Nat.not_le, not_or, Bool.not_not, Bool.not_eq_true, Bool.true_eq_false, Bool.false_eq_true, Bool.or_true, Bool.true_or, Bool.and_true, Bool.true_and] at e3
   omega
  ·simp only [Bool.cond_true_left, Bool.cond_false_right, Bool.not_eq_true', Bool.not_eq_false', Bool.or_eq_true, Bool.or_eq_false_iff, Bool.and_eq_true, Bool.and_eq_false_imp, Bool.not_true, Bool.not_false, decide_eq_true_eq, decide_eq_false_iff_not, Decidable.not_not, Int.not_lt, Int.not_le, Nat.not_lt, Nat.not_le, not_or, Bool.not_not, Bool.not_eq_true, Bool.true_eq_false, Bool.false_eq_true, Bool.or_true, Bool.true_or, Bool.and_true, Bool.true_and] at e3
   rw [List.length_drop]; omega
  refine Evt.cond (fun e3 => Evt.chk ⟨by omega, ?_⟩ ?_) (fun _ => Evt.pure ⟨trivial, h8⟩)
  ·simp only [Bool.cond_true_left, Bool.cond_false_right, Bool.not_eq_true', Bool.not_eq_false', Bool.or_eq_true, Bool.or_eq_false_iff, Bool.and_eq_true, Bool.and_eq_false_imp, Bool.not_true, Bool.not_false, decide_eq_true_eq, decide_eq_false_iff_not, Decidable.not_not, Int.not_lt, Int.not_le, Nat.not_lt, Nat.not_le, not_or, Bool.not_not, Bool.not_eq_true, Bool.true_eq_false, Bool.false_eq_true, Bool.or_true, Bool.true_or, Bool.and_true, Bool.true_and] at e3
   omega
  refine Evt.E0 (P := ExP (fun t : Bs => t.length ≤ s.length - 9) (fun _ => False)) (Evt.loop (fun u : Bs => u.length) (fun u => u.length ≤ s.length - 9) _ _ (by rw [List.length_drop]; omega) (fun u hu => ny _ u hu)) (fun t ht => ?_) (fun r hr => hr.elim)
  unfold M4 I9
  exact Evt.pure ⟨trivial, by have : t.length ≤ s.length - 9 := ht; omega⟩
 ·refine Evt.chk ⟨hb, hb2⟩ (Evt.chk (Cz _ (by omega)) (Evt.cond (fun _ => ?_) (fun _ => Evt.cond (fun _ => ?_) (fun _ => Evt.cond (fun _ => ?_) (fun _ => Evt.pure trivial)))))
  ·refine Evt.chk (P3 fun e => ?_) (Evt.chk (P3 fun e => ?_) (Evt.cond (fun _ => Evt.pure trivial) (fun e => Evt.chk ⟨by omega, ?_⟩ (Evt.pure (hd 2 (by omega) (by omega))))))
   all_goals simp only [Bool.cond_true_left, Bool.cond_false_right, Bool.not_eq_true', Bool.not_eq_false', Bool.or_eq_true, Bool.or_eq_false_iff, Bool.and_eq_true, Bool.and_eq_false_imp, Bool.not_true, Bool.not_false, decide_eq_true_eq, decide_eq_false_iff_not, Decidable.not_not, Int.not_lt, Int.not_le, Nat.not_lt, Nat.not_le, not_or, Bool.not_not, Bool.not_eq_true, Bool.true_eq_false, Bool.false_eq_true, Bool.or_true, Bool.true_or, Bool.and_true, Bool.true_and] at e
   all_goals omega
  ·refine Evt.chk (P3 fun e => ?_) (Evt.chk (P3 fun e => ?_) (Evt.chk (P3 fun e => ?_) (Evt.chk (P3 fun e => ?_) (Evt.cond (fun _ => Evt.pure trivial) (fun e => Evt.chk ⟨by omega, ?_⟩ (Evt.pure (hd 3 (by omega) (by omega))))))))
   all_goals simp only [Bool.cond_true_left, Bool.cond_false_right, Bool.not_eq_true', Bool.not_eq_false', Bool.or_eq_true, Bool.or_eq_false_iff, Bool.and_eq_true, Bool.and_eq_false_imp, Bool.not_true, Bool.not_false, decide_eq_true_eq, decide_eq_false_iff_not, Decidable.not_not, Int.not_lt, Int.not_le, Nat.not_lt, Nat.not_le, not_or, Bool.not_not, Bool.not_eq_true, Bool.true_eq_false, Bool.false_eq_true, Bool.or_true, Bool.true_or, Bool.and_true, Bool.true_and] at e
   all_goals omega
  ·refine Evt.chk (P3 fun e => ?_) (Evt.chk (P3 fun e => ?_) (Evt.chk (P3 fun e => ?_) (Evt.chk (P3 fun e => ?_) (Evt.chk (P3 fun e => ?_) (Evt.chk (P3 fun e => ?_) (Evt.cond (fun _ => Evt.pure trivial) (fun e => Evt.chk ⟨by omega, ?_⟩ (Evt.pure (hd 4 (by omega) (by omega))))))))))
   all_goals simp only [Bool.cond_true_left, Bool.cond_false_right, Bool.not_eq_true', Bool.not_eq_false', Bool.or_eq_true, Bool.or_eq_false_iff, Bool.and_eq_true, Bool.and_eq_false_imp, Bool.not_true, Bool.not_false, decide_eq_true_eq, decide_eq_false_iff_not, Decidable.not_not, Int.not_lt, Int.not_le, Nat.not_lt, Nat.not_le, not_or, Bool.not_not, Bool.not_eq_true, Bool.true_eq_false, Bool.false_eq_true, Bool.or_true, Bool.true_or, Bool.and_true, Bool.true_and] at e
   all_goals omega
theorem qE (s : Bs) : Evt (fun n => L8 n s) (fun _ => True) := by
 unfold L8
 exact Evt.E0 (P := ExP (fun _ => True) (fun _ => True)) (Evt.loop (fun u : Bs => u.length) (fun _ => True) _ _ trivial (fun u _ => nA u)) (fun t _ => Evt.pure trivial) (fun _ _ => trivial)
theorem mB : ∀ (l : List UInt8) (c : UInt8), (∀ b ∈ l, b ≠ c) → Lib.indexByte l c = -1
 | [], _, _ => rfl
 | b :: l, c, h => by
  have hb : (b == c) = false := beq_false_of_ne (h b (List.mem_cons_self ..))
  have ih := mB l c (fun x hx => h x (List.mem_cons_of_mem _ hx))
  simp [Lib.indexByte, hb, ih]
theorem ga (s : Bs) (c : Int) : Evt (fun _ => Z8 s c) (fun v => v = Lib.indexByte s c.toNat.toUInt8) := Evt.pure rfl
theorem uW {r : Int} (h : 128 ≤ r) : ∃ (l : Bs) (b : UInt8), I3 r = l ++ [b] ∧ 1 ≤ l.length ∧ l.length ≤ 3 ∧ 128 ≤ b.toNat := by
 have key : ∀ c : Nat, 128 ≤ c → 128 ≤ (UInt8.ofNat (0x80 + c % 64)).toNat := fun c _ => by
  rw [UInt8.toNat_ofNat']
  omega
 unfold I3 Utf8.encode
 have hc : 128 ≤ (if Utf8.valid r then r.toNat else Utf8.runeError) := by
  split
  ·omega
  ·decide
 generalize (if Utf8.valid r then r.toNat else Utf8.runeError) = c at hc
 simp only
 split
 ·omega
 ·split
  ·exact ⟨[_], _, rfl, by simp, by simp, key c hc⟩
  ·split
   ·exact ⟨[_, _], _, rfl, by simp, by simp, key c hc⟩
   ·exact ⟨[_, _, _], _, rfl, by simp, by simp, key c hc⟩
def stops : Bs := [32, 9, 10, 40, 41, 91, 93, 44, 59]
theorem qk : stops.all (fun b => decide (b.toNat < 128)) = true := by decide
theorem yY {l : Bs} {b : UInt8} : C7 (l ++ [b]) l.length = b.toNat := by
 unfold C7
 rw [Int.toNat_natCast, List.getD_eq_getElem?_getD, List.getElem?_append_right (Nat.le_refl _)]
 simp
theorem uX (k : Nat) : C7 stops k < 128 := by
 unfold C7
 rw [Int.toNat_natCast, List.getD_eq_getElem?_getD]
 by_cases h : k < stops.length
 ·rw [List.getElem?_eq_getElem h]
  have := List.all_eq_true.1 qk _ (List.getElem_mem h)
  have := of_decide_eq_true this
  simp only [Option.getD_some]
  omega
 ·rw [List.getElem?_eq_none (by omega)]
  simp
theorem ql (r : Int) (h : 128 ≤ r) : Evt (fun n => R0 n r stops ()) (vo (fun _ => False) (fun _ => True) (fun _ => True)) := by
 obtain ⟨l, b, e, h1, h3, hb⟩ := uW h
 have hl : (I3 r).length = l.length + 1 := by rw [e]; simp
 have hs : stops.length = 9 := rfl
 have hw : wr .i64 (((I3 r).length : Int) - 1) = (l.length : Int) := by
  rw [hl, W0 (by omega) (by omega)]; omega
 have hw2 : wr .i64 ((l.length : Int) + 1) = ((l.length + 1 : Nat) : Int) := by
  rw [W0 (by omega) (by omega)]; omega
 have Iw : C7 (I3 r) (l.length : Int) = b.toNat := by rw [e]; exact yY
 have hst := uX l.length
 unfold R0
 rw [hw, hw2, Iw, Int.toNat_natCast]
 refine Evt.cond (fun _ => ?_) (fun _ => Evt.pure trivial)
 refine Evt.chk (by omega) (Evt.chk (by omega) (Evt.cond (fun _ => ?_) (fun e2 => ?_)))
 ·refine Evt.chk (by omega) (Evt.bind (ga _ _) fun v hv => Evt.cond (fun _ => Evt.pure trivial) (fun e3 => ?_))
  exfalso
  have hn : Lib.indexByte (stops.drop (l.length + 1)) ((b.toNat : Int).toNat.toUInt8) = -1 := mB _ _ (fun x hx e4 => by
   have hm : x ∈ stops := List.mem_of_mem_drop hx
   have := of_decide_eq_true (List.all_eq_true.1 qk _ hm)
   have e5 : x = b := by rw [e4]; simp
   rw [e5] at this
   omega)
  rw [hn] at hv
  simp only [Bool.cond_true_left, Bool.cond_false_right, Bool.not_eq_true', Bool.not_eq_false', Bool.or_eq_true, Bool.or_eq_false_iff, Bool.and_eq_true, Bool.and_eq_false_imp, Bool.not_true, Bool.not_false, decide_eq_true_eq, decide_eq_false_iff_not, Decidable.not_not, Int.not_lt, Int.not_le, Nat.not_lt, Nat.not_le, not_or, Bool.not_not, Bool.not_eq_true, Bool.true_eq_false, Bool.false_eq_true, Bool.or_true, Bool.true_or, Bool.and_true, Bool.true_and] at e3
  omega
 ·exfalso
  simp only [Bool.cond_true_left, Bool.cond_false_right, Bool.not_eq_true', Bool.not_eq_false', Bool.or_eq_true, Bool.or_eq_false_iff, Bool.and_eq_true, Bool.and_eq_false_imp, Bool.not_true, Bool.not_false, decide_eq_true_eq, decide_eq_false_iff_not, Decidable.not_not, Int.not_lt, Int.not_le, Nat.not_lt, Nat.not_le, not_or, Bool.not_not, Bool.not_eq_true, Bool.true_eq_false, Bool.false_eq_true, Bool.or_true, Bool.true_or, Bool.and_true, Bool.true_and] at e2
  omega
theorem uY (r : Int) (hr : 0 ≤ r) : Evt (fun n => T2 n stops r) (fun _ => True) := by
 unfold T2
 refine Evt.cond (fun _ => Evt.bind (ga _ _) fun v _ => Evt.pure trivial) (fun e => ?_)
 have h128 : 128 ≤ r := by
  by_cases h : 128 ≤ r
  ·exact h
  ·exfalso
   have e1 : decide (0 ≤ r) = true := decide_eq_true hr
   have e2 : decide (r < 128) = true := decide_eq_true (by omega)
   rw [e1, e2] at e
   cases e
 refine Evt.cond (fun _ => ?_) (fun _ => ?_)
 ·refine Evt.E0 (P := ExP (fun _ => True) (fun _ => True)) (Evt.loop (fun u : Nat => stops.length - u) (fun _ => True) _ _ trivial (fun u _ => ?_)) (fun t _ => Evt.pure trivial) (fun _ _ => trivial)
  unfold Y6
  refine Evt.cond (fun e => ?_) (fun _ => Evt.pure trivial)
  simp only [Bool.cond_true_left, Bool.cond_false_right, Bool.not_eq_true', Bool.not_eq_false', Bool.or_eq_true, Bool.or_eq_false_iff, Bool.and_eq_true, Bool.and_eq_false_imp, Bool.not_true, Bool.not_false, decide_eq_true_eq, decide_eq_false_iff_not, Decidable.not_not, Int.not_lt, Int.not_le, Nat.not_lt, Nat.not_le, not_or, Bool.not_not, Bool.not_eq_true, Bool.true_eq_false, Bool.false_eq_true, Bool.or_true, Bool.true_or, Bool.and_true, Bool.true_and] at e
  have := qj e
  exact Evt.chk e (Evt.cond (fun _ => Evt.pure trivial) (fun _ => Evt.pure ⟨trivial, by omega⟩))
 ·refine Evt.bind (P := fun _ => True) ?_ fun v _ => Evt.cond (fun _ => Evt.pure trivial) (fun _ => ?_)
  ·unfold V7
   exact Evt.cond (fun _ => Evt.pure trivial) (fun _ => Evt.cond (fun _ => Evt.pure trivial) (fun _ => Evt.pure trivial))
  ·exact Evt.E0 (P := ExP (fun _ => True) (fun _ => True)) (Evt.loop (fun _ : Unit => 0) (fun _ => True) _ _ trivial (fun u _ => (ql r h128).mono fun c hc => by
    cases c with
    | nxt s => exact hc.elim
    | brk t => trivial
    | ret x => trivial)) (fun t _ => Evt.pure trivial) (fun _ _ => trivial)
theorem qF (s : Bs) (hs : s.length < 4294967281) : Evt (fun n => T9 n s stops) (fun _ => True) := by
 unfold T9
 refine Evt.bind (P := fun _ => True) ?_ fun v _ => Evt.pure trivial
 unfold dn
 refine Evt.cond (fun _ => Evt.chk ⟨by decide, hs, by decide, qk⟩ (Evt.pure trivial)) (fun e => ?_)
 simp only [Bool.cond_true_left, Bool.cond_false_right, Bool.not_eq_true', Bool.not_eq_false', Bool.or_eq_true, Bool.or_eq_false_iff, Bool.and_eq_true, Bool.and_eq_false_imp, Bool.not_true, Bool.not_false, decide_eq_true_eq, decide_eq_false_iff_not, Decidable.not_not, Int.not_lt, Int.not_le, Nat.not_lt, Nat.not_le, not_or, Bool.not_not, Bool.not_eq_true, Bool.true_eq_false, Bool.false_eq_true, Bool.or_true, Bool.true_or, Bool.and_true, Bool.true_and] at e
 unfold ck
 refine Evt.cond (fun _ => Evt.pure trivial) (fun _ => Evt.cond (fun e2 => ?_) (fun _ => ?_))
 ·simp only [Bool.cond_true_left, Bool.cond_false_right, Bool.not_eq_true', Bool.not_eq_false', Bool.or_eq_true, Bool.or_eq_false_iff, Bool.and_eq_true, Bool.and_eq_false_imp, Bool.not_true, Bool.not_false, decide_eq_true_eq, decide_eq_false_iff_not, Decidable.not_not, Int.not_lt, Int.not_le, Nat.not_lt, Nat.not_le, not_or, Bool.not_not, Bool.not_eq_true, Bool.true_eq_false, Bool.false_eq_true, Bool.or_true, Bool.true_or, Bool.and_true, Bool.true_and] at e2
  exact absurd e2 (by decide)
 refine Evt.bind (P := fun b => b = false) (Evt.pure ?_) fun b hb => Evt.cond (fun e2 => ?_) (fun _ => ?_)
 ·exact decide_eq_false (by omega)
 ·rw [hb] at e2; cases e2
 unfold Z0
 refine Evt.E0 (P := ExP (fun _ => True) (fun _ => True)) (Evt.loop (fun u : Nat => s.length - u) (fun _ => True) _ _ trivial (fun u _ => ?_)) (fun t _ => Evt.pure trivial) (fun _ _ => trivial)
 unfold Y9
 refine Evt.cond (fun e2 => ?_) (fun _ => Evt.pure trivial)
 simp only [Bool.cond_true_left, Bool.cond_false_right, Bool.not_eq_true', Bool.not_eq_false', Bool.or_eq_true, Bool.or_eq_false_iff, Bool.and_eq_true, Bool.and_eq_false_imp, Bool.not_true, Bool.not_false, decide_eq_true_eq, decide_eq_false_iff_not, Decidable.not_not, Int.not_lt, Int.not_le, Nat.not_lt, Nat.not_le, not_or, Bool.not_not, Bool.not_eq_true, Bool.true_eq_false, Bool.false_eq_true, Bool.or_true, Bool.true_or, Bool.and_true, Bool.true_and] at e2
 have := qj e2
 exact Evt.chk e2 (Evt.bind (uY _ (by unfold rune; omega)) fun v _ => Evt.cond (fun _ => Evt.pure trivial) (fun _ => Evt.pure ⟨trivial, by omega⟩))
theorem qG (s : Bs) (hs : s.length < 4294967281) : Evt (fun n => fV n s) (fun _ => True) := by
 unfold fV
 refine Evt.bind (uV s) fun v _ => Evt.bind (P := fun _ => True) (Evt.gd (fun _ => qE s) (fun _ => trivial)) fun b _ => Evt.bind (P := fun _ => True) (Evt.gd (fun _ => qF s hs) (fun _ => trivial)) fun c _ => Evt.pure trivial
theorem qm {h : w4} (hh : yc h) {t : A9} (ht : yX h.types.length t) (x : w9) (hw : x.word.length < 4294967281) : Evt (fun n => eA n h t x) (fun _ => True) := by
 unfold eA
 exact Evt.bind (qG _ hw) fun b _ => Evt.cond (fun _ => Evt.pure trivial) (fun _ => Evt.cond (fun _ => Evt.pure trivial) (fun _ => Evt.bind (gW hh ht _) fun f _ => Evt.cond (fun _ => Evt.pure trivial) (fun _ => Evt.bind (jS _) fun v _ => Evt.pure trivial)))
structure uf (g : x5) : Prop where
 rules : g.rules.length ≤ 40
 D0 : g.D0.length ≤ 100
theorem mg (g : x5) (hw : ∀ k, k < g.D0.length → (Am.get g.D0 k).word.length < 4294967281) : Evt (fun n => R2 n g) (fun f => f.code = 0 → uf g) := by
 unfold R2
 refine Evt.bind (kC _) fun f hf => Evt.cond (fun e => Evt.pure fun e2 => ?_) (fun e => ?_)
 ·simp only [Bool.cond_true_left, Bool.cond_false_right, Bool.not_eq_true', Bool.not_eq_false', Bool.or_eq_true, Bool.or_eq_false_iff, Bool.and_eq_true, Bool.and_eq_false_imp, Bool.not_true, Bool.not_false, decide_eq_true_eq, decide_eq_false_iff_not, Decidable.not_not, Int.not_lt, Int.not_le, Nat.not_lt, Nat.not_le, not_or, Bool.not_not, Bool.not_eq_true, Bool.true_eq_false, Bool.false_eq_true, Bool.or_true, Bool.true_or, Bool.and_true, Bool.true_and] at e
  exact absurd e2 e
 simp only [Bool.cond_true_left, Bool.cond_false_right, Bool.not_eq_true', Bool.not_eq_false', Bool.or_eq_true, Bool.or_eq_false_iff, Bool.and_eq_true, Bool.and_eq_false_imp, Bool.not_true, Bool.not_false, decide_eq_true_eq, decide_eq_false_iff_not, Decidable.not_not, Int.not_lt, Int.not_le, Nat.not_lt, Nat.not_le, not_or, Bool.not_not, Bool.not_eq_true, Bool.true_eq_false, Bool.false_eq_true, Bool.or_true, Bool.true_or, Bool.and_true, Bool.true_and] at e
 have hh := hf e
 refine Evt.cond (fun _ => Evt.bind (R8 _ _ (P := Bad) (cN (by decide))) fun r hr => Evt.pure fun e => absurd e hr) (fun _ => ?_)
 refine Evt.cond (fun _ => Evt.bind (R8 _ _ (P := Bad) (cN (by decide))) fun r hr => Evt.pure fun e => absurd e hr) (fun e2 => ?_)
 simp only [Bool.cond_true_left, Bool.cond_false_right, Bool.not_eq_true', Bool.not_eq_false', Bool.or_eq_true, Bool.or_eq_false_iff, Bool.and_eq_true, Bool.and_eq_false_imp, Bool.not_true, Bool.not_false, decide_eq_true_eq, decide_eq_false_iff_not, Decidable.not_not, Int.not_lt, Int.not_le, Nat.not_lt, Nat.not_le, not_or, Bool.not_not, Bool.not_eq_true, Bool.true_eq_false, Bool.false_eq_true, Bool.or_true, Bool.true_or, Bool.and_true, Bool.true_and] at e2
 have hg : uf g := ⟨by omega, by omega⟩
 refine Evt.bind (gL hh.types) fun t ht => ?_
 refine Evt.E0 (Evt.range (fun _ _ => True) (fun _ => False) (fun _ => True) trivial (fun k s hk _ => ?_)) (fun u _ => ?_) (fun r _ _ => hg)
 ·unfold aE
  refine Evt.bind (iW _) fun b _ => ?_
  refine Evt.cond (fun _ => Evt.bind (R8 _ _ (P := fun _ => True) trivial) fun r hr => Evt.pure trivial) fun _ => ?_
  refine Evt.cond (fun _ => Evt.bind (R8 _ _ (P := fun _ => True) trivial) fun r hr => Evt.pure trivial) fun _ => ?_
  refine Evt.eV (Evt.bind (qD hh ht _) fun c _ => ?_)
  exact Evt.cond (fun _ => Evt.bind (R8 _ _ (P := fun _ => True) trivial) fun r hr => Evt.pure trivial) fun _ => Evt.pure trivial
 ·unfold aH
  refine Evt.E0 (Evt.range (fun _ _ => True) (fun _ => False) (fun _ => True) trivial (fun k s hk _ => ?_)) (fun u _ => ?_) (fun r _ _ => hg)
  ·unfold aF
   refine Evt.bind (qm hh ht _ (hw k hk)) fun c _ => ?_
   exact Evt.cond (fun _ => Evt.bind (R8 _ _ (P := fun _ => True) trivial) fun r hr => Evt.pure trivial) fun _ => Evt.pure trivial
  ·unfold aG
   refine Evt.bind (gW hh ht _) fun f _ => ?_
   exact Evt.cond (fun _ => Evt.bind (R8 _ _ (P := fun _ => True) trivial) fun r hr => Evt.pure fun _ => hg) fun _ => Evt.pure fun _ => hg
end Go.Proofs.YtaohdfpcdfbnlaaGreatDoor
