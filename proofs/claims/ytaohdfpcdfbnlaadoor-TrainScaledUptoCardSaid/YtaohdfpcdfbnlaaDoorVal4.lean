/-
  PL, part 5: the checks of words, entries and grammars come to an end at every input.
-/
import Derived.Lib.RuneCount
import Derived.Test.YtaohdfpcdfbnlaaDoorVal3
set_option linter.unusedVariables false
set_option linter.unusedSimpArgs false
namespace Go.Proofs.YtaohdfpcdfbnlaaDoor
open Go Go.Am

theorem bs_len (s : Bs) : (bs s).size = s.length := by simp [bs, ByteArray.size]
theorem runeW_pos {s : Bs} {p : Nat} (h : p < s.length) : 1 ≤ runeW s p := by
  unfold runeW
  rw [if_pos h]
  exact Lib.decode_width_pos _ _ (by rw [bs_len]; exact h)
theorem byteAt_lo (s : Bs) (i : Int) : 0 ≤ byteAt s i := by unfold byteAt; omega
theorem byteAt_hi (s : Bs) (i : Int) : byteAt s i < 256 := by
  unfold byteAt
  have := (s.getD i.toNat 0).toNat_lt
  omega

theorem runeCount_ev (s : Bs) : Evt (fun n => unicodeUtf8RuneCountInString n s) (fun _ => True) := by
  unfold unicodeUtf8RuneCountInString
  refine Evt.thenM (P := ExP (fun _ => True) (fun _ => True)) (Evt.loop (fun u : Nat × Int => s.length - u.1) (fun _ => True) _ _ trivial (fun u _ => ?_)) (fun t _ => Evt.pure trivial) (fun _ _ => trivial)
  unfold unicodeUtf8RuneCountInString_b0
  refine Evt.cond (fun e => Evt.pure ?_) (fun _ => Evt.pure trivial)
  simp only [Bool.cond_true_left, Bool.cond_false_right, Bool.not_eq_true', Bool.not_eq_false', Bool.or_eq_true, Bool.or_eq_false_iff, Bool.and_eq_true, Bool.and_eq_false_imp, Bool.not_true, Bool.not_false, decide_eq_true_eq, decide_eq_false_iff_not, Decidable.not_not, Int.not_lt, Int.not_le, Nat.not_lt, Nat.not_le, not_or, Bool.not_not, Bool.not_eq_true, Bool.true_eq_false, Bool.false_eq_true, Bool.or_true, Bool.true_or, Bool.and_true, Bool.true_and] at e
  have := runeW_pos e
  exact ⟨trivial, by show s.length - (u.1 + runeW s u.1) < s.length - u.1; omega⟩

theorem word_ev {s : Bs} (h : 8 ≤ s.length) : Evt (fun _ => unicodeUtf8WordString s) (fun _ => True) := by
  unfold unicodeUtf8WordString
  exact Evt.cond (fun e => by cases e) (fun _ => Evt.chk (by omega) (Evt.chk (by omega) (Evt.chk (by omega) (Evt.chk (by omega) (Evt.chk (by omega) (Evt.chk (by omega) (Evt.chk (by omega) (Evt.chk (by omega) (Evt.pure trivial)))))))))

theorem validString_b4_ev (L : Nat) (s : Bs) (hs : s.length ≤ L) : Evt (fun _ => unicodeUtf8ValidString_b4 s) (CtlP (fun s' => s'.length ≤ L ∧ s'.length < s.length) (fun t => t.length ≤ L) (fun _ => False)) := by
  unfold unicodeUtf8ValidString_b4
  refine Evt.bind (P := fun _ => True) (Evt.gd (fun e => word_ev ?_) (fun _ => trivial)) fun a _ => Evt.chk (gImp_of fun e => ?_) (Evt.bind (P := fun _ => True) (Evt.gd (fun e => word_ev ?_) (fun _ => trivial)) fun b _ => Evt.chk (gImp_of fun e => ?_)
    (Evt.bind (P := fun _ => True) (Evt.gd (fun e => word_ev ?_) (fun _ => trivial)) fun c _ => Evt.chk ⟨gImp_of fun e => ?_, gImp_of fun e => ?_⟩ (Evt.bind (P := fun _ => True) (Evt.gd (fun e => word_ev ?_) (fun _ => trivial)) fun d _ =>
      Evt.cond (fun e => Evt.chk ?_ (Evt.pure ?_)) (fun _ => Evt.pure hs))))
  all_goals (try simp only [Bool.cond_true_left, Bool.cond_false_right, Bool.not_eq_true', Bool.not_eq_false', Bool.or_eq_true, Bool.or_eq_false_iff, Bool.and_eq_true, Bool.and_eq_false_imp, Bool.not_true, Bool.not_false, decide_eq_true_eq, decide_eq_false_iff_not, Decidable.not_not, Int.not_lt, Int.not_le, Nat.not_lt, Nat.not_le, not_or, Bool.not_not, Bool.not_eq_true, Bool.true_eq_false, Bool.false_eq_true, Bool.or_true, Bool.true_or, Bool.and_true, Bool.true_and] at e)
  · omega
  · omega
  · rw [List.length_drop]; omega
  · omega
  · rw [List.length_drop]; omega
  · omega
  · omega
  · rw [List.length_drop]; omega
  · omega
  · show (s.drop 32).length ≤ L ∧ (s.drop 32).length < s.length
    rw [List.length_drop]; omega

theorem tab1_ok : tab1.all (fun x => decide (0 ≤ x) && decide (x < 256)) = true := by decide +kernel
theorem tab1_at (k : Nat) (h : k < 256) : 0 ≤ Am.get tab1 k ∧ Am.get tab1 k < 256 := by
  have hl : k < tab1.length := by rw [tab1_len]; exact h
  have := List.all_eq_true.1 tab1_ok _ (get_mem hl)
  simpa using this
theorem tab1_div (k : Nat) (h : k < 256) : 0 ≤ Int.fdiv (Am.get tab1 k) (2 ^ (min 4 8)) ∧ Int.fdiv (Am.get tab1 k) (2 ^ (min 4 8)) < 16 := by
  have := tab1_at k h
  have e3 : ((2 : Int) ^ (min 4 8)) = 16 := by decide
  rw [e3, Int.fdiv_eq_ediv_of_nonneg _ (by decide)]
  omega

theorem validString_b0_ev (s : Bs) : Evt (fun n => unicodeUtf8ValidString_b0 n s) (CtlP (fun s' => True ∧ s'.length < s.length) (fun _ => True) (fun _ => True)) := by
  have hd : ∀ k, 0 < k → 0 < s.length → CtlP (ρ := Bool) (τ := Unit) (fun s' : Bs => True ∧ s'.length < s.length) (fun _ => True) (fun _ => True) (.nxt (s.drop k)) := fun k hk hs => ⟨trivial, by rw [List.length_drop]; omega⟩
  unfold unicodeUtf8ValidString_b0
  refine Evt.cond (fun e => ?_) (fun _ => Evt.pure trivial)
  simp only [Bool.cond_true_left, Bool.cond_false_right, Bool.not_eq_true', Bool.not_eq_false', Bool.or_eq_true, Bool.or_eq_false_iff, Bool.and_eq_true, Bool.and_eq_false_imp, Bool.not_true, Bool.not_false, decide_eq_true_eq, decide_eq_false_iff_not, Decidable.not_not, Int.not_lt, Int.not_le, Nat.not_lt, Nat.not_le, not_or, Bool.not_not, Bool.not_eq_true, Bool.true_eq_false, Bool.false_eq_true, Bool.or_true, Bool.true_or, Bool.and_true, Bool.true_and] at e
  have hb := byteAt_lo s 0
  have hb2 := byteAt_hi s 0
  refine Evt.chk e (Evt.cond (fun _ => ?_) (fun _ => ?_))
  · refine Evt.chk ⟨by omega, by omega⟩ (Evt.bind (P := fun _ => True) (Evt.gd (fun e2 => word_ev ?_) (fun _ => trivial)) fun a _ => ?_)
    · simp only [Bool.cond_true_left, Bool.cond_false_right, Bool.not_eq_true', Bool.not_eq_false', Bool.or_eq_true, Bool.or_eq_false_iff, Bool.and_eq_true, Bool.and_eq_false_imp, Bool.not_true, Bool.not_false, decide_eq_true_eq, decide_eq_false_iff_not, Decidable.not_not, Int.not_lt, Int.not_le, Nat.not_lt, Nat.not_le, not_or, Bool.not_not, Bool.not_eq_true, Bool.true_eq_false, Bool.false_eq_true, Bool.or_true, Bool.true_or, Bool.and_true, Bool.true_and] at e2
      omega
    refine Evt.cond (fun e2 => ?_) (fun _ => Evt.pure (hd 1 (by omega) (by omega)))
    simp only [Bool.cond_true_left, Bool.cond_false_right, Bool.not_eq_true', Bool.not_eq_false', Bool.or_eq_true, Bool.or_eq_false_iff, Bool.and_eq_true, Bool.and_eq_false_imp, Bool.not_true, Bool.not_false, decide_eq_true_eq, decide_eq_false_iff_not, Decidable.not_not, Int.not_lt, Int.not_le, Nat.not_lt, Nat.not_le, not_or, Bool.not_not, Bool.not_eq_true, Bool.true_eq_false, Bool.false_eq_true, Bool.or_true, Bool.true_or, Bool.and_true, Bool.true_and] at e2
    have hl1 : (s.drop 1).length = s.length - 1 := List.length_drop
    have hl8 : ((s.drop 1).drop 8).length = s.length - 9 := by rw [List.length_drop, hl1]; omega
    have h8 : ((s.drop 1).drop 8).length < s.length := by omega
    refine Evt.chk ⟨by omega, by omega⟩ (Evt.bind (P := fun _ => True) (Evt.gd (fun e3 => word_ev ?_) (fun _ => trivial)) fun b _ => Evt.chk (gImp_of fun e3 => ?_) (Evt.bind (P := fun _ => True) (Evt.gd (fun e3 => word_ev ?_) (fun _ => trivial)) fun c _ => ?_))
    · simp only [Bool.cond_true_left, Bool.cond_false_right, Bool.not_eq_true', Bool.not_eq_false', Bool.or_eq_true, Bool.or_eq_false_iff, Bool.and_eq_true, Bool.and_eq_false_imp, Bool.not_true, Bool.not_false, decide_eq_true_eq, decide_eq_false_iff_not, Decidable.not_not, Int.not_lt, Int.not_le, Nat.not_lt, Nat.not_le, not_or, Bool.not_not, Bool.not_eq_true, Bool.true_eq_false, Bool.false_eq_true, Bool.or_true, Bool.true_or, Bool.and_true, Bool.true_and] at e3
      omega
    · simp only [Bool.cond_true_left, Bool.cond_false_right, Bool.not_eq_true', Bool.not_eq_false', Bool.or_eq_true, Bool.or_eq_false_iff, Bool.and_eq_true, Bool.and_eq_false_imp, Bool.not_true, Bool.not_false, decide_eq_true_eq, decide_eq_false_iff_not, Decidable.not_not, Int.not_lt, Int.not_le, Nat.not_lt, Nat.not_le, not_or, Bool.not_not, Bool.not_eq_true, Bool.true_eq_false, Bool.false_eq_true, Bool.or_true, Bool.true_or, Bool.and_true, Bool.true_and] at e3
      omega
    · simp only [Bool.cond_true_left, Bool.cond_false_right, Bool.not_eq_true', Bool.not_eq_false', Bool.or_eq_true, Bool.or_eq_false_iff, Bool.and_eq_true, Bool.and_eq_false_imp, Bool.not_true, Bool.not_false, decide_eq_true_eq, decide_eq_false_iff_not, Decidable.not_not, Int.not_lt, Int.not_le, Nat.not_lt, Nat.not_le, not_or, Bool.not_not, Bool.not_eq_true, Bool.true_eq_false, Bool.false_eq_true, Bool.or_true, Bool.true_or, Bool.and_true, Bool.true_and] at e3
      rw [List.length_drop]; omega
    refine Evt.cond (fun e3 => Evt.chk ⟨by omega, ?_⟩ ?_) (fun _ => Evt.pure ⟨trivial, h8⟩)
    · simp only [Bool.cond_true_left, Bool.cond_false_right, Bool.not_eq_true', Bool.not_eq_false', Bool.or_eq_true, Bool.or_eq_false_iff, Bool.and_eq_true, Bool.and_eq_false_imp, Bool.not_true, Bool.not_false, decide_eq_true_eq, decide_eq_false_iff_not, Decidable.not_not, Int.not_lt, Int.not_le, Nat.not_lt, Nat.not_le, not_or, Bool.not_not, Bool.not_eq_true, Bool.true_eq_false, Bool.false_eq_true, Bool.or_true, Bool.true_or, Bool.and_true, Bool.true_and] at e3
      omega
    refine Evt.thenM (P := ExP (fun t : Bs => t.length ≤ s.length - 9) (fun _ => False)) (Evt.loop (fun u : Bs => u.length) (fun u => u.length ≤ s.length - 9) _ _ (by rw [List.length_drop]; omega) (fun u hu => validString_b4_ev _ u hu)) (fun t ht => ?_) (fun r hr => hr.elim)
    unfold unicodeUtf8ValidString_a4 unicodeUtf8ValidString_j3
    exact Evt.pure ⟨trivial, by have : t.length ≤ s.length - 9 := ht; omega⟩
  · refine Evt.chk ⟨hb, hb2⟩ (Evt.chk (tab1_div _ (by omega)) (Evt.cond (fun _ => ?_) (fun _ => Evt.cond (fun _ => ?_) (fun _ => Evt.cond (fun _ => ?_) (fun _ => Evt.pure trivial)))))
    · refine Evt.chk (gImp_of fun e => ?_) (Evt.chk (gImp_of fun e => ?_) (Evt.cond (fun _ => Evt.pure trivial) (fun e => Evt.chk ⟨by omega, ?_⟩ (Evt.pure (hd 2 (by omega) (by omega))))))
      all_goals simp only [Bool.cond_true_left, Bool.cond_false_right, Bool.not_eq_true', Bool.not_eq_false', Bool.or_eq_true, Bool.or_eq_false_iff, Bool.and_eq_true, Bool.and_eq_false_imp, Bool.not_true, Bool.not_false, decide_eq_true_eq, decide_eq_false_iff_not, Decidable.not_not, Int.not_lt, Int.not_le, Nat.not_lt, Nat.not_le, not_or, Bool.not_not, Bool.not_eq_true, Bool.true_eq_false, Bool.false_eq_true, Bool.or_true, Bool.true_or, Bool.and_true, Bool.true_and] at e
      all_goals omega
    · refine Evt.chk (gImp_of fun e => ?_) (Evt.chk (gImp_of fun e => ?_) (Evt.chk (gImp_of fun e => ?_) (Evt.chk (gImp_of fun e => ?_) (Evt.cond (fun _ => Evt.pure trivial) (fun e => Evt.chk ⟨by omega, ?_⟩ (Evt.pure (hd 3 (by omega) (by omega))))))))
      all_goals simp only [Bool.cond_true_left, Bool.cond_false_right, Bool.not_eq_true', Bool.not_eq_false', Bool.or_eq_true, Bool.or_eq_false_iff, Bool.and_eq_true, Bool.and_eq_false_imp, Bool.not_true, Bool.not_false, decide_eq_true_eq, decide_eq_false_iff_not, Decidable.not_not, Int.not_lt, Int.not_le, Nat.not_lt, Nat.not_le, not_or, Bool.not_not, Bool.not_eq_true, Bool.true_eq_false, Bool.false_eq_true, Bool.or_true, Bool.true_or, Bool.and_true, Bool.true_and] at e
      all_goals omega
    · refine Evt.chk (gImp_of fun e => ?_) (Evt.chk (gImp_of fun e => ?_) (Evt.chk (gImp_of fun e => ?_) (Evt.chk (gImp_of fun e => ?_) (Evt.chk (gImp_of fun e => ?_) (Evt.chk (gImp_of fun e => ?_) (Evt.cond (fun _ => Evt.pure trivial) (fun e => Evt.chk ⟨by omega, ?_⟩ (Evt.pure (hd 4 (by omega) (by omega))))))))))
      all_goals simp only [Bool.cond_true_left, Bool.cond_false_right, Bool.not_eq_true', Bool.not_eq_false', Bool.or_eq_true, Bool.or_eq_false_iff, Bool.and_eq_true, Bool.and_eq_false_imp, Bool.not_true, Bool.not_false, decide_eq_true_eq, decide_eq_false_iff_not, Decidable.not_not, Int.not_lt, Int.not_le, Nat.not_lt, Nat.not_le, not_or, Bool.not_not, Bool.not_eq_true, Bool.true_eq_false, Bool.false_eq_true, Bool.or_true, Bool.true_or, Bool.and_true, Bool.true_and] at e
      all_goals omega

theorem validString_ev (s : Bs) : Evt (fun n => unicodeUtf8ValidString n s) (fun _ => True) := by
  unfold unicodeUtf8ValidString
  exact Evt.thenM (P := ExP (fun _ => True) (fun _ => True)) (Evt.loop (fun u : Bs => u.length) (fun _ => True) _ _ trivial (fun u _ => validString_b0_ev u)) (fun t _ => Evt.pure trivial) (fun _ _ => trivial)

theorem indexByte_not : ∀ (l : List UInt8) (c : UInt8), (∀ b ∈ l, b ≠ c) → Lib.indexByte l c = -1
  | [], _, _ => rfl
  | b :: l, c, h => by
    have hb : (b == c) = false := beq_false_of_ne (h b (List.mem_cons_self ..))
    have ih := indexByte_not l c (fun x hx => h x (List.mem_cons_of_mem _ hx))
    simp [Lib.indexByte, hb, ih]
theorem stringsIndexByte_ev (s : Bs) (c : Int) : Evt (fun _ => stringsIndexByte s c) (fun v => v = Lib.indexByte s c.toNat.toUInt8) := Evt.pure rfl

theorem runeStr_last {r : Int} (h : 128 ≤ r) : ∃ (l : Bs) (b : UInt8), runeStr r = l ++ [b] ∧ 1 ≤ l.length ∧ l.length ≤ 3 ∧ 128 ≤ b.toNat := by
  have key : ∀ c : Nat, 128 ≤ c → 128 ≤ (UInt8.ofNat (0x80 + c % 64)).toNat := fun c _ => by
    rw [UInt8.toNat_ofNat']
    omega
  unfold runeStr Utf8.encode
  have hc : 128 ≤ (if Utf8.valid r then r.toNat else Utf8.runeError) := by
    split
    · omega
    · decide
  generalize (if Utf8.valid r then r.toNat else Utf8.runeError) = c at hc
  simp only
  split
  · omega
  · split
    · exact ⟨[_], _, rfl, by simp, by simp, key c hc⟩
    · split
      · exact ⟨[_, _], _, rfl, by simp, by simp, key c hc⟩
      · exact ⟨[_, _, _], _, rfl, by simp, by simp, key c hc⟩

/-- what may not stand in a word -/
def stops : Bs := [32, 9, 10, 40, 41, 91, 93, 44, 59]
theorem stops_low : stops.all (fun b => decide (b.toNat < 128)) = true := by decide
theorem byteAt_app {l : Bs} {b : UInt8} : byteAt (l ++ [b]) l.length = b.toNat := by
  unfold byteAt
  rw [Int.toNat_natCast, List.getD_eq_getElem?_getD, List.getElem?_append_right (Nat.le_refl _)]
  simp
theorem byteAt_stops (k : Nat) : byteAt stops k < 128 := by
  unfold byteAt
  rw [Int.toNat_natCast, List.getD_eq_getElem?_getD]
  by_cases h : k < stops.length
  · rw [List.getElem?_eq_getElem h]
    have := List.all_eq_true.1 stops_low _ (List.getElem_mem h)
    have := of_decide_eq_true this
    simp only [Option.getD_some]
    omega
  · rw [List.getElem?_eq_none (by omega)]
    simp

theorem indexRune_b1_ev (r : Int) (h : 128 ≤ r) : Evt (fun n => stringsIndexRune_b1 n r stops ()) (CtlP (fun _ => False) (fun _ => True) (fun _ => True)) := by
  obtain ⟨l, b, e, h1, h3, hb⟩ := runeStr_last h
  have hl : (runeStr r).length = l.length + 1 := by rw [e]; simp
  have hs : stops.length = 9 := rfl
  have hw : wr .i64 (((runeStr r).length : Int) - 1) = (l.length : Int) := by
    rw [hl, wr_id (by omega) (by omega)]; omega
  have hw2 : wr .i64 ((l.length : Int) + 1) = ((l.length + 1 : Nat) : Int) := by
    rw [wr_id (by omega) (by omega)]; omega
  have hlast : byteAt (runeStr r) (l.length : Int) = b.toNat := by rw [e]; exact byteAt_app
  have hst := byteAt_stops l.length
  unfold stringsIndexRune_b1
  rw [hw, hw2, hlast, Int.toNat_natCast]
  refine Evt.cond (fun _ => ?_) (fun _ => Evt.pure trivial)
  refine Evt.chk (by omega) (Evt.chk (by omega) (Evt.cond (fun _ => ?_) (fun e2 => ?_)))
  · refine Evt.chk (by omega) (Evt.bind (stringsIndexByte_ev _ _) fun v hv => Evt.cond (fun _ => Evt.pure trivial) (fun e3 => ?_))
    exfalso
    have hn : Lib.indexByte (stops.drop (l.length + 1)) ((b.toNat : Int).toNat.toUInt8) = -1 := indexByte_not _ _ (fun x hx e4 => by
      have hm : x ∈ stops := List.mem_of_mem_drop hx
      have := of_decide_eq_true (List.all_eq_true.1 stops_low _ hm)
      have e5 : x = b := by rw [e4]; simp
      rw [e5] at this
      omega)
    rw [hn] at hv
    simp only [Bool.cond_true_left, Bool.cond_false_right, Bool.not_eq_true', Bool.not_eq_false', Bool.or_eq_true, Bool.or_eq_false_iff, Bool.and_eq_true, Bool.and_eq_false_imp, Bool.not_true, Bool.not_false, decide_eq_true_eq, decide_eq_false_iff_not, Decidable.not_not, Int.not_lt, Int.not_le, Nat.not_lt, Nat.not_le, not_or, Bool.not_not, Bool.not_eq_true, Bool.true_eq_false, Bool.false_eq_true, Bool.or_true, Bool.true_or, Bool.and_true, Bool.true_and] at e3
    omega
  · exfalso
    simp only [Bool.cond_true_left, Bool.cond_false_right, Bool.not_eq_true', Bool.not_eq_false', Bool.or_eq_true, Bool.or_eq_false_iff, Bool.and_eq_true, Bool.and_eq_false_imp, Bool.not_true, Bool.not_false, decide_eq_true_eq, decide_eq_false_iff_not, Decidable.not_not, Int.not_lt, Int.not_le, Nat.not_lt, Nat.not_le, not_or, Bool.not_not, Bool.not_eq_true, Bool.true_eq_false, Bool.false_eq_true, Bool.or_true, Bool.true_or, Bool.and_true, Bool.true_and] at e2
    omega

theorem indexRune_ev (r : Int) (hr : 0 ≤ r) : Evt (fun n => stringsIndexRune n stops r) (fun _ => True) := by
  unfold stringsIndexRune
  refine Evt.cond (fun _ => Evt.bind (stringsIndexByte_ev _ _) fun v _ => Evt.pure trivial) (fun e => ?_)
  have h128 : 128 ≤ r := by
    by_cases h : 128 ≤ r
    · exact h
    · exfalso
      have e1 : decide (0 ≤ r) = true := decide_eq_true hr
      have e2 : decide (r < 128) = true := decide_eq_true (by omega)
      rw [e1, e2] at e
      cases e
  refine Evt.cond (fun _ => ?_) (fun _ => ?_)
  · refine Evt.thenM (P := ExP (fun _ => True) (fun _ => True)) (Evt.loop (fun u : Nat => stops.length - u) (fun _ => True) _ _ trivial (fun u _ => ?_)) (fun t _ => Evt.pure trivial) (fun _ _ => trivial)
    unfold stringsIndexRune_b0
    refine Evt.cond (fun e => ?_) (fun _ => Evt.pure trivial)
    simp only [Bool.cond_true_left, Bool.cond_false_right, Bool.not_eq_true', Bool.not_eq_false', Bool.or_eq_true, Bool.or_eq_false_iff, Bool.and_eq_true, Bool.and_eq_false_imp, Bool.not_true, Bool.not_false, decide_eq_true_eq, decide_eq_false_iff_not, Decidable.not_not, Int.not_lt, Int.not_le, Nat.not_lt, Nat.not_le, not_or, Bool.not_not, Bool.not_eq_true, Bool.true_eq_false, Bool.false_eq_true, Bool.or_true, Bool.true_or, Bool.and_true, Bool.true_and] at e
    have := runeW_pos e
    exact Evt.chk e (Evt.cond (fun _ => Evt.pure trivial) (fun _ => Evt.pure ⟨trivial, by omega⟩))
  · refine Evt.bind (P := fun _ => True) ?_ fun v _ => Evt.cond (fun _ => Evt.pure trivial) (fun _ => ?_)
    · unfold unicodeUtf8ValidRune
      exact Evt.cond (fun _ => Evt.pure trivial) (fun _ => Evt.cond (fun _ => Evt.pure trivial) (fun _ => Evt.pure trivial))
    · exact Evt.thenM (P := ExP (fun _ => True) (fun _ => True)) (Evt.loop (fun _ : Unit => 0) (fun _ => True) _ _ trivial (fun u _ => (indexRune_b1_ev r h128).mono fun c hc => by
        cases c with
        | nxt s => exact hc.elim
        | brk t => trivial
        | ret x => trivial)) (fun t _ => Evt.pure trivial) (fun _ _ => trivial)

theorem containsAny_ev (s : Bs) (hs : s.length < 4294967281) : Evt (fun n => stringsContainsAny n s stops) (fun _ => True) := by
  unfold stringsContainsAny
  refine Evt.bind (P := fun _ => True) ?_ fun v _ => Evt.pure trivial
  unfold stringsIndexAny
  refine Evt.cond (fun _ => Evt.chk ⟨by decide, hs, by decide, stops_low⟩ (Evt.pure trivial)) (fun e => ?_)
  simp only [Bool.cond_true_left, Bool.cond_false_right, Bool.not_eq_true', Bool.not_eq_false', Bool.or_eq_true, Bool.or_eq_false_iff, Bool.and_eq_true, Bool.and_eq_false_imp, Bool.not_true, Bool.not_false, decide_eq_true_eq, decide_eq_false_iff_not, Decidable.not_not, Int.not_lt, Int.not_le, Nat.not_lt, Nat.not_le, not_or, Bool.not_not, Bool.not_eq_true, Bool.true_eq_false, Bool.false_eq_true, Bool.or_true, Bool.true_or, Bool.and_true, Bool.true_and] at e
  unfold stringsIndexAnyS
  refine Evt.cond (fun _ => Evt.pure trivial) (fun _ => Evt.cond (fun e2 => ?_) (fun _ => ?_))
  · simp only [Bool.cond_true_left, Bool.cond_false_right, Bool.not_eq_true', Bool.not_eq_false', Bool.or_eq_true, Bool.or_eq_false_iff, Bool.and_eq_true, Bool.and_eq_false_imp, Bool.not_true, Bool.not_false, decide_eq_true_eq, decide_eq_false_iff_not, Decidable.not_not, Int.not_lt, Int.not_le, Nat.not_lt, Nat.not_le, not_or, Bool.not_not, Bool.not_eq_true, Bool.true_eq_false, Bool.false_eq_true, Bool.or_true, Bool.true_or, Bool.and_true, Bool.true_and] at e2
    exact absurd e2 (by decide)
  refine Evt.bind (P := fun b => b = false) (Evt.pure ?_) fun b hb => Evt.cond (fun e2 => ?_) (fun _ => ?_)
  · exact decide_eq_false (by omega)
  · rw [hb] at e2; cases e2
  unfold stringsIndexAnyS_j1
  refine Evt.thenM (P := ExP (fun _ => True) (fun _ => True)) (Evt.loop (fun u : Nat => s.length - u) (fun _ => True) _ _ trivial (fun u _ => ?_)) (fun t _ => Evt.pure trivial) (fun _ _ => trivial)
  unfold stringsIndexAnyS_b2
  refine Evt.cond (fun e2 => ?_) (fun _ => Evt.pure trivial)
  simp only [Bool.cond_true_left, Bool.cond_false_right, Bool.not_eq_true', Bool.not_eq_false', Bool.or_eq_true, Bool.or_eq_false_iff, Bool.and_eq_true, Bool.and_eq_false_imp, Bool.not_true, Bool.not_false, decide_eq_true_eq, decide_eq_false_iff_not, Decidable.not_not, Int.not_lt, Int.not_le, Nat.not_lt, Nat.not_le, not_or, Bool.not_not, Bool.not_eq_true, Bool.true_eq_false, Bool.false_eq_true, Bool.or_true, Bool.true_or, Bool.and_true, Bool.true_and] at e2
  have := runeW_pos e2
  exact Evt.chk e2 (Evt.bind (indexRune_ev _ (by unfold rune; omega)) fun v _ => Evt.cond (fun _ => Evt.pure trivial) (fun _ => Evt.pure ⟨trivial, by omega⟩))

theorem lexruleWord_ev (s : Bs) (hs : s.length < 4294967281) : Evt (fun n => lexruleWord n s) (fun _ => True) := by
  unfold lexruleWord
  refine Evt.bind (runeCount_ev s) fun v _ => Evt.bind (P := fun _ => True) (Evt.gd (fun _ => validString_ev s) (fun _ => trivial)) fun b _ => Evt.bind (P := fun _ => True) (Evt.gd (fun _ => containsAny_ev s hs) (fun _ => trivial)) fun c _ => Evt.pure trivial

theorem lexruleEntry_ev {h : ApiHierarchy} (hh : HierOk h) {t : HierarchyTable} (ht : TabOk h.types.length t) (x : ApiLex) (hw : x.word.length < 4294967281) : Evt (fun n => lexruleEntry n h t x) (fun _ => True) := by
  unfold lexruleEntry
  exact Evt.bind (lexruleWord_ev _ hw) fun b _ => Evt.cond (fun _ => Evt.pure trivial) (fun _ => Evt.cond (fun _ => Evt.pure trivial) (fun _ => Evt.bind (graphWithin_ev hh ht _) fun f _ => Evt.cond (fun _ => Evt.pure trivial) (fun _ => Evt.bind (termValidate_ev _) fun v _ => Evt.pure trivial)))

/-- what is known of a grammar that was found valid -/
structure GramOk (g : ApiGrammar) : Prop where
  rules : g.rules.length ≤ 40
  lexes : g.lexes.length ≤ 100

theorem grammarValidate_ev (g : ApiGrammar) (hw : ∀ k, k < g.lexes.length → (Am.get g.lexes k).word.length < 4294967281) : Evt (fun n => grammarValidate n g) (fun f => f.code = 0 → GramOk g) := by
  unfold grammarValidate
  refine Evt.bind (hierarchyValidate_ev _) fun f hf => Evt.cond (fun e => Evt.pure fun e2 => ?_) (fun e => ?_)
  · simp only [Bool.cond_true_left, Bool.cond_false_right, Bool.not_eq_true', Bool.not_eq_false', Bool.or_eq_true, Bool.or_eq_false_iff, Bool.and_eq_true, Bool.and_eq_false_imp, Bool.not_true, Bool.not_false, decide_eq_true_eq, decide_eq_false_iff_not, Decidable.not_not, Int.not_lt, Int.not_le, Nat.not_lt, Nat.not_le, not_or, Bool.not_not, Bool.not_eq_true, Bool.true_eq_false, Bool.false_eq_true, Bool.or_true, Bool.true_or, Bool.and_true, Bool.true_and] at e
    exact absurd e2 e
  simp only [Bool.cond_true_left, Bool.cond_false_right, Bool.not_eq_true', Bool.not_eq_false', Bool.or_eq_true, Bool.or_eq_false_iff, Bool.and_eq_true, Bool.and_eq_false_imp, Bool.not_true, Bool.not_false, decide_eq_true_eq, decide_eq_false_iff_not, Decidable.not_not, Int.not_lt, Int.not_le, Nat.not_lt, Nat.not_le, not_or, Bool.not_not, Bool.not_eq_true, Bool.true_eq_false, Bool.false_eq_true, Bool.or_true, Bool.true_or, Bool.and_true, Bool.true_and] at e
  have hh := hf e
  refine Evt.cond (fun _ => Evt.bind (grammarFault_ev _ _ (P := Bad) (bad_of (by decide))) fun r hr => Evt.pure fun e => absurd e hr) (fun _ => ?_)
  refine Evt.cond (fun _ => Evt.bind (grammarFault_ev _ _ (P := Bad) (bad_of (by decide))) fun r hr => Evt.pure fun e => absurd e hr) (fun e2 => ?_)
  simp only [Bool.cond_true_left, Bool.cond_false_right, Bool.not_eq_true', Bool.not_eq_false', Bool.or_eq_true, Bool.or_eq_false_iff, Bool.and_eq_true, Bool.and_eq_false_imp, Bool.not_true, Bool.not_false, decide_eq_true_eq, decide_eq_false_iff_not, Decidable.not_not, Int.not_lt, Int.not_le, Nat.not_lt, Nat.not_le, not_or, Bool.not_not, Bool.not_eq_true, Bool.true_eq_false, Bool.false_eq_true, Bool.or_true, Bool.true_or, Bool.and_true, Bool.true_and] at e2
  have hg : GramOk g := ⟨by omega, by omega⟩
  refine Evt.bind (hierarchyTables_ev hh.types) fun t ht => ?_
  refine Evt.thenM (Evt.range (fun _ _ => True) (fun _ => False) (fun _ => True) trivial (fun k s hk _ => ?_)) (fun u _ => ?_) (fun r _ _ => hg)
  · unfold grammarValidate_b0
    refine Evt.bind (termName_ev _) fun b _ => ?_
    refine Evt.cond (fun _ => Evt.bind (grammarFault_ev _ _ (P := fun _ => True) trivial) fun r hr => Evt.pure trivial) fun _ => ?_
    refine Evt.cond (fun _ => Evt.bind (grammarFault_ev _ _ (P := fun _ => True) trivial) fun r hr => Evt.pure trivial) fun _ => ?_
    refine Evt.letM (Evt.bind (grammarRule_ev hh ht _) fun c _ => ?_)
    exact Evt.cond (fun _ => Evt.bind (grammarFault_ev _ _ (P := fun _ => True) trivial) fun r hr => Evt.pure trivial) fun _ => Evt.pure trivial
  · unfold grammarValidate_a0
    refine Evt.thenM (Evt.range (fun _ _ => True) (fun _ => False) (fun _ => True) trivial (fun k s hk _ => ?_)) (fun u _ => ?_) (fun r _ _ => hg)
    · unfold grammarValidate_b1
      refine Evt.bind (lexruleEntry_ev hh ht _ (hw k hk)) fun c _ => ?_
      exact Evt.cond (fun _ => Evt.bind (grammarFault_ev _ _ (P := fun _ => True) trivial) fun r hr => Evt.pure trivial) fun _ => Evt.pure trivial
    · unfold grammarValidate_a1
      refine Evt.bind (graphWithin_ev hh ht _) fun f _ => ?_
      exact Evt.cond (fun _ => Evt.bind (grammarFault_ev _ _ (P := fun _ => True) trivial) fun r hr => Evt.pure fun _ => hg) fun _ => Evt.pure fun _ => hg

end Go.Proofs.YtaohdfpcdfbnlaaDoor

