import Derived.Test.YtgaeiccgdpnkkaaGreatDoorWLaw2
set_option linter.unusedVariables false
set_option linter.unusedSimpArgs false
namespace Go.Proofs.YtgaeiccgdpnkkaaGreatDoor
open Go Go.Am
abbrev Wd := WL
def WV (w : Wd) (v : Nat) : Prop := ∃ h l : Nat, w.hi = h ∧ w.lo = l ∧ h < 18446744073709551616 ∧ l < 18446744073709551616 ∧ v = h * 18446744073709551616 + l
theorem wu {x : Nat} (h : x < 18446744073709551616) : wr .u64 (x : Int) = x := d3r h
theorem inU {x : Nat} (h : x < 18446744073709551616) : InK .u64 (x : Int) := by
  have e1 : IntKind.u64.min = 0 := by decide
  have e2 : IntKind.u64.max = 18446744073709551615 := by decide
  exact ⟨by omega, by omega⟩
theorem p8P (a b : Nat) : Int.tdiv (a : Int) (b : Int) = ((a / b : Nat) : Int) := (Int.ofNat_tdiv a b).symm
theorem p8Q (a b : Nat) : Int.tmod (a : Int) (b : Int) = ((a % b : Nat) : Int) := (Int.ofNat_tmod a b).symm
theorem p6U (a : Nat) : Int.tdiv (a : Int) 2 = ((a / 2 : Nat) : Int) := p8P a 2
theorem p2A (a : Nat) : Int.tmod (a : Int) 2 = ((a % 2 : Nat) : Int) := p8Q a 2
theorem i7z (x : Int) : wr .u64 x = x % 18446744073709551616 := by
  have e1 : IntKind.u64.min = 0 := by decide
  unfold wr IntKind.wrap
  simp [IntKind.bits, IntKind.signed]
theorem WV.lt {w : Wd} {v : Nat} (h : WV w v) : v < 340282366920938463463374607431768211456 := by
  obtain ⟨a, b, _, _, h1, h2, h3⟩ := h
  omega
theorem WV.of {h l : Nat} (h1 : h < 18446744073709551616) (h2 : l < 18446744073709551616) : WV ⟨(h : Int), (l : Int)⟩ (h * 18446744073709551616 + l) := ⟨h, l, rfl, rfl, h1, h2, rfl⟩
theorem WV.small {l : Nat} (h2 : l < 18446744073709551616) : WV ⟨0, (l : Int)⟩ l := ⟨0, l, rfl, rfl, by omega, h2, by omega⟩
theorem WV.ext {w : Wd} {v : Nat} (h : WV ⟨w.hi, w.lo⟩ v) : WV w v := h
theorem i5g {w : Wd} {v : Nat} (h : WV w v) : Evt (fun _ => Yk w) (fun r => WV r (v / 2)) := by
  obtain ⟨a, b, e1, e2, h1, h2, rfl⟩ := h
  unfold Yk
  rw [e1, e2, p6U, p6U, p2A]
  have e3 : min 63 64 = 63 := by decide
  have e4 : (((a % 2 : Nat) : Int) * 2 ^ (min 63 64)) = ((a % 2 * 9223372036854775808 : Nat) : Int) := by rw [e3]; omega
  rw [e4, wu (by omega)]
  have e5 : (((b / 2 : Nat) : Int) + ((a % 2 * 9223372036854775808 : Nat) : Int)) = ((b / 2 + a % 2 * 9223372036854775808 : Nat) : Int) := by omega
  rw [e5, wu (by omega)]
  refine Evt.chk (inU (by omega)) (Evt.chk (inU (by omega)) (Evt.pure ⟨_, _, rfl, rfl, by omega, by omega, by omega⟩))
theorem i5h {w x : Wd} {v u : Nat} (h : WV w v) (k : WV x u) : Evt (fun _ => Yl w x) (fun r => r = decide (v < u)) := by
  obtain ⟨a, b, e1, e2, h1, h2, rfl⟩ := h
  obtain ⟨c, d, k1, k2, h3, h4, rfl⟩ := k
  unfold Yl
  rw [e1, e2, k1, k2]
  refine Evt.pure ?_
  by_cases g1 : a < c
  · have : (a : Int) < c := by omega
    rw [decide_eq_true this, decide_eq_true (show a * 18446744073709551616 + b < c * 18446744073709551616 + d by omega)]; rfl
  · have : ¬ (a : Int) < c := by omega
    rw [decide_eq_false this]
    by_cases g2 : a = c
    · subst g2
      rw [decide_eq_true rfl]
      by_cases g3 : b < d
      · rw [decide_eq_true (show (b : Int) < d by omega), decide_eq_true (show a * 18446744073709551616 + b < a * 18446744073709551616 + d by omega)]; rfl
      · rw [decide_eq_false (show ¬ (b : Int) < d by omega), decide_eq_false (show ¬ a * 18446744073709551616 + b < a * 18446744073709551616 + d by omega)]; rfl
    · rw [decide_eq_false (show ¬ (a : Int) = c by omega), decide_eq_false (show ¬ a * 18446744073709551616 + b < c * 18446744073709551616 + d by omega)]; rfl
theorem p0X {w x : Wd} {v u : Nat} (h : WV w v) (k : WV x u) (hle : u ≤ v) : Evt (fun _ => YP w x) (fun r => WV r (v - u)) := by
  obtain ⟨a, b, e1, e2, h1, h2, rfl⟩ := h
  obtain ⟨c, d, k1, k2, h3, h4, rfl⟩ := k
  unfold YP
  rw [e1, e2, k1, k2]
  refine Evt.cond (fun e => Evt.pure ?_) (fun e => Evt.pure ?_)
  · replace e := bx e
    simp only [i7z]
    refine ⟨a - c - 1, b + 18446744073709551616 - d, ?_, ?_, by omega, by omega, by omega⟩ <;> show _ = _ <;> simp only [] <;> omega
  · replace e := bx e
    simp only [i7z]
    refine ⟨a - c, b - d, ?_, ?_, by omega, by omega, by omega⟩ <;> show _ = _ <;> simp only [] <;> omega
theorem p6V {w x : Wd} {v u : Nat} (h : WV w v) (k : WV x u) (hle : v + u < 340282366920938463463374607431768211456) : Evt (fun _ => d0x w x) (fun r => WV r (v + u)) := by
  obtain ⟨a, b, e1, e2, h1, h2, rfl⟩ := h
  obtain ⟨c, d, k1, k2, h3, h4, rfl⟩ := k
  unfold d0x
  rw [e1, e2, k1, k2]
  simp only [i7z]
  refine Evt.cond (fun e => Evt.pure ?_) (fun e => Evt.pure ?_)
  · replace e := bx e
    refine ⟨a + c + 1, b + d - 18446744073709551616, ?_, ?_, by omega, by omega, by omega⟩ <;> show _ = _ <;> simp only [] <;> omega
  · replace e := bx e
    refine ⟨a + c, b + d, ?_, ?_, by omega, by omega, by omega⟩ <;> show _ = _ <;> simp only [] <;> omega
theorem i5i {w : Wd} {v : Nat} (h : WV w v) (hle : 2 * v < 340282366920938463463374607431768211456) : Evt (fun _ => Yw w) (fun r => WV r (2 * v)) := by
  unfold Yw
  exact Evt.bind (p6V h h (by omega)) fun r hr => Evt.pure (by rw [Nat.two_mul]; exact hr)
theorem p4B {w : Wd} {v : Nat} (h : WV w v) : (decide (w.hi = 0) && (decide (w.lo = 0))) = decide (v = 0) := by
  obtain ⟨a, b, e1, e2, h1, h2, rfl⟩ := h
  rw [e1, e2]
  by_cases g : a = 0 ∧ b = 0
  · obtain ⟨rfl, rfl⟩ := g; rfl
  · rw [decide_eq_false (show ¬ a * 18446744073709551616 + b = 0 by omega)]
    by_cases g2 : a = 0
    · rw [decide_eq_false (show ¬ (b : Int) = 0 by omega), Bool.and_false]
    · rw [decide_eq_false (show ¬ (a : Int) = 0 by omega), Bool.false_and]
theorem i6n {w : Wd} {v : Nat} (h : WV w v) : Int.tmod w.lo 2 = 0 ↔ v % 2 = 0 := by
  obtain ⟨a, b, e1, e2, h1, h2, rfl⟩ := h
  rw [e2, p2A]
  omega
theorem i8v {a b : Nat} (ha : a % 2 = 0) (hb : b % 2 = 1) : Nat.gcd (a / 2) b = Nat.gcd a b := by
  have hc : Nat.Coprime 2 b := by
    unfold Nat.Coprime
    rw [Nat.gcd_rec, hb]
    rfl
  have := Nat.Coprime.gcd_mul_left_cancel (a / 2) hc
  rw [← this]
  congr 1
  omega
theorem p0Y {a b : Nat} (ha : a % 2 = 0) (hb : b % 2 = 0) : 2 * Nat.gcd (a / 2) (b / 2) = Nat.gcd a b := by
  rw [← Nat.gcd_mul_left]
  congr 1 <;> omega
def wv (h l : Int) : Nat := h.toNat * 18446744073709551616 + l.toNat
theorem WV.val {h l : Int} {v : Nat} (k : WV ⟨h, l⟩ v) : wv h l = v := by
  obtain ⟨a, b, e1, e2, h1, h2, rfl⟩ := k
  have e1 : h = a := e1
  have e2 : l = b := e2
  subst e1 e2
  unfold wv
  rw [Int.toNat_natCast, Int.toNat_natCast]
structure G0 (v u : Nat) (t : Int × Int × Int × Int × Int) (a b c : Nat) : Prop where
  a_ : WV ⟨t.1, t.2.1⟩ a
  b_ : WV ⟨t.2.2.1, t.2.2.2.1⟩ b
  c_ : t.2.2.2.2 = (c : Int)
  pa : 0 < a
  pb : 0 < b
  va : a * 2 ^ c = v
  g : Nat.gcd v u = 2 ^ c * Nat.gcd a b
theorem i6o {a c : Nat} (ha : 0 < a) (h : a * 2 ^ c < 340282366920938463463374607431768211456) : c < 128 := by
  rcases Nat.lt_or_ge c 128 with h2 | h2
  · exact h2
  · exfalso
    have h3 : 2 ^ 128 ≤ 2 ^ c := Nat.pow_le_pow_right (by decide) h2
    have h4 : 1 * 2 ^ c ≤ a * 2 ^ c := Nat.mul_le_mul_right _ ha
    have h5 : (2 : Nat) ^ 128 = 340282366920938463463374607431768211456 := by decide
    omega
theorem p6W {v u : Nat} (hv : v < 340282366920938463463374607431768211456) {s : Int × Int × Int × Int × Int} {a b c : Nat} (h : G0 v u s a b c) :
    Evt (fun _ => Zv s) (i8k (fun t => (∃ a b c, G0 v u t a b c) ∧ wv t.1 t.2.1 < wv s.1 s.2.1) (fun t => ∃ a b c, G0 v u t a b c ∧ (a % 2 = 1 ∨ b % 2 = 1)) (fun _ => False)) := by
  have hc := i6o h.pa (by rw [h.va]; exact hv)
  unfold Zv
  refine Evt.cond (fun e => ?_) (fun e => ?_)
  · have e1 : a % 2 = 0 := by
      rw [← i6n h.a_]
      cases h1 : decide (Int.tmod s.2.1 2 = 0) with
      | true => exact of_decide_eq_true h1
      | false => rw [h1] at e; cases e
    have e2 : b % 2 = 0 := by
      rw [← i6n h.b_]
      cases h1 : decide (Int.tmod s.2.1 2 = 0) with
      | true => rw [h1] at e; exact of_decide_eq_true e
      | false => rw [h1] at e; cases e
    refine Evt.bind (i5g h.a_) fun p hp => Evt.bind (i5g h.b_) fun q hq => Evt.pure ⟨⟨a / 2, b / 2, c + 1, hp, hq, ?_, by have := h.pa; omega, by have := h.pb; omega, ?_, ?_⟩, ?_⟩
    · show wr .i64 (s.2.2.2.2 + 1) = _
      rw [h.c_, Zc (by omega) (by omega)]; omega
    · have : a / 2 * 2 = a := by omega
      rw [Nat.pow_succ, Nat.mul_comm (2 ^ c) 2, ← Nat.mul_assoc, this]
      exact h.va
    · rw [Nat.pow_succ, Nat.mul_assoc, p0Y e1 e2]
      exact h.g
    · show wv p.hi p.lo < _
      have := h.pa
      rw [WV.val (h := p.hi) (l := p.lo) hp, WV.val h.a_]
      omega
  · refine Evt.pure ⟨a, b, c, ⟨h.a_, h.b_, h.c_, h.pa, h.pb, h.va, h.g⟩, ?_⟩
    rcases Nat.mod_two_eq_zero_or_one a with e1 | e1
    · rcases Nat.mod_two_eq_zero_or_one b with e2 | e2
      · exfalso
        rw [decide_eq_true ((i6n h.a_).2 e1), decide_eq_true ((i6n h.b_).2 e2)] at e
        cases e
      · exact .inr e2
    · exact .inl e1
theorem p6X {a b : Nat} {s : Int × Int} (h : WV ⟨s.1, s.2⟩ a) (ha : 0 < a) (ho : a % 2 = 1 ∨ b % 2 = 1) {G : Nat} (hg : Nat.gcd a b = G) :
    Evt (fun _ => Zw s) (i8k (fun t => (∃ a, WV ⟨t.1, t.2⟩ a ∧ 0 < a ∧ (a % 2 = 1 ∨ b % 2 = 1) ∧ Nat.gcd a b = G) ∧ wv t.1 t.2 < wv s.1 s.2) (fun t => ∃ a, WV ⟨t.1, t.2⟩ a ∧ 0 < a ∧ a % 2 = 1 ∧ Nat.gcd a b = G) (fun _ => False)) := by
  unfold Zw
  refine Evt.cond (fun e => ?_) (fun e => Evt.pure ?_)
  · have e1 := (i6n h).1 (of_decide_eq_true e)
    have hb : b % 2 = 1 := by omega
    refine Evt.bind (i5g h) fun p hp => Evt.pure ⟨⟨a / 2, hp, by omega, .inr hb, by rw [i8v e1 hb]; exact hg⟩, ?_⟩
    show wv p.hi p.lo < _
    rw [WV.val (h := p.hi) (l := p.lo) hp, WV.val h]
    omega
  · have e1 : ¬ a % 2 = 0 := fun h2 => (of_decide_eq_false e) ((i6n h).2 h2)
    exact ⟨a, h, ha, by omega, hg⟩
theorem p6Y {a b : Nat} {s : Int × Int} (h : WV ⟨s.1, s.2⟩ b) (hb : 0 < b) (ha : a % 2 = 1) {G M : Nat} (hM : b ≤ M) (hg : Nat.gcd a b = G) :
    Evt (fun _ => Zx s) (i8k (fun t => (∃ b, WV ⟨t.1, t.2⟩ b ∧ 0 < b ∧ b ≤ M ∧ Nat.gcd a b = G) ∧ wv t.1 t.2 < wv s.1 s.2) (fun t => ∃ b, WV ⟨t.1, t.2⟩ b ∧ 0 < b ∧ b ≤ M ∧ b % 2 = 1 ∧ Nat.gcd a b = G) (fun _ => False)) := by
  unfold Zx
  refine Evt.cond (fun e => ?_) (fun e => Evt.pure ?_)
  · have e1 := (i6n h).1 (of_decide_eq_true e)
    refine Evt.bind (i5g h) fun p hp => Evt.pure ⟨⟨b / 2, hp, by omega, by omega, by rw [Nat.gcd_comm, i8v e1 ha, Nat.gcd_comm]; exact hg⟩, ?_⟩
    show wv p.hi p.lo < _
    rw [WV.val (h := p.hi) (l := p.lo) hp, WV.val h]
    omega
  · have e1 : ¬ b % 2 = 0 := fun h2 => (of_decide_eq_false e) ((i6n h).2 h2)
    exact ⟨b, h, hb, hM, by omega, hg⟩
structure G2 (G : Nat) (t : Int × Int × Int × Int) (a b : Nat) : Prop where
  a_ : WV ⟨t.1, t.2.1⟩ a
  b_ : WV ⟨t.2.2.1, t.2.2.2⟩ b
  odd : a % 2 = 1
  g : Nat.gcd a b = G
theorem p6Z {G : Nat} {s : Int × Int × Int × Int} {a b : Nat} (h : G2 G s a b) :
    Evt (fun n => Zy n s) (i8k (fun t => (∃ a b, G2 G t a b) ∧ wv t.1 t.2.1 + wv t.2.2.1 t.2.2.2 < wv s.1 s.2.1 + wv s.2.2.1 s.2.2.2) (fun t => WV ⟨t.1, t.2⟩ G) (fun _ => False)) := by
  have hz := p4B h.b_
  simp only at hz
  unfold Zy
  rw [hz]
  refine Evt.cond (fun e => ?_) (fun e => Evt.pure ?_)
  · replace e := bx e
    refine Evt.Xx (P := ExP (fun t : Int × Int => ∃ c, WV ⟨t.1, t.2⟩ c ∧ 0 < c ∧ c ≤ b ∧ c % 2 = 1 ∧ Nat.gcd a c = G) (fun _ => False)) (Evt.loop (fun s : Int × Int => wv s.1 s.2) (fun t => ∃ c, WV ⟨t.1, t.2⟩ c ∧ 0 < c ∧ c ≤ b ∧ Nat.gcd a c = G) _ _ ⟨b, h.b_, by omega, Nat.le_refl _, h.g⟩ (fun s hs => ?_)) (fun t ht => ?_) (fun r hr => hr.elim)
    · obtain ⟨c, h1, h2, h3, h4⟩ := hs
      exact p6Y h1 h2 h.odd h3 h4
    · obtain ⟨c, h1, h2, h3, h4, h5⟩ := ht
      have ha := h.odd
      unfold d0H
      refine Evt.bind (i5h h1 h.a_) fun b1 hb1 => ?_
      subst hb1
      refine Evt.cond (fun e2 => ?_) (fun e2 => ?_)
      · have e2 := of_decide_eq_true e2
        refine Evt.bind (p0X h.a_ h1 (by omega)) fun r hr => Evt.pure ⟨⟨c, a - c, h1, hr, h4, ?_⟩, ?_⟩
        · rw [Nat.gcd_sub_self_right (by omega), Nat.gcd_comm]; exact h5
        · show wv t.1 t.2 + wv r.hi r.lo < _
          rw [WV.val h1, WV.val (h := r.hi) (l := r.lo) hr, WV.val h.a_, WV.val h.b_]
          omega
      · have e2 := of_decide_eq_false e2
        refine Evt.bind (p0X h1 h.a_ (by omega)) fun r hr => Evt.pure ⟨⟨a, c - a, h.a_, hr, ha, ?_⟩, ?_⟩
        · rw [Nat.gcd_sub_self_right (by omega)]; exact h5
        · show wv s.1 s.2.1 + wv r.hi r.lo < _
          rw [WV.val (h := r.hi) (l := r.lo) hr, WV.val h.a_, WV.val h.b_]
          omega
  · replace e := bx e
    have hg := h.g
    rw [e, Nat.gcd_zero_right] at hg
    rw [← hg]
    exact h.a_
theorem p7a {w x : Wd} {v u : Nat} (h : WV w v) (k : WV x u) : Evt (fun n => d0y n w x) (fun r => WV r (Nat.gcd v u)) := by
  unfold d0y
  rw [p4B h, p4B k]
  refine Evt.cond (fun e => Evt.pure ?_) (fun e => Evt.cond (fun e2 => Evt.pure ?_) (fun e2 => ?_))
  · replace e := bx e
    subst e
    rw [Nat.gcd_zero_left]; exact k
  · replace e2 := bx e2
    subst e2
    rw [Nat.gcd_zero_right]; exact h
  replace e := bx e; replace e2 := bx e2
  have hG := h.lt
  have r2L : Nat.gcd v u ≤ v := Nat.gcd_le_left _ (by omega)
  refine Evt.Xx (P := ExP (fun t : Int × Int × Int × Int × Int => ∃ a b c, G0 v u t a b c ∧ (a % 2 = 1 ∨ b % 2 = 1)) (fun _ => False)) (Evt.loop (fun s : Int × Int × Int × Int × Int => wv s.1 s.2.1) (fun t => ∃ a b c, G0 v u t a b c) _ _ ⟨v, u, 0, h, k, rfl, by omega, by omega, by omega, by omega⟩ (fun s hs => ?_)) (fun t ht => ?_) (fun r hr => hr.elim)
  · obtain ⟨a, b, c, hs⟩ := hs
    exact p6W hG hs
  obtain ⟨a, b, c, hs, r0F⟩ := ht
  have hc := i6o hs.pa (by rw [hs.va]; exact hG)
  unfold d0I
  refine Evt.Xx (P := ExP (fun t : Int × Int => ∃ d, WV ⟨t.1, t.2⟩ d ∧ 0 < d ∧ d % 2 = 1 ∧ Nat.gcd d b = Nat.gcd a b) (fun _ => False)) (Evt.loop (fun s : Int × Int => wv s.1 s.2) (fun t => ∃ d, WV ⟨t.1, t.2⟩ d ∧ 0 < d ∧ (d % 2 = 1 ∨ b % 2 = 1) ∧ Nat.gcd d b = Nat.gcd a b) _ _ ⟨a, hs.a_, hs.pa, r0F, rfl⟩ (fun s hs => ?_)) (fun q hq => ?_) (fun r hr => hr.elim)
  · obtain ⟨d, h1, h2, h3, h4⟩ := hs
    exact p6X h1 h2 h3 h4
  obtain ⟨d, h1, h2, h3, h4⟩ := hq
  unfold d0J
  refine Evt.Xx (P := ExP (fun t : Int × Int => WV ⟨t.1, t.2⟩ (Nat.gcd a b)) (fun _ => False)) (Evt.loop (fun s : Int × Int × Int × Int => wv s.1 s.2.1 + wv s.2.2.1 s.2.2.2) (fun t => ∃ x y, G2 (Nat.gcd a b) t x y) _ _ ⟨d, b, h1, hs.b_, h3, h4⟩ (fun s hs => ?_)) (fun p hp => ?_) (fun r hr => hr.elim)
  · obtain ⟨x, y, hs⟩ := hs
    exact p6Z hs
  have hp : WV ⟨p.1, p.2⟩ (Nat.gcd a b) := hp
  have hgg := hs.g
  unfold d0K
  refine Evt.Xx (P := ExP (fun t : Int × Int => WV ⟨t.1, t.2⟩ (Nat.gcd v u)) (fun _ => False)) (Evt.loop (fun s : Int × Int × Int => c - s.2.2.toNat) (fun s => ∃ j : Nat, s.2.2 = j ∧ j ≤ c ∧ WV ⟨s.1, s.2.1⟩ (2 ^ j * Nat.gcd a b)) _ _ ⟨0, rfl, by omega, by rw [Nat.pow_zero, Nat.one_mul]; exact hp⟩ (fun s hs2 => ?_)) (fun t ht => Evt.pure ht) (fun r hr => hr.elim)
  obtain ⟨j, j1, j2, j3⟩ := hs2
  unfold d0L
  rw [hs.c_, j1]
  refine Evt.cond (fun e3 => ?_) (fun e3 => Evt.pure ?_)
  · replace e3 := bx e3
    have p9x : 2 * (2 ^ j * Nat.gcd a b) = 2 ^ (j + 1) * Nat.gcd a b := by rw [Nat.pow_succ, Nat.mul_comm (2 ^ j) 2, Nat.mul_assoc]
    have hle : 2 ^ (j + 1) * Nat.gcd a b ≤ 2 ^ c * Nat.gcd a b := Nat.mul_le_mul_right _ (Nat.pow_le_pow_right (by decide) (by omega))
    refine Evt.bind (i5i j3 (by rw [p9x]; omega)) fun r hr => Evt.pure ⟨⟨j + 1, ?_, by omega, by rw [← p9x]; exact hr⟩, ?_⟩
    · show wr .i64 ((j : Int) + 1) = _
      rw [Zc (by omega) (by omega)]; omega
    · show c - (wr .i64 ((j : Int) + 1)).toNat < c - (j : Int).toNat
      rw [Zc (by omega) (by omega)]; omega
  · replace e3 := bx e3
    have : j = c := by omega
    subst this
    rw [hgg]
    exact j3
theorem p7b {w x : Wd} {v u : Nat} (h : WV w v) (k : WV x u) (hu0 : 0 < u) (hu : u < 170141183460469231731687303715884105728) {s : Int × Int × Int × Int × Int} {i : Nat} (hi : i < 128) (e : s.2.2.2.2 = (i : Int)) (hq : WV ⟨s.1, s.2.1⟩ (v / 2 ^ (i + 1) / u)) (hr : WV ⟨s.2.2.1, s.2.2.2.1⟩ (v / 2 ^ (i + 1) % u)) :
    Evt (fun _ => YK x w s) (i8k (fun t => t.2.2.2.2 = (i : Int) - 1 ∧ WV ⟨t.1, t.2.1⟩ (v / 2 ^ i / u) ∧ WV ⟨t.2.2.1, t.2.2.2.1⟩ (v / 2 ^ i % u)) (fun _ => False) (fun _ => False)) := by
  have hv := h.lt
  have hstep : v / 2 ^ (i + 1) = v / 2 ^ i / 2 := by rw [Nat.pow_succ, Nat.div_div_eq_div_mul]
  rw [hstep] at hq hr
  have hyv : v / 2 ^ i ≤ v := Nat.div_le_self _ _
  -- the digit
  have bit : ∀ j2 : Int, j2 = ((v / 2 ^ i % 2 : Nat) : Int) → ∀ v6 : Wd, WV v6 (2 * (v / 2 ^ i / 2 % u)) → Evt (fun _ => YL s v6 x j2) (i8k (fun t => t.2.2.2.2 = (i : Int) - 1 ∧ WV ⟨t.1, t.2.1⟩ (v / 2 ^ i / u) ∧ WV ⟨t.2.2.1, t.2.2.2.1⟩ (v / 2 ^ i % u)) (fun _ => False) (fun _ => False)) := fun j2 hj v6 h6 => by
    subst hj
    generalize v / 2 ^ i = y at *
    have hw : wr .i64 ((i : Int) - 1) = (i : Int) - 1 := Zc (by omega) (by omega)
    have hmod : y / 2 % u < u := Nat.mod_lt _ hu0
    have hdm := Nat.div_add_mod (y / 2) u
    have r2M : y / 2 / u ≤ y / 2 := Nat.div_le_self _ _
    have h7 : WV ⟨v6.hi, wr .u64 (v6.lo + ((y % 2 : Nat) : Int))⟩ (2 * (y / 2 % u) + y % 2) := by
      obtain ⟨a, b, e1, e2, h1, h2, h3⟩ := h6
      refine ⟨a, b + y % 2, e1, ?_, h1, by omega, by omega⟩
      show wr .u64 (v6.lo + ((y % 2 : Nat) : Int)) = _
      rw [e2, ← Int.natCast_add]
      exact wu (by omega)
    unfold YL
    refine Evt.bind (i5i hq (by omega)) fun v9 h9 => Evt.bind (i5h h7 k) fun b hb => ?_
    subst hb
    have hy : y = u * (2 * (y / 2 / u)) + (2 * (y / 2 % u) + y % 2) := by
      have : u * (2 * (y / 2 / u)) = 2 * (u * (y / 2 / u)) := by rw [Nat.mul_left_comm]
      omega
    refine Evt.cond (fun e2 => ?_) (fun e2 => Evt.pure ?_)
    · replace e2 := bx e2
      have d1 : y / u = 2 * (y / 2 / u) + 1 ∧ y % u = 2 * (y / 2 % u) + y % 2 - u := by
        have hy2 : y = (2 * (y / 2 % u) + y % 2 - u) + u * (2 * (y / 2 / u) + 1) := by
          rw [Nat.mul_add, Nat.mul_one]; omega
        have h5 : 2 * (y / 2 % u) + y % 2 - u < u := by omega
        constructor
        · rw [hy2, Nat.add_mul_div_left _ _ hu0, Nat.div_eq_of_lt h5, Nat.zero_add]
          rw [← hy2]
        · rw [hy2, Nat.add_mul_mod_self_left, Nat.mod_eq_of_lt h5]
          rw [← hy2]
      refine Evt.bind (p0X h7 k e2) fun r hr2 => Evt.pure ⟨by show wr .i64 (s.2.2.2.2 - 1) = _; rw [e, hw], ?_, by rw [d1.2]; exact hr2⟩
      rw [d1.1]
      obtain ⟨a, b, e1, e2, h1, h2, h3⟩ := h9
      refine ⟨a, b + 1, e1, ?_, h1, by omega, by omega⟩
      show wr .u64 (v9.lo + 1) = _
      rw [e2, show ((b : Int) + 1) = ((b + 1 : Nat) : Int) by omega]
      exact wu (by omega)
    · replace e2 := bx e2
      have d1 : y / u = 2 * (y / 2 / u) ∧ y % u = 2 * (y / 2 % u) + y % 2 := by
        have hy2 : y = (2 * (y / 2 % u) + y % 2) + u * (2 * (y / 2 / u)) := by omega
        constructor
        · rw [hy2, Nat.add_mul_div_left _ _ hu0, Nat.div_eq_of_lt e2, Nat.zero_add]
          rw [← hy2]
        · rw [hy2, Nat.add_mul_mod_self_left, Nat.mod_eq_of_lt e2]
          rw [← hy2]
      exact ⟨by show wr .i64 (s.2.2.2.2 - 1) = _; rw [e, hw], by rw [d1.1]; exact h9, by rw [d1.2]; exact h7⟩
  have r2N : v / 2 ^ i / 2 % u < u := Nat.mod_lt _ hu0
  unfold YK
  rw [e]
  refine Evt.cond (fun _ => Evt.bind (i5i hr (by omega)) fun v6 h6 => Evt.cond (fun e2 => ?_) (fun e2 => ?_)) (fun e2 => ?_)
  · replace e2 := bx e2
    have hw : wr .i64 ((i : Int) - 64) = ((i - 64 : Nat) : Int) := by rw [Zc (by omega) (by omega)]; omega
    rw [hw, Int.toNat_natCast]
    refine Evt.chk (by omega) (bit _ ?_ v6 h6)
    obtain ⟨a, b, e1, e3, h1, h2, rfl⟩ := h
    have hm : min (i - 64) 64 = i - 64 := by omega
    rw [e1, hm, Int.fdiv_eq_ediv_of_nonneg _ (Int.pow_nonneg (by decide))]
    have e5 : ((2 : Int) ^ (i - 64)) = ((2 ^ (i - 64) : Nat) : Int) := by simp
    rw [e5, ← Int.natCast_ediv, p2A]
    have e6 : (a * 18446744073709551616 + b) / 2 ^ i = a / 2 ^ (i - 64) := by
      have : 2 ^ i = 18446744073709551616 * 2 ^ (i - 64) := by
        rw [show (18446744073709551616 : Nat) = 2 ^ 64 by decide, ← Nat.pow_add]; congr 1; omega
      rw [this, ← Nat.div_div_eq_div_mul]
      congr 1
      omega
    rw [e6]
  · replace e2 := bx e2
    refine Evt.chk (by omega) (bit _ ?_ v6 h6)
    obtain ⟨a, b, e1, e3, h1, h2, rfl⟩ := h
    have hm : min i 64 = i := by omega
    rw [Int.toNat_natCast, e3, hm, Int.fdiv_eq_ediv_of_nonneg _ (Int.pow_nonneg (by decide))]
    have e5 : ((2 : Int) ^ i) = ((2 ^ i : Nat) : Int) := by simp
    rw [e5, ← Int.natCast_ediv, p2A]
    have e6 : (a * 18446744073709551616 + b) / 2 ^ i = b / 2 ^ i + a * 2 ^ (63 - i) * 2 := by
      have : a * 18446744073709551616 = 2 ^ i * (a * 2 ^ (63 - i) * 2) := by
        have h3 : 2 ^ i * (2 ^ (63 - i) * 2) = 18446744073709551616 := by
          rw [← Nat.pow_succ, ← Nat.pow_add, show i + (63 - i).succ = 64 by omega]
        rw [← h3, Nat.mul_assoc a, Nat.mul_left_comm]
      rw [this, Nat.add_comm, Nat.add_mul_div_left _ _ (Nat.pow_pos (by decide))]
    rw [e6, Nat.add_mul_mod_self_right]
  · replace e2 := bx e2
    have : ¬ (0 : Int) ≤ (i : Int) := by omega
    omega
theorem p3j {w x : Wd} {v u : Nat} (h : WV w v) (k : WV x u) (hu0 : 0 < u) (hu : u < 170141183460469231731687303715884105728) : Evt (fun n => Zo n w x) (fun r => WV r (v / u)) := by
  have hv := h.lt
  unfold Zo
  refine Evt.Xx (P := ExP (fun t : Int × Int => WV ⟨t.1, t.2⟩ (v / u)) (fun _ => False)) (Evt.loop (fun s : Int × Int × Int × Int × Int => (s.2.2.2.2 + 1).toNat) (fun s => ∃ i : Nat, i ≤ 128 ∧ s.2.2.2.2 = (i : Int) - 1 ∧ WV ⟨s.1, s.2.1⟩ (v / 2 ^ i / u) ∧ WV ⟨s.2.2.1, s.2.2.2.1⟩ (v / 2 ^ i % u)) _ _ ⟨128, by omega, rfl, ?_, ?_⟩ (fun s hs => ?_)) (fun t ht => Evt.pure ht) (fun r hr => hr.elim)
  · have : v / 2 ^ 128 = 0 := Nat.div_eq_of_lt (by have : (2 : Nat) ^ 128 = 340282366920938463463374607431768211456 := by decide
                                                   omega)
    rw [this, Nat.zero_div]
    exact WV.small (l := 0) (by omega)
  · have : v / 2 ^ 128 = 0 := Nat.div_eq_of_lt (by have : (2 : Nat) ^ 128 = 340282366920938463463374607431768211456 := by decide
                                                   omega)
    rw [this, Nat.zero_mod]
    exact WV.small (l := 0) (by omega)
  · obtain ⟨i, hi, e, hq, hr⟩ := hs
    match i, hi, e, hq, hr with
    | 0, hi, e, hq, hr =>
      unfold YK
      refine Evt.cond (fun e2 => ?_) (fun e2 => Evt.pure ?_)
      · replace e2 := bx e2
        omega
      · rw [Nat.pow_zero, Nat.div_one] at hq
        exact hq
    | i + 1, hi, e, hq, hr =>
      refine (p7b h k hu0 hu (by omega) (by rw [e]; omega) hq hr).mono fun c hc => ?_
      cases c with
      | nxt t => exact ⟨⟨i, by omega, hc.1, hc.2.1, hc.2.2⟩, by rw [hc.1, e]; omega⟩
      | brk t => exact hc.elim
      | ret r => exact hc.elim
structure M0 (a b j : Nat) (s : Int × Int × Int × Int × Int) : Prop where
  o : WV ⟨s.1, s.2.1⟩ (a * (b % 2 ^ j))
  y : WV ⟨s.2.2.1, s.2.2.2.1⟩ (a * 2 ^ j)
  c : s.2.2.2.2 = ((b / 2 ^ j : Nat) : Int)
def p2B (neg : Bool) (n d : Nat) : WZ × WM :=
  if 1152921504606846976 < n / Nat.gcd n d ∨ 1152921504606846976 < d / Nat.gcd n d then (⟨0, 0⟩, ⟨18, 0⟩) else (⟨if neg = true then -((n / Nat.gcd n d : Nat) : Int) else ((n / Nat.gcd n d : Nat) : Int), ((d / Nat.gcd n d : Nat) : Int)⟩, ⟨0, 0⟩)
theorem p0Z {w : Wd} {v : Nat} (h : WV w v) (hv : v ≤ 1152921504606846976) : w.lo = (v : Int) := by
  obtain ⟨a, b, e1, e2, h1, h2, rfl⟩ := h
  rw [e2]
  omega
theorem i5j (neg : Bool) {w x : Wd} {n d : Nat} (h : WV w n) (k : WV x d) (hd : 0 < d) (hd2 : d < 170141183460469231731687303715884105728) : Evt (fun m => d0T m neg w x) (fun r => r = p2B neg n d) := by
  have hg0 : 0 < Nat.gcd n d := Nat.gcd_pos_of_pos_right _ hd
  have hg1 : Nat.gcd n d ≤ d := Nat.gcd_le_right _ hd
  have ht : WV (⟨0, 1152921504606846976⟩ : Wd) 1152921504606846976 := WV.small (l := 1152921504606846976) (by omega)
  unfold d0T
  refine Evt.bind (p7a h k) fun v1 h1 => Evt.bind (p3j h h1 hg0 (by omega)) fun v2 h2 => Evt.bind (p3j k h1 hg0 (by omega)) fun v3 h3 => Evt.bind (i5h ht h2) fun v4 h4 => ?_
  subst h4
  unfold p2B
  generalize n / Nat.gcd n d = p at *
  generalize d / Nat.gcd n d = q at *
  by_cases c1 : 1152921504606846976 < p
  · simp only [c1, decide_true, Bool.not_true, i3C, Option.bind_some, cond_true, true_or, if_true]
    exact Evt.pure rfl
  · simp only [c1, decide_false, Bool.not_false, d9v, cond_false, false_or]
    refine Evt.bind (i5h ht h3) fun v5 h5 => ?_
    subst h5
    by_cases c2 : 1152921504606846976 < q
    · simp only [c2, decide_true, cond_true, if_true]
      exact Evt.pure rfl
    · simp only [c2, decide_false, cond_false, if_false]
      rw [p0Z h2 (by omega), p0Z h3 (by omega), Zc (n := (p : Int)) (by omega) (by omega), Zc (n := (q : Int)) (by omega) (by omega)]
      refine Evt.cond (fun e => Evt.pure ?_) (fun e => Evt.pure ?_)
      · rw [Zc (by omega) (by omega), if_pos e, Int.zero_sub]
      · rw [if_neg (by simp [e])]
set_option maxRecDepth 1000000 in
theorem i3H (m : Nat) : Zz (m + 300) = some true := by kernel_rfl
theorem i3c : Evt Zz (fun b => b = true) := ⟨true, rfl, 300, fun n hn => by
  obtain ⟨m, rfl⟩ : ∃ m, n = m + 300 := ⟨n - 300, by omega⟩
  exact i3H m⟩
theorem i3d {α : Type} [Inhabited α] {l m : List α} {i : Nat} : Am.get (l ++ m) (l.length + i) = Am.get m i := by
  unfold Am.get
  rw [List.getD_eq_getElem?_getD, List.getD_eq_getElem?_getD, List.getElem?_append_right (by omega), Nat.add_sub_cancel_left]
def Good (x : Int) : Prop := 0 ≤ x ∧ x ≤ 1000000
def p2C (l : List Int) (f : WM) : Prop := (f = ⟨0, 0⟩ ∧ ∀ k, k < l.length → Good (Am.get l k)) ∨ ∃ i : Nat, i < l.length ∧ f = ⟨3, (i : Int)⟩ ∧ ¬ Good (Am.get l i) ∧ ∀ k, k < i → Good (Am.get l k)
theorem p2C.uniq {l : List Int} {f g : WM} (h : p2C l f) (k : p2C l g) : f = g := by
  rcases h with ⟨rfl, h⟩ | ⟨i, hi, rfl, h1, h2⟩ <;> rcases k with ⟨rfl, k⟩ | ⟨j, hj, rfl, k1, k2⟩
  · rfl
  · exact absurd (h j hj) k1
  · exact absurd (k i hi) h1
  · rcases Nat.lt_trichotomy i j with e | e | e
    · exact absurd (k2 i e) h1
    · rw [e]
    · exact absurd (h2 j e) k1
theorem i6p (c : Xt) (h : c.rules.length + c.Xj.length ≤ 1000) : Evt (fun _ => Xx (XO (d4Q c) c.rules.length ()) (d4R c)) (p2C (c.rules ++ c.Xj)) := by
  refine Evt.Xx (Evt.range (fun k _ => ∀ j, j < k → Good (Am.get (c.rules ++ c.Xj) j)) (fun _ => False) (p2C (c.rules ++ c.Xj)) (fun j hj => by omega) (fun k s hk hi => ?_)) (fun t ht => ?_) (fun r hr => hr)
  · have hg : Am.get (c.rules ++ c.Xj) k = Am.get c.rules k := d4I hk
    unfold d4Q d2U
    refine Evt.cond (fun e => Evt.bind (P := fun f => f = ⟨3, (k : Int)⟩) (Evt.pure rfl) fun f hf => Evt.pure ?_) (fun e => Evt.pure fun j hj => ?_)
    · replace e := bx e
      subst hf
      exact .inr ⟨k, by rw [List.length_append]; omega, rfl, by rw [hg]; unfold Good; omega, hi⟩
    · replace e := bx e
      by_cases ej : j = k
      · subst ej; rw [hg]; unfold Good; omega
      · exact hi j (by omega)
  · have ht := ht.elim id False.elim
    unfold d4R
    refine Evt.Xx (Evt.range (fun k _ => ∀ j, j < c.rules.length + k → Good (Am.get (c.rules ++ c.Xj) j)) (fun _ => False) (p2C (c.rules ++ c.Xj)) ht (fun k s hk hi => ?_)) (fun t ht => Evt.pure (.inl ⟨rfl, fun k hk => ?_⟩)) (fun r hr => hr)
    · have hg : Am.get (c.rules ++ c.Xj) (c.rules.length + k) = Am.get c.Xj k := i3d
      unfold d5Z d2U
      have hw : wr .i64 ((c.rules.length : Int) + (k : Int)) = ((c.rules.length + k : Nat) : Int) := by rw [Zc (by omega) (by omega)]; omega
      rw [hw]
      refine Evt.cond (fun e => Evt.bind (P := fun f => f = ⟨3, ((c.rules.length + k : Nat) : Int)⟩) (Evt.pure rfl) fun f hf => Evt.pure ?_) (fun e => Evt.pure fun j hj => ?_)
      · replace e := bx e
        subst hf
        exact .inr ⟨c.rules.length + k, by rw [List.length_append]; omega, rfl, by rw [hg]; unfold Good; omega, hi⟩
      · replace e := bx e
        by_cases ej : j = c.rules.length + k
        · subst ej; rw [hg]; unfold Good; omega
        · exact hi j (by omega)
    · rw [List.length_append] at hk
      exact (ht.elim id False.elim) k hk
theorem i5k (c : Xt) (h : c.rules.length + c.Xj.length ≤ 1000) : Evt (fun n => Xx (d0v (YF c) n 0) (ZI)) (p2C (c.rules ++ c.Xj)) := by
  have hw : wr .i64 ((c.rules.length : Int) + (c.Xj.length : Int)) = ((c.rules.length + c.Xj.length : Nat) : Int) := by rw [Zc (by omega) (by omega)]; omega
  refine Evt.Xx (P := ExP (fun _ => ∀ k, k < c.rules.length + c.Xj.length → Good (Am.get (c.rules ++ c.Xj) k)) (p2C (c.rules ++ c.Xj))) (Evt.loop (fun s : Int => c.rules.length + c.Xj.length - s.toNat) (fun s => ∃ k : Nat, s = k ∧ k ≤ c.rules.length + c.Xj.length ∧ ∀ j, j < k → Good (Am.get (c.rules ++ c.Xj) j)) _ _ ⟨0, rfl, by omega, fun j hj => by omega⟩ (fun s hs => ?_)) (fun t ht => Evt.pure (.inl ⟨rfl, fun k hk => ht k (by rw [List.length_append] at hk; exact hk)⟩)) (fun r hr => hr)
  obtain ⟨k, rfl, hk, hi⟩ := hs
  have hw1 : wr .i64 ((k : Int) + 1) = ((k + 1 : Nat) : Int) := by rw [Zc (by omega) (by omega)]; omega
  have step : ∀ x : Int, x = Am.get (c.rules ++ c.Xj) k → k < c.rules.length + c.Xj.length → Evt (fun _ => Yj (k : Int) x) (i8k (fun s => (∃ k : Nat, s = k ∧ k ≤ c.rules.length + c.Xj.length ∧ ∀ j, j < k → Good (Am.get (c.rules ++ c.Xj) j)) ∧ c.rules.length + c.Xj.length - s.toNat < c.rules.length + c.Xj.length - (k : Int).toNat) (fun _ => ∀ k, k < c.rules.length + c.Xj.length → Good (Am.get (c.rules ++ c.Xj) k)) (p2C (c.rules ++ c.Xj))) := fun x hx hlt => by
    unfold Yj
    rw [hw1]
    refine Evt.cond (fun e => Evt.pure ?_) (fun e => Evt.pure ⟨⟨k + 1, rfl, by omega, fun j hj => ?_⟩, by omega⟩)
    · replace e := bx e
      exact .inr ⟨k, by rw [List.length_append]; omega, rfl, by rw [← hx]; unfold Good; omega, hi⟩
    · replace e := bx e
      by_cases ej : j = k
      · subst ej; rw [← hx]; unfold Good; omega
      · exact hi j (by omega)
  unfold YF
  rw [hw]
  refine Evt.cond (fun e => Evt.cond (fun e2 => ?_) (fun e2 => ?_)) (fun e => Evt.pure ?_)
  · replace e := bx e; replace e2 := bx e2
    rw [Int.toNat_natCast]
    exact Evt.chk (by omega) (step _ (d4I (by omega)).symm (by omega))
  · replace e := bx e; replace e2 := bx e2
    have hw2 : wr .i64 ((k : Int) - (c.rules.length : Int)) = ((k - c.rules.length : Nat) : Int) := by rw [Zc (by omega) (by omega)]; omega
    rw [hw2, Int.toNat_natCast]
    refine Evt.chk (by omega) (step _ ?_ (by omega))
    have := i3d (l := c.rules) (m := c.Xj) (i := k - c.rules.length)
    rw [← this]
    congr 1
    omega
  · replace e := bx e
    exact fun j hj => hi j (by omega)
theorem i3I {g : Xa} (hm : Holds g) (c : Xt) : Ev2 (fun n => d6g n g c) (fun n => YB n g c) (i0n (i0w g ∧ p0W g c 1000000)) := by
  unfold d6g YB
  refine Ev2.bind (d9L hm) fun f f' hf => ?_
  obtain ⟨rfl, hf⟩ := hf
  refine Ev2.cond rfl (fun e => Ev2.pure ⟨rfl, fun h => ?_⟩) (fun e => ?_)
  · replace e := bx e
    exact absurd h e
  replace e := bx e
  have hg := (hf e).2
  refine Ev2.cond rfl (fun _ => Ev2.d3y (A := fun f => f = ⟨9, -2⟩) (Evt.pure rfl) fun f hf => by subst hf; exact Ev2.pure (ZY (by decide))) (fun e2 => ?_)
  replace e2 := bx e2
  have g2 := hg.rules
  have g3 := hg.Xj
  have h1 : c.rules.length = g.rules.length := by omega
  have h2 : c.Xj.length = g.Xj.length := by omega
  refine (Ev2.both (i6p c (by omega)) (i5k c (by omega))).mono fun a b hab => ?_
  refine ⟨hab.1.uniq hab.2, fun h0 => ?_⟩
  rcases hab.1 with ⟨_, i2z⟩ | ⟨i, _, rfl, _⟩
  · rw [List.length_append] at i2z
    refine ⟨hg, h1, h2, fun k hk => ?_, fun k hk => ?_⟩
    · have := i2z k (by omega)
      rw [d4I (by omega)] at this
      exact this
    · have := i2z (c.rules.length + k) (by omega)
      rw [i3d] at this
      exact this
  · exact absurd (show (3 : Int) = 0 from h0) (by decide)
theorem i3e {g : Xa} (hg : i0w g) {k : Nat} (hk : k < g.rules.length) (x : Int) : Evt (fun _ => Yc g (k : Int) x) (fun v => v = d2O g k) := by
  obtain ⟨v, hm, ht, hc⟩ := i2Y hg hk
  unfold Yc
  refine Evt.cond (fun e => ?_) (fun _ => ?_)
  · replace e := bx e
    omega
  rw [Int.toNat_natCast]
  refine Evt.chk (by omega) (Evt.bind (i9j (hg.rule k hk).graph hm) fun u hu => ?_)
  subst hu
  exact Evt.chk ⟨hm.2.1, hm.2.2⟩ (Evt.pure ht)
theorem i3f {g : Xa} (hg : i0w g) {k : Nat} (hk : k < g.Xj.length) : Evt (fun _ => Yc g (-1) (k : Int)) (fun v => v = d3n g k) := by
  obtain ⟨ht, hc⟩ := i2Z hg hk
  have hs := (hg.lex k hk).graph.some
  unfold Yc
  refine Evt.cond (fun _ => ?_) (fun e => ?_)
  · rw [Int.toNat_natCast]
    exact Evt.chk (by omega) (Evt.chk (by omega) (Evt.pure ht))
  · replace e := bx e
    omega
theorem i8w (a : Nat) (ha : a ≤ 9223372036854775807) : Evt (fun _ => d0C a) (fun v => v = a) := by
  unfold d0C
  refine Evt.cond (fun e => ?_) (fun _ => Evt.pure (wu (by omega)))
  replace e := bx e
  omega
theorem i7A {a t : Nat} (ha : a ≤ 1152921504606846976) (ht : t ≤ 1152921504606846976) (h0 : 0 < t) : p2B false a t = (d4Z a t, ⟨0, 0⟩) := by
  have h1 : a / Nat.gcd a t ≤ a := Nat.div_le_self _ _
  have h2 : t / Nat.gcd a t ≤ t := Nat.div_le_self _ _
  unfold p2B d4Z
  rw [if_neg (by omega), if_pos h0, if_neg (by decide)]
theorem i3g (a t : Nat) (ha : a ≤ 1152921504606846976) (ht : t ≤ 1152921504606846976) (h0 : 0 < t) : Evt (fun n => d0n n a t) (fun r => r = (d4Z a t, ⟨0, 0⟩)) := by
  unfold d0n
  refine Evt.cond (fun e => ?_) (fun _ => ?_)
  · replace e := bx e
    omega
  refine Evt.bind (i8w a (by omega)) fun v1 e1 => Evt.bind (i8w t (by omega)) fun v2 e2 => ?_
  subst e1; subst e2
  have e1 : (!decide ((decide ((a : Int) < 0)) = (decide ((t : Int) < 0)))) = false := by
    rw [decide_eq_false (show ¬ (a : Int) < 0 by omega), decide_eq_false (show ¬ (t : Int) < 0 by omega)]; rfl
  rw [e1]
  exact Evt.bind (i5j false (WV.small (l := a) (by omega)) (WV.small (l := t) (by omega)) h0 (by omega)) fun r hr => Evt.pure (by rw [hr, i7A ha ht h0])
theorem p0W.sums {g : Xa} (hg : i0w g) {c : Xt} (hc : p0W g c 1000000) : (∀ k cl, k ≤ g.rules.length → 0 ≤ acc (d2O g) (fun k => Am.get c.rules k) k cl ∧ acc (d2O g) (fun k => Am.get c.rules k) k cl ≤ 40000000) ∧ ∀ k cl, k ≤ g.Xj.length → 0 ≤ acc (d3n g) (fun k => Am.get c.Xj k) k cl ∧ acc (d3n g) (fun k => Am.get c.Xj k) k cl ≤ 100000000 := by
  have g2 := hg.rules
  have g3 := hg.Xj
  refine ⟨fun k cl hk => ?_, fun k cl hk => ?_⟩
  · have := d7E (cls := d2O g) (v := fun k => Am.get c.rules k) (M := 1000000) (by omega) k cl (fun j hj => hc.vr j (by omega))
    omega
  · have := d7E (cls := d3n g) (v := fun k => Am.get c.Xj k) (M := 1000000) (by omega) k cl (fun j hj => hc.vl j (by omega))
    omega
theorem i3h {g : Xa} (hg : i0w g) {c : Xt} (hc : p0W g c 1000000) (cl : Nat) {x : Int} {rule lex : Int} (hx : (0 ≤ rule ∧ rule < g.rules.length ∧ x = Am.get c.rules rule.toNat) ∨ (rule < 0 ∧ 0 ≤ lex ∧ lex < g.Xj.length ∧ x = Am.get c.Xj lex.toNat)) :
    Evt (fun n => Xx (d0v (ZA g (cl : Int) c) n (0, 0)) (ZB n g (cl : Int) c rule lex)) (fun r => r = d4Z x.toNat (tot g c cl).toNat) := by
  obtain ⟨hR, hL⟩ := hc.sums hg
  have g2 := hg.rules
  have g3 := hg.Xj
  have c1 := hc.r
  have c2 := hc.l
  refine Evt.Xx (P := ExP (fun t : Int => t = acc (d2O g) (fun k => Am.get c.rules k) g.rules.length cl) (fun _ => False)) (Evt.loop (fun s : Int × Int => g.rules.length - s.2.toNat) (fun s => ∃ k : Nat, s = (acc (d2O g) (fun k => Am.get c.rules k) k cl, (k : Int)) ∧ k ≤ g.rules.length) _ _ ⟨0, rfl, by omega⟩ (fun s hs => ?_)) (fun t ht => ?_) (fun r hr => hr.elim)
  · obtain ⟨k, rfl, hk⟩ := hs
    have hw1 : wr .i64 ((k : Int) + 1) = ((k + 1 : Nat) : Int) := by rw [Zc (by omega) (by omega)]; omega
    unfold ZA
    simp only [hw1, Int.toNat_natCast]
    refine Evt.cond (fun e => Evt.bind (i3e hg (k := k) (by replace e := bx e; omega) 0) fun v hv => ?_) (fun e => Evt.pure ?_)
    · replace e := bx e
      have hb := hR (k + 1) cl (by omega)
      subst hv
      refine Evt.cond (fun e2 => Evt.chk (by omega) (Evt.pure ?_)) (fun e2 => Evt.pure ?_)
      · replace e2 := bx e2
        have e3 : acc (d2O g) (fun k => Am.get c.rules k) (k + 1) cl = acc (d2O g) (fun k => Am.get c.rules k) k cl + Am.get c.rules k := by
          simp only [acc]; rw [if_pos (by omega)]
        rw [e3] at hb
        refine ⟨⟨k + 1, ?_, by omega⟩, by show g.rules.length - ((k + 1 : Nat) : Int).toNat < g.rules.length - (k : Int).toNat; omega⟩
        rw [Zc (by omega) (by omega), e3]
      · replace e2 := bx e2
        have e3 : acc (d2O g) (fun k => Am.get c.rules k) (k + 1) cl = acc (d2O g) (fun k => Am.get c.rules k) k cl := by
          simp only [acc]; rw [if_neg (by omega), Int.add_zero]
        exact ⟨⟨k + 1, by rw [e3], by omega⟩, by show g.rules.length - ((k + 1 : Nat) : Int).toNat < g.rules.length - (k : Int).toNat; omega⟩
    · replace e := bx e
      have : k = g.rules.length := by omega
      subst this; rfl
  · have ht : t = _ := ht
    unfold ZB
    refine Evt.Xx (P := ExP (fun t : Int => t = tot g c cl) (fun _ => False)) (Evt.loop (fun s : Int × Int => g.Xj.length - s.2.toNat) (fun s => ∃ k : Nat, s = (t + acc (d3n g) (fun k => Am.get c.Xj k) k cl, (k : Int)) ∧ k ≤ g.Xj.length) _ _ ⟨0, by simp [acc], by omega⟩ (fun s hs => ?_)) (fun t ht => ?_) (fun r hr => hr.elim)
    · obtain ⟨k, rfl, hk⟩ := hs
      have hw1 : wr .i64 ((k : Int) + 1) = ((k + 1 : Nat) : Int) := by rw [Zc (by omega) (by omega)]; omega
      unfold d0M
      simp only [hw1, Int.toNat_natCast]
      refine Evt.cond (fun e => Evt.bind (i3f hg (k := k) (by replace e := bx e; omega)) fun v hv => ?_) (fun e => Evt.pure ?_)
      · replace e := bx e
        have hb := hL (k + 1) cl (by omega)
        have hb2 := hR g.rules.length cl (by omega)
        subst hv
        refine Evt.cond (fun e2 => Evt.chk (by omega) (Evt.pure ?_)) (fun e2 => Evt.pure ?_)
        · replace e2 := bx e2
          have e3 : acc (d3n g) (fun k => Am.get c.Xj k) (k + 1) cl = acc (d3n g) (fun k => Am.get c.Xj k) k cl + Am.get c.Xj k := by
            simp only [acc]; rw [if_pos (by omega)]
          rw [e3] at hb
          refine ⟨⟨k + 1, ?_, by omega⟩, by show g.Xj.length - ((k + 1 : Nat) : Int).toNat < g.Xj.length - (k : Int).toNat; omega⟩
          rw [Zc (by omega) (by omega), e3, Int.add_assoc]
        · replace e2 := bx e2
          have e3 : acc (d3n g) (fun k => Am.get c.Xj k) (k + 1) cl = acc (d3n g) (fun k => Am.get c.Xj k) k cl := by
            simp only [acc]; rw [if_neg (by omega), Int.add_zero]
          exact ⟨⟨k + 1, by rw [e3], by omega⟩, by show g.Xj.length - ((k + 1 : Nat) : Int).toNat < g.Xj.length - (k : Int).toNat; omega⟩
      · replace e := bx e
        have : k = g.Xj.length := by omega
        subst this
        show t + acc (d3n g) (fun k => Am.get c.Xj k) g.Xj.length cl = tot g c cl
        rw [ht]; rfl
    · have ht : t = tot g c cl := ht
      subst ht
      have h1 := hR g.rules.length cl (Nat.le_refl _)
      have h2 := hL g.Xj.length cl (Nat.le_refl _)
      have hT : tot g c cl = acc (d2O g) (fun k => Am.get c.rules k) g.rules.length cl + acc (d3n g) (fun k => Am.get c.Xj k) g.Xj.length cl := rfl
      have fin : 0 ≤ x ∧ x ≤ 1000000 → Evt (fun n => YM n (tot g c cl) x) (fun r => r = d4Z x.toNat (tot g c cl).toNat) := fun hxx => by
        unfold YM
        refine Evt.cond (fun e => Evt.pure ?_) (fun e => ?_)
        · replace e := bx e
          unfold d4Z
          rw [if_neg (by omega)]
        · replace e := bx e
          obtain ⟨a, rfl⟩ : ∃ a : Nat, x = a := ⟨x.toNat, by omega⟩
          obtain ⟨b, hb⟩ : ∃ b : Nat, tot g c cl = b := ⟨(tot g c cl).toNat, by omega⟩
          rw [hb]
          exact Evt.bind (i3g a b (by omega) (by omega) (by omega)) fun r hr => Evt.pure (by rw [hr, Int.toNat_natCast, Int.toNat_natCast])
      unfold d0N
      refine Evt.cond (fun e => ?_) (fun e => ?_)
      · replace e := bx e
        rcases hx with ⟨a1, a2, a3⟩ | ⟨a1, _⟩
        · have := hc.vr rule.toNat (by omega)
          subst a3
          exact Evt.chk (by omega) (fin this)
        · omega
      · replace e := bx e
        rcases hx with ⟨a1, _⟩ | ⟨a1, a2, a3, a4⟩
        · omega
        · have := hc.vl lex.toNat (by omega)
          subst a4
          exact Evt.chk (by omega) (fin this)
theorem i7B {g : Xa} (hg : i0w g) {c : Xt} (hc : p0W g c 1000000) {k : Nat} (hk : k < g.rules.length) (x : Int) : Evt (fun n => Yq n g c (k : Int) x) (fun r => r = d4Z (Am.get c.rules k).toNat (tot g c (d2O g k)).toNat) := by
  unfold Yq
  refine Evt.bind (i3e hg hk x) fun v hv => ?_
  subst hv
  have := i3h hg hc (d2O g k) (x := Am.get c.rules k) (rule := (k : Int)) (lex := x) (.inl ⟨by omega, by omega, by rw [Int.toNat_natCast]⟩)
  exact this
theorem i7C {g : Xa} (hg : i0w g) {c : Xt} (hc : p0W g c 1000000) {k : Nat} (hk : k < g.Xj.length) : Evt (fun n => Yq n g c (-1) (k : Int)) (fun r => r = d4Z (Am.get c.Xj k).toNat (tot g c (d3n g k)).toNat) := by
  unfold Yq
  refine Evt.bind (i3f hg hk) fun v hv => ?_
  subst hv
  have := i3h hg hc (d3n g k) (x := Am.get c.Xj k) (rule := -1) (lex := (k : Int)) (.inr ⟨by omega, by omega, by omega, by rw [Int.toNat_natCast]⟩)
  exact this
theorem i1k {g : Xa} (hm : Holds g) (c : Xt) : Ev2 (fun n => d3V n g c) (fun n => YB n g c) (fun r f => (f.code ≠ 0 ∧ r = ([], [], f)) ∨ (f.code = 0 ∧ i0w g ∧ p0W g c 1000000 ∧ r.2.2.code = 0 ∧ WIs g c (r.1, r.2.1))) := by
  unfold d3V
  obtain ⟨f, f', ⟨rfl, hf⟩, h1, h2⟩ := (i3I hm c).split
  refine Ev2.d3y h1 fun a ha => ?_
  subst ha
  refine Ev2.i9b (fun e => ?_) (fun e => ?_)
  · replace e := bx e
    exact (Ev2.both (Evt.pure (P := fun r => r = (([] : List WZ), ([] : List WZ), a)) rfl) h2).mono fun r f h => by obtain ⟨rfl, rfl⟩ := h; exact .inl ⟨e, rfl⟩
  · replace e := bx e
    obtain ⟨hg, hc⟩ := hf e
    refine (Ev2.both (Evt.bind (i3b hg (hc.le (by omega))) fun r hr => Evt.pure (P := fun x : List WZ × List WZ × WM => x.2.2.code = 0 ∧ WIs g c (x.1, x.2.1)) ⟨rfl, hr⟩) h2).mono fun r f h => ?_
    obtain ⟨⟨h3, h4⟩, rfl⟩ := h
    exact .inr ⟨e, hg, hc, h3, h4⟩
theorem i3z {g : Xa} (hm : Holds g) (c : Xt) : Evt (fun n => Yn n g c) (fun r => r = true) := by
  unfold Yn
  refine Evt.bind i3c fun v hv => Evt.cond (fun e => ?_) (fun _ => ?_)
  · subst hv; cases e
  obtain ⟨r, f, hrf, h1, h2⟩ := (i1k hm c).split
  refine Evt.bind h1 fun a ha => Evt.bind h2 fun b hb => ?_
  subst ha hb
  rcases hrf with ⟨e, rfl⟩ | ⟨e, hg, hc, hr0, hw⟩
  · refine Evt.cond (fun _ => Evt.pure ?_) (fun e2 => ?_)
    · simp
    · replace e2 := bx e2
      exact absurd e2 e
  · refine Evt.cond (fun e2 => ?_) (fun _ => ?_)
    · replace e2 := bx e2
      exact absurd e e2
    obtain ⟨⟨w1, w2⟩, w3, w4⟩ := hw
    have w1 : a.1.length = g.rules.length := w1
    have w3 : a.2.1.length = g.Xj.length := w3
    have g2 := hg.rules
    have g3 := hg.Xj
    refine Evt.cond (fun e2 => ?_) (fun _ => ?_)
    · replace e2 := bx e2
      omega
    refine Evt.Xx (P := ExP (fun _ => True) (fun _ => False)) (Evt.loop (fun s : Int => a.1.length - s.toNat) (fun s => ∃ k : Nat, s = k ∧ k ≤ a.1.length) _ _ ⟨0, rfl, by omega⟩ (fun s hs => ?_)) (fun t ht => ?_) (fun r hr => hr.elim)
    · obtain ⟨k, rfl, hk⟩ := hs
      have hw1 : wr .i64 ((k : Int) + 1) = ((k + 1 : Nat) : Int) := by rw [Zc (by omega) (by omega)]; omega
      unfold Yd
      simp only [hw1, Int.toNat_natCast]
      refine Evt.cond (fun e2 => ?_) (fun _ => Evt.pure trivial)
      replace e2 := bx e2
      refine Evt.chk (by omega) (Evt.bind (i7B hg hc (k := k) (by omega) 0) fun v hv => ?_)
      have hk2 : Am.get a.1 k = v := by rw [hv]; exact w2 k (by omega)
      refine Evt.cond (fun e3 => ?_) (fun _ => Evt.pure ⟨⟨k + 1, rfl, by omega⟩, by omega⟩)
      simp [hk2] at e3
    · unfold Ye
      refine Evt.Xx (P := ExP (fun _ => True) (fun _ => False)) (Evt.loop (fun s : Int => a.2.1.length - s.toNat) (fun s => ∃ k : Nat, s = k ∧ k ≤ a.2.1.length) _ _ ⟨0, rfl, by omega⟩ (fun s hs => ?_)) (fun t ht => Evt.pure rfl) (fun r hr => hr.elim)
      obtain ⟨k, rfl, hk⟩ := hs
      have hw1 : wr .i64 ((k : Int) + 1) = ((k + 1 : Nat) : Int) := by rw [Zc (by omega) (by omega)]; omega
      unfold Yf
      simp only [hw1, Int.toNat_natCast]
      refine Evt.cond (fun e2 => ?_) (fun _ => Evt.pure trivial)
      replace e2 := bx e2
      refine Evt.chk (by omega) (Evt.bind (i7C hg hc (k := k) (by omega)) fun v hv => ?_)
      have hk2 : Am.get a.2.1 k = v := by rw [hv]; exact w4 k (by omega)
      refine Evt.cond (fun e3 => ?_) (fun _ => Evt.pure ⟨⟨k + 1, rfl, by omega⟩, by omega⟩)
      simp [hk2] at e3
end Go.Proofs.YtgaeiccgdpnkkaaGreatDoor
