import Derived.Lib.Mul64
import Derived.Test.YtgaeiccgdpnkkaaGreatDoorPLaw2
set_option linter.unusedVariables false
set_option linter.unusedSimpArgs false
namespace Go.Proofs.YtgaeiccgdpnkkaaGreatDoor
open Go Go.Am
abbrev Wd := Yf
def WV (w : Wd) (v : Nat) : Prop := ∃ h l : Nat, w.hi = h ∧ w.lo = l ∧ h < 18446744073709551616 ∧ l < 18446744073709551616 ∧ v = h * 18446744073709551616 + l
theorem wu {x : Nat} (h : x < 18446744073709551616) : wr .u64 (x : Int) = x := d5i h
theorem inU {x : Nat} (h : x < 18446744073709551616) : InK .u64 (x : Int) := by
 have e1 : IntKind.u64.min = 0 := by decide
 have e2 : IntKind.u64.max = 18446744073709551615 := by decide
 exact ⟨by omega, by omega⟩
theorem p3a (a b : Nat) : Int.tdiv (a : Int) (b : Int) = ((a / b : Nat) : Int) := (Int.ofNat_tdiv a b).symm
theorem r1i (a b : Nat) : Int.tmod (a : Int) (b : Int) = ((a % b : Nat) : Int) := (Int.ofNat_tmod a b).symm
theorem p6N (a : Nat) : Int.tdiv (a : Int) 2 = ((a / 2 : Nat) : Int) := p3a a 2
theorem p3b (a : Nat) : Int.tmod (a : Int) 2 = ((a % 2 : Nat) : Int) := r1i a 2
theorem i7i (x : Int) : wr .u64 x = x % 18446744073709551616 := by
 have e1 : IntKind.u64.min = 0 := by decide
 unfold wr IntKind.wrap
 simp [IntKind.bits, IntKind.signed]
theorem WV.lt {w : Wd} {v : Nat} (h : WV w v) : v < 340282366920938463463374607431768211456 := by
 obtain ⟨a, b, _, _, h1, h2, h3⟩ := h
 omega
theorem WV.of {h l : Nat} (h1 : h < 18446744073709551616) (h2 : l < 18446744073709551616) : WV ⟨(h : Int), (l : Int)⟩ (h * 18446744073709551616 + l) := ⟨h, l, rfl, rfl, h1, h2, rfl⟩
theorem WV.small {l : Nat} (h2 : l < 18446744073709551616) : WV ⟨0, (l : Int)⟩ l := ⟨0, l, rfl, rfl, by omega, h2, by omega⟩
theorem WV.ext {w : Wd} {v : Nat} (h : WV ⟨w.hi, w.lo⟩ v) : WV w v := h
theorem i7j {w : Wd} {v : Nat} (h : WV w v) : Evt (fun _ => ZI w) (fun r => WV r (v / 2)) := by
 obtain ⟨a, b, e1, e2, h1, h2, rfl⟩ := h
 unfold ZI
 rw [e1, e2, p6N, p6N, p3b]
 have e3 : min 63 64 = 63 := by decide
 have e4 : (((a % 2 : Nat) : Int) * 2 ^ (min 63 64)) = ((a % 2 * 9223372036854775808 : Nat) : Int) := by rw [e3]; omega
 rw [e4, wu (by omega)]
 have e5 : (((b / 2 : Nat) : Int) + ((a % 2 * 9223372036854775808 : Nat) : Int)) = ((b / 2 + a % 2 * 9223372036854775808 : Nat) : Int) := by omega
 rw [e5, wu (by omega)]
 refine Evt.chk (inU (by omega)) (Evt.chk (inU (by omega)) (Evt.pure ⟨_, _, rfl, rfl, by omega, by omega, by omega⟩))
theorem i7k {w x : Wd} {v u : Nat} (h : WV w v) (k : WV x u) : Evt (fun _ => Zs w x) (fun r => r = decide (v < u)) := by
 obtain ⟨a, b, e1, e2, h1, h2, rfl⟩ := h
 obtain ⟨c, d, k1, k2, h3, h4, rfl⟩ := k
 unfold Zs
 rw [e1, e2, k1, k2]
 refine Evt.pure ?_
 by_cases g1 : a < c
 ·have : (a : Int) < c := by omega
  rw [decide_eq_true this, decide_eq_true (show a * 18446744073709551616 + b < c * 18446744073709551616 + d by omega)]; rfl
 ·have : ¬ (a : Int) < c := by omega
  rw [decide_eq_false this]
  by_cases g2 : a = c
  ·subst g2
   rw [decide_eq_true rfl]
   by_cases g3 : b < d
   ·rw [decide_eq_true (show (b : Int) < d by omega), decide_eq_true (show a * 18446744073709551616 + b < a * 18446744073709551616 + d by omega)]; rfl
   ·rw [decide_eq_false (show ¬ (b : Int) < d by omega), decide_eq_false (show ¬ a * 18446744073709551616 + b < a * 18446744073709551616 + d by omega)]; rfl
  ·rw [decide_eq_false (show ¬ (a : Int) = c by omega), decide_eq_false (show ¬ a * 18446744073709551616 + b < c * 18446744073709551616 + d by omega)]; rfl
theorem p3c {w x : Wd} {v u : Nat} (h : WV w v) (k : WV x u) (hle : u ≤ v) : Evt (fun _ => ZA w x) (fun r => WV r (v - u)) := by
 obtain ⟨a, b, e1, e2, h1, h2, rfl⟩ := h
 obtain ⟨c, d, k1, k2, h3, h4, rfl⟩ := k
 unfold ZA
 rw [e1, e2, k1, k2]
 refine Evt.cond (fun e => Evt.pure ?_) (fun e => Evt.pure ?_)
 ·replace e := bx e
  simp only [i7i]
  refine ⟨a - c - 1, b + 18446744073709551616 - d, ?_, ?_, by omega, by omega, by omega⟩ <;> show _ = _ <;> simp only [] <;> omega
 ·replace e := bx e
  simp only [i7i]
  refine ⟨a - c, b - d, ?_, ?_, by omega, by omega, by omega⟩ <;> show _ = _ <;> simp only [] <;> omega
theorem p5u {w x : Wd} {v u : Nat} (h : WV w v) (k : WV x u) (hle : v + u < 340282366920938463463374607431768211456) : Evt (fun _ => d0p w x) (fun r => WV r (v + u)) := by
 obtain ⟨a, b, e1, e2, h1, h2, rfl⟩ := h
 obtain ⟨c, d, k1, k2, h3, h4, rfl⟩ := k
 unfold d0p
 rw [e1, e2, k1, k2]
 simp only [i7i]
 refine Evt.cond (fun e => Evt.pure ?_) (fun e => Evt.pure ?_)
 ·replace e := bx e
  refine ⟨a + c + 1, b + d - 18446744073709551616, ?_, ?_, by omega, by omega, by omega⟩ <;> show _ = _ <;> simp only [] <;> omega
 ·replace e := bx e
  refine ⟨a + c, b + d, ?_, ?_, by omega, by omega, by omega⟩ <;> show _ = _ <;> simp only [] <;> omega
theorem i3O {w : Wd} {v : Nat} (h : WV w v) (hle : 2 * v < 340282366920938463463374607431768211456) : Evt (fun _ => ZD w) (fun r => WV r (2 * v)) := by
 unfold ZD
 exact Evt.bind (p5u h h (by omega)) fun r hr => Evt.pure (by rw [Nat.two_mul]; exact hr)
theorem p6O {w : Wd} {v : Nat} (h : WV w v) : (decide (w.hi = 0) && (decide (w.lo = 0))) = decide (v = 0) := by
 obtain ⟨a, b, e1, e2, h1, h2, rfl⟩ := h
 rw [e1, e2]
 by_cases g : a = 0 ∧ b = 0
 ·obtain ⟨rfl, rfl⟩ := g; rfl
 ·rw [decide_eq_false (show ¬ a * 18446744073709551616 + b = 0 by omega)]
  by_cases g2 : a = 0
  ·rw [decide_eq_false (show ¬ (b : Int) = 0 by omega), Bool.and_false]
  ·rw [decide_eq_false (show ¬ (a : Int) = 0 by omega), Bool.false_and]
theorem i8o {w : Wd} {v : Nat} (h : WV w v) : Int.tmod w.lo 2 = 0 ↔ v % 2 = 0 := by
 obtain ⟨a, b, e1, e2, h1, h2, rfl⟩ := h
 rw [e2, p3b]
 omega
theorem p0y {a b : Nat} (ha : a % 2 = 0) (hb : b % 2 = 1) : Nat.gcd (a / 2) b = Nat.gcd a b := by
 have hc : Nat.Coprime 2 b := by
  unfold Nat.Coprime
  rw [Nat.gcd_rec, hb]
  rfl
 have := Nat.Coprime.gcd_mul_left_cancel (a / 2) hc
 rw [← this]
 congr 1
 omega
theorem p3d {a b : Nat} (ha : a % 2 = 0) (hb : b % 2 = 0) : 2 * Nat.gcd (a / 2) (b / 2) = Nat.gcd a b := by
 rw [← Nat.gcd_mul_left]
 congr 1 <;> omega
def wv (h l : Int) : Nat := h.toNat * 18446744073709551616 + l.toNat
theorem WV.val {h l : Int} {v : Nat} (k : WV ⟨h, l⟩ v) : wv h l = v := by
 obtain ⟨a, b, e1, e2, h1, h2, rfl⟩ := k
 have e1 : h = a := e1
 have e2 : l = b := e2
 subst e1 e2
 unfold wv
 rw [Int.toNat_natCast, Int.toNat_natCast]
structure G0 (v u : Nat) (t : Int × Int × Int × Int × Int) (a b c : Nat) : Prop where
 a_ : WV ⟨t.1, t.2.1⟩ a
 b_ : WV ⟨t.2.2.1, t.2.2.2.1⟩ b
 c_ : t.2.2.2.2 = (c : Int)
 pa : 0 < a
 pb : 0 < b
 va : a * 2 ^ c = v
 g : Nat.gcd v u = 2 ^ c * Nat.gcd a b
theorem i8p {a c : Nat} (ha : 0 < a) (h : a * 2 ^ c < 340282366920938463463374607431768211456) : c < 128 := by
 rcases Nat.lt_or_ge c 128 with h2 | h2
 ·exact h2
 ·exfalso
  have h3 : 2 ^ 128 ≤ 2 ^ c := Nat.pow_le_pow_right (by decide) h2
  have h4 : 1 * 2 ^ c ≤ a * 2 ^ c := Nat.mul_le_mul_right _ ha
  have h5 : (2 : Nat) ^ 128 = 340282366920938463463374607431768211456 := by decide
  omega
theorem p9o {v u : Nat} (hv : v < 340282366920938463463374607431768211456) {s : Int × Int × Int × Int × Int} {a b c : Nat} (h : G0 v u s a b c) :
  Evt (fun _ => d1a s) (i8z (fun t => (∃ a b c, G0 v u t a b c) ∧ wv t.1 t.2.1 < wv s.1 s.2.1) (fun t => ∃ a b c, G0 v u t a b c ∧ (a % 2 = 1 ∨ b % 2 = 1)) (fun _ => False)) := by
 have hc := i8p h.pa (by rw [h.va]; exact hv)
 unfold d1a
 refine Evt.cond (fun e => ?_) (fun e => ?_)
 ·have e1 : a % 2 = 0 := by
   rw [← i8o h.a_]
   cases h1 : decide (Int.tmod s.2.1 2 = 0) with
   | true => exact of_decide_eq_true h1
   | false => rw [h1] at e; cases e
  have e2 : b % 2 = 0 := by
   rw [← i8o h.b_]
   cases h1 : decide (Int.tmod s.2.1 2 = 0) with
   | true => rw [h1] at e; exact of_decide_eq_true e
   | false => rw [h1] at e; cases e
  refine Evt.bind (i7j h.a_) fun p hp => Evt.bind (i7j h.b_) fun q hq => Evt.pure ⟨⟨a / 2, b / 2, c + 1, hp, hq, ?_, by have := h.pa; omega, by have := h.pb; omega, ?_, ?_⟩, ?_⟩
  ·show wr .i64 (s.2.2.2.2 + 1) = _
   rw [h.c_, d0n (by omega) (by omega)]; omega
  ·have : a / 2 * 2 = a := by omega
   rw [Nat.pow_succ, Nat.mul_comm (2 ^ c) 2, ← Nat.mul_assoc, this]
   exact h.va
  ·rw [Nat.pow_succ, Nat.mul_assoc, p3d e1 e2]
   exact h.g
  ·show wv p.hi p.lo < _
   have := h.pa
   rw [WV.val (h := p.hi) (l := p.lo) hp, WV.val h.a_]
   omega
 ·refine Evt.pure ⟨a, b, c, ⟨h.a_, h.b_, h.c_, h.pa, h.pb, h.va, h.g⟩, ?_⟩
  rcases Nat.mod_two_eq_zero_or_one a with e1 | e1
  ·rcases Nat.mod_two_eq_zero_or_one b with e2 | e2
   ·exfalso
    rw [decide_eq_true ((i8o h.a_).2 e1), decide_eq_true ((i8o h.b_).2 e2)] at e
    cases e
   ·exact .inr e2
  ·exact .inl e1
theorem p9p {a b : Nat} {s : Int × Int} (h : WV ⟨s.1, s.2⟩ a) (ha : 0 < a) (ho : a % 2 = 1 ∨ b % 2 = 1) {G : Nat} (hg : Nat.gcd a b = G) :
  Evt (fun _ => d1b s) (i8z (fun t => (∃ a, WV ⟨t.1, t.2⟩ a ∧ 0 < a ∧ (a % 2 = 1 ∨ b % 2 = 1) ∧ Nat.gcd a b = G) ∧ wv t.1 t.2 < wv s.1 s.2) (fun t => ∃ a, WV ⟨t.1, t.2⟩ a ∧ 0 < a ∧ a % 2 = 1 ∧ Nat.gcd a b = G) (fun _ => False)) := by
 unfold d1b
 refine Evt.cond (fun e => ?_) (fun e => Evt.pure ?_)
 ·have e1 := (i8o h).1 (of_decide_eq_true e)
  have hb : b % 2 = 1 := by omega
  refine Evt.bind (i7j h) fun p hp => Evt.pure ⟨⟨a / 2, hp, by omega, .inr hb, by rw [p0y e1 hb]; exact hg⟩, ?_⟩
  show wv p.hi p.lo < _
  rw [WV.val (h := p.hi) (l := p.lo) hp, WV.val h]
  omega
 ·have e1 : ¬ a % 2 = 0 := fun h2 => (of_decide_eq_false e) ((i8o h).2 h2)
  exact ⟨a, h, ha, by omega, hg⟩
theorem p9q {a b : Nat} {s : Int × Int} (h : WV ⟨s.1, s.2⟩ b) (hb : 0 < b) (ha : a % 2 = 1) {G M : Nat} (hM : b ≤ M) (hg : Nat.gcd a b = G) :
  Evt (fun _ => d1c s) (i8z (fun t => (∃ b, WV ⟨t.1, t.2⟩ b ∧ 0 < b ∧ b ≤ M ∧ Nat.gcd a b = G) ∧ wv t.1 t.2 < wv s.1 s.2) (fun t => ∃ b, WV ⟨t.1, t.2⟩ b ∧ 0 < b ∧ b ≤ M ∧ b % 2 = 1 ∧ Nat.gcd a b = G) (fun _ => False)) := by
 unfold d1c
 refine Evt.cond (fun e => ?_) (fun e => Evt.pure ?_)
 ·have e1 := (i8o h).1 (of_decide_eq_true e)
  refine Evt.bind (i7j h) fun p hp => Evt.pure ⟨⟨b / 2, hp, by omega, by omega, by rw [Nat.gcd_comm, p0y e1 ha, Nat.gcd_comm]; exact hg⟩, ?_⟩
  show wv p.hi p.lo < _
  rw [WV.val (h := p.hi) (l := p.lo) hp, WV.val h]
  omega
 ·have e1 : ¬ b % 2 = 0 := fun h2 => (of_decide_eq_false e) ((i8o h).2 h2)
  exact ⟨b, h, hb, hM, by omega, hg⟩
structure G2 (G : Nat) (t : Int × Int × Int × Int) (a b : Nat) : Prop where
 a_ : WV ⟨t.1, t.2.1⟩ a
 b_ : WV ⟨t.2.2.1, t.2.2.2⟩ b
 odd : a % 2 = 1
 g : Nat.gcd a b = G
theorem p9r {G : Nat} {s : Int × Int × Int × Int} {a b : Nat} (h : G2 G s a b) :
  Evt (fun n => d1d n s) (i8z (fun t => (∃ a b, G2 G t a b) ∧ wv t.1 t.2.1 + wv t.2.2.1 t.2.2.2 < wv s.1 s.2.1 + wv s.2.2.1 s.2.2.2) (fun t => WV ⟨t.1, t.2⟩ G) (fun _ => False)) := by
 have hz := p6O h.b_
 simp only at hz
 unfold d1d
 rw [hz]
 refine Evt.cond (fun e => ?_) (fun e => Evt.pure ?_)
 ·replace e := bx e
  refine Evt.YN (P := ExP (fun t : Int × Int => ∃ c, WV ⟨t.1, t.2⟩ c ∧ 0 < c ∧ c ≤ b ∧ c % 2 = 1 ∧ Nat.gcd a c = G) (fun _ => False)) (Evt.loop (fun s : Int × Int => wv s.1 s.2) (fun t => ∃ c, WV ⟨t.1, t.2⟩ c ∧ 0 < c ∧ c ≤ b ∧ Nat.gcd a c = G) _ _ ⟨b, h.b_, by omega, Nat.le_refl _, h.g⟩ (fun s hs => ?_)) (fun t ht => ?_) (fun r hr => hr.elim)
  ·obtain ⟨c, h1, h2, h3, h4⟩ := hs
   exact p9q h1 h2 h.odd h3 h4
  ·obtain ⟨c, h1, h2, h3, h4, h5⟩ := ht
   have ha := h.odd
   unfold d2p
   refine Evt.bind (i7k h1 h.a_) fun b1 hb1 => ?_
   subst hb1
   refine Evt.cond (fun e2 => ?_) (fun e2 => ?_)
   ·have e2 := of_decide_eq_true e2
    refine Evt.bind (p3c h.a_ h1 (by omega)) fun r hr => Evt.pure ⟨⟨c, a - c, h1, hr, h4, ?_⟩, ?_⟩
    ·rw [Nat.gcd_sub_self_right (by omega), Nat.gcd_comm]; exact h5
    ·show wv t.1 t.2 + wv r.hi r.lo < _
     rw [WV.val h1, WV.val (h := r.hi) (l := r.lo) hr, WV.val h.a_, WV.val h.b_]
     omega
   ·have e2 := of_decide_eq_false e2
    refine Evt.bind (p3c h1 h.a_ (by omega)) fun r hr => Evt.pure ⟨⟨a, c - a, h.a_, hr, ha, ?_⟩, ?_⟩
    ·rw [Nat.gcd_sub_self_right (by omega)]; exact h5
    ·show wv s.1 s.2.1 + wv r.hi r.lo < _
     rw [WV.val (h := r.hi) (l := r.lo) hr, WV.val h.a_, WV.val h.b_]
     omega
 ·replace e := bx e
  have hg := h.g
  rw [e, Nat.gcd_zero_right] at hg
  rw [← hg]
  exact h.a_
theorem p5v {w x : Wd} {v u : Nat} (h : WV w v) (k : WV x u) : Evt (fun n => d0q n w x) (fun r => WV r (Nat.gcd v u)) := by
 unfold d0q
 rw [p6O h, p6O k]
 refine Evt.cond (fun e => Evt.pure ?_) (fun e => Evt.cond (fun e2 => Evt.pure ?_) (fun e2 => ?_))
 ·replace e := bx e
  subst e
  rw [Nat.gcd_zero_left]; exact k
 ·replace e2 := bx e2
  subst e2
  rw [Nat.gcd_zero_right]; exact h
 replace e := bx e; replace e2 := bx e2
 have hG := h.lt
 have r5d : Nat.gcd v u ≤ v := Nat.gcd_le_left _ (by omega)
 refine Evt.YN (P := ExP (fun t : Int × Int × Int × Int × Int => ∃ a b c, G0 v u t a b c ∧ (a % 2 = 1 ∨ b % 2 = 1)) (fun _ => False)) (Evt.loop (fun s : Int × Int × Int × Int × Int => wv s.1 s.2.1) (fun t => ∃ a b c, G0 v u t a b c) _ _ ⟨v, u, 0, h, k, rfl, by omega, by omega, by omega, by omega⟩ (fun s hs => ?_)) (fun t ht => ?_) (fun r hr => hr.elim)
 ·obtain ⟨a, b, c, hs⟩ := hs
  exact p9o hG hs
 obtain ⟨a, b, c, hs, r2W⟩ := ht
 have hc := i8p hs.pa (by rw [hs.va]; exact hG)
 unfold d2q
 refine Evt.YN (P := ExP (fun t : Int × Int => ∃ d, WV ⟨t.1, t.2⟩ d ∧ 0 < d ∧ d % 2 = 1 ∧ Nat.gcd d b = Nat.gcd a b) (fun _ => False)) (Evt.loop (fun s : Int × Int => wv s.1 s.2) (fun t => ∃ d, WV ⟨t.1, t.2⟩ d ∧ 0 < d ∧ (d % 2 = 1 ∨ b % 2 = 1) ∧ Nat.gcd d b = Nat.gcd a b) _ _ ⟨a, hs.a_, hs.pa, r2W, rfl⟩ (fun s hs => ?_)) (fun q hq => ?_) (fun r hr => hr.elim)
 ·obtain ⟨d, h1, h2, h3, h4⟩ := hs
  exact p9p h1 h2 h3 h4
 obtain ⟨d, h1, h2, h3, h4⟩ := hq
 unfold d2r
 refine Evt.YN (P := ExP (fun t : Int × Int => WV ⟨t.1, t.2⟩ (Nat.gcd a b)) (fun _ => False)) (Evt.loop (fun s : Int × Int × Int × Int => wv s.1 s.2.1 + wv s.2.2.1 s.2.2.2) (fun t => ∃ x y, G2 (Nat.gcd a b) t x y) _ _ ⟨d, b, h1, hs.b_, h3, h4⟩ (fun s hs => ?_)) (fun p hp => ?_) (fun r hr => hr.elim)
 ·obtain ⟨x, y, hs⟩ := hs
  exact p9r hs
 have hp : WV ⟨p.1, p.2⟩ (Nat.gcd a b) := hp
 have hgg := hs.g
 unfold d2s
 refine Evt.YN (P := ExP (fun t : Int × Int => WV ⟨t.1, t.2⟩ (Nat.gcd v u)) (fun _ => False)) (Evt.loop (fun s : Int × Int × Int => c - s.2.2.toNat) (fun s => ∃ j : Nat, s.2.2 = j ∧ j ≤ c ∧ WV ⟨s.1, s.2.1⟩ (2 ^ j * Nat.gcd a b)) _ _ ⟨0, rfl, by omega, by rw [Nat.pow_zero, Nat.one_mul]; exact hp⟩ (fun s hs2 => ?_)) (fun t ht => Evt.pure ht) (fun r hr => hr.elim)
 obtain ⟨j, j1, j2, j3⟩ := hs2
 unfold d2t
 rw [hs.c_, j1]
 refine Evt.cond (fun e3 => ?_) (fun e3 => Evt.pure ?_)
 ·replace e3 := bx e3
  have r1O : 2 * (2 ^ j * Nat.gcd a b) = 2 ^ (j + 1) * Nat.gcd a b := by rw [Nat.pow_succ, Nat.mul_comm (2 ^ j) 2, Nat.mul_assoc]
  have hle : 2 ^ (j + 1) * Nat.gcd a b ≤ 2 ^ c * Nat.gcd a b := Nat.mul_le_mul_right _ (Nat.pow_le_pow_right (by decide) (by omega))
  refine Evt.bind (i3O j3 (by rw [r1O]; omega)) fun r hr => Evt.pure ⟨⟨j + 1, ?_, by omega, by rw [← r1O]; exact hr⟩, ?_⟩
  ·show wr .i64 ((j : Int) + 1) = _
   rw [d0n (by omega) (by omega)]; omega
  ·show c - (wr .i64 ((j : Int) + 1)).toNat < c - (j : Int).toNat
   rw [d0n (by omega) (by omega)]; omega
 ·replace e3 := bx e3
  have : j = c := by omega
  subst this
  rw [hgg]
  exact j3
theorem p9s {w x : Wd} {v u : Nat} (h : WV w v) (k : WV x u) (hu0 : 0 < u) (hu : u < 170141183460469231731687303715884105728) {s : Int × Int × Int × Int × Int} {i : Nat} (hi : i < 128) (e : s.2.2.2.2 = (i : Int)) (hq : WV ⟨s.1, s.2.1⟩ (v / 2 ^ (i + 1) / u)) (hr : WV ⟨s.2.2.1, s.2.2.2.1⟩ (v / 2 ^ (i + 1) % u)) :
  Evt (fun _ => d0f x w s) (i8z (fun t => t.2.2.2.2 = (i : Int) - 1 ∧ WV ⟨t.1, t.2.1⟩ (v / 2 ^ i / u) ∧ WV ⟨t.2.2.1, t.2.2.2.1⟩ (v / 2 ^ i % u)) (fun _ => False) (fun _ => False)) := by
 have hv := h.lt
 have hstep : v / 2 ^ (i + 1) = v / 2 ^ i / 2 := by rw [Nat.pow_succ, Nat.div_div_eq_div_mul]
 rw [hstep] at hq hr
 have hyv : v / 2 ^ i ≤ v := Nat.div_le_self _ _
 -- the digit
 have bit : ∀ j2 : Int, j2 = ((v / 2 ^ i % 2 : Nat) : Int) → ∀ v6 : Wd, WV v6 (2 * (v / 2 ^ i / 2 % u)) → Evt (fun _ => d0g s v6 x j2) (i8z (fun t => t.2.2.2.2 = (i : Int) - 1 ∧ WV ⟨t.1, t.2.1⟩ (v / 2 ^ i / u) ∧ WV ⟨t.2.2.1, t.2.2.2.1⟩ (v / 2 ^ i % u)) (fun _ => False) (fun _ => False)) := fun j2 hj v6 h6 => by
  subst hj
  generalize v / 2 ^ i = y at *
  have hw : wr .i64 ((i : Int) - 1) = (i : Int) - 1 := d0n (by omega) (by omega)
  have hmod : y / 2 % u < u := Nat.mod_lt _ hu0
  have hdm := Nat.div_add_mod (y / 2) u
  have r5e : y / 2 / u ≤ y / 2 := Nat.div_le_self _ _
  have h7 : WV ⟨v6.hi, wr .u64 (v6.lo + ((y % 2 : Nat) : Int))⟩ (2 * (y / 2 % u) + y % 2) := by
   obtain ⟨a, b, e1, e2, h1, h2, h3⟩ := h6
   refine ⟨a, b + y % 2, e1, ?_, h1, by omega, by omega⟩
   show wr .u64 (v6.lo + ((y % 2 : Nat) : Int)) = _
   rw [e2, ← Int.natCast_add]
   exact wu (by omega)
  unfold d0g
  refine Evt.bind (i3O hq (by omega)) fun v9 h9 => Evt.bind (i7k h7 k) fun b hb => ?_
  subst hb
  have hy : y = u * (2 * (y / 2 / u)) + (2 * (y / 2 % u) + y % 2) := by
   have : u * (2 * (y / 2 / u)) = 2 * (u * (y / 2 / u)) := by rw [Nat.mul_left_comm]
   omega
  refine Evt.cond (fun e2 => ?_) (fun e2 => Evt.pure ?_)
  ·replace e2 := bx e2
   have d1 : y / u = 2 * (y / 2 / u) + 1 ∧ y % u = 2 * (y / 2 % u) + y % 2 - u := by
    have hy2 : y = (2 * (y / 2 % u) + y % 2 - u) + u * (2 * (y / 2 / u) + 1) := by
     rw [Nat.mul_add, Nat.mul_one]; omega
    have h5 : 2 * (y / 2 % u) + y % 2 - u < u := by omega
    constructor
    ·rw [hy2, Nat.add_mul_div_left _ _ hu0, Nat.div_eq_of_lt h5, Nat.zero_add]
     rw [← hy2]
    ·rw [hy2, Nat.add_mul_mod_self_left, Nat.mod_eq_of_lt h5]
     rw [← hy2]
   refine Evt.bind (p3c h7 k e2) fun r hr2 => Evt.pure ⟨by show wr .i64 (s.2.2.2.2 - 1) = _; rw [e, hw], ?_, by rw [d1.2]; exact hr2⟩
   rw [d1.1]
   obtain ⟨a, b, e1, e2, h1, h2, h3⟩ := h9
   refine ⟨a, b + 1, e1, ?_, h1, by omega, by omega⟩
   show wr .u64 (v9.lo + 1) = _
   rw [e2, show ((b : Int) + 1) = ((b + 1 : Nat) : Int) by omega]
   exact wu (by omega)
  ·replace e2 := bx e2
   have d1 : y / u = 2 * (y / 2 / u) ∧ y % u = 2 * (y / 2 % u) + y % 2 := by
    have hy2 : y = (2 * (y / 2 % u) + y % 2) + u * (2 * (y / 2 / u)) := by omega
    constructor
    ·rw [hy2, Nat.add_mul_div_left _ _ hu0, Nat.div_eq_of_lt e2, Nat.zero_add]
     rw [← hy2]
    ·rw [hy2, Nat.add_mul_mod_self_left, Nat.mod_eq_of_lt e2]
     rw [← hy2]
   exact ⟨by show wr .i64 (s.2.2.2.2 - 1) = _; rw [e, hw], by rw [d1.1]; exact h9, by rw [d1.2]; exact h7⟩
 have r5f : v / 2 ^ i / 2 % u < u := Nat.mod_lt _ hu0
 unfold d0f
 rw [e]
 refine Evt.cond (fun _ => Evt.bind (i3O hr (by omega)) fun v6 h6 => Evt.cond (fun e2 => ?_) (fun e2 => ?_)) (fun e2 => ?_)
 ·replace e2 := bx e2
  have hw : wr .i64 ((i : Int) - 64) = ((i - 64 : Nat) : Int) := by rw [d0n (by omega) (by omega)]; omega
  rw [hw, Int.toNat_natCast]
  refine Evt.chk (by omega) (bit _ ?_ v6 h6)
  obtain ⟨a, b, e1, e3, h1, h2, rfl⟩ := h
  have hm : min (i - 64) 64 = i - 64 := by omega
  rw [e1, hm, Int.fdiv_eq_ediv_of_nonneg _ (Int.pow_nonneg (by decide))]
  have e5 : ((2 : Int) ^ (i - 64)) = ((2 ^ (i - 64) : Nat) : Int) := by simp
  rw [e5, ← Int.natCast_ediv, p3b]
  have e6 : (a * 18446744073709551616 + b) / 2 ^ i = a / 2 ^ (i - 64) := by
   have : 2 ^ i = 18446744073709551616 * 2 ^ (i - 64) := by
    rw [show (18446744073709551616 : Nat) = 2 ^ 64 by decide, ← Nat.pow_add]; congr 1; omega
   rw [this, ← Nat.div_div_eq_div_mul]
   congr 1
   omega
  rw [e6]
 ·replace e2 := bx e2
  refine Evt.chk (by omega) (bit _ ?_ v6 h6)
  obtain ⟨a, b, e1, e3, h1, h2, rfl⟩ := h
  have hm : min i 64 = i := by omega
  rw [Int.toNat_natCast, e3, hm, Int.fdiv_eq_ediv_of_nonneg _ (Int.pow_nonneg (by decide))]
  have e5 : ((2 : Int) ^ i) = ((2 ^ i : Nat) : Int) := by simp
  rw [e5, ← Int.natCast_ediv, p3b]
  have e6 : (a * 18446744073709551616 + b) / 2 ^ i = b / 2 ^ i + a * 2 ^ (63 - i) * 2 := by
   have : a * 18446744073709551616 = 2 ^ i * (a * 2 ^ (63 - i) * 2) := by
    have h3 : 2 ^ i * (2 ^ (63 - i) * 2) = 18446744073709551616 := by
     rw [← Nat.pow_succ, ← Nat.pow_add, show i + (63 - i).succ = 64 by omega]
    rw [← h3, Nat.mul_assoc a, Nat.mul_left_comm]
   rw [this, Nat.add_comm, Nat.add_mul_div_left _ _ (Nat.pow_pos (by decide))]
  rw [e6, Nat.add_mul_mod_self_right]
 ·replace e2 := bx e2
  have : ¬ (0 : Int) ≤ (i : Int) := by omega
  omega
theorem p5w {w x : Wd} {v u : Nat} (h : WV w v) (k : WV x u) (hu0 : 0 < u) (hu : u < 170141183460469231731687303715884105728) : Evt (fun n => d0T n w x) (fun r => WV r (v / u)) := by
  have hv := h.lt
  unfold d0T
  refine Evt.YN (P := ExP (fun t : Int × Int => WV ⟨t.1, t.2⟩ (v / u)) (fun _ => False)) (Evt.loop (fun s : Int × Int × Int × Int × Int => (s.2.2.2.2 + 1).toNat) (fun s => ∃ i : Nat, i ≤ 128 ∧ s.2.2.2.2 = (i : Int) - 1 ∧ WV ⟨s.1, s.2.1⟩ (v / 2 ^ i / u) ∧ WV ⟨s.2.2.1, s.2.2.2.1⟩ (v / 2 ^ i % u)) _ _ ⟨128, by omega, rfl, ?_, ?_⟩ (fun s hs => ?_)) (fun t ht => Evt.pure ht) (fun r hr => hr.elim)
  · have : v / 2 ^ 128 = 0 := Nat.div_eq_of_lt (by have : (2 : Nat) ^ 128 = 340282366920938463463374607431768211456 := by decide
                                                   omega)
    rw [this, Nat.zero_div]
    exact WV.small (l := 0) (by omega)
  · have : v / 2 ^ 128 = 0 := Nat.div_eq_of_lt (by have : (2 : Nat) ^ 128 = 340282366920938463463374607431768211456 := by decide
                                                   omega)
    rw [this, Nat.zero_mod]
    exact WV.small (l := 0) (by omega)
  · obtain ⟨i, hi, e, hq, hr⟩ := hs
    match i, hi, e, hq, hr with
    | 0, hi, e, hq, hr =>
      unfold d0f
      refine Evt.cond (fun e2 => ?_) (fun e2 => Evt.pure ?_)
      · replace e2 := bx e2
        omega
      · rw [Nat.pow_zero, Nat.div_one] at hq
        exact hq
    | i + 1, hi, e, hq, hr =>
      refine (p9s h k hu0 hu (by omega) (by rw [e]; omega) hq hr).mono fun c hc => ?_
      cases c with
      | nxt t => exact ⟨⟨i, by omega, hc.1, hc.2.1, hc.2.2⟩, by rw [hc.1, e]; omega⟩
      | brk t => exact hc.elim
      | ret r => exact hc.elim
structure M0 (a b j : Nat) (s : Int × Int × Int × Int × Int) : Prop where
 o : WV ⟨s.1, s.2.1⟩ (a * (b % 2 ^ j))
 y : WV ⟨s.2.2.1, s.2.2.2.1⟩ (a * 2 ^ j)
 c : s.2.2.2.2 = ((b / 2 ^ j : Nat) : Int)
theorem p9t {a b j : Nat} (ha : a < 18446744073709551616) (hb : b < 18446744073709551616) {s : Int × Int × Int × Int × Int} (h : M0 a b j s) :
  Evt (fun _ => d1e s) (i8z (fun s' => M0 a b (j + 1) s' ∧ s'.2.2.2.2.toNat < s.2.2.2.2.toNat) (fun t => WV ⟨t.1, t.2⟩ (a * b)) (fun _ => False)) := by
 have hab : a * b ≤ 18446744073709551615 * 18446744073709551615 := Nat.mul_le_mul (by omega) (by omega)
 have hms := Nat.mod_pow_succ (x := b) (b := 2) (k := j)
 have hdm := Nat.div_add_mod b (2 ^ j)
 have step : ∀ j2 : Int × Int, WV ⟨j2.1, j2.2⟩ (a * (b % 2 ^ (j + 1))) → 0 < b / 2 ^ j → Evt (fun _ => d0h s j2) (i8z (fun s' => M0 a b (j + 1) s' ∧ s'.2.2.2.2.toNat < s.2.2.2.2.toNat) (fun t => WV ⟨t.1, t.2⟩ (a * b)) (fun _ => False)) := fun j2 h2 hc => by
  have hjb : 2 ^ j ≤ b := by
   rcases Nat.lt_or_ge b (2 ^ j) with h | h
   ·rw [Nat.div_eq_of_lt h] at hc; omega
   ·exact h
  have hj : j ≤ 63 := by
   rcases Nat.lt_or_ge j 64 with h | h
   ·omega
   ·have h3 : 2 ^ 64 ≤ 2 ^ j := Nat.pow_le_pow_right (by decide) h
    have h4 : (2 : Nat) ^ 64 = 18446744073709551616 := by decide
    omega
  have h5 : 2 ^ j ≤ 2 ^ 63 := Nat.pow_le_pow_right (by decide) hj
  have h6 : (2 : Nat) ^ 63 = 9223372036854775808 := by decide
  have h7 := Nat.mul_le_mul (show a ≤ 18446744073709551615 by omega) (show 2 ^ j ≤ 9223372036854775808 by omega)
  have h8 : 2 * (a * 2 ^ j) = a * 2 ^ (j + 1) := by rw [Nat.pow_succ, Nat.mul_comm (2 ^ j) 2, Nat.mul_left_comm]
  have h9 : b / 2 ^ (j + 1) = b / 2 ^ j / 2 := by rw [Nat.pow_succ, Nat.div_div_eq_div_mul]
  have h10 : b / 2 ^ j ≤ b := Nat.div_le_self _ _
  unfold d0h
  rw [h.c, p6N]
  refine Evt.bind (i3O h.y (by omega)) fun v5 h5 => Evt.chk (inU (by omega)) (Evt.pure ⟨⟨h2, by rw [← h8]; exact h5, by rw [h9]⟩, ?_⟩)
  show (((b / 2 ^ j / 2 : Nat) : Int)).toNat < ((b / 2 ^ j : Nat) : Int).toNat
  omega
 unfold d1e
 rw [h.c] at step
 rw [h.c, p3b]
 refine Evt.cond (fun e => Evt.cond (fun e2 => ?_) (fun e2 => ?_)) (fun e => Evt.pure ?_)
 ·replace e := bx e; replace e2 := bx e2
  have e3 : b / 2 ^ j % 2 = 1 := by generalize b / 2 ^ j = x at e2; omega
  rw [e3, Nat.mul_one] at hms
  have p9Y : a * (b % 2 ^ j) + a * 2 ^ j = a * (b % 2 ^ (j + 1)) := by rw [hms, Nat.mul_add]
  have hle : a * (b % 2 ^ (j + 1)) ≤ a * b := Nat.mul_le_mul_left _ (Nat.mod_le _ _)
  exact Evt.bind (p5u h.o h.y (by omega)) fun v4 h4 => step (v4.hi, v4.lo) (by rw [← p9Y]; exact h4) (by generalize b / 2 ^ j = x at e; omega)
 ·replace e := bx e; replace e2 := bx e2
  have e3 : b / 2 ^ j % 2 = 0 := by generalize b / 2 ^ j = x at e2; omega
  rw [e3, Nat.mul_zero, Nat.add_zero] at hms
  exact step (s.1, s.2.1) (by rw [hms]; exact h.o) (by generalize b / 2 ^ j = x at e; omega)
 ·replace e := bx e
  have e3 : b / 2 ^ j = 0 := by generalize b / 2 ^ j = x at e; omega
  rw [e3, Nat.mul_zero, Nat.zero_add] at hdm
  have := h.o
  rw [hdm] at this
  exact this
theorem p5x {a b : Nat} (ha : a < 18446744073709551616) (hb : b < 18446744073709551616) : Evt (fun n => YZ n a b) (fun r => WV r (a * b)) := by
 unfold YZ
 refine Evt.YN (P := ExP (fun t : Int × Int => WV ⟨t.1, t.2⟩ (a * b)) (fun _ => False)) (Evt.loop (fun s : Int × Int × Int × Int × Int => s.2.2.2.2.toNat) (fun s => ∃ j, M0 a b j s) _ _ ⟨0, by rw [Nat.pow_zero, Nat.mod_one, Nat.mul_zero]; exact WV.small (l := 0) (by omega), by rw [Nat.pow_zero, Nat.mul_one]; exact WV.small ha, by rw [Nat.pow_zero, Nat.div_one]⟩ (fun s hs => ?_)) (fun t ht => Evt.pure ht) (fun r hr => hr.elim)
 obtain ⟨j, hs⟩ := hs
 refine (p9t ha hb hs).mono fun c hc => ?_
 cases c with
 | nxt t => exact ⟨⟨j + 1, hc.1⟩, hc.2⟩
 | brk t => exact hc
 | ret r => exact hc.elim
def i3e (neg : Bool) (n d : Nat) : Ym × Yg :=
 if 1152921504606846976 < n / Nat.gcd n d ∨ 1152921504606846976 < d / Nat.gcd n d then (⟨0, 0⟩, ⟨18, 0⟩) else (⟨if neg = true then -((n / Nat.gcd n d : Nat) : Int) else ((n / Nat.gcd n d : Nat) : Int), ((d / Nat.gcd n d : Nat) : Int)⟩, ⟨0, 0⟩)
theorem p3e {w : Wd} {v : Nat} (h : WV w v) (hv : v ≤ 1152921504606846976) : w.lo = (v : Int) := by
 obtain ⟨a, b, e1, e2, h1, h2, rfl⟩ := h
 rw [e2]
 omega
theorem i2p (neg : Bool) {w x : Wd} {n d : Nat} (h : WV w n) (k : WV x d) (hd : 0 < d) (hd2 : d < 170141183460469231731687303715884105728) : Evt (fun m => Zo m neg w x) (fun r => r = i3e neg n d) := by
 have hg0 : 0 < Nat.gcd n d := Nat.gcd_pos_of_pos_right _ hd
 have hg1 : Nat.gcd n d ≤ d := Nat.gcd_le_right _ hd
 have ht : WV (⟨0, 1152921504606846976⟩ : Wd) 1152921504606846976 := WV.small (l := 1152921504606846976) (by omega)
 unfold Zo
 refine Evt.bind (p5v h k) fun v1 h1 => Evt.bind (p5w h h1 hg0 (by omega)) fun v2 h2 => Evt.bind (p5w k h1 hg0 (by omega)) fun v3 h3 => Evt.bind (i7k ht h2) fun v4 h4 => ?_
 subst h4
 unfold i3e
 generalize n / Nat.gcd n d = p at *
 generalize d / Nat.gcd n d = q at *
 by_cases c1 : 1152921504606846976 < p
 ·simp only [c1, decide_true, Bool.not_true, i5D, Option.bind_some, cond_true, true_or, if_true]
  exact Evt.pure rfl
 ·simp only [c1, decide_false, Bool.not_false, i1m, cond_false, false_or]
  refine Evt.bind (i7k ht h3) fun v5 h5 => ?_
  subst h5
  by_cases c2 : 1152921504606846976 < q
  ·simp only [c2, decide_true, cond_true, if_true]
   exact Evt.pure rfl
  ·simp only [c2, decide_false, cond_false, if_false]
   rw [p3e h2 (by omega), p3e h3 (by omega), d0n (n := (p : Int)) (by omega) (by omega), d0n (n := (q : Int)) (by omega) (by omega)]
   refine Evt.cond (fun e => Evt.pure ?_) (fun e => Evt.pure ?_)
   ·rw [d0n (by omega) (by omega), if_pos e, Int.zero_sub]
   ·rw [if_neg (by simp [e])]
set_option maxRecDepth 1000000 in
theorem i5I (m : Nat) : d1f (m + 300) = some true := by kernel_rfl
theorem i5a : Evt d1f (fun b => b = true) := ⟨true, rfl, 300, fun n hn => by
 obtain ⟨m, rfl⟩ : ∃ m, n = m + 300 := ⟨n - 300, by omega⟩
 exact i5I m⟩
theorem i5b {α : Type} [Inhabited α] {l m : List α} {i : Nat} : Am.get (l ++ m) (l.length + i) = Am.get m i := by
 unfold Am.get
 rw [List.getD_eq_getElem?_getD, List.getD_eq_getElem?_getD, List.getElem?_append_right (by omega), Nat.add_sub_cancel_left]
def Good (x : Int) : Prop := 0 ≤ x ∧ x ≤ 1000000
def p4I (l : List Int) (f : Yg) : Prop := (f = ⟨0, 0⟩ ∧ ∀ k, k < l.length → Good (Am.get l k)) ∨ ∃ i : Nat, i < l.length ∧ f = ⟨3, (i : Int)⟩ ∧ ¬ Good (Am.get l i) ∧ ∀ k, k < i → Good (Am.get l k)
theorem p4I.uniq {l : List Int} {f g : Yg} (h : p4I l f) (k : p4I l g) : f = g := by
 rcases h with ⟨rfl, h⟩ | ⟨i, hi, rfl, h1, h2⟩ <;> rcases k with ⟨rfl, k⟩ | ⟨j, hj, rfl, k1, k2⟩
 ·rfl
 ·exact absurd (h j hj) k1
 ·exact absurd (k i hi) h1
 ·rcases Nat.lt_trichotomy i j with e | e | e
  ·exact absurd (k2 i e) h1
  ·rw [e]
  ·exact absurd (h2 j e) k1
theorem i8q (c : YH) (h : c.rules.length + c.Yy.length ≤ 1000) : Evt (fun _ => YN (Zi (d6K c) c.rules.length ()) (d6L c)) (p4I (c.rules ++ c.Yy)) := by
 refine Evt.YN (Evt.range (fun k _ => ∀ j, j < k → Good (Am.get (c.rules ++ c.Yy) j)) (fun _ => False) (p4I (c.rules ++ c.Yy)) (fun j hj => by omega) (fun k s hk hi => ?_)) (fun t ht => ?_) (fun r hr => hr)
 ·have hg : Am.get (c.rules ++ c.Yy) k = Am.get c.rules k := d6B hk
  unfold d6K d4L
  refine Evt.cond (fun e => Evt.bind (P := fun f => f = ⟨3, (k : Int)⟩) (Evt.pure rfl) fun f hf => Evt.pure ?_) (fun e => Evt.pure fun j hj => ?_)
  ·replace e := bx e
   subst hf
   exact .inr ⟨k, by rw [List.length_append]; omega, rfl, by rw [hg]; unfold Good; omega, hi⟩
  ·replace e := bx e
   by_cases ej : j = k
   ·subst ej; rw [hg]; unfold Good; omega
   ·exact hi j (by omega)
 ·have ht := ht.elim id False.elim
  unfold d6L
  refine Evt.YN (Evt.range (fun k _ => ∀ j, j < c.rules.length + k → Good (Am.get (c.rules ++ c.Yy) j)) (fun _ => False) (p4I (c.rules ++ c.Yy)) ht (fun k s hk hi => ?_)) (fun t ht => Evt.pure (.inl ⟨rfl, fun k hk => ?_⟩)) (fun r hr => hr)
  ·have hg : Am.get (c.rules ++ c.Yy) (c.rules.length + k) = Am.get c.Yy k := i5b
   unfold d7N d4L
   have hw : wr .i64 ((c.rules.length : Int) + (k : Int)) = ((c.rules.length + k : Nat) : Int) := by rw [d0n (by omega) (by omega)]; omega
   rw [hw]
   refine Evt.cond (fun e => Evt.bind (P := fun f => f = ⟨3, ((c.rules.length + k : Nat) : Int)⟩) (Evt.pure rfl) fun f hf => Evt.pure ?_) (fun e => Evt.pure fun j hj => ?_)
   ·replace e := bx e
    subst hf
    exact .inr ⟨c.rules.length + k, by rw [List.length_append]; omega, rfl, by rw [hg]; unfold Good; omega, hi⟩
   ·replace e := bx e
    by_cases ej : j = c.rules.length + k
    ·subst ej; rw [hg]; unfold Good; omega
    ·exact hi j (by omega)
  ·rw [List.length_append] at hk
   exact (ht.elim id False.elim) k hk
theorem i7l (c : YH) (h : c.rules.length + c.Yy.length ≤ 1000) : Evt (fun n => YN (d2e (d0a c) n 0) (d1o)) (p4I (c.rules ++ c.Yy)) := by
 have hw : wr .i64 ((c.rules.length : Int) + (c.Yy.length : Int)) = ((c.rules.length + c.Yy.length : Nat) : Int) := by rw [d0n (by omega) (by omega)]; omega
 refine Evt.YN (P := ExP (fun _ => ∀ k, k < c.rules.length + c.Yy.length → Good (Am.get (c.rules ++ c.Yy) k)) (p4I (c.rules ++ c.Yy))) (Evt.loop (fun s : Int => c.rules.length + c.Yy.length - s.toNat) (fun s => ∃ k : Nat, s = k ∧ k ≤ c.rules.length + c.Yy.length ∧ ∀ j, j < k → Good (Am.get (c.rules ++ c.Yy) j)) _ _ ⟨0, rfl, by omega, fun j hj => by omega⟩ (fun s hs => ?_)) (fun t ht => Evt.pure (.inl ⟨rfl, fun k hk => ht k (by rw [List.length_append] at hk; exact hk)⟩)) (fun r hr => hr)
 obtain ⟨k, rfl, hk, hi⟩ := hs
 have hw1 : wr .i64 ((k : Int) + 1) = ((k + 1 : Nat) : Int) := by rw [d0n (by omega) (by omega)]; omega
 have step : ∀ x : Int, x = Am.get (c.rules ++ c.Yy) k → k < c.rules.length + c.Yy.length → Evt (fun _ => ZH (k : Int) x) (i8z (fun s => (∃ k : Nat, s = k ∧ k ≤ c.rules.length + c.Yy.length ∧ ∀ j, j < k → Good (Am.get (c.rules ++ c.Yy) j)) ∧ c.rules.length + c.Yy.length - s.toNat < c.rules.length + c.Yy.length - (k : Int).toNat) (fun _ => ∀ k, k < c.rules.length + c.Yy.length → Good (Am.get (c.rules ++ c.Yy) k)) (p4I (c.rules ++ c.Yy))) := fun x hx hlt => by
  unfold ZH
  rw [hw1]
  refine Evt.cond (fun e => Evt.pure ?_) (fun e => Evt.pure ⟨⟨k + 1, rfl, by omega, fun j hj => ?_⟩, by omega⟩)
  ·replace e := bx e
   exact .inr ⟨k, by rw [List.length_append]; omega, rfl, by rw [← hx]; unfold Good; omega, hi⟩
  ·replace e := bx e
   by_cases ej : j = k
   ·subst ej; rw [← hx]; unfold Good; omega
   ·exact hi j (by omega)
 unfold d0a
 rw [hw]
 refine Evt.cond (fun e => Evt.cond (fun e2 => ?_) (fun e2 => ?_)) (fun e => Evt.pure ?_)
 ·replace e := bx e; replace e2 := bx e2
  rw [Int.toNat_natCast]
  exact Evt.chk (by omega) (step _ (d6B (by omega)).symm (by omega))
 ·replace e := bx e; replace e2 := bx e2
  have hw2 : wr .i64 ((k : Int) - (c.rules.length : Int)) = ((k - c.rules.length : Nat) : Int) := by rw [d0n (by omega) (by omega)]; omega
  rw [hw2, Int.toNat_natCast]
  refine Evt.chk (by omega) (step _ ?_ (by omega))
  have := i5b (l := c.rules) (m := c.Yy) (i := k - c.rules.length)
  rw [← this]
  congr 1
  omega
 ·replace e := bx e
  exact fun j hj => hi j (by omega)
theorem i5J {g : Yn} (hm : Holds g) (c : YH) : Ev2 (fun n => d9v n g c) (fun n => d0I n g c) (i1D (i1F g ∧ p3x g c 1000000)) := by
 unfold d9v d0I
 refine Ev2.bind (i1G hm) fun f f' hf => ?_
 obtain ⟨rfl, hf⟩ := hf
 refine Ev2.cond rfl (fun e => Ev2.pure ⟨rfl, fun h => ?_⟩) (fun e => ?_)
 ·replace e := bx e
  exact absurd h e
 replace e := bx e
 have hg := (hf e).2
 refine Ev2.cond rfl (fun _ => Ev2.d5E (A := fun f => f = ⟨9, -2⟩) (Evt.pure rfl) fun f hf => by subst hf; exact Ev2.pure (d1s (by decide))) (fun e2 => ?_)
 replace e2 := bx e2
 have g2 := hg.rules
 have g3 := hg.Yy
 have h1 : c.rules.length = g.rules.length := by omega
 have h2 : c.Yy.length = g.Yy.length := by omega
 refine (Ev2.both (i8q c (by omega)) (i7l c (by omega))).mono fun a b hab => ?_
 refine ⟨hab.1.uniq hab.2, fun h0 => ?_⟩
 rcases hab.1 with ⟨_, i4w⟩ | ⟨i, _, rfl, _⟩
 ·rw [List.length_append] at i4w
  refine ⟨hg, h1, h2, fun k hk => ?_, fun k hk => ?_⟩
  ·have := i4w k (by omega)
   rw [d6B (by omega)] at this
   exact this
  ·have := i4w (c.rules.length + k) (by omega)
   rw [i5b] at this
   exact this
 ·exact absurd (show (3 : Int) = 0 from h0) (by decide)
theorem i5c {g : Yn} (hg : i1F g) {k : Nat} (hk : k < g.rules.length) (x : Int) : Evt (fun _ => ZB g (k : Int) x) (fun v => v = d4k g k) := by
 obtain ⟨v, hm, ht, hc⟩ := i4W hg hk
 unfold ZB
 refine Evt.cond (fun e => ?_) (fun _ => ?_)
 ·replace e := bx e
  omega
 rw [Int.toNat_natCast]
 refine Evt.chk (by omega) (Evt.bind (p1k (hg.rule k hk).graph hm) fun u hu => ?_)
 subst hu
 exact Evt.chk ⟨hm.2.1, hm.2.2⟩ (Evt.pure ht)
theorem i5d {g : Yn} (hg : i1F g) {k : Nat} (hk : k < g.Yy.length) : Evt (fun _ => ZB g (-1) (k : Int)) (fun v => v = d4o g k) := by
 obtain ⟨ht, hc⟩ := i4X hg hk
 have hs := (hg.lex k hk).graph.some
 unfold ZB
 refine Evt.cond (fun _ => ?_) (fun e => ?_)
 ·rw [Int.toNat_natCast]
  exact Evt.chk (by omega) (Evt.chk (by omega) (Evt.pure ht))
 ·replace e := bx e
  omega
theorem i2q (a : Nat) (ha : a ≤ 9223372036854775807) : Evt (fun _ => Zc a) (fun v => v = a) := by
 unfold Zc
 refine Evt.cond (fun e => ?_) (fun _ => Evt.pure (wu (by omega)))
 replace e := bx e
 omega
theorem i9D {a t : Nat} (ha : a ≤ 1152921504606846976) (ht : t ≤ 1152921504606846976) (h0 : 0 < t) : i3e false a t = (d5d a t, ⟨0, 0⟩) := by
 have h1 : a / Nat.gcd a t ≤ a := Nat.div_le_self _ _
 have h2 : t / Nat.gcd a t ≤ t := Nat.div_le_self _ _
 unfold i3e d5d
 rw [if_neg (by omega), if_pos h0, if_neg (by decide)]
theorem i5e (a t : Nat) (ha : a ≤ 1152921504606846976) (ht : t ≤ 1152921504606846976) (h0 : 0 < t) : Evt (fun n => d1V n a t) (fun r => r = (d5d a t, ⟨0, 0⟩)) := by
 unfold d1V
 refine Evt.cond (fun e => ?_) (fun _ => ?_)
 ·replace e := bx e
  omega
 refine Evt.bind (i2q a (by omega)) fun v1 e1 => Evt.bind (i2q t (by omega)) fun v2 e2 => ?_
 subst e1; subst e2
 have e1 : (!decide ((decide ((a : Int) < 0)) = (decide ((t : Int) < 0)))) = false := by
  rw [decide_eq_false (show ¬ (a : Int) < 0 by omega), decide_eq_false (show ¬ (t : Int) < 0 by omega)]; rfl
 rw [e1]
 exact Evt.bind (i2p false (WV.small (l := a) (by omega)) (WV.small (l := t) (by omega)) h0 (by omega)) fun r hr => Evt.pure (by rw [hr, i9D ha ht h0])
theorem p3x.sums {g : Yn} (hg : i1F g) {c : YH} (hc : p3x g c 1000000) : (∀ k cl, k ≤ g.rules.length → 0 ≤ acc (d4k g) (fun k => Am.get c.rules k) k cl ∧ acc (d4k g) (fun k => Am.get c.rules k) k cl ≤ 40000000) ∧ ∀ k cl, k ≤ g.Yy.length → 0 ≤ acc (d4o g) (fun k => Am.get c.Yy k) k cl ∧ acc (d4o g) (fun k => Am.get c.Yy k) k cl ≤ 100000000 := by
 have g2 := hg.rules
 have g3 := hg.Yy
 refine ⟨fun k cl hk => ?_, fun k cl hk => ?_⟩
 ·have := d9u (cls := d4k g) (v := fun k => Am.get c.rules k) (M := 1000000) (by omega) k cl (fun j hj => hc.vr j (by omega))
  omega
 ·have := d9u (cls := d4o g) (v := fun k => Am.get c.Yy k) (M := 1000000) (by omega) k cl (fun j hj => hc.vl j (by omega))
  omega
theorem i5f {g : Yn} (hg : i1F g) {c : YH} (hc : p3x g c 1000000) (cl : Nat) {x : Int} {rule lex : Int} (hx : (0 ≤ rule ∧ rule < g.rules.length ∧ x = Am.get c.rules rule.toNat) ∨ (rule < 0 ∧ 0 ≤ lex ∧ lex < g.Yy.length ∧ x = Am.get c.Yy lex.toNat)) :
  Evt (fun n => YN (d2e (d1g g (cl : Int) c) n (0, 0)) (d1h n g (cl : Int) c rule lex)) (fun r => r = d5d x.toNat (tot g c cl).toNat) := by
 obtain ⟨hR, hL⟩ := hc.sums hg
 have g2 := hg.rules
 have g3 := hg.Yy
 have c1 := hc.r
 have c2 := hc.l
 refine Evt.YN (P := ExP (fun t : Int => t = acc (d4k g) (fun k => Am.get c.rules k) g.rules.length cl) (fun _ => False)) (Evt.loop (fun s : Int × Int => g.rules.length - s.2.toNat) (fun s => ∃ k : Nat, s = (acc (d4k g) (fun k => Am.get c.rules k) k cl, (k : Int)) ∧ k ≤ g.rules.length) _ _ ⟨0, rfl, by omega⟩ (fun s hs => ?_)) (fun t ht => ?_) (fun r hr => hr.elim)
 ·obtain ⟨k, rfl, hk⟩ := hs
  have hw1 : wr .i64 ((k : Int) + 1) = ((k + 1 : Nat) : Int) := by rw [d0n (by omega) (by omega)]; omega
  unfold d1g
  simp only [hw1, Int.toNat_natCast]
  refine Evt.cond (fun e => Evt.bind (i5c hg (k := k) (by replace e := bx e; omega) 0) fun v hv => ?_) (fun e => Evt.pure ?_)
  ·replace e := bx e
   have hb := hR (k + 1) cl (by omega)
   subst hv
   refine Evt.cond (fun e2 => Evt.chk (by omega) (Evt.pure ?_)) (fun e2 => Evt.pure ?_)
   ·replace e2 := bx e2
    have e3 : acc (d4k g) (fun k => Am.get c.rules k) (k + 1) cl = acc (d4k g) (fun k => Am.get c.rules k) k cl + Am.get c.rules k := by
     simp only [acc]; rw [if_pos (by omega)]
    rw [e3] at hb
    refine ⟨⟨k + 1, ?_, by omega⟩, by show g.rules.length - ((k + 1 : Nat) : Int).toNat < g.rules.length - (k : Int).toNat; omega⟩
    rw [d0n (by omega) (by omega), e3]
   ·replace e2 := bx e2
    have e3 : acc (d4k g) (fun k => Am.get c.rules k) (k + 1) cl = acc (d4k g) (fun k => Am.get c.rules k) k cl := by
     simp only [acc]; rw [if_neg (by omega), Int.add_zero]
    exact ⟨⟨k + 1, by rw [e3], by omega⟩, by show g.rules.length - ((k + 1 : Nat) : Int).toNat < g.rules.length - (k : Int).toNat; omega⟩
  ·replace e := bx e
   have : k = g.rules.length := by omega
   subst this; rfl
 ·have ht : t = _ := ht
  unfold d1h
  refine Evt.YN (P := ExP (fun t : Int => t = tot g c cl) (fun _ => False)) (Evt.loop (fun s : Int × Int => g.Yy.length - s.2.toNat) (fun s => ∃ k : Nat, s = (t + acc (d4o g) (fun k => Am.get c.Yy k) k cl, (k : Int)) ∧ k ≤ g.Yy.length) _ _ ⟨0, by simp [acc], by omega⟩ (fun s hs => ?_)) (fun t ht => ?_) (fun r hr => hr.elim)
  ·obtain ⟨k, rfl, hk⟩ := hs
   have hw1 : wr .i64 ((k : Int) + 1) = ((k + 1 : Nat) : Int) := by rw [d0n (by omega) (by omega)]; omega
   unfold d2u
   simp only [hw1, Int.toNat_natCast]
   refine Evt.cond (fun e => Evt.bind (i5d hg (k := k) (by replace e := bx e; omega)) fun v hv => ?_) (fun e => Evt.pure ?_)
   ·replace e := bx e
    have hb := hL (k + 1) cl (by omega)
    have hb2 := hR g.rules.length cl (by omega)
    subst hv
    refine Evt.cond (fun e2 => Evt.chk (by omega) (Evt.pure ?_)) (fun e2 => Evt.pure ?_)
    ·replace e2 := bx e2
     have e3 : acc (d4o g) (fun k => Am.get c.Yy k) (k + 1) cl = acc (d4o g) (fun k => Am.get c.Yy k) k cl + Am.get c.Yy k := by
      simp only [acc]; rw [if_pos (by omega)]
     rw [e3] at hb
     refine ⟨⟨k + 1, ?_, by omega⟩, by show g.Yy.length - ((k + 1 : Nat) : Int).toNat < g.Yy.length - (k : Int).toNat; omega⟩
     rw [d0n (by omega) (by omega), e3, Int.add_assoc]
    ·replace e2 := bx e2
     have e3 : acc (d4o g) (fun k => Am.get c.Yy k) (k + 1) cl = acc (d4o g) (fun k => Am.get c.Yy k) k cl := by
      simp only [acc]; rw [if_neg (by omega), Int.add_zero]
     exact ⟨⟨k + 1, by rw [e3], by omega⟩, by show g.Yy.length - ((k + 1 : Nat) : Int).toNat < g.Yy.length - (k : Int).toNat; omega⟩
   ·replace e := bx e
    have : k = g.Yy.length := by omega
    subst this
    show t + acc (d4o g) (fun k => Am.get c.Yy k) g.Yy.length cl = tot g c cl
    rw [ht]; rfl
  ·have ht : t = tot g c cl := ht
   subst ht
   have h1 := hR g.rules.length cl (Nat.le_refl _)
   have h2 := hL g.Yy.length cl (Nat.le_refl _)
   have hT : tot g c cl = acc (d4k g) (fun k => Am.get c.rules k) g.rules.length cl + acc (d4o g) (fun k => Am.get c.Yy k) g.Yy.length cl := rfl
   have fin : 0 ≤ x ∧ x ≤ 1000000 → Evt (fun n => d0i n (tot g c cl) x) (fun r => r = d5d x.toNat (tot g c cl).toNat) := fun hxx => by
    unfold d0i
    refine Evt.cond (fun e => Evt.pure ?_) (fun e => ?_)
    ·replace e := bx e
     unfold d5d
     rw [if_neg (by omega)]
    ·replace e := bx e
     obtain ⟨a, rfl⟩ : ∃ a : Nat, x = a := ⟨x.toNat, by omega⟩
     obtain ⟨b, hb⟩ : ∃ b : Nat, tot g c cl = b := ⟨(tot g c cl).toNat, by omega⟩
     rw [hb]
     exact Evt.bind (i5e a b (by omega) (by omega) (by omega)) fun r hr => Evt.pure (by rw [hr, Int.toNat_natCast, Int.toNat_natCast])
   unfold d2v
   refine Evt.cond (fun e => ?_) (fun e => ?_)
   ·replace e := bx e
    rcases hx with ⟨a1, a2, a3⟩ | ⟨a1, _⟩
    ·have := hc.vr rule.toNat (by omega)
     subst a3
     exact Evt.chk (by omega) (fin this)
    ·omega
   ·replace e := bx e
    rcases hx with ⟨a1, _⟩ | ⟨a1, a2, a3, a4⟩
    ·omega
    ·have := hc.vl lex.toNat (by omega)
     subst a4
     exact Evt.chk (by omega) (fin this)
theorem i9E {g : Yn} (hg : i1F g) {c : YH} (hc : p3x g c 1000000) {k : Nat} (hk : k < g.rules.length) (x : Int) : Evt (fun n => Zq n g c (k : Int) x) (fun r => r = d5d (Am.get c.rules k).toNat (tot g c (d4k g k)).toNat) := by
 unfold Zq
 refine Evt.bind (i5c hg hk x) fun v hv => ?_
 subst hv
 have := i5f hg hc (d4k g k) (x := Am.get c.rules k) (rule := (k : Int)) (lex := x) (.inl ⟨by omega, by omega, by rw [Int.toNat_natCast]⟩)
 exact this
theorem i9F {g : Yn} (hg : i1F g) {c : YH} (hc : p3x g c 1000000) {k : Nat} (hk : k < g.Yy.length) : Evt (fun n => Zq n g c (-1) (k : Int)) (fun r => r = d5d (Am.get c.Yy k).toNat (tot g c (d4o g k)).toNat) := by
 unfold Zq
 refine Evt.bind (i5d hg hk) fun v hv => ?_
 subst hv
 have := i5f hg hc (d4o g k) (x := Am.get c.Yy k) (rule := -1) (lex := (k : Int)) (.inr ⟨by omega, by omega, by omega, by rw [Int.toNat_natCast]⟩)
 exact this
theorem p3f (x : Nat) : Int.fdiv (x : Int) (2 ^ (min 32 64)) = ((x / 4294967296 : Nat) : Int) := by
 have e : ((2 : Int) ^ (min 32 64)) = ((4294967296 : Nat) : Int) := by decide
 rw [e, Int.fdiv_eq_ediv_of_nonneg _ (by omega), ← Int.natCast_ediv]
theorem p6P {x : Nat} (hx : x < 18446744073709551616) : d1G .and .u64 (x : Int) 4294967295 = ((x % 4294967296 : Nat) : Int) := by
 have h := d9o hx (y := 4294967295) (by decide)
 have e : ((4294967295 : Nat) : Int) = 4294967295 := rfl
 rw [e] at h
 rw [h]
 have := Nat.and_two_pow_sub_one_eq_mod x 32
 have e2 : (2 : Nat) ^ 32 - 1 = 4294967295 := by decide
 have e3 : (2 : Nat) ^ 32 = 4294967296 := by decide
 rw [e2, e3] at this
 rw [this]
theorem p4J {x y : Nat} (hx : x < 18446744073709551616) (hy : y < 18446744073709551616) : Evt (fun _ => d6M x y) (fun r => r = (((x * y / 18446744073709551616 : Nat) : Int), ((x * y % 18446744073709551616 : Nat) : Int))) := by
 obtain ⟨h1, h2, h3, h4⟩ := Lib.mul64_hi x y hx hy
 have b1 := Lib.half_mul_le (a := x / 4294967296) (b := y % 4294967296) (by omega) (by omega)
 have b2 := Lib.half_mul_le (a := x % 4294967296) (b := y / 4294967296) (by omega) (by omega)
 have b3 := Lib.half_mul_le (a := x / 4294967296) (b := y / 4294967296) (by omega) (by omega)
 have hh : x * y / 18446744073709551616 < 18446744073709551616 := by
  have : x * y ≤ 18446744073709551615 * 18446744073709551615 := Nat.mul_le_mul (by omega) (by omega)
  omega
 unfold d6M
 refine Evt.pure (Prod.ext ?_ ?_)
 ·show wr .u64 _ = _
  rw [← h4] at hh ⊢
  simp only [p3f, p6P hx, p6P hy, ← Int.natCast_mul, ← Int.natCast_add, wu h1, wu (show x / 4294967296 * (y % 4294967296) < 18446744073709551616 by omega), wu (show x % 4294967296 * (y / 4294967296) < 18446744073709551616 by omega), wu (show x / 4294967296 * (y / 4294967296) < 18446744073709551616 by omega)]
  rw [wu h2]
  simp only [p3f, p6P h2, ← Int.natCast_add]
  rw [wu h3]
  simp only [p3f, ← Int.natCast_add]
  rw [wu (show x / 4294967296 * (y / 4294967296) + (x / 4294967296 * (y % 4294967296) + x % 4294967296 * (y % 4294967296) / 4294967296) / 4294967296 < 18446744073709551616 by omega)]
  simp only [← Int.natCast_add]
  exact wu hh
 ·show wr .u64 ((x : Int) * y) = _
  rw [← Int.natCast_mul, i7i]
  omega
theorem i1o {x y : Nat} (hx : x < 18446744073709551616) (hy : y < 18446744073709551616) : Evt (fun _ => d6V x y) (fun r => r.2 = decide (x * y ≤ 1152921504606846976) ∧ (x * y ≤ 1152921504606846976 → r.1 = ((x * y : Nat) : Int))) := by
 unfold d6V
 refine Evt.bind (p4J hx hy) fun v hv => Evt.pure ?_
 subst hv
 generalize x * y = p
 refine ⟨?_, fun h => by show ((p % 18446744073709551616 : Nat) : Int) = _; omega⟩
 show (bif decide (((p / 18446744073709551616 : Nat) : Int) = 0) then decide (((p % 18446744073709551616 : Nat) : Int) ≤ 1152921504606846976) else false) = _
 by_cases h : p < 18446744073709551616
 ·rw [decide_eq_true (show ((p / 18446744073709551616 : Nat) : Int) = 0 by omega)]
  show decide _ = _
  by_cases h2 : p ≤ 1152921504606846976
  ·rw [decide_eq_true h2, decide_eq_true (by omega)]
  ·rw [decide_eq_false h2, decide_eq_false (by omega)]
 ·rw [decide_eq_false (show ¬ ((p / 18446744073709551616 : Nat) : Int) = 0 by omega), decide_eq_false (show ¬ p ≤ 1152921504606846976 by omega)]; rfl
theorem d9P {m n : Nat} (h : 0 < Nat.gcd m n) : Nat.gcd (m / Nat.gcd m n) (n / Nat.gcd m n) = 1 := by
 have e := Nat.gcd_mul_left (Nat.gcd m n) (m / Nat.gcd m n) (n / Nat.gcd m n)
 rw [Nat.mul_div_cancel' (Nat.gcd_dvd_left m n), Nat.mul_div_cancel' (Nat.gcd_dvd_right m n)] at e
 have e2 : Nat.gcd m n * 1 = Nat.gcd m n * Nat.gcd (m / Nat.gcd m n) (n / Nat.gcd m n) := by rw [Nat.mul_one]; exact e
 exact (Nat.eq_of_mul_eq_mul_left h e2).symm
structure FV (f : Ym) (n d : Nat) : Prop where
 e : f = ⟨(n : Int), (d : Int)⟩
 pos : 0 < d
 top : d ≤ 1152921504606846976
 num : n ≤ 1152921504606846976
 co : Nat.gcd n d = 1
theorem i5g {a t : Nat} (ha : a ≤ 1152921504606846976) (ht : t ≤ 1152921504606846976) : ∃ n d, FV (d5d a t) n d := by
 unfold d5d
 by_cases h : 0 < t
 ·rw [if_pos h]
  have hg : 0 < Nat.gcd a t := Nat.gcd_pos_of_pos_right _ h
  have h1 : a / Nat.gcd a t ≤ a := Nat.div_le_self _ _
  have h2 : t / Nat.gcd a t ≤ t := Nat.div_le_self _ _
  have h3 : 0 < t / Nat.gcd a t := Nat.div_pos (Nat.gcd_le_right _ h) hg
  exact ⟨_, _, rfl, h3, by omega, by omega, d9P hg⟩
 ·rw [if_neg h]
  exact ⟨0, 1, rfl, by omega, by omega, by omega, by decide⟩
theorem i5h {n d : Nat} (hd : 0 < d) (h : (i3e false n d).2.code = 0) : ∃ a b, FV (i3e false n d).1 a b := by
 have hg : 0 < Nat.gcd n d := Nat.gcd_pos_of_pos_right _ hd
 unfold i3e at h ⊢
 by_cases hc : 1152921504606846976 < n / Nat.gcd n d ∨ 1152921504606846976 < d / Nat.gcd n d
 ·rw [if_pos hc] at h
  exact absurd (show (18 : Int) = 0 from h) (by decide)
 ·rw [if_neg hc]
  have h3 : 0 < d / Nat.gcd n d := Nat.div_pos (Nat.gcd_le_right _ hd) hg
  exact ⟨n / Nat.gcd n d, d / Nat.gcd n d, rfl, h3, by omega, by omega, d9P hg⟩
theorem cross {a b c d : Nat} (hab : Nat.gcd a b = 1) (hcd : Nat.gcd c d = 1) (hb : 0 < b) (hd : 0 < d) :
  a * c / Nat.gcd (a * c) (b * d) = a / Nat.gcd a d * (c / Nat.gcd c b) ∧ b * d / Nat.gcd (a * c) (b * d) = b / Nat.gcd c b * (d / Nat.gcd a d) := by
 have p1 : 0 < Nat.gcd a d := Nat.gcd_pos_of_pos_right _ hd
 have p2 : 0 < Nat.gcd c b := Nat.gcd_pos_of_pos_right _ hb
 obtain ⟨a', ea⟩ := Nat.gcd_dvd_left a d
 obtain ⟨d', ed⟩ := Nat.gcd_dvd_right a d
 obtain ⟨c', ec⟩ := Nat.gcd_dvd_left c b
 obtain ⟨b', eb⟩ := Nat.gcd_dvd_right c b
 have k1 : Nat.gcd a' d' = 1 := by
  have := d9P p1
  have e1 : a / Nat.gcd a d = a' := Nat.div_eq_of_eq_mul_right p1 ea
  have e2 : d / Nat.gcd a d = d' := Nat.div_eq_of_eq_mul_right p1 ed
  rwa [e1, e2] at this
 have k2 : Nat.gcd c' b' = 1 := by
  have := d9P p2
  have e1 : c / Nat.gcd c b = c' := Nat.div_eq_of_eq_mul_right p2 ec
  have e2 : b / Nat.gcd c b = b' := Nat.div_eq_of_eq_mul_right p2 eb
  rwa [e1, e2] at this
 have e1 : a / Nat.gcd a d = a' := Nat.div_eq_of_eq_mul_right p1 ea
 have e2 : d / Nat.gcd a d = d' := Nat.div_eq_of_eq_mul_right p1 ed
 have e3 : c / Nat.gcd c b = c' := Nat.div_eq_of_eq_mul_right p2 ec
 have e4 : b / Nat.gcd c b = b' := Nat.div_eq_of_eq_mul_right p2 eb
 rw [e1, e2, e3, e4]
 generalize Nat.gcd a d = g at *
 generalize Nat.gcd c b = k at *
 have k3 : Nat.gcd a' b' = 1 := by
  have h : Nat.gcd a' b' ∣ Nat.gcd a b := Nat.dvd_gcd (Nat.dvd_trans (Nat.gcd_dvd_left _ _) ⟨g, by rw [ea, Nat.mul_comm]⟩) (Nat.dvd_trans (Nat.gcd_dvd_right _ _) ⟨k, by rw [eb, Nat.mul_comm]⟩)
  rw [hab] at h
  exact Nat.dvd_one.1 h
 have k4 : Nat.gcd c' d' = 1 := by
  have h : Nat.gcd c' d' ∣ Nat.gcd c d := Nat.dvd_gcd (Nat.dvd_trans (Nat.gcd_dvd_left _ _) ⟨k, by rw [ec, Nat.mul_comm]⟩) (Nat.dvd_trans (Nat.gcd_dvd_right _ _) ⟨g, by rw [ed, Nat.mul_comm]⟩)
  rw [hcd] at h
  exact Nat.dvd_one.1 h
 have q1 : Nat.gcd (a' * c') (b' * d') = 1 := by
  have h1 : Nat.Coprime (a' * c') b' := Nat.Coprime.mul_left (show Nat.Coprime a' b' from k3) (show Nat.Coprime c' b' from k2)
  have h2 : Nat.Coprime (a' * c') d' := Nat.Coprime.mul_left (show Nat.Coprime a' d' from k1) (show Nat.Coprime c' d' from k4)
  exact Nat.Coprime.mul_right h1 h2
 have r1 : a * c = a' * c' * (g * k) := by rw [ea, ec, Nat.mul_comm g a', Nat.mul_comm k c', Nat.mul_mul_mul_comm]
 have r2 : b * d = b' * d' * (g * k) := by rw [eb, ed, Nat.mul_comm k b', Nat.mul_comm g d', Nat.mul_mul_mul_comm, Nat.mul_comm k g]
 rw [r1, r2, Nat.gcd_mul_right, q1, Nat.one_mul]
 have hp : 0 < g * k := Nat.mul_pos p1 p2
 exact ⟨Nat.mul_div_cancel _ hp, Nat.mul_div_cancel _ hp⟩
theorem i3t {f : Ym} {n d : Nat} (h : FV f n d) (at_ : Int) : Evt (fun m => d9w m f at_) (fun r => r = ⟨0, 0⟩) := by
 obtain ⟨rfl, h1, h2, h3, h4⟩ := h
 unfold d9w
 refine Evt.cond (fun e => ?_) (fun _ => ?_)
 ·replace e := bx e
  have e : ((((n : Int) < -1152921504606846976 ∨ 1152921504606846976 < (n : Int)) ∨ (d : Int) < 1) ∨ 1152921504606846976 < (d : Int)) := e
  omega
 ·refine Evt.bind (d8n n h3) fun v hv => ?_
  subst hv
  show Evt (fun m => (d8m m (n : Int) (wr .u64 (d : Int))).bind _) _
  rw [wu (by omega)]
  refine Evt.bind (i0T n d) fun v hv => ?_
  rw [hv, h4]
  exact Evt.pure rfl
theorem i9G {f k : Ym} {n d a b : Nat} (h : FV f n d) (h2 : FV k a b) : Evt (fun m => i2r m f k) (fun r => r = ⟨0, 0⟩) := by
 unfold i2r
 refine Evt.bind (i3t h _) fun v hv => ?_
 subst hv
 exact Evt.cond (fun e => by cases e) (fun _ => Evt.bind (i3t h2 _) fun v hv => Evt.pure hv)
theorem p1l {x y : Ym} {n d a b : Nat} (hx : FV x n d) (hy : FV y a b) : Evt (fun m => i5i m x y) (fun r => r = i3e false (n * a) (d * b)) := by
 unfold i5i
 refine Evt.bind (i9G hx hy) fun v hv => ?_
 subst hv
 refine Evt.cond (fun e => by cases e) (fun _ => Evt.bind (P := fun r => r = i3e false (n * a) (d * b)) ?_ fun v hv => Evt.pure hv)
 obtain ⟨rfl, x1, x2, x3, x4⟩ := hx
 obtain ⟨rfl, y1, y2, y3, y4⟩ := hy
 obtain ⟨c1, c2⟩ := cross x4 y4 x1 y1
 have g1 : 0 < Nat.gcd n b := Nat.gcd_pos_of_pos_right _ y1
 have g2 : 0 < Nat.gcd a d := Nat.gcd_pos_of_pos_right _ x1
 have l1 : n / Nat.gcd n b ≤ n := Nat.div_le_self _ _
 have l2 : a / Nat.gcd a d ≤ a := Nat.div_le_self _ _
 have l3 : d / Nat.gcd a d ≤ d := Nat.div_le_self _ _
 have l4 : b / Nat.gcd n b ≤ b := Nat.div_le_self _ _
 unfold i2s
 show Evt (fun m => (d6F (n : Int)).bind fun v1 => (d6F (a : Int)).bind fun v2 => (d8m m v1 (wr .u64 (b : Int))).bind fun v3 => (d8m m v2 (wr .u64 (d : Int))).bind fun v4 => _) _
 refine Evt.bind (d8n n x3) fun v1 hv1 => Evt.bind (d8n a y3) fun v2 hv2 => ?_
 subst hv1 hv2
 rw [wu (x := b) (by omega), wu (x := d) (by omega)]
 refine Evt.bind (i0T n b) fun v3 hv3 => Evt.bind (i0T a d) fun v4 hv4 => ?_
 subst hv3 hv4
 rw [p3a n, p3a a, p3a d, p3a b]
 refine Evt.chk ⟨by omega, inU (by omega)⟩ (Evt.chk ⟨by omega, inU (by omega)⟩ (Evt.bind (i1o (x := n / Nat.gcd n b) (y := a / Nat.gcd a d) (by omega) (by omega)) fun v9 h9 => Evt.chk (inU (by omega)) (Evt.chk (inU (by omega)) (Evt.bind (i1o (x := d / Nat.gcd a d) (y := b / Nat.gcd n b) (by omega) (by omega)) fun v12 h12 => ?_))))
 rw [← c1] at h9
 rw [← c2] at h12
 unfold i3e
 generalize n * a / Nat.gcd (n * a) (d * b) = p at *
 generalize d * b / Nat.gcd (n * a) (d * b) = q at *
 obtain ⟨h9a, h9b⟩ := h9
 obtain ⟨p9Z, r2X⟩ := h12
 by_cases hp : p ≤ 1152921504606846976
 ·by_cases hq : q ≤ 1152921504606846976
  ·rw [if_neg (by omega)]
   rw [decide_eq_true hp] at h9a
   rw [decide_eq_true hq] at p9Z
   rw [h9a, p9Z, h9b hp, r2X hq]
   have e1 : (!decide (decide ((n : Int) < 0) = decide ((a : Int) < 0))) = false := by
    rw [decide_eq_false (show ¬ (n : Int) < 0 by omega), decide_eq_false (show ¬ (a : Int) < 0 by omega)]; rfl
   show Evt (fun _ => (i4V (bif (!decide (decide ((n : Int) < 0) = decide ((a : Int) < 0))) then (decide (0 < (p : Int))) else false) (p : Int) (q : Int)).bind fun v13 => some (v13.1, v13.2)) _
   rw [e1]
   refine Evt.bind (P := fun r => r = (⟨(p : Int), (q : Int)⟩, ⟨0, 0⟩)) ?_ fun v hv => Evt.pure (by rw [hv]; rfl)
   unfold i4V
   refine Evt.cond (fun e => ?_) (fun _ => Evt.cond (fun e => by cases e) (fun _ => Evt.pure ?_))
   ·replace e := bx e
    omega
   ·rw [d0n (by omega) (by omega), d0n (by omega) (by omega)]
  ·rw [if_pos (by omega)]
   rw [decide_eq_false hq] at p9Z
   rw [p9Z]
   refine Evt.cond (fun _ => Evt.pure rfl) (fun e => ?_)
   simp at e
 ·rw [if_pos (by omega)]
  rw [decide_eq_false hp] at h9a
  rw [h9a]
  refine Evt.cond (fun _ => Evt.pure rfl) (fun e => ?_)
  simp at e
theorem i3u {f : Ym} {n d : Nat} (h : FV f n d) (at_ : Int) : Evt (fun m => d0z m f at_) (fun r => r = ⟨0, 0⟩) := by
 obtain ⟨rfl, h1, h2, h3, h4⟩ := h
 unfold d0z
 refine Evt.cond (fun e => ?_) (fun _ => ?_)
 ·replace e := bx e
  have e : ((((n : Int) < -1152921504606846976 ∨ 1152921504606846976 < (n : Int)) ∨ (d : Int) < 1) ∨ 1152921504606846976 < (d : Int)) := e
  omega
 ·refine Evt.bind (i2q n (by omega)) fun v hv => ?_
  subst hv
  show Evt (fun m => (d0q m ⟨0, (n : Int)⟩ ⟨0, wr .u64 (d : Int)⟩).bind _) _
  rw [wu (by omega)]
  refine Evt.bind (p5v (WV.small (l := n) (by omega)) (WV.small (l := d) (by omega))) fun v hv => ?_
  rw [h4] at hv
  obtain ⟨a, b, e1, e2, k1, k2, k3⟩ := hv
  rw [e1, e2]
  have ha : a = 0 := by omega
  have hb : b = 1 := by omega
  subst ha hb
  exact Evt.pure rfl
theorem p1m {x y : Ym} {n d a b : Nat} (hx : FV x n d) (hy : FV y a b) : Evt (fun m => d2A m 2 x y) (fun r => r = i3e false (n * a) (d * b)) := by
 unfold d2A
 refine Evt.bind (P := fun r => r = ⟨0, 0⟩) ?_ fun v hv => ?_
 ·unfold d2W
  refine Evt.bind (i3u hx _) fun v hv => ?_
  subst hv
  exact Evt.cond (fun e => by cases e) (fun _ => Evt.bind (i3u hy _) fun v hv => Evt.pure hv)
 subst hv
 refine Evt.cond (fun e => by cases e) (fun _ => Evt.cond (fun e => by cases e) (fun _ => Evt.cond (fun e => by cases e) (fun _ => Evt.cond (fun _ => ?_) (fun e => by cases e))))
 obtain ⟨rfl, x1, x2, x3, x4⟩ := hx
 obtain ⟨rfl, y1, y2, y3, y4⟩ := hy
 show Evt (fun m => (Zc (n : Int)).bind fun v4 => (Zc (a : Int)).bind fun v5 => (YZ m v4 v5).bind fun v6 => (YZ m (wr .u64 (d : Int)) (wr .u64 (b : Int))).bind fun v7 => (Zo m (!decide (decide ((n : Int) < 0) = decide ((a : Int) < 0))) v6 v7).bind fun v8 => some (v8.1, v8.2)) _
 have e1 : (!decide (decide ((n : Int) < 0) = decide ((a : Int) < 0))) = false := by
  rw [decide_eq_false (show ¬ (n : Int) < 0 by omega), decide_eq_false (show ¬ (a : Int) < 0 by omega)]; rfl
 rw [wu (x := d) (by omega), wu (x := b) (by omega), e1]
 refine Evt.bind (i2q n (by omega)) fun v1 hv1 => Evt.bind (i2q a (by omega)) fun v2 hv2 => ?_
 subst hv1 hv2
 have hdb : d * b ≤ 1152921504606846976 * 1152921504606846976 := Nat.mul_le_mul x2 y2
 refine Evt.bind (p5x (a := n) (b := a) (by omega) (by omega)) fun v6 h6 => Evt.bind (p5x (a := d) (b := b) (by omega) (by omega)) fun v7 h7 => Evt.bind (i2p false h6 h7 (Nat.mul_pos x1 y1) (by omega)) fun v8 h8 => Evt.pure ?_
 rw [h8]
noncomputable def p7G (p q : Ym) : Option Ym := if (i3e false (p.num.toNat * q.num.toNat) (p.den.toNat * q.den.toNat)).2.code = 0 then some (i3e false (p.num.toNat * q.num.toNat) (p.den.toNat * q.den.toNat)).1 else none
mutual
noncomputable def i2t (w : Int → Int → Ym) : Yr → Ym → Option Ym
 | .mk r l kids, p => (p7G p (w r l)).bind (i0Z w kids)
noncomputable def i0Z (w : Int → Int → Ym) : List Yr → Ym → Option Ym
 | [], p => some p
 | t :: l, p => (i2t w t p).bind (i0Z w l)
end
theorem i3P (w : Int → Int → Ym) (t : Yr) (p : Ym) : i2t w t p = (p7G p (w t.rule t.lex)).bind (i0Z w t.kids) := by cases t; rw [i2t]; rfl
theorem FV.n {f : Ym} {n d : Nat} (h : FV f n d) : f.num.toNat = n := by rw [h.e]; exact Int.toNat_natCast n
theorem FV.d {f : Ym} {n d : Nat} (h : FV f n d) : f.den.toNat = d := by rw [h.e]; exact Int.toNat_natCast d
def Val (f : Ym) : Prop := ∃ n d, FV f n d
def PR (o : Option Ym) (r : Bool × Int × Int) : Prop := (∃ f, o = some f ∧ Val f ∧ r = (true, f.num, f.den)) ∨ (o = none ∧ r.1 = false)
theorem p4K {g : Yn} {w : Int → Int → Ym} {wl wr_ : List Ym} (hwl : wl.length = g.Yy.length) (hwr : wr_.length = g.rules.length) (hl : ∀ k : Nat, k < g.Yy.length → w (-1) (k : Int) = Am.get wl k ∧ Val (Am.get wl k)) (hr : ∀ k : Nat, k < g.rules.length → w (k : Int) 0 = Am.get wr_ k ∧ Val (Am.get wr_ k)) :
  ∀ (m : Nat) (t : Yr), SizeOf.sizeOf t ≤ m → d7D g t → ∀ p : Ym, Val p → Evt (fun n => d0j n t wl wr_ p.num p.den) (PR (i2t w t p)) := by
 intro m
 induction m with
 | zero => intro s h; cases s; simp only [Yr.mk.sizeOf_spec] at h; omega
 | succ m ih =>
  intro t ht hok p hp
  have core : (∀ k, k < t.kids.length → d7D g (Am.get t.kids k)) → ∀ q : Ym, w t.rule t.lex = q → Val q → Evt (fun n => d2a (d0j n) n p.num p.den t wl wr_ (q.num, q.den)) (PR (i2t w t p)) := fun hk q hq hv => by
   obtain ⟨n, d, hp'⟩ := hp
   obtain ⟨a, b, hv'⟩ := hv
   unfold d2a
   refine Evt.bind (p1l hp' hv') fun v5 h5 => ?_
   have hm : p7G p q = if v5.2.code = 0 then some v5.1 else none := by
    unfold p7G
    rw [hp'.n, hp'.d, hv'.n, hv'.d, ← h5]
   refine Evt.cond (fun e => Evt.pure (.inr ⟨?_, rfl⟩)) (fun e => ?_)
   ·replace e := bx e
    rw [i3P, hq, hm, if_neg e]; rfl
   ·replace e := bx e
    have hv5 : Val v5.1 := by rw [h5] at e ⊢; exact i5h (Nat.mul_pos hp'.pos hv'.pos) e
    have p6Q : i2t w t p = i0Z w t.kids v5.1 := by rw [i3P, hq, hm, if_pos e]; rfl
    rw [p6Q]
    refine Evt.YN (Evt.range (fun k s => Val ⟨s.1, s.2⟩ ∧ i0Z w (t.kids.drop k) ⟨s.1, s.2⟩ = i0Z w t.kids v5.1) (fun _ => False) (PR (i0Z w t.kids v5.1)) ⟨hv5, rfl⟩ (fun k s hk2 hi => ?_)) (fun u hu => ?_) (fun r hr => hr)
    ·obtain ⟨i1, i2⟩ := hi
     rw [d4s hk2, i0Z] at i2
     have hsz := i4U hk2
     unfold d4a
     refine Evt.bind (ih _ (by omega) (hk k hk2) ⟨s.1, s.2⟩ i1) fun v hv => ?_
     rcases hv with ⟨f, hf, hvf, rfl⟩ | ⟨hf, hvf⟩
     ·rw [hf] at i2
      exact Evt.cond (fun e => by cases e) (fun _ => Evt.pure ⟨hvf, i2⟩)
     ·rw [hf] at i2
      refine Evt.cond (fun _ => Evt.pure (.inr ⟨i2.symm, rfl⟩)) (fun e => ?_)
      rw [hvf] at e; cases e
    ·obtain ⟨i1, i2⟩ := hu.elim id False.elim
     rw [List.drop_length, i0Z] at i2
     exact Evt.pure (.inl ⟨_, i2.symm, i1, rfl⟩)
  refine Evt.succ ?_
  simp only [d0j]
  cases hok with
  | leaf _ h hlx hk =>
   refine Evt.cond (fun _ => Evt.chk (by omega) ?_) (fun e => ?_)
   ·obtain ⟨h1, h2⟩ := hl t.lex.toNat (by omega)
    refine core (fun k hk2 => by rw [hk] at hk2; simp at hk2) _ ?_ h2
    rw [h, ← h1]; congr 1; omega
   ·replace e := bx e
    omega
  | node _ h hlx hn hk =>
   refine Evt.cond (fun e => ?_) (fun _ => Evt.chk (by omega) ?_)
   ·replace e := bx e
    omega
   ·obtain ⟨h1, h2⟩ := hr t.rule.toNat (by omega)
    refine core hk _ ?_ h2
    rw [hlx, ← h1]; congr 1; omega
def PF (o : Option Ym) (r : Ym × Bool) : Prop := (∃ f, o = some f ∧ Val f ∧ r = (f, true)) ∨ (o = none ∧ r.2 = false)
theorem i8r {g : Yn} {c : YH} {w : Int → Int → Ym} (hl : ∀ k : Nat, k < g.Yy.length → Val (w (-1) (k : Int)) ∧ Evt (fun n => Zq n g c (-1) (k : Int)) (fun r => r = w (-1) (k : Int))) (hr : ∀ k : Nat, k < g.rules.length → Val (w (k : Int) 0) ∧ Evt (fun n => Zq n g c (k : Int) 0) (fun r => r = w (k : Int) 0)) (p1f : ∀ k, k < g.rules.length → (Am.get g.rules k).kids ≤ 3) :
  ∀ (m : Nat) (t : Yr), SizeOf.sizeOf t ≤ m → d7D g t → ∀ p : Ym, Val p → Evt (fun n => Zp n g c t p) (PF (i2t w t p)) := by
 intro m
 induction m with
 | zero => intro s h; cases s; simp only [Yr.mk.sizeOf_spec] at h; omega
 | succ m ih =>
  intro t ht hok p hp
  have core : t.kids.length ≤ 3 → (∀ k, k < t.kids.length → d7D g (Am.get t.kids k)) → Val (w t.rule t.lex) → Evt (fun n => Zq n g c t.rule t.lex) (fun r => r = w t.rule t.lex) → Evt (fun n => Zp n g c t p) (PF (i2t w t p)) := fun hk3 hk hv hs => by
   obtain ⟨n, d, hp'⟩ := hp
   obtain ⟨a, b, hv'⟩ := hv
   refine Evt.succ ?_
   simp only [Zp]
   refine Evt.bind hs fun v1 h1 => ?_
   subst h1
   refine Evt.bind (p1m hp' hv') fun v5 h5 => ?_
   have hm : p7G p (w t.rule t.lex) = if v5.2.code = 0 then some v5.1 else none := by
    unfold p7G
    rw [hp'.n, hp'.d, hv'.n, hv'.d, ← h5]
   refine Evt.cond (fun e => Evt.pure (.inr ⟨?_, rfl⟩)) (fun e => ?_)
   ·replace e := bx e
    rw [i3P, hm, if_neg e]; rfl
   ·replace e := bx e
    have hv5 : Val v5.1 := by rw [h5] at e ⊢; exact i5h (Nat.mul_pos hp'.pos hv'.pos) e
    have p6Q : i2t w t p = i0Z w t.kids v5.1 := by rw [i3P, hm, if_pos e]; rfl
    rw [p6Q]
    refine Evt.YN (P := ExP (fun u : Int × Int => Val ⟨u.1, u.2⟩ ∧ i0Z w t.kids v5.1 = some ⟨u.1, u.2⟩) (PF (i0Z w t.kids v5.1))) (Evt.loop (fun s : Int × Int × Int => t.kids.length - s.2.2.toNat) (fun s => ∃ k : Nat, s.2.2 = k ∧ k ≤ t.kids.length ∧ Val ⟨s.1, s.2.1⟩ ∧ i0Z w (t.kids.drop k) ⟨s.1, s.2.1⟩ = i0Z w t.kids v5.1) _ _ ⟨0, rfl, by omega, hv5, rfl⟩ (fun s hs => ?_)) (fun u hu => Evt.pure (.inl ⟨_, hu.2, hu.1, rfl⟩)) (fun r hr => hr)
    obtain ⟨x, y, i⟩ := s
    obtain ⟨k, rfl, hk1, i1, i2⟩ := hs
    have hw : wr .i64 ((k : Int) + 1) = ((k + 1 : Nat) : Int) := by rw [d0n (by omega) (by omega)]; omega
    unfold d1W
    simp only [hw, Int.toNat_natCast]
    refine Evt.cond (fun e2 => ?_) (fun e2 => Evt.pure ?_)
    ·replace e2 := bx e2
     have hk2 : k < t.kids.length := by omega
     rw [d4s hk2, i0Z] at i2
     have hsz := i4U hk2
     refine Evt.chk (by omega) (Evt.bind (ih _ (by omega) (hk k hk2) ⟨x, y⟩ i1) fun v hv => ?_)
     rcases hv with ⟨f, hf, hvf, rfl⟩ | ⟨hf, hvf⟩
     ·rw [hf] at i2
      exact Evt.cond (fun e => by cases e) (fun _ => Evt.pure ⟨⟨k + 1, rfl, by omega, hvf, i2⟩, by show t.kids.length - ((k + 1 : Nat) : Int).toNat < t.kids.length - (k : Int).toNat; omega⟩)
     ·rw [hf] at i2
      refine Evt.cond (fun _ => Evt.pure (.inr ⟨i2.symm, rfl⟩)) (fun e => ?_)
      rw [hvf] at e; cases e
    ·replace e2 := bx e2
     have : k = t.kids.length := by omega
     subst this
     rw [List.drop_length, i0Z] at i2
     exact ⟨i1, i2.symm⟩
  have r5g := hok
  cases hok with
  | leaf _ h hlx hk =>
   obtain ⟨h1, h2⟩ := hl t.lex.toNat (by omega)
   have e1 : ((t.lex.toNat : Nat) : Int) = t.lex := by omega
   rw [e1, ← h] at h1 h2
   exact core (by rw [hk]; simp) (fun k hk2 => by rw [hk] at hk2; simp at hk2) h1 h2
  | node _ h hlx hn hk =>
   obtain ⟨h1, h2⟩ := hr t.rule.toNat (by omega)
   have e1 : ((t.rule.toNat : Nat) : Int) = t.rule := by omega
   rw [e1, ← hlx] at h1 h2
   have := p1f t.rule.toNat (by omega)
   exact core (by omega) hk h1 h2
noncomputable def wOf (g : Yn) (c : YH) (r l : Int) : Ym := if r < 0 then d5d (Am.get c.Yy l.toNat).toNat (tot g c (d4o g l.toNat)).toNat else d5d (Am.get c.rules r.toNat).toNat (tot g c (d4k g r.toNat)).toNat
theorem p4L (g : Yn) (c : YH) (k : Nat) : wOf g c (-1) (k : Int) = d5d (Am.get c.Yy k).toNat (tot g c (d4o g k)).toNat := by unfold wOf; rw [if_pos (by omega), Int.toNat_natCast]
theorem p4M (g : Yn) (c : YH) (k : Nat) : wOf g c (k : Int) 0 = d5d (Am.get c.rules k).toNat (tot g c (d4k g k)).toNat := by unfold wOf; rw [if_neg (by omega), Int.toNat_natCast]
theorem i9l {g : Yn} (hm : Holds g) (c : YH) (t : Yr) : Evt (fun n => Zw n g c t) (fun r => r = true) := by
 have fin : ∀ (v2 : Ym × Yg) (x i : Int), x ≠ 0 → v2 = (⟨0, 0⟩, ⟨x, i⟩) → Evt (fun n => YR n v2 g c t (x, i)) (fun r => r = true) := fun v2 x i hc hv => by
  subst hv
  unfold YR
  refine Evt.cond (fun _ => Evt.pure (by simp)) (fun e => ?_)
  replace e := bx e
  exact absurd e hc
 unfold Zw
 refine Evt.bind i5a fun v hv => Evt.cond (fun e => ?_) (fun _ => ?_)
 ·subst hv; cases e
 obtain ⟨f, f', ⟨rfl, hf⟩, h1, h2⟩ := (i5J hm c).split
 by_cases h0 : f.code = 0
 ·obtain ⟨hg, hc⟩ := hf h0
  have g2 := hg.rules
  have g3 := hg.Yy
  obtain ⟨d, d', ⟨rfl, hd⟩, k1, k2⟩ := (p4H hg t).split
  by_cases hd0 : d.code = 0
  ·obtain ⟨hok, hnd⟩ := hd hd0
   obtain ⟨hR, hL⟩ := hc.sums hg
   have hT : ∀ cl, (tot g c cl).toNat ≤ 1152921504606846976 := fun cl => by
    have h1 := hR g.rules.length cl (Nat.le_refl _)
    have h2 := hL g.Yy.length cl (Nat.le_refl _)
    unfold tot
    omega
   have vR : ∀ k, k < g.rules.length → Val (wOf g c (k : Int) 0) := fun k hk => by
    rw [p4M]
    have := hc.vr k hk
    exact i5g (by omega) (hT _)
   have vL : ∀ k, k < g.Yy.length → Val (wOf g c (-1) (k : Int)) := fun k hk => by
    rw [p4L]
    have := hc.vl k hk
    exact i5g (by omega) (hT _)
   have v1 : Val ⟨1, 1⟩ := ⟨1, 1, rfl, by omega, by omega, by omega, by decide⟩
   have href : Evt (fun n => Zp n g c t ⟨1, 1⟩) (PF (i2t (wOf g c) t ⟨1, 1⟩)) := i8r (w := wOf g c) (fun k hk => ⟨vL k hk, by rw [p4L]; exact i9F hg hc hk⟩) (fun k hk => ⟨vR k hk, by rw [p4M]; exact i9E hg hc hk 0⟩) (fun k hk => (hg.rule k hk).kids.2) _ t (Nat.le_refl _) hok _ v1
   refine Evt.bind (P := fun v2 : Ym × Yg => (∃ q, i2t (wOf g c) t ⟨1, 1⟩ = some q ∧ v2 = (q, ⟨0, 0⟩)) ∨ (i2t (wOf g c) t ⟨1, 1⟩ = none ∧ v2 = (⟨0, 0⟩, ⟨18, 0⟩))) ?_ fun v2 hv2 => Evt.bind h2 fun v3 hv3 => ?_
   ·unfold d2J
    refine Evt.bind h1 fun a ha => ?_
    subst ha
    refine Evt.cond (fun e => ?_) (fun _ => Evt.bind k1 fun b hb => ?_)
    ·replace e := bx e
     exact absurd h0 e
    subst hb
    refine Evt.cond (fun e => ?_) (fun _ => Evt.bind (i4Z hg (hc.le (by omega))) fun w hw => ?_)
    ·replace e := bx e
     exact absurd hd0 e
    obtain ⟨⟨w1, w2⟩, w3, w4⟩ := hw
    refine Evt.bind (P := fun r : Ym × Bool => (∃ q, i2t (wOf g c) t ⟨1, 1⟩ = some q ∧ r = (q, true)) ∨ (i2t (wOf g c) t ⟨1, 1⟩ = none ∧ r.2 = false)) ?_ fun r hr => ?_
    ·unfold d5e
     refine Evt.bind (p4K (g := g) (w := wOf g c) w3 w1 (fun k hk => ⟨by rw [p4L, w4 k hk], by rw [w4 k hk, ← p4L]; exact vL k hk⟩) (fun k hk => ⟨by rw [p4M, w2 k hk], by rw [w2 k hk, ← p4M]; exact vR k hk⟩) _ t (Nat.le_refl _) hok ⟨1, 1⟩ v1) fun r hr => ?_
     rcases hr with ⟨q, hq, _, rfl⟩ | ⟨hq, hr⟩
     ·exact Evt.cond (fun e => by cases e) (fun _ => Evt.pure (.inl ⟨q, hq, rfl⟩))
     ·refine Evt.cond (fun _ => Evt.pure (.inr ⟨hq, rfl⟩)) (fun e => ?_)
      rw [hr] at e; cases e
    ·rcases hr with ⟨q, hq, rfl⟩ | ⟨hq, hr⟩
     ·exact Evt.cond (fun e => by cases e) (fun _ => Evt.pure (.inl ⟨q, hq, rfl⟩))
     ·refine Evt.cond (fun _ => Evt.bind (P := fun v => v = ⟨18, 0⟩) (Evt.pure rfl) fun v hv => Evt.pure (.inr ⟨hq, by rw [hv]⟩)) (fun e => ?_)
      rw [hr] at e; cases e
   ·subst hv3
    refine Evt.cond (fun _ => Evt.bind k2 fun v4 hv4 => ?_) (fun e => ?_)
    ·subst hv4
     unfold YR
     refine Evt.cond (fun e => ?_) (fun _ => Evt.bind href fun v5 hv5 => ?_)
     ·replace e := bx e
      exact absurd hd0 e
     rcases hv5 with ⟨q, hq, _, rfl⟩ | ⟨hq, hv5⟩
     ·rcases hv2 with ⟨q', hq', rfl⟩ | ⟨hq', _⟩
      ·rw [hq] at hq'; cases hq'
       exact Evt.cond (fun e => by cases e) (fun _ => Evt.pure (by simp))
      ·rw [hq] at hq'; cases hq'
     ·rcases hv2 with ⟨q', hq', _⟩ | ⟨_, rfl⟩
      ·rw [hq] at hq'; cases hq'
      ·refine Evt.cond (fun _ => Evt.pure (by simp)) (fun e => ?_)
       rw [hv5] at e; cases e
    ·replace e := bx e
     exact absurd h0 e
  ·refine Evt.bind (P := fun r => r = (⟨0, 0⟩, d)) ?_ fun v2 hv2 => Evt.bind h2 fun v3 hv3 => ?_
   ·unfold d2J
    refine Evt.bind h1 fun a ha => ?_
    subst ha
    refine Evt.cond (fun e => ?_) (fun _ => Evt.bind k1 fun b hb => ?_)
    ·replace e := bx e
     exact absurd h0 e
    subst hb
    refine Evt.cond (fun _ => Evt.pure rfl) (fun e => ?_)
    replace e := bx e
    exact absurd e hd0
   ·subst hv3
    refine Evt.cond (fun _ => Evt.bind k2 fun v4 hv4 => ?_) (fun e => ?_)
    ·subst hv4
     exact fin v2 _ _ hd0 hv2
    ·replace e := bx e
     exact absurd h0 e
 ·refine Evt.bind (P := fun r => r = (⟨0, 0⟩, f)) ?_ fun v2 hv2 => Evt.bind h2 fun v3 hv3 => ?_
  ·unfold d2J
   refine Evt.bind h1 fun a ha => ?_
   subst ha
   refine Evt.cond (fun _ => Evt.pure rfl) (fun e => ?_)
   replace e := bx e
   exact absurd e h0
  ·subst hv3
   refine Evt.cond (fun e => ?_) (fun _ => fin v2 _ _ h0 hv2)
   rw [decide_eq_false h0] at e
   cases e
end Go.Proofs.YtgaeiccgdpnkkaaGreatDoor
