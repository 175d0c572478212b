import Derived.Test.YtaohdfpcdfbnlaaGreatDoorDiff2
import Derived.Test.YtaohdfpcdfbnlaaGreatDoorLcs2
set_option linter.unusedVariables false
set_option linter.unusedSimpArgs false
namespace Go.Proofs.YtaohdfpcdfbnlaaGreatDoor
open Go Go.Am
theorem rC {α : Type} {f : Nat → α → Option Bool} {P : α → Bool → Prop} : ∀ (l : List α), (∀ x ∈ l, Evt (fun n => f n x) (P x)) → ∃ N, ∀ n, N ≤ n → ∀ x ∈ l, ∃ r, f n x = some r ∧ P x r
 | [], _ => ⟨0, fun _ _ x hx => by cases hx⟩
 | a :: l, h => by
  obtain ⟨N, hN⟩ := rC l fun x hx => h x (List.mem_cons_of_mem _ hx)
  obtain ⟨r, hr, M, hM⟩ := h a (List.mem_cons_self ..)
  refine ⟨max N M, fun n hn x hx => ?_⟩
  rcases List.mem_cons.1 hx with rfl | hx
  ·exact ⟨r, hM n (by omega), hr⟩
  ·exact hN n (by omega) x hx
open Classical in
noncomputable def bn (x y : w9) : Bool := decide (x = y)
theorem dz {x y : w9} : bn x y = true ↔ x = y := by unfold bn; simp
theorem sI {x y : w9} {v : Bool} (h : v = true ↔ x = y) : v = bn x y := by
 cases v
 ·cases e : bn x y
  ·rfl
  ·exact absurd (h.2 (dz.1 e)) (by decide)
 ·exact (dz.2 (h.1 rfl)).symm
theorem yO (x y : w9) : bn x y = bn y x := by
 cases e : bn x y
 ·cases e2 : bn y x
  ·rfl
  ·rw [dz.2 (dz.1 e2).symm] at e; cases e
 ·exact (dz.2 (dz.1 e).symm).symm
theorem wD (x y z : w9) (h1 : bn x y = true) (h2 : bn y z = true) : bn x z = true := dz.2 ((dz.1 h1).trans (dz.1 h2))
theorem Bc (a b : List w9) (ha : a.length ≤ 100) (hb : b.length ≤ 100) : Evt (fun n => uz n a b) (fun T => T = Lcs.tab bn a b) := by
 have hx : ∀ x ∈ a, ∃ N, ∀ n, N ≤ n → ∀ y ∈ b, ∃ r, L9 n x y = some r ∧ (r = true ↔ x = y) := fun x _ => rC b fun y _ => nj x y
 have key : ∀ l : List w9, (∀ x ∈ l, x ∈ a) → ∃ N, ∀ n, N ≤ n → ∀ x ∈ l, ∀ y ∈ b, ∃ r, L9 n x y = some r ∧ (r = true ↔ x = y) := by
  intro l
  induction l with
  | nil => exact fun _ => ⟨0, fun _ _ x hx => by cases hx⟩
  | cons c l ih =>
   intro hl
   obtain ⟨N, hN⟩ := ih fun x hx => hl x (List.mem_cons_of_mem _ hx)
   obtain ⟨M, hM⟩ := hx c (hl c (List.mem_cons_self ..))
   refine ⟨max N M, fun n hn x hx y hy => ?_⟩
   rcases List.mem_cons.1 hx with rfl | hx
   ·exact hM n (by omega) y hy
   ·exact hN n (by omega) x hx y hy
 obtain ⟨N, hN⟩ := key a fun _ h => h
 refine ⟨_, rfl, N, fun n hn => ?_⟩
 show uz n a b = _
 unfold uz
 rw [rZ ⟨by rw [bI]; omega, by rw [bI]; omega⟩, rZ (List.all_eq_true.2 fun x hx => List.all_eq_true.2 fun y hy => by
  obtain ⟨r, h1, _⟩ := hN n hn x hx y hy
  rw [h1]; rfl)]
 refine congrArg some (Lcs.uy fun x hx y hy => ?_)
 obtain ⟨r, h1, h2⟩ := hN n hn x hx y hy
 rw [h1]
 exact sI h2
def gV (a b : List w9) (i k : Int) : Prop := 0 ≤ i ∧ i ≤ a.length ∧ 0 ≤ k ∧ k ≤ b.length
noncomputable def I5 (a b : List w9) (i k : Int) : Int := ((Lcs.cost bn (a.drop i.toNat) (b.drop k.toNat) : Nat) : Int)
theorem cM {a : List w9} {i : Int} (h : 0 ≤ i) (h2 : i < a.length) : a.drop i.toNat = Am.get a i.toNat :: a.drop (i + 1).toNat := by
 have hi : i.toNat < a.length := by omega
 rw [List.drop_eq_getElem_cons hi, show (i + 1).toNat = i.toNat + 1 by omega]
 simp [Am.get, hi]
theorem iV {a : List w9} {i : Int} (h2 : (a.length : Int) ≤ i) : a.drop i.toNat = [] := List.drop_eq_nil_of_le (by omega)
theorem uH {a b : List w9} {i k : Int} (hi : 0 ≤ i) (hi2 : i < a.length) (hk : 0 ≤ k) (hk2 : k < b.length) (h : bn (Am.get a i.toNat) (Am.get b k.toNat) = true) : I5 a b i k = I5 a b (i + 1) (k + 1) := by
 unfold I5
 rw [cM hi hi2, cM hk hk2, Lcs.uw _ h]
theorem uI {a b : List w9} {i k : Int} (hi : 0 ≤ i) (hi2 : i < a.length) (hk : 0 ≤ k) (hk2 : k < b.length) (h : bn (Am.get a i.toNat) (Am.get b k.toNat) = false)
  (hc : Lcs.lc bn a b i.toNat (k + 1).toNat ≤ Lcs.lc bn a b (i + 1).toNat k.toNat) : I5 a b i k = 1 + I5 a b (i + 1) k := by
 unfold I5
 unfold Lcs.lc at hc
 rw [cM hi hi2, cM hk hk2] at *
 rw [Lcs.ux _ h (by omega)]
 omega
theorem wG {a b : List w9} {i k : Int} (hi : 0 ≤ i) (hi2 : i < a.length) (hk : 0 ≤ k) (hk2 : k < b.length) (h : bn (Am.get a i.toNat) (Am.get b k.toNat) = false)
  (hc : ¬ Lcs.lc bn a b i.toNat (k + 1).toNat ≤ Lcs.lc bn a b (i + 1).toNat k.toNat) : I5 a b i k = 1 + I5 a b i (k + 1) := by
 unfold I5
 unfold Lcs.lc at hc
 rw [cM hi hi2, cM hk hk2] at *
 rw [Lcs.xY _ h (by omega)]
 omega
theorem uJ {a b : List w9} {i k : Int} (hi : 0 ≤ i) (hi2 : i < a.length) (hk2 : (b.length : Int) ≤ k) : I5 a b i k = 1 + I5 a b (i + 1) k := by
 unfold I5
 rw [cM hi hi2, iV hk2, Lcs.kr, Lcs.kr]
 simp only [List.length_cons]
 omega
theorem uK {a b : List w9} {i k : Int} (hi2 : (a.length : Int) ≤ i) (hk : 0 ≤ k) (hk2 : k < b.length) : I5 a b i k = 1 + I5 a b i (k + 1) := by
 unfold I5
 rw [cM hk hk2, iV hi2, Lcs.fI, Lcs.fI]
 simp only [List.length_cons]
 omega
theorem wH {a b : List w9} {i k : Int} (hi2 : (a.length : Int) ≤ i) (hk2 : (b.length : Int) ≤ k) : I5 a b i k = 0 := by
 unfold I5
 rw [iV hk2, iV hi2, Lcs.fI]
 rfl
theorem uL {a b : List w9} {i k : Nat} (hi : i ≤ a.length) (hk : k ≤ b.length) : Am.get (Am.get (Lcs.tab bn a b) i) k = Lcs.lc bn a b i k := Lcs.CV hi hk
theorem yT {a b : List w9} : (Lcs.tab bn a b).length = a.length + 1 := Lcs.cV ..
theorem pY {a b : List w9} {i : Nat} (hi : i ≤ a.length) : (Am.get (Lcs.tab bn a b) i).length = b.length + 1 := Lcs.AK hi
def Ea (a b : List w9) (i k : Int) : Prop := i < a.length → k < b.length → bn (Am.get a i.toNat) (Am.get b k.toNat) = false
def Gw (a b : List w9) (i k : Int) : Prop := ((a.length : Int) ≤ i ∧ (b.length : Int) ≤ k) ∨ (i < a.length ∧ k < b.length ∧ bn (Am.get a i.toNat) (Am.get b k.toNat) = true)
theorem yU (a b : List w9) (ha : a.length ≤ 100) (hb : b.length ≤ 100) (i k : Int) (h : gV a b i k) :
  Evt (fun n => ct (U0 n a b) n (0, i, k)) (ExP (fun t => t.1 = t.2.1 - i ∧ i ≤ t.2.1 ∧ k ≤ t.2.2 ∧ gV a b t.2.1 t.2.2 ∧ I5 a b i k = I5 a b t.2.1 t.2.2 ∧ Ea a b t.2.1 t.2.2) (fun _ => False)) := by
 refine Evt.loop (fun s : Int × Int × Int => (a.length - s.2.1).toNat) (fun s => s.1 = s.2.1 - i ∧ i ≤ s.2.1 ∧ k ≤ s.2.2 ∧ gV a b s.2.1 s.2.2 ∧ I5 a b i k = I5 a b s.2.1 s.2.2) _ _ ⟨by show (0 : Int) = i - i; omega, Int.le_refl _, Int.le_refl _, h, rfl⟩ (fun s hs => ?_)
 have h0 : 0 ≤ i := h.1
 have h00 : 0 ≤ k := h.2.2.1
 obtain ⟨p, x, y⟩ := s
 obtain ⟨h1, h2, h3, ⟨s1, s2, s3, s4⟩, h5⟩ := hs
 simp only at *
 unfold U0
 by_cases hi : x < (↑a.length : Int)
 ·by_cases hk : y < (↑b.length : Int)
  ·rw [decide_eq_true hi, decide_eq_true hk]
   simp only [cond_true]
   refine Evt.chk ⟨fun _ => s1, fun _ => hi⟩ (Evt.chk ⟨fun _ => s3, fun _ => hk⟩ (Evt.bind (P := fun v => v = true ↔ Am.get a x.toNat = Am.get b y.toNat) (nj _ _) fun v hv => ?_))
   have hv := sI hv
   refine Evt.cond (fun e => Evt.pure ?_) (fun e => Evt.pure ?_)
   ·rw [hv] at e
    simp only [vo]
    rw [W0 (by omega) (by omega), W0 (by omega) (by omega), W0 (by omega) (by omega)]
    refine ⟨⟨by omega, by omega, by omega, ⟨by omega, by omega, by omega, by omega⟩, ?_⟩, by omega⟩
    rw [h5, uH s1 hi s3 hk e]
   ·rw [hv] at e
    exact ⟨h1, h2, h3, ⟨s1, s2, s3, s4⟩, h5, fun _ _ => e⟩
  ·rw [decide_eq_true hi, decide_eq_false hk]
   simp only [cond_true]
   exact Evt.chk ⟨fun e => by (cases e), fun e => by (cases e)⟩ (Evt.chk ⟨fun e => by (cases e), fun e => by (cases e)⟩ (Evt.bind (P := fun _ => True) (Evt.gd (fun e => by (cases e)) (fun _ => trivial)) fun v hv => Evt.pure ⟨h1, h2, h3, ⟨s1, s2, s3, s4⟩, h5, fun _ h => absurd h hk⟩))
 ·rw [decide_eq_false hi]
  simp only [cond_false]
  exact Evt.chk ⟨fun e => by (cases e), fun e => by (cases e)⟩ (Evt.chk ⟨fun e => by (cases e), fun e => by (cases e)⟩ (Evt.bind (P := fun _ => True) (Evt.gd (fun e => by (cases e)) (fun _ => trivial)) fun v hv => Evt.pure ⟨h1, h2, h3, ⟨s1, s2, s3, s4⟩, h5, fun h => absurd h hi⟩))
theorem yV (a b : List w9) (ha : a.length ≤ 100) (hb : b.length ≤ 100) (i k : Int) (h : gV a b i k) :
  Evt (fun n => ct (U1 n a b (Lcs.tab bn a b)) n (0, [], i, k)) (ExP (fun t : Int × List w9 × Int × Int => t.1 = t.2.2.1 - i ∧ (t.2.1.length : Int) = t.2.2.2 - k ∧ i ≤ t.2.2.1 ∧ k ≤ t.2.2.2 ∧ gV a b t.2.2.1 t.2.2.2 ∧ I5 a b i k = t.1 + t.2.1.length + I5 a b t.2.2.1 t.2.2.2 ∧ (∀ v ∈ t.2.1, v ∈ b) ∧ Gw a b t.2.2.1 t.2.2.2) (fun _ => False)) := by
 refine Evt.loop (fun s : Int × List w9 × Int × Int => (a.length - s.2.2.1).toNat + (b.length - s.2.2.2).toNat) (fun s => s.1 = s.2.2.1 - i ∧ (s.2.1.length : Int) = s.2.2.2 - k ∧ i ≤ s.2.2.1 ∧ k ≤ s.2.2.2 ∧ gV a b s.2.2.1 s.2.2.2 ∧ I5 a b i k = s.1 + s.2.1.length + I5 a b s.2.2.1 s.2.2.2 ∧ ∀ v ∈ s.2.1, v ∈ b) _ _ ⟨by show (0 : Int) = i - i; omega, by show (([] : List w9).length : Int) = k - k; simp, Int.le_refl _, Int.le_refl _, h, by simp, fun v hv => by cases hv⟩ (fun s hs => ?_)
 have h0 : 0 ≤ i := h.1
 have h00 : 0 ≤ k := h.2.2.1
 obtain ⟨d, u, x, y⟩ := s
 obtain ⟨h1, h2, h3, h4, ⟨s1, s2, s3, s4⟩, h5, hmem⟩ := hs
 simp only at *
 have hwx : wr .i64 (x + 1) = x + 1 := W0 (by omega) (by omega)
 have hwy : wr .i64 (y + 1) = y + 1 := W0 (by omega) (by omega)
 have hwd : wr .i64 (d + 1) = d + 1 := W0 (by omega) (by omega)
 have Gx : y < (↑b.length : Int) → I5 a b x y = 1 + I5 a b x (y + 1) → Evt (fun _ => chk (0 ≤ y ∧ y < (↑b.length : Int)) <| eV (u ++ [(Am.get b y.toNat)]) fun c133 => chk (c133.length * 144 ≤ top ∧ c133.length ≤ top) <| some (Ctl.nxt (ρ := Ctl (List u9) (List u9 × Int × Int) (List u9)) (τ := Int × List w9 × Int × Int) (d, c133, x, (wr .i64 (y + 1)))))
   (vo (fun s' => (s'.1 = s'.2.2.1 - i ∧ (s'.2.1.length : Int) = s'.2.2.2 - k ∧ i ≤ s'.2.2.1 ∧ k ≤ s'.2.2.2 ∧ gV a b s'.2.2.1 s'.2.2.2 ∧ I5 a b i k = s'.1 + s'.2.1.length + I5 a b s'.2.2.1 s'.2.2.2 ∧ ∀ v ∈ s'.2.1, v ∈ b) ∧ (a.length - s'.2.2.1).toNat + (b.length - s'.2.2.2).toNat < (a.length - x).toNat + (b.length - y).toNat)
    (fun t => t.1 = t.2.2.1 - i ∧ (t.2.1.length : Int) = t.2.2.2 - k ∧ i ≤ t.2.2.1 ∧ k ≤ t.2.2.2 ∧ gV a b t.2.2.1 t.2.2.2 ∧ I5 a b i k = t.1 + t.2.1.length + I5 a b t.2.2.1 t.2.2.2 ∧ (∀ v ∈ t.2.1, v ∈ b) ∧ Gw a b t.2.2.1 t.2.2.2) (fun _ => False)) := fun hk hr => by
  have hl : ((u ++ [(Am.get b y.toNat)]).length : Int) = u.length + 1 := by simp
  refine Evt.chk ⟨s3, hk⟩ (Evt.eV (Evt.chk ⟨by rw [bI]; omega, by rw [bI]; omega⟩ (Evt.pure ?_)))
  rw [hwy]
  refine ⟨⟨h1, ?_, h3, ?_, ⟨s1, s2, ?_, ?_⟩, ?_, ?_⟩, ?_⟩
  ·show ((u ++ [(Am.get b y.toNat)]).length : Int) = y + 1 - k; omega
  ·show k ≤ y + 1; omega
  ·show 0 ≤ y + 1; omega
  ·show y + 1 ≤ _; omega
  ·show _ = d + ((u ++ [(Am.get b y.toNat)]).length : Int) + I5 a b x (y + 1); omega
  ·intro v hv
   rcases List.mem_append.1 hv with hv | hv
   ·exact hmem v hv
   ·rw [List.mem_singleton.1 hv]
    exact get_mem (by omega)
  ·show (a.length - x).toNat + (b.length - (y + 1)).toNat < _; omega
 have Bd : x < (↑a.length : Int) → I5 a b x y = 1 + I5 a b (x + 1) y → (d + 1 = x + 1 - i ∧ (u.length : Int) = y - k ∧ i ≤ x + 1 ∧ k ≤ y ∧ gV a b (x + 1) y ∧ I5 a b i k = d + 1 + u.length + I5 a b (x + 1) y ∧ ∀ v ∈ u, v ∈ b) ∧ (a.length - (x + 1)).toNat + (b.length - y).toNat < (a.length - x).toNat + (b.length - y).toNat := fun hi hr =>
  ⟨⟨by omega, h2, by omega, h4, ⟨by omega, by omega, s3, s4⟩, by omega, hmem⟩, by omega⟩
 unfold U1
 simp only [hwx, hwd]
 by_cases hi : x < (↑a.length : Int)
 ·by_cases hk : y < (↑b.length : Int)
  ·have hne : ¬ y = (↑b.length : Int) := by omega
   rw [decide_eq_true hi, decide_eq_true hk, decide_eq_false hne]
   simp only [cond_true, cond_false, Bool.and_self, Bool.not_false, Bool.true_and, Bool.and_true]
   refine Evt.chk ⟨fun _ => s1, fun _ => hi⟩ (Evt.chk ⟨fun _ => s3, fun _ => hk⟩ (Evt.bind (P := fun v => v = true ↔ Am.get a x.toNat = Am.get b y.toNat) (nj _ _) fun v hv => ?_))
   have hv := sI hv
   refine Evt.cond (fun e => ?_) (fun e => Evt.pure ⟨h1, h2, h3, h4, ⟨s1, s2, s3, s4⟩, h5, hmem, .inr ⟨hi, hk, ?_⟩⟩)
   ·have e1 : bn (Am.get a x.toNat) (Am.get b y.toNat) = false := by rw [← hv]; simpa using e
    have tx : (x + 1).toNat = x.toNat + 1 := by omega
    have ty : (y + 1).toNat = y.toNat + 1 := by omega
    have b1 : x.toNat < a.length := by omega
    have b2 : y.toNat < b.length := by omega
    have g1 := uL (a := a) (b := b) (i := (x + 1).toNat) (k := y.toNat) (by omega) (by omega)
    have g2 := uL (a := a) (b := b) (i := x.toNat) (k := (y + 1).toNat) (by omega) (by omega)
    rw [yT, hwy, pY (i := (x + 1).toNat) (by omega), pY (i := x.toNat) (by omega), g1, g2]
    refine Evt.chk ⟨fun _ => by omega, fun _ => by omega⟩ (Evt.chk ⟨fun _ => by omega, fun _ => by omega⟩ (Evt.chk ⟨fun _ => by omega, fun _ => by omega⟩ (Evt.chk ⟨fun _ => by omega, fun _ => by omega⟩ ?_)))
    refine Evt.cond (fun e2 => Evt.pure (Bd hi (uI s1 hi s3 hk e1 (of_decide_eq_true e2)))) (fun e2 => ?_)
    have := Gx hk (wG s1 hi s3 hk e1 (of_decide_eq_false e2))
    rw [hwy] at this
    exact this
   ·rw [← hv]; simpa using e
  ·have he : y = (↑b.length : Int) := by omega
   rw [decide_eq_true hi, decide_eq_false hk, decide_eq_true he]
   simp only [cond_true, cond_false, Bool.and_false, Bool.not_false, Bool.not_true, Bool.false_and]
   refine Evt.chk ⟨fun e => by (cases e), fun e => by (cases e)⟩ (Evt.chk ⟨fun e => by (cases e), fun e => by (cases e)⟩ (Evt.bind (P := fun _ => True) (Evt.gd (fun e => by (cases e)) (fun _ => trivial)) fun v hv => ?_))
   refine Evt.chk ⟨fun e => by (cases e), fun e => by (cases e)⟩ (Evt.chk ⟨fun e => by (cases e), fun e => by (cases e)⟩ (Evt.chk ⟨fun e => by (cases e), fun e => by (cases e)⟩ (Evt.chk ⟨fun e => by (cases e), fun e => by (cases e)⟩ ?_)))
   exact Evt.pure (Bd hi (uJ s1 hi (by omega)))
 ·by_cases hk : y < (↑b.length : Int)
  ·have hne : ¬ y = (↑b.length : Int) := by omega
   rw [decide_eq_false hi, decide_eq_true hk, decide_eq_false hne]
   simp only [cond_true, cond_false, Bool.and_false, Bool.not_false, Bool.not_true, Bool.false_and]
   refine Evt.chk ⟨fun e => by (cases e), fun e => by (cases e)⟩ (Evt.chk ⟨fun e => by (cases e), fun e => by (cases e)⟩ (Evt.bind (P := fun _ => True) (Evt.gd (fun e => by (cases e)) (fun _ => trivial)) fun v hv => ?_))
   refine Evt.chk ⟨fun e => by (cases e), fun e => by (cases e)⟩ (Evt.chk ⟨fun e => by (cases e), fun e => by (cases e)⟩ (Evt.chk ⟨fun e => by (cases e), fun e => by (cases e)⟩ (Evt.chk ⟨fun e => by (cases e), fun e => by (cases e)⟩ ?_)))
   exact Gx hk (uK (by omega) s3 hk)
  ·rw [decide_eq_false hi, decide_eq_false hk]
   simp only [cond_true, cond_false, Bool.and_false, Bool.not_false, Bool.not_true, Bool.false_and]
   refine Evt.chk ⟨fun e => by (cases e), fun e => by (cases e)⟩ (Evt.chk ⟨fun e => by (cases e), fun e => by (cases e)⟩ (Evt.bind (P := fun _ => True) (Evt.gd (fun e => by (cases e)) (fun _ => trivial)) fun v hv => ?_))
   exact Evt.pure ⟨h1, h2, h3, h4, ⟨s1, s2, s3, s4⟩, h5, hmem, .inl ⟨by show (↑a.length : Int) ≤ x; omega, by show (↑b.length : Int) ≤ y; omega⟩⟩
def eM (l : List u9) : Int := (l.map fun x => x.drop + (↑x.put.length : Int)).sum
def xP (b : List w9) (x : u9) : Prop := 0 ≤ x.keep ∧ x.keep ≤ 100 ∧ 0 ≤ x.drop ∧ x.drop ≤ 100 ∧ x.put.length ≤ 100 ∧ ∀ v ∈ x.put, v ∈ b
theorem wE (a b : List w9) (ha : a.length ≤ 100) (hb : b.length ≤ 100) :
  Evt (fun n => aV n a b) (fun l => eM l = ((Lcs.cost bn a b : Nat) : Int) ∧ l.length ≤ 200 ∧ ∀ x ∈ l, xP b x) := by
 unfold aV
 refine Evt.bind (Bc a b ha hb) fun v1 hv1 => ?_
 subst hv1
 refine Evt.E0 (P := ExP (fun l => eM l = ((Lcs.cost bn a b : Nat) : Int) ∧ l.length ≤ 200 ∧ ∀ x ∈ l, xP b x) (fun _ => False)) (Evt.loop (fun s : List u9 × Int × Int => (a.length - s.2.1).toNat + (b.length - s.2.2).toNat)
  (fun s => gV a b s.2.1 s.2.2 ∧ ((Lcs.cost bn a b : Nat) : Int) = eM s.1 + I5 a b s.2.1 s.2.2 ∧ (s.1.length : Int) ≤ s.2.1 + s.2.2 ∧ ∀ x ∈ s.1, xP b x) _ _ ⟨⟨Int.le_refl _, by show (0 : Int) ≤ _; omega, Int.le_refl _, by show (0 : Int) ≤ _; omega⟩, by simp [eM, I5], by simp, fun x hx => by cases hx⟩ (fun s hs => ?_)) (fun t ht => Evt.pure ht) (fun _ h => h.elim)
 obtain ⟨out, i, k⟩ := s
 obtain ⟨hs0, h5, h6, h7⟩ := hs
 have Ir := hs0
 obtain ⟨s1, s2, s3, s4⟩ := Ir
 simp only at *
 unfold aK
 refine Evt.cond (fun e => ?_) (fun e => Evt.pure ?_)
 ·have hne : i < a.length ∨ k < b.length := by
   simpa using e
  refine Evt.E0 (yU a b ha hb i k hs0) (fun t ht => ?_) (fun _ h => h.elim)
  obtain ⟨p, x, y⟩ := t
  obtain ⟨p1, p2, p3, pk, p5, p6⟩ := ht
  have pk' := pk
  obtain ⟨q1, q2, q3, q4⟩ := pk'
  simp only at *
  unfold aJ
  refine Evt.E0 (yV a b ha hb x y pk) (fun t ht => ?_) (fun _ h => h.elim)
  obtain ⟨d, u, z, w⟩ := t
  obtain ⟨m1, m2, m3, m4, mk, m6, mm, m7⟩ := ht
  have mk' := mk
  obtain ⟨n1, n2, n3, n4⟩ := mk'
  simp only at *
  unfold aI
  simp only
  have Iu : i + k < z + w := by
   by_cases hz : z = i ∧ w = k
   ·exfalso
    obtain ⟨rfl, rfl⟩ := hz
    have ex : x = z := by omega
    have ey : y = w := by omega
    rw [ex, ey] at p6
    rcases m7 with ⟨g1, g2⟩ | ⟨g1, g2, g3⟩
    ·omega
    ·rw [p6 g1 g2] at g3; cases g3
   ·omega
  refine Evt.chk ⟨by rw [bI]; omega, by rw [bI]; omega⟩ (Evt.pure ⟨⟨mk, ?_, ?_, ?_⟩, ?_⟩)
  ·have : eM (out ++ [u9.mk p d u]) = eM out + (d + u.length) := by simp [eM]
   show _ = eM (out ++ [u9.mk p d u]) + I5 a b z w
   omega
  ·have : ((out ++ [u9.mk p d u]).length : Int) = out.length + 1 := by simp
   show ((out ++ [u9.mk p d u]).length : Int) ≤ z + w
   omega
  ·intro v hv
   rcases List.mem_append.1 hv with hv | hv
   ·exact h7 v hv
   ·rw [List.mem_singleton.1 hv]
    exact ⟨by show 0 ≤ p; omega, by show p ≤ 100; omega, by show 0 ≤ d; omega, by show d ≤ 100; omega, by show u.length ≤ 100; omega, mm⟩
  ·show (a.length - z).toNat + (b.length - w).toNat < (a.length - i).toNat + (b.length - k).toNat
   omega
 ·have hne : ¬ (i < a.length ∨ k < b.length) := by
   intro h
   have : (bif (decide (i < (↑a.length : Int))) then true else (decide (k < (↑b.length : Int)))) = true := by
    rcases h with h | h
    ·rw [decide_eq_true h]; rfl
    ·rw [decide_eq_true h]; cases decide (i < (↑a.length : Int)) <;> rfl
   rw [this] at e; cases e
  rw [wH (by omega) (by omega)] at h5
  exact ⟨by show eM out = _; omega, by show out.length ≤ 200; omega, h7⟩
end Go.Proofs.YtaohdfpcdfbnlaaGreatDoor
