import Derived.Test.YtaohdfpcdfbnlaaGreatDoorDiff2
import Derived.Test.YtaohdfpcdfbnlaaGreatDoorLcs2
set_option linter.unusedVariables false
set_option linter.unusedSimpArgs false
namespace Go.Proofs.YtaohdfpcdfbnlaaGreatDoor
open Go Go.Am
theorem pZ {α : Type} {f : Nat → α → Option Bool} {P : α → Bool → Prop} : ∀ (l : List α), (∀ x ∈ l, Evt (fun n => f n x) (P x)) → ∃ N, ∀ n, N ≤ n → ∀ x ∈ l, ∃ r, f n x = some r ∧ P x r
 | [], _ => ⟨0, fun _ _ x hx => by cases hx⟩
 | a :: l, h => by
  obtain ⟨N, hN⟩ := pZ l fun x hx => h x (List.mem_cons_of_mem _ hx)
  obtain ⟨r, hr, M, hM⟩ := h a (List.mem_cons_self ..)
  refine ⟨max N M, fun n hn x hx => ?_⟩
  rcases List.mem_cons.1 hx with rfl | hx
  ·exact ⟨r, hM n (by omega), hr⟩
  ·exact hN n (by omega) x hx
open Classical in
noncomputable def N5 (x y : u6) : Bool := decide (x = y)
theorem bE {x y : u6} : N5 x y = true ↔ x = y := by unfold N5; simp
theorem qb {x y : u6} {v : Bool} (h : v = true ↔ x = y) : v = N5 x y := by
 cases v
 ·cases e : N5 x y
  ·rfl
  ·exact absurd (h.2 (bE.1 e)) (by decide)
 ·exact (bE.2 (h.1 rfl)).symm
theorem wC (x y : u6) : N5 x y = N5 y x := by
 cases e : N5 x y
 ·cases e2 : N5 y x
  ·rfl
  ·rw [bE.2 (bE.1 e2).symm] at e; cases e
 ·exact (bE.2 (bE.1 e).symm).symm
theorem ud (x y z : u6) (h1 : N5 x y = true) (h2 : N5 y z = true) : N5 x z = true := bE.2 ((bE.1 h1).trans (bE.1 h2))
theorem yW (a b : List u6) (ha : a.length ≤ 100) (hb : b.length ≤ 100) : Evt (fun n => pT n a b) (fun T => T = Lcs.tab N5 a b) := by
 have hx : ∀ x ∈ a, ∃ N, ∀ n, N ≤ n → ∀ y ∈ b, ∃ r, K8 n x y = some r ∧ (r = true ↔ x = y) := fun x _ => pZ b fun y _ => kZ x y
 have key : ∀ l : List u6, (∀ x ∈ l, x ∈ a) → ∃ N, ∀ n, N ≤ n → ∀ x ∈ l, ∀ y ∈ b, ∃ r, K8 n x y = some r ∧ (r = true ↔ x = y) := by
  intro l
  induction l with
  | nil => exact fun _ => ⟨0, fun _ _ x hx => by cases hx⟩
  | cons c l ih =>
   intro hl
   obtain ⟨N, hN⟩ := ih fun x hx => hl x (List.mem_cons_of_mem _ hx)
   obtain ⟨M, hM⟩ := hx c (hl c (List.mem_cons_self ..))
   refine ⟨max N M, fun n hn x hx y hy => ?_⟩
   rcases List.mem_cons.1 hx with rfl | hx
   ·exact hM n (by omega) y hy
   ·exact hN n (by omega) x hx y hy
 obtain ⟨N, hN⟩ := key a fun _ h => h
 refine ⟨_, rfl, N, fun n hn => ?_⟩
 show pT n a b = _
 unfold pT
 rw [rZ ⟨by rw [bI]; omega, by rw [bI]; omega⟩, rZ (List.all_eq_true.2 fun x hx => List.all_eq_true.2 fun y hy => by
  obtain ⟨r, h1, _⟩ := hN n hn x hx y hy
  rw [h1]; rfl)]
 refine congrArg some (Lcs.uy fun x hx y hy => ?_)
 obtain ⟨r, h1, h2⟩ := hN n hn x hx y hy
 rw [h1]
 exact qb h2
def dX (a b : List u6) (i k : Int) : Prop := 0 ≤ i ∧ i ≤ a.length ∧ 0 ≤ k ∧ k ≤ b.length
noncomputable def F6 (a b : List u6) (i k : Int) : Int := ((Lcs.cost N5 (a.drop i.toNat) (b.drop k.toNat) : Nat) : Int)
theorem bf {a : List u6} {i : Int} (h : 0 ≤ i) (h2 : i < a.length) : a.drop i.toNat = Am.get a i.toNat :: a.drop (i + 1).toNat := by
 have hi : i.toNat < a.length := by omega
 rw [List.drop_eq_getElem_cons hi, show (i + 1).toNat = i.toNat + 1 by omega]
 simp [Am.get, hi]
theorem gK {a : List u6} {i : Int} (h2 : (a.length : Int) ≤ i) : a.drop i.toNat = [] := List.drop_eq_nil_of_le (by omega)
theorem sJ {a b : List u6} {i k : Int} (hi : 0 ≤ i) (hi2 : i < a.length) (hk : 0 ≤ k) (hk2 : k < b.length) (h : N5 (Am.get a i.toNat) (Am.get b k.toNat) = true) : F6 a b i k = F6 a b (i + 1) (k + 1) := by
 unfold F6
 rw [bf hi hi2, bf hk hk2, Lcs.uw _ h]
theorem sK {a b : List u6} {i k : Int} (hi : 0 ≤ i) (hi2 : i < a.length) (hk : 0 ≤ k) (hk2 : k < b.length) (h : N5 (Am.get a i.toNat) (Am.get b k.toNat) = false)
  (hc : Lcs.lc N5 a b i.toNat (k + 1).toNat ≤ Lcs.lc N5 a b (i + 1).toNat k.toNat) : F6 a b i k = 1 + F6 a b (i + 1) k := by
 unfold F6
 unfold Lcs.lc at hc
 rw [bf hi hi2, bf hk hk2] at *
 rw [Lcs.ux _ h (by omega)]
 omega
theorem uM {a b : List u6} {i k : Int} (hi : 0 ≤ i) (hi2 : i < a.length) (hk : 0 ≤ k) (hk2 : k < b.length) (h : N5 (Am.get a i.toNat) (Am.get b k.toNat) = false)
  (hc : ¬ Lcs.lc N5 a b i.toNat (k + 1).toNat ≤ Lcs.lc N5 a b (i + 1).toNat k.toNat) : F6 a b i k = 1 + F6 a b i (k + 1) := by
 unfold F6
 unfold Lcs.lc at hc
 rw [bf hi hi2, bf hk hk2] at *
 rw [Lcs.xY _ h (by omega)]
 omega
theorem sL {a b : List u6} {i k : Int} (hi : 0 ≤ i) (hi2 : i < a.length) (hk2 : (b.length : Int) ≤ k) : F6 a b i k = 1 + F6 a b (i + 1) k := by
 unfold F6
 rw [bf hi hi2, gK hk2, Lcs.kr, Lcs.kr]
 simp only [List.length_cons]
 omega
theorem sM {a b : List u6} {i k : Int} (hi2 : (a.length : Int) ≤ i) (hk : 0 ≤ k) (hk2 : k < b.length) : F6 a b i k = 1 + F6 a b i (k + 1) := by
 unfold F6
 rw [bf hk hk2, gK hi2, Lcs.fI, Lcs.fI]
 simp only [List.length_cons]
 omega
theorem uN {a b : List u6} {i k : Int} (hi2 : (a.length : Int) ≤ i) (hk2 : (b.length : Int) ≤ k) : F6 a b i k = 0 := by
 unfold F6
 rw [gK hk2, gK hi2, Lcs.fI]
 rfl
theorem rD {a b : List u6} {i k : Nat} (hi : i ≤ a.length) (hk : k ≤ b.length) : Am.get (Am.get (Lcs.tab N5 a b) i) k = Lcs.lc N5 a b i k := Lcs.CV hi hk
theorem wI {a b : List u6} : (Lcs.tab N5 a b).length = a.length + 1 := Lcs.cV ..
theorem nT {a b : List u6} {i : Nat} (hi : i ≤ a.length) : (Am.get (Lcs.tab N5 a b) i).length = b.length + 1 := Lcs.AK hi
def Cw (a b : List u6) (i k : Int) : Prop := i < a.length → k < b.length → N5 (Am.get a i.toNat) (Am.get b k.toNat) = false
def CX (a b : List u6) (i k : Int) : Prop := ((a.length : Int) ≤ i ∧ (b.length : Int) ≤ k) ∨ (i < a.length ∧ k < b.length ∧ N5 (Am.get a i.toNat) (Am.get b k.toNat) = true)
theorem wJ (a b : List u6) (ha : a.length ≤ 100) (hb : b.length ≤ 100) (i k : Int) (h : dX a b i k) :
  Evt (fun n => ct (R3 n a b) n (0, i, k)) (ExP (fun t => t.1 = t.2.1 - i ∧ i ≤ t.2.1 ∧ k ≤ t.2.2 ∧ dX a b t.2.1 t.2.2 ∧ F6 a b i k = F6 a b t.2.1 t.2.2 ∧ Cw a b t.2.1 t.2.2) (fun _ => False)) := by
 refine Evt.loop (fun s : Int × Int × Int => (a.length - s.2.1).toNat) (fun s => s.1 = s.2.1 - i ∧ i ≤ s.2.1 ∧ k ≤ s.2.2 ∧ dX a b s.2.1 s.2.2 ∧ F6 a b i k = F6 a b s.2.1 s.2.2) _ _ ⟨by show (0 : Int) = i - i; omega, Int.le_refl _, Int.le_refl _, h, rfl⟩ (fun s hs => ?_)
 have h0 : 0 ≤ i := h.1
 have h00 : 0 ≤ k := h.2.2.1
 obtain ⟨p, x, y⟩ := s
 obtain ⟨h1, h2, h3, ⟨s1, s2, s3, s4⟩, h5⟩ := hs
 simp only at *
 unfold R3
 by_cases hi : x < (↑a.length : Int)
 ·by_cases hk : y < (↑b.length : Int)
  ·rw [decide_eq_true hi, decide_eq_true hk]
   simp only [cond_true]
   refine Evt.chk ⟨fun _ => s1, fun _ => hi⟩ (Evt.chk ⟨fun _ => s3, fun _ => hk⟩ (Evt.bind (P := fun v => v = true ↔ Am.get a x.toNat = Am.get b y.toNat) (kZ _ _) fun v hv => ?_))
   have hv := qb hv
   refine Evt.cond (fun e => Evt.pure ?_) (fun e => Evt.pure ?_)
   ·rw [hv] at e
    simp only [vo]
    rw [W0 (by omega) (by omega), W0 (by omega) (by omega), W0 (by omega) (by omega)]
    refine ⟨⟨by omega, by omega, by omega, ⟨by omega, by omega, by omega, by omega⟩, ?_⟩, by omega⟩
    rw [h5, sJ s1 hi s3 hk e]
   ·rw [hv] at e
    exact ⟨h1, h2, h3, ⟨s1, s2, s3, s4⟩, h5, fun _ _ => e⟩
  ·rw [decide_eq_true hi, decide_eq_false hk]
   simp only [cond_true]
   exact Evt.chk ⟨fun e => by (cases e), fun e => by (cases e)⟩ (Evt.chk ⟨fun e => by (cases e), fun e => by (cases e)⟩ (Evt.bind (P := fun _ => True) (Evt.gd (fun e => by (cases e)) (fun _ => trivial)) fun v hv => Evt.pure ⟨h1, h2, h3, ⟨s1, s2, s3, s4⟩, h5, fun _ h => absurd h hk⟩))
 ·rw [decide_eq_false hi]
  simp only [cond_false]
  exact Evt.chk ⟨fun e => by (cases e), fun e => by (cases e)⟩ (Evt.chk ⟨fun e => by (cases e), fun e => by (cases e)⟩ (Evt.bind (P := fun _ => True) (Evt.gd (fun e => by (cases e)) (fun _ => trivial)) fun v hv => Evt.pure ⟨h1, h2, h3, ⟨s1, s2, s3, s4⟩, h5, fun h => absurd h hi⟩))
theorem wK (a b : List u6) (ha : a.length ≤ 100) (hb : b.length ≤ 100) (i k : Int) (h : dX a b i k) :
  Evt (fun n => ct (R4 n a b (Lcs.tab N5 a b)) n (0, [], i, k)) (ExP (fun t : Int × List u6 × Int × Int => t.1 = t.2.2.1 - i ∧ (t.2.1.length : Int) = t.2.2.2 - k ∧ i ≤ t.2.2.1 ∧ k ≤ t.2.2.2 ∧ dX a b t.2.2.1 t.2.2.2 ∧ F6 a b i k = t.1 + t.2.1.length + F6 a b t.2.2.1 t.2.2.2 ∧ (∀ v ∈ t.2.1, v ∈ b) ∧ CX a b t.2.2.1 t.2.2.2) (fun _ => False)) := by
 refine Evt.loop (fun s : Int × List u6 × Int × Int => (a.length - s.2.2.1).toNat + (b.length - s.2.2.2).toNat) (fun s => s.1 = s.2.2.1 - i ∧ (s.2.1.length : Int) = s.2.2.2 - k ∧ i ≤ s.2.2.1 ∧ k ≤ s.2.2.2 ∧ dX a b s.2.2.1 s.2.2.2 ∧ F6 a b i k = s.1 + s.2.1.length + F6 a b s.2.2.1 s.2.2.2 ∧ ∀ v ∈ s.2.1, v ∈ b) _ _ ⟨by show (0 : Int) = i - i; omega, by show (([] : List u6).length : Int) = k - k; simp, Int.le_refl _, Int.le_refl _, h, by simp, fun v hv => by cases hv⟩ (fun s hs => ?_)
 have h0 : 0 ≤ i := h.1
 have h00 : 0 ≤ k := h.2.2.1
 obtain ⟨d, u, x, y⟩ := s
 obtain ⟨h1, h2, h3, h4, ⟨s1, s2, s3, s4⟩, h5, hmem⟩ := hs
 simp only at *
 have hwx : wr .i64 (x + 1) = x + 1 := W0 (by omega) (by omega)
 have hwy : wr .i64 (y + 1) = y + 1 := W0 (by omega) (by omega)
 have hwd : wr .i64 (d + 1) = d + 1 := W0 (by omega) (by omega)
 have Gx : y < (↑b.length : Int) → F6 a b x y = 1 + F6 a b x (y + 1) → Evt (fun _ => chk (0 ≤ y ∧ y < (↑b.length : Int)) <| eV (u ++ [(Am.get b y.toNat)]) fun c133 => chk (c133.length * 152 ≤ top ∧ c133.length ≤ top) <| some (Ctl.nxt (ρ := Ctl (List u7) (List u7 × Int × Int) (List u7)) (τ := Int × List u6 × Int × Int) (d, c133, x, (wr .i64 (y + 1)))))
   (vo (fun s' => (s'.1 = s'.2.2.1 - i ∧ (s'.2.1.length : Int) = s'.2.2.2 - k ∧ i ≤ s'.2.2.1 ∧ k ≤ s'.2.2.2 ∧ dX a b s'.2.2.1 s'.2.2.2 ∧ F6 a b i k = s'.1 + s'.2.1.length + F6 a b s'.2.2.1 s'.2.2.2 ∧ ∀ v ∈ s'.2.1, v ∈ b) ∧ (a.length - s'.2.2.1).toNat + (b.length - s'.2.2.2).toNat < (a.length - x).toNat + (b.length - y).toNat)
    (fun t => t.1 = t.2.2.1 - i ∧ (t.2.1.length : Int) = t.2.2.2 - k ∧ i ≤ t.2.2.1 ∧ k ≤ t.2.2.2 ∧ dX a b t.2.2.1 t.2.2.2 ∧ F6 a b i k = t.1 + t.2.1.length + F6 a b t.2.2.1 t.2.2.2 ∧ (∀ v ∈ t.2.1, v ∈ b) ∧ CX a b t.2.2.1 t.2.2.2) (fun _ => False)) := fun hk hr => by
  have hl : ((u ++ [(Am.get b y.toNat)]).length : Int) = u.length + 1 := by simp
  refine Evt.chk ⟨s3, hk⟩ (Evt.eV (Evt.chk ⟨by rw [bI]; omega, by rw [bI]; omega⟩ (Evt.pure ?_)))
  rw [hwy]
  refine ⟨⟨h1, ?_, h3, ?_, ⟨s1, s2, ?_, ?_⟩, ?_, ?_⟩, ?_⟩
  ·show ((u ++ [(Am.get b y.toNat)]).length : Int) = y + 1 - k; omega
  ·show k ≤ y + 1; omega
  ·show 0 ≤ y + 1; omega
  ·show y + 1 ≤ _; omega
  ·show _ = d + ((u ++ [(Am.get b y.toNat)]).length : Int) + F6 a b x (y + 1); omega
  ·intro v hv
   rcases List.mem_append.1 hv with hv | hv
   ·exact hmem v hv
   ·rw [List.mem_singleton.1 hv]
    exact get_mem (by omega)
  ·show (a.length - x).toNat + (b.length - (y + 1)).toNat < _; omega
 have Bd : x < (↑a.length : Int) → F6 a b x y = 1 + F6 a b (x + 1) y → (d + 1 = x + 1 - i ∧ (u.length : Int) = y - k ∧ i ≤ x + 1 ∧ k ≤ y ∧ dX a b (x + 1) y ∧ F6 a b i k = d + 1 + u.length + F6 a b (x + 1) y ∧ ∀ v ∈ u, v ∈ b) ∧ (a.length - (x + 1)).toNat + (b.length - y).toNat < (a.length - x).toNat + (b.length - y).toNat := fun hi hr =>
  ⟨⟨by omega, h2, by omega, h4, ⟨by omega, by omega, s3, s4⟩, by omega, hmem⟩, by omega⟩
 unfold R4
 simp only [hwx, hwd]
 by_cases hi : x < (↑a.length : Int)
 ·by_cases hk : y < (↑b.length : Int)
  ·have hne : ¬ y = (↑b.length : Int) := by omega
   rw [decide_eq_true hi, decide_eq_true hk, decide_eq_false hne]
   simp only [cond_true, cond_false, Bool.and_self, Bool.not_false, Bool.true_and, Bool.and_true]
   refine Evt.chk ⟨fun _ => s1, fun _ => hi⟩ (Evt.chk ⟨fun _ => s3, fun _ => hk⟩ (Evt.bind (P := fun v => v = true ↔ Am.get a x.toNat = Am.get b y.toNat) (kZ _ _) fun v hv => ?_))
   have hv := qb hv
   refine Evt.cond (fun e => ?_) (fun e => Evt.pure ⟨h1, h2, h3, h4, ⟨s1, s2, s3, s4⟩, h5, hmem, .inr ⟨hi, hk, ?_⟩⟩)
   ·have e1 : N5 (Am.get a x.toNat) (Am.get b y.toNat) = false := by rw [← hv]; simpa using e
    have tx : (x + 1).toNat = x.toNat + 1 := by omega
    have ty : (y + 1).toNat = y.toNat + 1 := by omega
    have b1 : x.toNat < a.length := by omega
    have b2 : y.toNat < b.length := by omega
    have g1 := rD (a := a) (b := b) (i := (x + 1).toNat) (k := y.toNat) (by omega) (by omega)
    have g2 := rD (a := a) (b := b) (i := x.toNat) (k := (y + 1).toNat) (by omega) (by omega)
    rw [wI, hwy, nT (i := (x + 1).toNat) (by omega), nT (i := x.toNat) (by omega), g1, g2]
    refine Evt.chk ⟨fun _ => by omega, fun _ => by omega⟩ (Evt.chk ⟨fun _ => by omega, fun _ => by omega⟩ (Evt.chk ⟨fun _ => by omega, fun _ => by omega⟩ (Evt.chk ⟨fun _ => by omega, fun _ => by omega⟩ ?_)))
    refine Evt.cond (fun e2 => Evt.pure (Bd hi (sK s1 hi s3 hk e1 (of_decide_eq_true e2)))) (fun e2 => ?_)
    have := Gx hk (uM s1 hi s3 hk e1 (of_decide_eq_false e2))
    rw [hwy] at this
    exact this
   ·rw [← hv]; simpa using e
  ·have he : y = (↑b.length : Int) := by omega
   rw [decide_eq_true hi, decide_eq_false hk, decide_eq_true he]
   simp only [cond_true, cond_false, Bool.and_false, Bool.not_false, Bool.not_true, Bool.false_and]
   refine Evt.chk ⟨fun e => by (cases e), fun e => by (cases e)⟩ (Evt.chk ⟨fun e => by (cases e), fun e => by (cases e)⟩ (Evt.bind (P := fun _ => True) (Evt.gd (fun e => by (cases e)) (fun _ => trivial)) fun v hv => ?_))
   refine Evt.chk ⟨fun e => by (cases e), fun e => by (cases e)⟩ (Evt.chk ⟨fun e => by (cases e), fun e => by (cases e)⟩ (Evt.chk ⟨fun e => by (cases e), fun e => by (cases e)⟩ (Evt.chk ⟨fun e => by (cases e), fun e => by (cases e)⟩ ?_)))
   exact Evt.pure (Bd hi (sL s1 hi (by omega)))
 ·by_cases hk : y < (↑b.length : Int)
  ·have hne : ¬ y = (↑b.length : Int) := by omega
   rw [decide_eq_false hi, decide_eq_true hk, decide_eq_false hne]
   simp only [cond_true, cond_false, Bool.and_false, Bool.not_false, Bool.not_true, Bool.false_and]
   refine Evt.chk ⟨fun e => by (cases e), fun e => by (cases e)⟩ (Evt.chk ⟨fun e => by (cases e), fun e => by (cases e)⟩ (Evt.bind (P := fun _ => True) (Evt.gd (fun e => by (cases e)) (fun _ => trivial)) fun v hv => ?_))
   refine Evt.chk ⟨fun e => by (cases e), fun e => by (cases e)⟩ (Evt.chk ⟨fun e => by (cases e), fun e => by (cases e)⟩ (Evt.chk ⟨fun e => by (cases e), fun e => by (cases e)⟩ (Evt.chk ⟨fun e => by (cases e), fun e => by (cases e)⟩ ?_)))
   exact Gx hk (sM (by omega) s3 hk)
  ·rw [decide_eq_false hi, decide_eq_false hk]
   simp only [cond_true, cond_false, Bool.and_false, Bool.not_false, Bool.not_true, Bool.false_and]
   refine Evt.chk ⟨fun e => by (cases e), fun e => by (cases e)⟩ (Evt.chk ⟨fun e => by (cases e), fun e => by (cases e)⟩ (Evt.bind (P := fun _ => True) (Evt.gd (fun e => by (cases e)) (fun _ => trivial)) fun v hv => ?_))
   exact Evt.pure ⟨h1, h2, h3, h4, ⟨s1, s2, s3, s4⟩, h5, hmem, .inl ⟨by show (↑a.length : Int) ≤ x; omega, by show (↑b.length : Int) ≤ y; omega⟩⟩
def cg (l : List u7) : Int := (l.map fun x => x.drop + (↑x.put.length : Int)).sum
def sD (b : List u6) (x : u7) : Prop := 0 ≤ x.keep ∧ x.keep ≤ 100 ∧ 0 ≤ x.drop ∧ x.drop ≤ 100 ∧ x.put.length ≤ 100 ∧ ∀ v ∈ x.put, v ∈ b
theorem ug (a b : List u6) (ha : a.length ≤ 100) (hb : b.length ≤ 100) :
  Evt (fun n => Z9 n a b) (fun l => cg l = ((Lcs.cost N5 a b : Nat) : Int) ∧ l.length ≤ 200 ∧ ∀ x ∈ l, sD b x) := by
 unfold Z9
 refine Evt.bind (yW a b ha hb) fun v1 hv1 => ?_
 subst hv1
 refine Evt.E0 (P := ExP (fun l => cg l = ((Lcs.cost N5 a b : Nat) : Int) ∧ l.length ≤ 200 ∧ ∀ x ∈ l, sD b x) (fun _ => False)) (Evt.loop (fun s : List u7 × Int × Int => (a.length - s.2.1).toNat + (b.length - s.2.2).toNat)
  (fun s => dX a b s.2.1 s.2.2 ∧ ((Lcs.cost N5 a b : Nat) : Int) = cg s.1 + F6 a b s.2.1 s.2.2 ∧ (s.1.length : Int) ≤ s.2.1 + s.2.2 ∧ ∀ x ∈ s.1, sD b x) _ _ ⟨⟨Int.le_refl _, by show (0 : Int) ≤ _; omega, Int.le_refl _, by show (0 : Int) ≤ _; omega⟩, by simp [cg, F6], by simp, fun x hx => by cases hx⟩ (fun s hs => ?_)) (fun t ht => Evt.pure ht) (fun _ h => h.elim)
 obtain ⟨out, i, k⟩ := s
 obtain ⟨hs0, h5, h6, h7⟩ := hs
 have Ir := hs0
 obtain ⟨s1, s2, s3, s4⟩ := Ir
 simp only at *
 unfold Z4
 refine Evt.cond (fun e => ?_) (fun e => Evt.pure ?_)
 ·have hne : i < a.length ∨ k < b.length := by
   simpa using e
  refine Evt.E0 (wJ a b ha hb i k hs0) (fun t ht => ?_) (fun _ h => h.elim)
  obtain ⟨p, x, y⟩ := t
  obtain ⟨p1, p2, p3, pk, p5, p6⟩ := ht
  have pk' := pk
  obtain ⟨q1, q2, q3, q4⟩ := pk'
  simp only at *
  unfold Z2
  refine Evt.E0 (wK a b ha hb x y pk) (fun t ht => ?_) (fun _ h => h.elim)
  obtain ⟨d, u, z, w⟩ := t
  obtain ⟨m1, m2, m3, m4, mk, m6, mm, m7⟩ := ht
  have mk' := mk
  obtain ⟨n1, n2, n3, n4⟩ := mk'
  simp only at *
  unfold Z1
  simp only
  have Iu : i + k < z + w := by
   by_cases hz : z = i ∧ w = k
   ·exfalso
    obtain ⟨rfl, rfl⟩ := hz
    have ex : x = z := by omega
    have ey : y = w := by omega
    rw [ex, ey] at p6
    rcases m7 with ⟨g1, g2⟩ | ⟨g1, g2, g3⟩
    ·omega
    ·rw [p6 g1 g2] at g3; cases g3
   ·omega
  refine Evt.chk ⟨by rw [bI]; omega, by rw [bI]; omega⟩ (Evt.pure ⟨⟨mk, ?_, ?_, ?_⟩, ?_⟩)
  ·have : cg (out ++ [u7.mk p d u]) = cg out + (d + u.length) := by simp [cg]
   show _ = cg (out ++ [u7.mk p d u]) + F6 a b z w
   omega
  ·have : ((out ++ [u7.mk p d u]).length : Int) = out.length + 1 := by simp
   show ((out ++ [u7.mk p d u]).length : Int) ≤ z + w
   omega
  ·intro v hv
   rcases List.mem_append.1 hv with hv | hv
   ·exact h7 v hv
   ·rw [List.mem_singleton.1 hv]
    exact ⟨by show 0 ≤ p; omega, by show p ≤ 100; omega, by show 0 ≤ d; omega, by show d ≤ 100; omega, by show u.length ≤ 100; omega, mm⟩
  ·show (a.length - z).toNat + (b.length - w).toNat < (a.length - i).toNat + (b.length - k).toNat
   omega
 ·have hne : ¬ (i < a.length ∨ k < b.length) := by
   intro h
   have : (bif (decide (i < (↑a.length : Int))) then true else (decide (k < (↑b.length : Int)))) = true := by
    rcases h with h | h
    ·rw [decide_eq_true h]; rfl
    ·rw [decide_eq_true h]; cases decide (i < (↑a.length : Int)) <;> rfl
   rw [this] at e; cases e
  rw [uN (by omega) (by omega)] at h5
  exact ⟨by show cg out = _; omega, by show out.length ≤ 200; omega, h7⟩
end Go.Proofs.YtaohdfpcdfbnlaaGreatDoor
