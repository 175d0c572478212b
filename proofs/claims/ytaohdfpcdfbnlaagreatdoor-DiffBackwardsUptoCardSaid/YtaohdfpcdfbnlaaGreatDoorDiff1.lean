import Derived.Test.YtaohdfpcdfbnlaaGreatDoorLcs
import Derived.Test.YtaohdfpcdfbnlaaGreatDoorVal4
set_option linter.unusedVariables false
set_option linter.unusedSimpArgs false
namespace Go.Proofs.YtaohdfpcdfbnlaaGreatDoor
open Go Go.Am
section
variable {α : Type} [Inhabited α]
theorem tW {l m : List α} (hl : l.length = m.length) (h : ∀ k, k < l.length → Am.get l k = Am.get m k) : l = m := by
 refine List.ext_getElem hl fun k h1 h2 => ?_
 have := h k h1
 simpa [Am.get, h1, h2] using this
theorem Az (f : Nat → α → α → Option Bool) (l m : List α) (hl : l.length = m.length) (hf : ∀ k, k < l.length → Evt (fun n => f n (Am.get l k) (Am.get m k)) (fun r => r = true ↔ Am.get l k = Am.get m k)) :
  Evt (fun n => E0 (F0 (fun (k : Nat) (_ : Unit) => chk ((↑k : Int) < (↑m.length : Int)) ((f n (Am.get l k) (Am.get m k)).bind fun v => bif (!v) then some (Ctl.ret false) else some (Ctl.nxt ()))) l.length ()) (fun _ => some true)) (fun r => r = true ↔ l = m) := by
 refine Evt.E0 (Evt.range (fun k _ => ∀ j, j < k → Am.get l j = Am.get m j) (fun _ => False) (fun r : Bool => r = false ∧ l ≠ m) (fun j h => absurd h (Nat.not_lt_zero _)) (fun k u hk hj => ?_)) (fun u hu => ?_) (fun r hr => ?_)
 ·refine Evt.chk (by omega) (Evt.bind (hf k hk) fun v hv => Evt.cond (fun e => Evt.pure ⟨rfl, fun e2 => ?_⟩) (fun e => Evt.pure fun j hj' => ?_))
  ·rw [e2] at hv
   rw [hv.2 rfl] at e; cases e
  ·by_cases ej : j = k
   ·subst ej; exact hv.1 (by simpa using e)
   ·exact hj j (by omega)
 ·simp only [ExP, or_false] at hu
  exact Evt.pure (by simp only [true_iff]; exact tW hl hu)
 ·obtain ⟨rfl, h⟩ := (hr : r = false ∧ l ≠ m)
  simp [h]
theorem fR (f : Nat → α → α → Option Bool) (l m : List α) (hf : l.length = m.length → ∀ k, k < l.length → Evt (fun n => f n (Am.get l k) (Am.get m k)) (fun r => r = true ↔ Am.get l k = Am.get m k)) :
  Evt (fun n => bif (!decide ((↑l.length : Int) = (↑m.length : Int))) then some false else E0 (F0 (fun (k : Nat) (_ : Unit) => chk ((↑k : Int) < (↑m.length : Int)) ((f n (Am.get l k) (Am.get m k)).bind fun v => bif (!v) then some (Ctl.ret false) else some (Ctl.nxt ()))) l.length ()) (fun _ => some true)) (fun r => r = true ↔ l = m) := by
 refine Evt.cond (fun e => Evt.pure ?_) (fun e => ?_)
 ·simp only [Bool.cond_true_left, Bool.cond_false_right, Bool.not_eq_true', Bool.not_eq_false', Bool.or_eq_true, Bool.or_eq_false_iff, Bool.and_eq_true, Bool.and_eq_false_imp, Bool.not_true, Bool.not_false, decide_eq_true_eq, decide_eq_false_iff_not, Decidable.not_not, Int.not_lt, Int.not_le, Nat.not_lt, Nat.not_le, not_or, Bool.not_not, Bool.not_eq_true, Bool.true_eq_false, Bool.false_eq_true, Bool.or_true, Bool.true_or, Bool.and_true, Bool.true_and] at e
  simp only [Bool.false_eq_true, false_iff]
  intro h; exact e (by rw [h])
 ·simp only [Bool.cond_true_left, Bool.cond_false_right, Bool.not_eq_true', Bool.not_eq_false', Bool.or_eq_true, Bool.or_eq_false_iff, Bool.and_eq_true, Bool.and_eq_false_imp, Bool.not_true, Bool.not_false, decide_eq_true_eq, decide_eq_false_iff_not, Decidable.not_not, Int.not_lt, Int.not_le, Nat.not_lt, Nat.not_le, not_or, Bool.not_not, Bool.not_eq_true, Bool.true_eq_false, Bool.false_eq_true, Bool.or_true, Bool.true_or, Bool.and_true, Bool.true_and] at e
  have hl : l.length = m.length := by omega
  exact Az f l m hl (hf hl)
end
theorem AA (a b : List Int) : Evt (fun _ => P9 a b) (fun r => r = true ↔ a = b) := by
 unfold P9
 exact fR (fun _ x y => some (decide (x = y))) a b (fun _ k _ => Evt.pure (by simp))
theorem yK (a b : List x9) : Evt (fun _ => I7 a b) (fun r => r = true ↔ a = b) := by
 unfold I7
 exact fR (fun _ x y => some (decide (x.name = y.name) && (decide (x.of_ = y.of_) && decide (x.value = y.value)))) a b (fun _ k _ => Evt.pure (by
  generalize Am.get a k = x
  generalize Am.get b k = y
  cases x; cases y; simp))
theorem yL (a b : List D8) : Evt (fun _ => I8 a b) (fun r => r = true ↔ a = b) := by
 unfold I8
 exact fR (fun _ x y => some (decide (x.nZ = y.nZ) && decide (x.to_ = y.to_))) a b (fun _ k _ => Evt.pure (by
  generalize Am.get a k = x
  generalize Am.get b k = y
  cases x; cases y; simp))
theorem oc (a b : w4) : Evt (fun _ => W1 a b) (fun r => r = true ↔ a = b) := by
 unfold W1
 refine Evt.bind (P := fun r => r = true ↔ a.types = b.types) ?_ fun v1 h1 => Evt.bind (P := fun r => v1 = true → (r = true ↔ a.C9 = b.C9)) (Evt.gd (fun _ => (yK _ _).mono fun r hr _ => hr) (fun e h => by rw [e] at h; cases h)) fun v2 h2 => Evt.pure ?_
 ·unfold F3
  refine fR (fun _ x y => T4 x y) a.types b.types (fun _ k _ => ?_)
  generalize Am.get a.types k = x
  generalize Am.get b.types k = y
  unfold T4
  refine Evt.bind (P := fun r => x.name = y.name → (r = true ↔ x.parents = y.parents)) (Evt.gd (fun _ => (AA _ _).mono fun r hr _ => hr) (fun e h => absurd h (of_decide_eq_false e))) fun v hv => Evt.pure ?_
  obtain ⟨n1, p1⟩ := x
  obtain ⟨n2, p2⟩ := y
  simp only [w7.mk.injEq] at *
  by_cases h : n1 = n2 <;> simp_all
 ·cases a; cases b
  simp only [w4.mk.injEq] at *
  cases v1 <;> simp_all
theorem jA (a b : y5) : Evt (fun _ => Y4 a b) (fun r => r = true ↔ a = b) := by
 unfold Y4
 refine Evt.bind (P := fun r => r = true ↔ a.nodes = b.nodes) ?_ fun v1 h1 => Evt.pure ?_
 ·unfold F4
  refine fR (fun _ x y => bU x y) a.nodes b.nodes (fun _ k _ => ?_)
  generalize Am.get a.nodes k = x
  generalize Am.get b.nodes k = y
  unfold bU
  refine Evt.bind (P := fun r => x.type = y.type → (r = true ↔ x.links = y.links)) (Evt.gd (fun _ => (yL _ _).mono fun r hr _ => hr) (fun e h => absurd h (of_decide_eq_false e))) fun v hv => Evt.pure ?_
  obtain ⟨n1, p1⟩ := x
  obtain ⟨n2, p2⟩ := y
  simp only [w8.mk.injEq] at *
  by_cases h : n1 = n2 <;> simp_all
 ·cases a; cases b
  simpa using h1
theorem sB : ∀ (m : Nat) (s : u0), SizeOf.sizeOf s ≤ m → ∀ t : u0, Evt (fun n => P4 n s t) (fun r => r = true ↔ s = t) := by
 intro m
 induction m with
 | zero => intro s h; cases s; simp only [u0.mk.sizeOf_spec] at h; omega
 | succ m ih =>
  intro s hs t
  refine Evt.succ ?_
  simp only [P4]
  refine Evt.bind (P := fun r => s.base = t.base → (r = true ↔ s.args = t.args)) (Evt.gd (fun _ => ?_) (fun e h => absurd h (of_decide_eq_false e))) fun v hv => Evt.pure ?_
  ·refine Evt.mono (P := fun r => r = true ↔ s.args = t.args) ?_ fun r hr _ => hr
   unfold E2
   exact fR (fun n x y => P4 n x y) s.args t.args (fun _ k hk => ih _ (by have := iN hk; omega) _)
  ·obtain ⟨n1, p1⟩ := s
   obtain ⟨n2, p2⟩ := t
   simp only [u0.DN, u0.wz, u0.mk.injEq] at *
   by_cases h : n1 = n2 <;> simp_all
theorem pQ : ∀ (m : Nat) (s : w5), SizeOf.sizeOf s ≤ m → ∀ t : w5, Evt (fun n => T5 n s t) (fun r => r = true ↔ s = t) := by
 intro m
 induction m with
 | zero => intro s h; cases s; simp only [w5.mk.sizeOf_spec] at h; omega
 | succ m ih =>
  intro s hs t
  refine Evt.succ ?_
  simp only [T5]
  refine Evt.bind (P := fun r => (s.kind = t.kind ∧ s.name = t.name ∧ s.index = t.index) → (r = true ↔ s.type = t.type)) (Evt.gd (fun _ => (sB _ _ (Nat.le_refl _) _).mono fun r hr _ => hr) (fun e h => ?_)) fun v1 hv1 => ?_
  ·rw [h.1, h.2.1, h.2.2] at e; simp at e
  refine Evt.bind (P := fun r => (s.kind = t.kind ∧ s.name = t.name ∧ s.index = t.index ∧ v1 = true) → (r = true ↔ s.args = t.args)) (Evt.gd (fun _ => ?_) (fun e h => ?_)) fun v hv => Evt.pure ?_
  ·refine Evt.mono (P := fun r => r = true ↔ s.args = t.args) ?_ fun r hr _ => hr
   unfold F5
   exact fR (fun n x y => T5 n x y) s.args t.args (fun _ k hk => ih _ (by have := jB hk; omega) _)
  ·rw [h.1, h.2.1, h.2.2.1, h.2.2.2] at e; simp at e
  ·obtain ⟨k1, n1, i1, t1, g1⟩ := s
   obtain ⟨k2, n2, i2, t2, g2⟩ := t
   simp only [w5.DQ, w5.DR, w5.Cn, w5.DS, w5.wz, w5.mk.injEq] at *
   by_cases h1 : k1 = k2 <;> by_cases h2 : n1 = n2 <;> by_cases h3 : i1 = i2 <;> cases v1 <;> simp_all
theorem kZ (a b : u6) : Evt (fun n => K8 n a b) (fun r => r = true ↔ a = b) := by
 unfold K8
 refine Evt.bind (P := fun r => (a.name = b.name ∧ a.kids = b.kids ∧ a.weight = b.weight) → (r = true ↔ a.graph = b.graph)) (Evt.gd (fun _ => (jA _ _).mono fun r hr _ => hr) (fun e h => ?_)) fun v1 hv1 => ?_
 ·rw [h.1, h.2.1, h.2.2] at e; simp at e
 refine Evt.bind (P := fun r => (a.name = b.name ∧ a.kids = b.kids ∧ a.weight = b.weight ∧ v1 = true) → (r = true ↔ a.meaning = b.meaning)) (Evt.gd (fun _ => (pQ _ _ (Nat.le_refl _) _).mono fun r hr _ => hr) (fun e h => ?_)) fun v hv => Evt.pure ?_
 ·rw [h.1, h.2.1, h.2.2.1, h.2.2.2] at e; simp at e
 ·obtain ⟨n1, g1, k1, w1, m1⟩ := a
  obtain ⟨n2, g2, k2, w2, m2⟩ := b
  simp only [u6.mk.injEq] at *
  by_cases h1 : n1 = n2 <;> by_cases h2 : k1 = k2 <;> by_cases h3 : w1 = w2 <;> cases v1 <;> simp_all
theorem nj (a b : w9) : Evt (fun n => L9 n a b) (fun r => r = true ↔ a = b) := by
 unfold L9
 refine Evt.bind (P := fun r => (a.word = b.word ∧ a.weight = b.weight) → (r = true ↔ a.graph = b.graph)) (Evt.gd (fun _ => (jA _ _).mono fun r hr _ => hr) (fun e h => ?_)) fun v1 hv1 => ?_
 ·rw [h.1, h.2] at e; simp at e
 refine Evt.bind (P := fun r => (a.word = b.word ∧ a.weight = b.weight ∧ v1 = true) → (r = true ↔ a.meaning = b.meaning)) (Evt.gd (fun _ => (pQ _ _ (Nat.le_refl _) _).mono fun r hr _ => hr) (fun e h => ?_)) fun v hv => Evt.pure ?_
 ·rw [h.1, h.2.1, h.2.2] at e; simp at e
 ·obtain ⟨n1, g1, w1, m1⟩ := a
  obtain ⟨n2, g2, w2, m2⟩ := b
  simp only [w9.mk.injEq] at *
  by_cases h1 : n1 = n2 <;> by_cases h2 : w1 = w2 <;> cases v1 <;> simp_all
end Go.Proofs.YtaohdfpcdfbnlaaGreatDoor
