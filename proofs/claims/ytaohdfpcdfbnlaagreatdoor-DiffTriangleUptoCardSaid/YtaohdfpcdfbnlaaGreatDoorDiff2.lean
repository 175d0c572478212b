import Derived.Test.YtaohdfpcdfbnlaaGreatDoorDiff1
set_option linter.unusedVariables false
set_option linter.unusedSimpArgs false
namespace Go.Proofs.YtaohdfpcdfbnlaaGreatDoor
open Go Go.Am
inductive pR : u0 → Prop
 | mk (s : u0) (h : s.args.length ≤ 1048576) (h2 : ∀ k, k < s.args.length → pR (Am.get s.args k)) : pR s
inductive yM : w5 → Prop
 | mk (t : w5) (h0 : pR t.type) (h : t.args.length ≤ 1048576) (h2 : ∀ k, k < t.args.length → yM (Am.get t.args k)) : yM t
structure Cp (r : u6) : Prop where
 graph : r.graph.nodes.length ≤ 1048576
 meaning : yM r.meaning
structure Hq (r : w9) : Prop where
 word : r.word.length ≤ 1048576
 graph : r.graph.nodes.length ≤ 1048576
 meaning : yM r.meaning
structure sC (g : x5) : Prop where
 types : g.hierarchy.types.length ≤ 1048576
 start : g.start.nodes.length ≤ 1048576
 rules : ∀ y ∈ g.rules, Cp y
 D0 : ∀ y ∈ g.D0, Hq y
theorem cJ {α ρ : Type} [Inhabited α] (f : Nat → α → Option α) (l : List α) (b : Nat) (hb : b ≤ 4096) (hl : l.length ≤ 1048576) (hf : ∀ k, k < l.length → Evt (fun n => f n (Am.get l k)) (fun _ => True)) :
  Evt (fun n => F0 (ρ := ρ) (fun (k : Nat) (s : List α) => (f n (Am.get l k)).bind fun v => eV (s ++ [v]) fun c => chk (c.length * b ≤ top ∧ c.length ≤ top) (some (Ctl.nxt c))) l.length []) (ExP (fun t => t.length = l.length) (fun _ => False)) := by
 refine (Evt.range (fun k (s : List α) => s.length = k) (fun _ => False) (fun _ => False) rfl (fun k s hk hs => ?_)).mono fun r hr => ?_
 ·refine Evt.bind (hf k hk) fun v _ => Evt.eV (Evt.chk ?_ (Evt.pure ?_))
  ·have : (s ++ [v]).length = k + 1 := by simp [hs]
   rw [this, bI]
   have : (k + 1) * b ≤ 1048576 * 4096 := Nat.mul_le_mul (by omega) hb
   omega
  ·simp [vo, hs]
 ·cases r with
  | nxt t => simpa [ExP] using hr
  | ret x => exact hr
theorem qB : ∀ (m : Nat) (s : u0), SizeOf.sizeOf s ≤ m → pR s → Evt (fun n => M8 n s) (fun _ => True) := by
 intro m
 induction m with
 | zero => intro s h; cases s; simp only [u0.mk.sizeOf_spec] at h; omega
 | succ m ih =>
  intro s hs hb
  obtain ⟨_, h1, h2⟩ := hb
  refine Evt.succ ?_
  simp only [M8]
  refine Evt.E0 (cJ (fun n x => M8 n x) s.args 40 (by decide) h1 (fun k hk => ih _ (by have := iN hk; omega) (h2 k hk))) (fun t _ => Evt.pure trivial) (fun _ h => h.elim)
theorem nS : ∀ (m : Nat) (s : w5), SizeOf.sizeOf s ≤ m → yM s → Evt (fun n => O8 n s) (fun _ => True) := by
 intro m
 induction m with
 | zero => intro s h; cases s; simp only [w5.mk.sizeOf_spec] at h; omega
 | succ m ih =>
  intro s hs hb
  obtain ⟨_, h0, h1, h2⟩ := hb
  refine Evt.succ ?_
  simp only [O8]
  refine Evt.bind (qB _ _ (Nat.le_refl _) h0) fun v _ => ?_
  refine Evt.E0 (cJ (fun n x => O8 n x) s.args 96 (by decide) h1 (fun k hk => ih _ (by have := jB hk; omega) (h2 k hk))) (fun t _ => Evt.pure trivial) (fun _ h => h.elim)
theorem iO (g : y5) (h : g.nodes.length ≤ 1048576) : Evt (fun _ => P5 g) (fun _ => True) := by
 unfold P5
 exact Evt.E0 (cJ (fun _ x => some (w8.mk x.type x.links)) g.nodes 32 (by decide) h (fun k hk => Evt.pure trivial)) (fun t _ => Evt.pure trivial) (fun _ h => h.elim)
theorem nk (g : w4) (h : g.types.length ≤ 1048576) : Evt (fun _ => N4 g) (fun _ => True) := by
 unfold N4
 refine Evt.bind (P := fun _ => True) (Evt.pure trivial) fun v _ => ?_
 exact Evt.E0 (cJ (fun _ x => some (w7.mk x.name x.parents)) g.types 40 (by decide) h (fun k hk => Evt.pure trivial)) (fun t _ => Evt.pure trivial) (fun _ h => h.elim)
theorem tX (r : u6) (h : Cp r) : Evt (fun n => Y5 n r) (fun _ => True) := by
 unfold Y5
 exact Evt.bind (iO _ h.graph) fun v _ => Evt.bind (nS _ _ (Nat.le_refl _) h.meaning) fun w _ => Evt.pure trivial
theorem wA (r : w9) (h : Hq r) : Evt (fun n => aP n r) (fun _ => True) := by
 unfold aP
 exact Evt.bind (iO _ h.graph) fun v _ => Evt.bind (nS _ _ (Nat.le_refl _) h.meaning) fun w _ => Evt.pure trivial
def yN (l : List y8) : Int := (l.map fun x => x.drop + (↑x.put.length : Int)).sum
def zc (l : List B6) : Int := (l.map fun x => x.drop + (↑x.put.length : Int)).sum
def ROk (x : y8) : Prop := 0 ≤ x.keep ∧ x.keep ≤ 100 ∧ 0 ≤ x.drop ∧ x.drop ≤ 100 ∧ x.put.length ≤ 100
def LOk (x : B6) : Prop := 0 ≤ x.keep ∧ x.keep ≤ 100 ∧ 0 ≤ x.drop ∧ x.drop ≤ 100 ∧ x.put.length ≤ 100
structure Gh (c : C5) : Prop where
 hier : c.hierarchy.length ≤ 1
 start : c.start.length ≤ 1
 rules : c.rules.length ≤ 300
 D0 : c.D0.length ≤ 300
 rok : ∀ k, k < c.rules.length → ROk (Am.get c.rules k)
 lok : ∀ k, k < c.D0.length → LOk (Am.get c.D0 k)
theorem tY {a b c : Int} (h1 : 0 ≤ a) (h2 : 0 ≤ b) (h3 : a ≤ 100) (h4 : b ≤ 100) (h5 : c ≤ 100) : Evt (fun _ => fH a b c) (fun v => v = false) := by
 unfold fH
 refine Evt.pure ?_
 rw [decide_eq_false (show ¬ a < 0 by omega), decide_eq_false (show ¬ b < 0 by omega), decide_eq_false (show ¬ 100 < a by omega), decide_eq_false (show ¬ 100 < b by omega), decide_eq_false (show ¬ 100 < c by omega)]
 rfl
theorem Cq (c : C5) (h : Gh c) : Evt (fun _ => iz c) (fun f => f.code = 0) := by
 unfold iz
 have h1 := h.hier
 have h2 := h.start
 have h3 := h.rules
 have h4 := h.D0
 refine Evt.cond (fun e => ?_) (fun _ => ?_)
 ·exfalso
  simp only [Bool.cond_true_left, Bool.cond_false_right, Bool.not_eq_true', Bool.not_eq_false', Bool.or_eq_true, Bool.or_eq_false_iff, Bool.and_eq_true, Bool.and_eq_false_imp, Bool.not_true, Bool.not_false, decide_eq_true_eq, decide_eq_false_iff_not, Decidable.not_not, Int.not_lt, Int.not_le, Nat.not_lt, Nat.not_le, not_or, Bool.not_not, Bool.not_eq_true, Bool.true_eq_false, Bool.false_eq_true, Bool.or_true, Bool.true_or, Bool.and_true, Bool.true_and] at e
  omega
 refine Evt.E0 (Evt.range (fun _ _ => True) (fun _ => False) (fun _ => False) trivial (fun k s hk _ => ?_)) (fun u _ => ?_) (fun r h => h.elim)
 ·unfold gG
  obtain ⟨a1, a2, a3, a4, a5⟩ := h.rok k hk
  refine Evt.bind (tY a1 a3 a2 a4 (by omega)) fun v hv => ?_
  rw [hv]
  exact Evt.pure trivial
 ·unfold gH
  refine Evt.E0 (Evt.range (fun _ _ => True) (fun _ => False) (fun _ => False) trivial (fun k s hk _ => ?_)) (fun u _ => ?_) (fun r h => h.elim)
  ·unfold gI
   obtain ⟨a1, a2, a3, a4, a5⟩ := h.lok k hk
   refine Evt.bind (tY a1 a3 a2 a4 (by omega)) fun v hv => ?_
   rw [hv]
   exact Evt.pure trivial
  ·exact Evt.pure rfl
theorem ft {α : Type} [Inhabited α] {l : List α} {k : Nat} (h : k < l.length) : l.take (k + 1) = l.take k ++ [Am.get l k] := by
 rw [List.take_add_one, List.getElem?_eq_getElem h]
 simp [Am.get, h]
theorem AB {l : List y8} {k : Nat} (h : k < l.length) : yN (l.take (k + 1)) = yN (l.take k) + ((Am.get l k).drop + (↑(Am.get l k).put.length : Int)) := by
 rw [ft h]; simp [yN]
theorem AE {l : List B6} {k : Nat} (h : k < l.length) : zc (l.take (k + 1)) = zc (l.take k) + ((Am.get l k).drop + (↑(Am.get l k).put.length : Int)) := by
 rw [ft h]; simp [zc]
theorem pS (c : C5) (h : Gh c) : Evt (fun _ => dS c) (fun r => r.2.code = 0 ∧ r.1 = ↑c.hierarchy.length + ↑c.start.length + yN c.rules + zc c.D0 ∧ 0 ≤ r.1 ∧ r.1 ≤ 1000000) := by
 unfold dS
 have h1 := h.hier
 have h2 := h.start
 have h3 := h.rules
 have h4 := h.D0
 refine Evt.bind (Cq c h) fun v hv => Evt.cond (fun e => ?_) (fun _ => ?_)
 ·exfalso
  simp only [Bool.cond_true_left, Bool.cond_false_right, Bool.not_eq_true', Bool.not_eq_false', Bool.or_eq_true, Bool.or_eq_false_iff, Bool.and_eq_true, Bool.and_eq_false_imp, Bool.not_true, Bool.not_false, decide_eq_true_eq, decide_eq_false_iff_not, Decidable.not_not, Int.not_lt, Int.not_le, Nat.not_lt, Nat.not_le, not_or, Bool.not_not, Bool.not_eq_true, Bool.true_eq_false, Bool.false_eq_true, Bool.or_true, Bool.true_or, Bool.and_true, Bool.true_and] at e
  exact e hv
 refine Evt.E0 (Evt.range (fun k (s : Int) => s = ↑c.hierarchy.length + ↑c.start.length + yN (c.rules.take k) ∧ 0 ≤ s ∧ s ≤ 2 + 200 * (↑k : Int)) (fun _ => False) (fun _ => False) ?_ (fun k s hk hs => ?_)) (fun u hu => ?_) (fun r h => h.elim)
 ·rw [W0 (by omega) (by omega)]
  simp [yN]
  omega
 ·unfold iP
  obtain ⟨a1, a2, a3, a4, a5⟩ := h.rok k hk
  obtain ⟨e1, e2, e3⟩ := hs
  refine Evt.pure ⟨?_, ?_, ?_⟩ <;> rw [W0 (n := (Am.get c.rules k).drop + _) (by omega) (by omega), W0 (by omega) (by omega)]
  ·rw [AB hk]; omega
  ·omega
  ·omega
 ·simp only [ExP, or_false, List.take_length] at hu
  obtain ⟨e1, e2, e3⟩ := hu
  unfold iQ
  refine Evt.E0 (Evt.range (fun k (s : Int) => s = ↑c.hierarchy.length + ↑c.start.length + yN c.rules + zc (c.D0.take k) ∧ 0 ≤ s ∧ s ≤ 2 + 200 * 300 + 200 * (↑k : Int)) (fun _ => False) (fun _ => False) ?_ (fun k s hk hs => ?_)) (fun u hu => ?_) (fun r h => h.elim)
  ·simp [zc]
   omega
  ·unfold iR
   obtain ⟨a1, a2, a3, a4, a5⟩ := h.lok k hk
   obtain ⟨f1, f2, f3⟩ := hs
   refine Evt.pure ⟨?_, ?_, ?_⟩ <;> rw [W0 (n := (Am.get c.D0 k).drop + _) (by omega) (by omega), W0 (by omega) (by omega)]
   ·rw [AE hk]; omega
   ·omega
   ·omega
  ·simp only [ExP, or_false, List.take_length] at hu
   obtain ⟨f1, f2, f3⟩ := hu
   exact Evt.pure ⟨rfl, f1, f2, by show _ ≤ (1000000 : Int); omega⟩
end Go.Proofs.YtaohdfpcdfbnlaaGreatDoor
