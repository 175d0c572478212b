import Derived.Test.YtaohdfpcdfbnlaaGreatDoorStepsR
import Derived.Test.YtaohdfpcdfbnlaaGreatDoorStepsL
import Derived.Test.YtaohdfpcdfbnlaaGreatDoorReady
set_option linter.unusedVariables false
set_option linter.unusedSimpArgs false
namespace Go.Proofs.YtaohdfpcdfbnlaaGreatDoor
open Go Go.Am
theorem tL (v : List u7) (bb : List u6) (hv : ∀ x ∈ v, rV bb x) (hB : ∀ y ∈ bb, Cg y) (hl : v.length ≤ 200) :
  Evt (fun n => F0 (aN n v) v.length []) (ExP (fun t => t.length = v.length ∧ yA t = bU v ∧ ∀ x ∈ t, ROk x) (fun _ => False)) := by
 refine (Evt.range (fun k (s : List y8) => s.length = k ∧ yA s = bU (v.take k) ∧ ∀ x ∈ s, ROk x) (fun _ => False) (fun _ => False) ⟨rfl, rfl, fun x hx => by cases hx⟩ (fun k s hk hs => ?_)).mono fun r hr => ?_
 ·obtain ⟨h1, h2, h3⟩ := hs
  obtain ⟨o1, o2, o3, o4, o5, o6⟩ := hv _ (get_mem hk)
  unfold aN
  refine Evt.E0 (cD (fun n x => X9 n x) (Am.get v k).put 152 (by decide) (by omega) (fun j hj => tJ _ (hB _ (o6 _ (get_mem hj))))) (fun t ht => ?_) (fun _ h => h.elim)
  have ht : t.length = (Am.get v k).put.length := ht
  unfold cR
  refine Evt.chk ⟨by rw [bC]; omega, by rw [bC]; omega⟩ (Evt.pure ⟨?_, ?_, ?_⟩)
  ·show (s ++ [y8.mk (Am.get v k).keep (Am.get v k).drop t]).length = k + 1
   simp [h1]
  ·show yA (s ++ [y8.mk (Am.get v k).keep (Am.get v k).drop t]) = _
   rw [eS hk]
   simp only [yA, bU, List.map_append, List.map_cons, List.map_nil, List.sum_append, List.sum_cons, List.sum_nil] at *
   rw [h2, ht]
  ·intro x hx
   rcases List.mem_append.1 hx with hx | hx
   ·exact h3 x hx
   ·rw [List.mem_singleton.1 hx]
    exact ⟨o1, o2, o3, o4, by show t.length ≤ 100; omega⟩
 ·cases r with
  | nxt t => simpa only [ExP, or_false, List.take_length] using hr
  | ret x => exact hr
theorem vW (v : List u9) (bb : List w9) (hv : ∀ x ∈ v, xw bb x) (hB : ∀ y ∈ bb, GZ y) (hl : v.length ≤ 200) :
  Evt (fun n => F0 (aO n v) v.length []) (ExP (fun t => t.length = v.length ∧ yO t = eC v ∧ ∀ x ∈ t, LOk x) (fun _ => False)) := by
 refine (Evt.range (fun k (s : List B6) => s.length = k ∧ yO s = eC (v.take k) ∧ ∀ x ∈ s, LOk x) (fun _ => False) (fun _ => False) ⟨rfl, rfl, fun x hx => by cases hx⟩ (fun k s hk hs => ?_)).mono fun r hr => ?_
 ·obtain ⟨h1, h2, h3⟩ := hs
  obtain ⟨o1, o2, o3, o4, o5, o6⟩ := hv _ (get_mem hk)
  unfold aO
  refine Evt.E0 (cD (fun n x => aM n x) (Am.get v k).put 144 (by decide) (by omega) (fun j hj => vV _ (hB _ (o6 _ (get_mem hj))))) (fun t ht => ?_) (fun _ h => h.elim)
  have ht : t.length = (Am.get v k).put.length := ht
  unfold cS
  refine Evt.chk ⟨by rw [bC]; omega, by rw [bC]; omega⟩ (Evt.pure ⟨?_, ?_, ?_⟩)
  ·show (s ++ [B6.mk (Am.get v k).keep (Am.get v k).drop t]).length = k + 1
   simp [h1]
  ·show yO (s ++ [B6.mk (Am.get v k).keep (Am.get v k).drop t]) = _
   rw [eS hk]
   simp only [yO, eC, List.map_append, List.map_cons, List.map_nil, List.sum_append, List.sum_cons, List.sum_nil] at *
   rw [h2, ht]
  ·intro x hx
   rcases List.mem_append.1 hx with hx | hx
   ·exact h3 x hx
   ·rw [List.mem_singleton.1 hx]
    exact ⟨o1, o2, o3, o4, by show t.length ≤ 100; omega⟩
 ·cases r with
  | nxt t => simpa only [ExP, or_false, List.take_length] using hr
  | ret x => exact hr
open Classical in
noncomputable def hd {α : Type} (a b : α) : Int := if a = b then 0 else 1
theorem Ap {α : Type} (a b : α) : hd a b = hd b a := by
 unfold hd
 by_cases h : a = b
 ·rw [if_pos h, if_pos h.symm]
 ·rw [if_neg h, if_neg (fun e => h e.symm)]
def total (c : C5) : Int := ↑c.hierarchy.length + ↑c.start.length + yA c.rules + yO c.D0
noncomputable def gc (a b : x7) : Int := hd a.hierarchy b.hierarchy + hd a.start b.start + ((Lcs.cost R7 a.rules b.rules : Nat) : Int) + ((Lcs.cost cJ a.D0 b.D0 : Nat) : Int)
theorem DM (a b : x7) : gc a b = gc b a := by
 unfold gc
 rw [Ap a.hierarchy, Ap a.start, Lcs.tM R7 vX a.rules, Lcs.tM cJ yB a.D0]
theorem xA {α : Type} {v : Bool} {a b : α} (h : v = true ↔ a = b) : (v = true → hd a b = 0) ∧ (v = false → hd a b = 1) := by
 unfold hd
 constructor
 ·intro e; rw [if_pos (h.1 e)]
 ·intro e; rw [if_neg (fun e2 => by rw [h.2 e2] at e; cases e)]
theorem pJ (a b : x7) (ha : yx a) (hb : yx b) : Evt (fun n => aP n a b) (fun r => r.2.code = 0 → Ga r.1 ∧ total r.1 = gc a b) := by
 unfold aP
 refine Evt.E0 (Evt.range (fun k _ => ∀ j, j < k → tN (Am.get [a, b] j)) (fun _ => False) (fun r : C5 × y7 => r.2.code ≠ 0) (fun j h => absurd h (Nat.not_lt_zero _)) (fun k u hk hj => ?_)) (fun u hu => ?_) (fun r (hr : r.2.code ≠ 0) e => absurd e hr)
 ·unfold cT
  have hB : yx (Am.get [a, b] k) := by
   match k, hk with
   | 0, _ => exact ha
   | 1, _ => exact hb
  refine Evt.bind (lS _ fun j hj => by have := (hB.D0 _ (get_mem hj)).word; omega) fun f hf => Evt.cond (fun e => Evt.pure ?_) (fun e => Evt.pure ?_)
  ·simp only [Bool.cond_true_left, Bool.cond_false_right, Bool.not_eq_true', Bool.not_eq_false', Bool.or_eq_true, Bool.or_eq_false_iff, Bool.and_eq_true, Bool.and_eq_false_imp, Bool.not_true, Bool.not_false, decide_eq_true_eq, decide_eq_false_iff_not, Decidable.not_not, Int.not_lt, Int.not_le, Nat.not_lt, Nat.not_le, not_or, Bool.not_not, Bool.not_eq_true, Bool.true_eq_false, Bool.false_eq_true, Bool.or_true, Bool.true_or, Bool.and_true, Bool.true_and] at e
   exact e
  ·simp only [Bool.cond_true_left, Bool.cond_false_right, Bool.not_eq_true', Bool.not_eq_false', Bool.or_eq_true, Bool.or_eq_false_iff, Bool.and_eq_true, Bool.and_eq_false_imp, Bool.not_true, Bool.not_false, decide_eq_true_eq, decide_eq_false_iff_not, Decidable.not_not, Int.not_lt, Int.not_le, Nat.not_lt, Nat.not_le, not_or, Bool.not_not, Bool.not_eq_true, Bool.true_eq_false, Bool.false_eq_true, Bool.or_true, Bool.true_or, Bool.and_true, Bool.true_and] at e
   intro j hj'
   by_cases ej : j = k
   ·subst ej; exact hf e
   ·exact hj j (by omega)
 ·simp only [ExP, or_false] at hu
  have oa : tN a := hu 0 (by decide)
  have ob : tN b := hu 1 (by decide)
  have r1 := oa.rules
  have r2 := oa.D0
  have r3 := ob.rules
  have r4 := ob.D0
  have hj2 : ∀ (j1 : List w4) (j2 : List y5), (j1.length : Int) = hd a.hierarchy b.hierarchy → (j2.length : Int) = hd a.start b.start → Evt (fun n => V6 n a b j1 j2) (fun r => r.2.code = 0 → Ga r.1 ∧ total r.1 = gc a b) := by
   intro j1 j2 e1 e2
   unfold V6
   refine Evt.bind (tO a.rules b.rules (by omega) (by omega)) fun v hv => ?_
   obtain ⟨v1, v2, v3⟩ := hv
   refine Evt.E0 (tL v b.rules v3 hb.rules v2) (fun t ht => ?_) (fun _ h => h.elim)
   obtain ⟨t1, t2, t3⟩ := ht
   unfold cU
   refine Evt.bind (vY a.D0 b.D0 (by omega) (by omega)) fun w hw => ?_
   obtain ⟨w1, w2, w3⟩ := hw
   refine Evt.E0 (vW w b.D0 w3 hb.D0 w2) (fun u hu => ?_) (fun _ h => h.elim)
   obtain ⟨u1, u2, u3⟩ := hu
   have hle : ∀ {α : Type} (x y : α), hd x y ≤ 1 := fun x y => by unfold hd; split <;> omega
   have l1 := hle a.hierarchy b.hierarchy
   have l2 := hle a.start b.start
   refine Evt.pure fun _ => ⟨⟨?_, ?_, ?_, ?_, fun k hk => t3 _ (get_mem hk), fun k hk => u3 _ (get_mem hk)⟩, ?_⟩
   ·show j1.length ≤ 1; omega
   ·show j2.length ≤ 1; omega
   ·show t.length ≤ 300; omega
   ·show u.length ≤ 300; omega
   ·show (j1.length : Int) + j2.length + yA t + yO u = gc a b
    unfold gc
    omega
  have hj1 : ∀ (j1 : List w4), (j1.length : Int) = hd a.hierarchy b.hierarchy → Evt (fun n => V7 n a b j1) (fun r => r.2.code = 0 → Ga r.1 ∧ total r.1 = gc a b) := by
   intro j1 e1
   unfold V7
   refine Evt.bind (P := fun v => v = true ↔ a.start = b.start) (jt a.start b.start) fun v hv => Evt.cond (fun e => ?_) (fun e => ?_)
   ·refine Evt.bind (P := fun _ => True) (iE _ hb.start) fun w _ => hj2 j1 [w] e1 ?_
    rw [(xA hv).2 (by simpa using e)]; rfl
   ·refine hj2 j1 [] e1 ?_
    rw [(xA hv).1 (by simpa using e)]; rfl
  unfold cV
  refine Evt.bind (P := fun v => v = true ↔ a.hierarchy = b.hierarchy) (nP a.hierarchy b.hierarchy) fun v hv => Evt.cond (fun e => ?_) (fun e => ?_)
  ·refine Evt.bind (P := fun _ => True) (mV _ hb.types) fun w _ => hj1 [w] ?_
   rw [(xA hv).2 (by simpa using e)]; rfl
  ·refine hj1 [] ?_
   rw [(xA hv).1 (by simpa using e)]; rfl
theorem tE (a b : x7) (ha : yx a) (hb : yx b) : Evt (fun n => K9 n a b) (fun r => r = true) := by
 unfold K9
 refine Evt.bind qq fun v hv => ?_
 subst hv
 refine Evt.bind (pJ a b ha hb) fun x hx => Evt.bind (pJ b a hb ha) fun y hy => Evt.cond (fun _ => Evt.pure rfl) (fun e => ?_)
 simp only [Bool.cond_true_left, Bool.cond_false_right, Bool.not_eq_true', Bool.not_eq_false', Bool.or_eq_true, Bool.or_eq_false_iff, Bool.and_eq_true, Bool.and_eq_false_imp, Bool.not_true, Bool.not_false, decide_eq_true_eq, decide_eq_false_iff_not, Decidable.not_not, Int.not_lt, Int.not_le, Nat.not_lt, Nat.not_le, not_or, Bool.not_not, Bool.not_eq_true, Bool.true_eq_false, Bool.false_eq_true, Bool.or_true, Bool.true_or, Bool.and_true, Bool.true_and] at e
 obtain ⟨x1, x2⟩ := hx e.1
 obtain ⟨y1, y2⟩ := hy e.2
 refine Evt.bind (Ao _ x1) fun s hs => Evt.bind (Ao _ y1) fun t ht => Evt.pure ?_
 obtain ⟨s1, s2, _⟩ := hs
 obtain ⟨t1, t2, _⟩ := ht
 have e1 : s.1 = t.1 := by
  rw [s2, t2]
  show total x.1 = total y.1
  rw [x2, y2, DM]
 rw [decide_eq_true s1, decide_eq_true t1, decide_eq_true e1]
 rfl
end Go.Proofs.YtaohdfpcdfbnlaaGreatDoor
