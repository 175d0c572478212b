import Derived.Test.YtaohdfpcdfbnlaaGreatDoorStepsR
import Derived.Test.YtaohdfpcdfbnlaaGreatDoorStepsL
import Derived.Test.YtaohdfpcdfbnlaaGreatDoorReady
set_option linter.unusedVariables false
set_option linter.unusedSimpArgs false
namespace Go.Proofs.YtaohdfpcdfbnlaaGreatDoor
open Go Go.Am
theorem tZ (v : List u7) (bb : List u6) (hv : ∀ x ∈ v, sD bb x) (hB : ∀ y ∈ bb, Cp y) (hl : v.length ≤ 200) :
  Evt (fun n => F0 (aQ n v) v.length []) (ExP (fun t => t.length = v.length ∧ yN t = cg v ∧ ∀ x ∈ t, ROk x) (fun _ => False)) := by
 refine (Evt.range (fun k (s : List y8) => s.length = k ∧ yN s = cg (v.take k) ∧ ∀ x ∈ s, ROk x) (fun _ => False) (fun _ => False) ⟨rfl, rfl, fun x hx => by cases hx⟩ (fun k s hk hs => ?_)).mono fun r hr => ?_
 ·obtain ⟨h1, h2, h3⟩ := hs
  obtain ⟨o1, o2, o3, o4, o5, o6⟩ := hv _ (get_mem hk)
  unfold aQ
  refine Evt.E0 (cJ (fun n x => Y5 n x) (Am.get v k).put 152 (by decide) (by omega) (fun j hj => tX _ (hB _ (o6 _ (get_mem hj))))) (fun t ht => ?_) (fun _ h => h.elim)
  have ht : t.length = (Am.get v k).put.length := ht
  unfold cW
  refine Evt.chk ⟨by rw [bI]; omega, by rw [bI]; omega⟩ (Evt.pure ⟨?_, ?_, ?_⟩)
  ·show (s ++ [y8.mk (Am.get v k).keep (Am.get v k).drop t]).length = k + 1
   simp [h1]
  ·show yN (s ++ [y8.mk (Am.get v k).keep (Am.get v k).drop t]) = _
   rw [ft hk]
   simp only [yN, cg, List.map_append, List.map_cons, List.map_nil, List.sum_append, List.sum_cons, List.sum_nil] at *
   rw [h2, ht]
  ·intro x hx
   rcases List.mem_append.1 hx with hx | hx
   ·exact h3 x hx
   ·rw [List.mem_singleton.1 hx]
    exact ⟨o1, o2, o3, o4, by show t.length ≤ 100; omega⟩
 ·cases r with
  | nxt t => simpa only [ExP, or_false, List.take_length] using hr
  | ret x => exact hr
theorem wB (v : List u9) (bb : List w9) (hv : ∀ x ∈ v, xP bb x) (hB : ∀ y ∈ bb, Hq y) (hl : v.length ≤ 200) :
  Evt (fun n => F0 (aR n v) v.length []) (ExP (fun t => t.length = v.length ∧ zc t = eM v ∧ ∀ x ∈ t, LOk x) (fun _ => False)) := by
 refine (Evt.range (fun k (s : List B6) => s.length = k ∧ zc s = eM (v.take k) ∧ ∀ x ∈ s, LOk x) (fun _ => False) (fun _ => False) ⟨rfl, rfl, fun x hx => by cases hx⟩ (fun k s hk hs => ?_)).mono fun r hr => ?_
 ·obtain ⟨h1, h2, h3⟩ := hs
  obtain ⟨o1, o2, o3, o4, o5, o6⟩ := hv _ (get_mem hk)
  unfold aR
  refine Evt.E0 (cJ (fun n x => aP n x) (Am.get v k).put 144 (by decide) (by omega) (fun j hj => wA _ (hB _ (o6 _ (get_mem hj))))) (fun t ht => ?_) (fun _ h => h.elim)
  have ht : t.length = (Am.get v k).put.length := ht
  unfold cX
  refine Evt.chk ⟨by rw [bI]; omega, by rw [bI]; omega⟩ (Evt.pure ⟨?_, ?_, ?_⟩)
  ·show (s ++ [B6.mk (Am.get v k).keep (Am.get v k).drop t]).length = k + 1
   simp [h1]
  ·show zc (s ++ [B6.mk (Am.get v k).keep (Am.get v k).drop t]) = _
   rw [ft hk]
   simp only [zc, eM, List.map_append, List.map_cons, List.map_nil, List.sum_append, List.sum_cons, List.sum_nil] at *
   rw [h2, ht]
  ·intro x hx
   rcases List.mem_append.1 hx with hx | hx
   ·exact h3 x hx
   ·rw [List.mem_singleton.1 hx]
    exact ⟨o1, o2, o3, o4, by show t.length ≤ 100; omega⟩
 ·cases r with
  | nxt t => simpa only [ExP, or_false, List.take_length] using hr
  | ret x => exact hr
open Classical in
noncomputable def hd {α : Type} (a b : α) : Int := if a = b then 0 else 1
theorem AF {α : Type} (a b : α) : hd a b = hd b a := by
 unfold hd
 by_cases h : a = b
 ·rw [if_pos h, if_pos h.symm]
 ·rw [if_neg h, if_neg (fun e => h e.symm)]
theorem CT {α : Type} (a b c : α) : hd a c ≤ hd a b + hd b c := by
 unfold hd
 by_cases h : a = b
 ·rw [if_pos h, h]; omega
 ·rw [if_neg h]
  split <;> split <;> omega
def total (c : C5) : Int := ↑c.hierarchy.length + ↑c.start.length + yN c.rules + zc c.D0
noncomputable def gc (a b : x5) : Int := hd a.hierarchy b.hierarchy + hd a.start b.start + ((Lcs.cost N5 a.rules b.rules : Nat) : Int) + ((Lcs.cost bn a.D0 b.D0 : Nat) : Int)
theorem DT (a b : x5) : gc a b = gc b a := by
 unfold gc
 rw [AF a.hierarchy, AF a.start, Lcs.uc N5 wC a.rules, Lcs.uc bn yO a.D0]
theorem Gi (a b c : x5) : gc a c ≤ gc a b + gc b c := by
 unfold gc
 have h1 := CT a.hierarchy b.hierarchy c.hierarchy
 have h2 := CT a.start b.start c.start
 have h3 := Lcs.me N5 ud a.rules b.rules c.rules
 have h4 := Lcs.me bn wD a.D0 b.D0 c.D0
 omega
theorem xQ {α : Type} {v : Bool} {a b : α} (h : v = true ↔ a = b) : (v = true → hd a b = 0) ∧ (v = false → hd a b = 1) := by
 unfold hd
 constructor
 ·intro e; rw [if_pos (h.1 e)]
 ·intro e; rw [if_neg (fun e2 => by rw [h.2 e2] at e; cases e)]
theorem fS (a b : x5) (ha : sC a) (hb : sC b) : Evt (fun n => P6 n a b) (fun r => r.2.code = 0 → Gh r.1 ∧ total r.1 = gc a b) := by
 unfold P6
 refine Evt.E0 (Evt.range (fun k _ => ∀ j, j < k → uf (Am.get [a, b] j)) (fun _ => False) (fun r : C5 × y7 => r.2.code ≠ 0) (fun j h => absurd h (Nat.not_lt_zero _)) (fun k u hk hj => ?_)) (fun u hu => ?_) (fun r (hr : r.2.code ≠ 0) e => absurd e hr)
 ·unfold cY
  have hB : sC (Am.get [a, b] k) := by
   match k, hk with
   | 0, _ => exact ha
   | 1, _ => exact hb
  refine Evt.bind (mg _ fun j hj => by have := (hB.D0 _ (get_mem hj)).word; omega) fun f hf => Evt.cond (fun e => Evt.pure ?_) (fun e => Evt.pure ?_)
  ·simp only [Bool.cond_true_left, Bool.cond_false_right, Bool.not_eq_true', Bool.not_eq_false', Bool.or_eq_true, Bool.or_eq_false_iff, Bool.and_eq_true, Bool.and_eq_false_imp, Bool.not_true, Bool.not_false, decide_eq_true_eq, decide_eq_false_iff_not, Decidable.not_not, Int.not_lt, Int.not_le, Nat.not_lt, Nat.not_le, not_or, Bool.not_not, Bool.not_eq_true, Bool.true_eq_false, Bool.false_eq_true, Bool.or_true, Bool.true_or, Bool.and_true, Bool.true_and] at e
   exact e
  ·simp only [Bool.cond_true_left, Bool.cond_false_right, Bool.not_eq_true', Bool.not_eq_false', Bool.or_eq_true, Bool.or_eq_false_iff, Bool.and_eq_true, Bool.and_eq_false_imp, Bool.not_true, Bool.not_false, decide_eq_true_eq, decide_eq_false_iff_not, Decidable.not_not, Int.not_lt, Int.not_le, Nat.not_lt, Nat.not_le, not_or, Bool.not_not, Bool.not_eq_true, Bool.true_eq_false, Bool.false_eq_true, Bool.or_true, Bool.true_or, Bool.and_true, Bool.true_and] at e
   intro j hj'
   by_cases ej : j = k
   ·subst ej; exact hf e
   ·exact hj j (by omega)
 ·simp only [ExP, or_false] at hu
  have oa : uf a := hu 0 (by decide)
  have ob : uf b := hu 1 (by decide)
  have r1 := oa.rules
  have r2 := oa.D0
  have r3 := ob.rules
  have r4 := ob.D0
  have hj2 : ∀ (j1 : List w4) (j2 : List y5), (j1.length : Int) = hd a.hierarchy b.hierarchy → (j2.length : Int) = hd a.start b.start → Evt (fun n => W2 n a b j1 j2) (fun r => r.2.code = 0 → Gh r.1 ∧ total r.1 = gc a b) := by
   intro j1 j2 e1 e2
   unfold W2
   refine Evt.bind (ug a.rules b.rules (by omega) (by omega)) fun v hv => ?_
   obtain ⟨v1, v2, v3⟩ := hv
   refine Evt.E0 (tZ v b.rules v3 hb.rules v2) (fun t ht => ?_) (fun _ h => h.elim)
   obtain ⟨t1, t2, t3⟩ := ht
   unfold cZ
   refine Evt.bind (wE a.D0 b.D0 (by omega) (by omega)) fun w hw => ?_
   obtain ⟨w1, w2, w3⟩ := hw
   refine Evt.E0 (wB w b.D0 w3 hb.D0 w2) (fun u hu => ?_) (fun _ h => h.elim)
   obtain ⟨u1, u2, u3⟩ := hu
   have hle : ∀ {α : Type} (x y : α), hd x y ≤ 1 := fun x y => by unfold hd; split <;> omega
   have l1 := hle a.hierarchy b.hierarchy
   have l2 := hle a.start b.start
   refine Evt.pure fun _ => ⟨⟨?_, ?_, ?_, ?_, fun k hk => t3 _ (get_mem hk), fun k hk => u3 _ (get_mem hk)⟩, ?_⟩
   ·show j1.length ≤ 1; omega
   ·show j2.length ≤ 1; omega
   ·show t.length ≤ 300; omega
   ·show u.length ≤ 300; omega
   ·show (j1.length : Int) + j2.length + yN t + zc u = gc a b
    unfold gc
    omega
  have hj1 : ∀ (j1 : List w4), (j1.length : Int) = hd a.hierarchy b.hierarchy → Evt (fun n => W3 n a b j1) (fun r => r.2.code = 0 → Gh r.1 ∧ total r.1 = gc a b) := by
   intro j1 e1
   unfold W3
   refine Evt.bind (P := fun v => v = true ↔ a.start = b.start) (jA a.start b.start) fun v hv => Evt.cond (fun e => ?_) (fun e => ?_)
   ·refine Evt.bind (P := fun _ => True) (iO _ hb.start) fun w _ => hj2 j1 [w] e1 ?_
    rw [(xQ hv).2 (by simpa using e)]; rfl
   ·refine hj2 j1 [] e1 ?_
    rw [(xQ hv).1 (by simpa using e)]; rfl
  unfold dc
  refine Evt.bind (P := fun v => v = true ↔ a.hierarchy = b.hierarchy) (oc a.hierarchy b.hierarchy) fun v hv => Evt.cond (fun e => ?_) (fun e => ?_)
  ·refine Evt.bind (P := fun _ => True) (nk _ hb.types) fun w _ => hj1 [w] ?_
   rw [(xQ hv).2 (by simpa using e)]; rfl
  ·refine hj1 [] ?_
   rw [(xQ hv).1 (by simpa using e)]; rfl
theorem tU (a b : x5) (ha : sC a) (hb : sC b) : Evt (fun n => K9 n a b) (fun r => r = true) := by
 unfold K9
 refine Evt.bind kQ fun v hv => ?_
 subst hv
 refine Evt.bind (fS a b ha hb) fun x hx => Evt.bind (fS b a hb ha) fun y hy => Evt.cond (fun _ => Evt.pure rfl) (fun e => ?_)
 simp only [Bool.cond_true_left, Bool.cond_false_right, Bool.not_eq_true', Bool.not_eq_false', Bool.or_eq_true, Bool.or_eq_false_iff, Bool.and_eq_true, Bool.and_eq_false_imp, Bool.not_true, Bool.not_false, decide_eq_true_eq, decide_eq_false_iff_not, Decidable.not_not, Int.not_lt, Int.not_le, Nat.not_lt, Nat.not_le, not_or, Bool.not_not, Bool.not_eq_true, Bool.true_eq_false, Bool.false_eq_true, Bool.or_true, Bool.true_or, Bool.and_true, Bool.true_and] at e
 obtain ⟨x1, x2⟩ := hx e.1
 obtain ⟨y1, y2⟩ := hy e.2
 refine Evt.bind (pS _ x1) fun s hs => Evt.bind (pS _ y1) fun t ht => Evt.pure ?_
 obtain ⟨s1, s2, _⟩ := hs
 obtain ⟨t1, t2, _⟩ := ht
 have e1 : s.1 = t.1 := by
  rw [s2, t2]
  show total x.1 = total y.1
  rw [x2, y2, DT]
 rw [decide_eq_true s1, decide_eq_true t1, decide_eq_true e1]
 rfl
theorem wv (a b c : x5) (ha : sC a) (hb : sC b) (hc : sC c) : Evt (fun n => L0 n a b c) (fun r => r = true) := by
 unfold L0
 refine Evt.bind kQ fun v hv => ?_
 subst hv
 refine Evt.bind (fS a b ha hb) fun x hx => Evt.bind (fS b c hb hc) fun y hy => Evt.bind (fS a c ha hc) fun z hz => Evt.cond (fun _ => Evt.pure rfl) (fun e => ?_)
 simp only [Bool.cond_true_left, Bool.cond_false_right, Bool.not_eq_true', Bool.not_eq_false', Bool.or_eq_true, Bool.or_eq_false_iff, Bool.and_eq_true, Bool.and_eq_false_imp, Bool.not_true, Bool.not_false, decide_eq_true_eq, decide_eq_false_iff_not, Decidable.not_not, Int.not_lt, Int.not_le, Nat.not_lt, Nat.not_le, not_or, Bool.not_not, Bool.not_eq_true, Bool.true_eq_false, Bool.false_eq_true, Bool.or_true, Bool.true_or, Bool.and_true, Bool.true_and] at e
 obtain ⟨x1, x2⟩ := hx e.1.1
 obtain ⟨y1, y2⟩ := hy e.1.2
 obtain ⟨z1, z2⟩ := hz e.2
 refine Evt.bind (pS _ x1) fun s hs => Evt.bind (pS _ y1) fun t ht => Evt.bind (pS _ z1) fun u hu => Evt.pure ?_
 obtain ⟨s1, s2, s3, s4⟩ := hs
 obtain ⟨t1, t2, t3, t4⟩ := ht
 obtain ⟨u1, u2, u3, u4⟩ := hu
 have e1 : u.1 ≤ wr .i64 (s.1 + t.1) := by
  rw [W0 (by omega) (by omega), s2, t2, u2]
  show total z.1 ≤ total x.1 + total y.1
  rw [x2, y2, z2]
  exact Gi a b c
 rw [decide_eq_true s1, decide_eq_true t1, decide_eq_true u1, decide_eq_true e1]
 rfl
end Go.Proofs.YtaohdfpcdfbnlaaGreatDoor
