import Derived.Test.YtgaeiccgdpnkkaaGreatDoorCLaw2
set_option linter.unusedVariables false
set_option linter.unusedSimpArgs false
namespace Go.Proofs.YtgaeiccgdpnkkaaGreatDoor
open Go Go.Am
mutual
def i2p (rule lex : Int) : Yl → Nat
  | .mk r l kids => (if r = rule ∧ (0 ≤ rule ∨ l = lex) then 1 else 0) + d8U rule lex kids
def d8U (rule lex : Int) : List Yl → Nat
  | [] => 0
  | t :: l => i2p rule lex t + d8U rule lex l
end
theorem i5K (rule lex : Int) (t : Yl) : i2p rule lex t = (if t.rule = rule ∧ (0 ≤ rule ∨ t.lex = lex) then 1 else 0) + d8U rule lex t.kids := by cases t; rw [i2p]; rfl
theorem p1u {rule lex : Int} : ∀ l : List Yl, (∀ t ∈ l, i2p rule lex t ≤ ndT t) → d8U rule lex l ≤ ndL l
  | [], _ => by rw [d8U, ndL]; omega
  | t :: l, h => by
    have h1 := h t (by simp)
    have h2 := p1u l (fun u hu => h u (by simp [hu]))
    rw [d8U, ndL]; omega
theorem i1N (rule lex : Int) : ∀ (m : Nat) (t : Yl), SizeOf.sizeOf t ≤ m → i2p rule lex t ≤ ndT t := by
  intro m
  induction m with
  | zero => intro t h; cases t; simp only [Yl.mk.sizeOf_spec] at h; omega
  | succ m ih =>
    intro t ht
    have : d8U rule lex t.kids ≤ ndL t.kids := p1u t.kids fun u hu => ih u (by
      have h1 := List.sizeOf_lt_of_mem hu
      cases t with
      | mk a b c =>
        simp only [Yl.mk.sizeOf_spec] at ht
        have h1 : SizeOf.sizeOf u < SizeOf.sizeOf c := h1
        omega)
    rw [i5K, i4L]
    split <;> omega
theorem p4T {l : List Yl} {k : Nat} (h : k < l.length) : ndT (Am.get l k) ≤ ndL l := by
  induction l generalizing k with
  | nil => simp at h
  | cons t l ih =>
    rw [ndL]
    cases k with
    | zero => show ndT t ≤ _; omega
    | succ k =>
      have := ih (k := k) (by simpa using h)
      show ndT (Am.get l k) ≤ _
      omega
theorem i9G (rule lex : Int) : ∀ (m : Nat) (t : Yl), SizeOf.sizeOf t ≤ m → ndT t ≤ 1000000 → Evt (fun n => Zo n t rule lex) (fun v => v = i2p rule lex t) := by
  intro m
  induction m with
  | zero => intro s h; cases s; simp only [Yl.mk.sizeOf_spec] at h; omega
  | succ m ih =>
    intro t ht hn
    have hle := i1N rule lex _ t (Nat.le_refl _)
    have p1m : t.kids.length ≤ 1000000 := by
      have : ∀ l : List Yl, l.length ≤ ndL l := fun l => by
        induction l with
        | nil => simp
        | cons u l ih2 => rw [ndL, i4L]; simp only [List.length_cons]; omega
      have := this t.kids
      rw [i4L] at hn; omega
    have core : ∀ c : Nat, c ≤ 1 → i2p rule lex t = c + d8U rule lex t.kids → Evt (fun n => ZW (Zo n) n t rule lex (c : Int)) (fun v => v = i2p rule lex t) := fun c hc p5J => by
      unfold ZW
      refine Evt.YN (P := ExP (fun v : Int => v = i2p rule lex t) (fun _ => False)) (Evt.loop (fun s : Int × Int => t.kids.length - s.2.toNat) (fun s => ∃ k a : Nat, s = ((a : Int), (k : Int)) ∧ k ≤ t.kids.length ∧ a + d8U rule lex (t.kids.drop k) = i2p rule lex t) _ _ ⟨0, c, rfl, by omega, p5J.symm⟩ (fun s hs => ?_)) (fun v hv => Evt.pure hv) (fun r hr => hr.elim)
      obtain ⟨k, a, rfl, hk, ha⟩ := hs
      have hw : wr .i64 ((k : Int) + 1) = ((k + 1 : Nat) : Int) := by rw [d0G (by omega) (by omega)]; omega
      unfold d1H
      simp only [hw, Int.toNat_natCast]
      refine Evt.cond (fun e => ?_) (fun e => Evt.pure ?_)
      · replace e := bx e
        have hlt : k < t.kids.length := by omega
        have hsz := i3H hlt
        rw [d2V hlt, d8U] at ha
        have hnd := p4T hlt
        have hnt := i4L t
        have hkl := i1N rule lex _ (Am.get t.kids k) (Nat.le_refl _)
        refine Evt.chk (by omega) (Evt.bind (ih _ (by omega) (by omega)) fun v hv => Evt.pure ⟨⟨k + 1, a + i2p rule lex (Am.get t.kids k), ?_, by omega, by omega⟩, by show t.kids.length - ((k + 1 : Nat) : Int).toNat < t.kids.length - (k : Int).toNat; omega⟩)
        rw [hv, d0G (by omega) (by omega)]
        exact Prod.ext (Int.natCast_add _ _).symm rfl
      · replace e := bx e
        have : k = t.kids.length := by omega
        subst this
        rw [List.drop_length, d8U] at ha
        show (a : Int) = _
        omega
    refine Evt.succ ?_
    simp only [Zo]
    refine Evt.cond (fun e => core 1 (by omega) ?_) (fun e => core 0 (by omega) ?_)
    · rw [i5K, if_pos]
      simp only [Bool.cond_true_left, Bool.cond_false_right, Bool.and_eq_true, Bool.or_eq_true, decide_eq_true_eq] at e
      exact e
    · rw [i5K, if_neg]
      intro h
      simp only [Bool.cond_true_left, Bool.cond_false_right] at e
      rw [decide_eq_true h.1] at e
      rcases h.2 with h | h
      · rw [decide_eq_true h] at e; cases e
      · rw [decide_eq_true h] at e; simp at e
structure i8a (g : Yq) (s : List Int × List Int) (p q : Nat → Nat) : Prop where
  r : s.1.length = g.rules.length
  l : s.2.length = g.YK.length
  vr : ∀ i, i < g.rules.length → Am.get s.1 i = p i
  vl : ∀ i, i < g.YK.length → Am.get s.2 i = q i
theorem p1v {g : Yq} : ∀ (m : Nat) (t : Yl), SizeOf.sizeOf t ≤ m → d7E g t → ∀ (s : List Int × List Int) (p q : Nat → Nat), i8a g s p q → (∀ i, p i + ndT t ≤ 1000000) → (∀ i, q i + ndT t ≤ 1000000) →
    Evt (fun n => d2w n t s.1 s.2) (fun r => i8a g r (fun i => p i + i2p (i : Int) 0 t) (fun i => q i + i2p (-1) (i : Int) t)) := by
  intro m
  induction m with
  | zero => intro s h; cases s; simp only [Yl.mk.sizeOf_spec] at h; omega
  | succ m ih =>
    intro t ht hok s p q hs hp hq
    have core : ∀ (s : List Int × List Int) (p' q' : Nat → Nat), i8a g s p' q' → (∀ k, k < t.kids.length → d7E g (Am.get t.kids k)) → (∀ i, p' i + ndL t.kids ≤ 1000000) → (∀ i, q' i + ndL t.kids ≤ 1000000) → (∀ i : Nat, p' i + d8U (i : Int) 0 t.kids = p i + i2p (i : Int) 0 t) → (∀ i : Nat, q' i + d8U (-1) (i : Int) t.kids = q i + i2p (-1) (i : Int) t) →
        Evt (fun n => d3P (d2w n) t (s.1, s.2)) (fun r => i8a g r (fun i => p i + i2p (i : Int) 0 t) (fun i => q i + i2p (-1) (i : Int) t)) := fun s p' q' hs' hkk hp' hq' e1 e2 => by
      unfold d3P
      refine Evt.YN (Evt.range (fun k s => ∃ p'' q'' : Nat → Nat, i8a g s p'' q'' ∧ (∀ i : Nat, p'' i + d8U (i : Int) 0 (t.kids.drop k) = p i + i2p (i : Int) 0 t) ∧ (∀ i : Nat, q'' i + d8U (-1) (i : Int) (t.kids.drop k) = q i + i2p (-1) (i : Int) t) ∧ (∀ i, p'' i + ndL (t.kids.drop k) ≤ 1000000) ∧ (∀ i, q'' i + ndL (t.kids.drop k) ≤ 1000000)) (fun _ => False) (fun _ => False) ⟨p', q', hs', e1, e2, hp', hq'⟩ (fun k s hk hi => ?_)) (fun u hu => ?_) (fun r hr => hr.elim)
      · obtain ⟨p'', q'', i1, i2, i3, i4, i5⟩ := hi
        rw [d2V hk, ndL] at i4 i5
        have hsz := i3H hk
        unfold d5U
        refine Evt.bind (ih _ (by omega) (hkk k hk) s p'' q'' i1 (fun i => by have := i4 i; omega) (fun i => by have := i5 i; omega)) fun r hr => Evt.pure ⟨_, _, hr, fun i => ?_, fun i => ?_, fun i => ?_, fun i => ?_⟩
        · have := i2 i
          rw [d2V hk, d8U] at this
          omega
        · have := i3 i
          rw [d2V hk, d8U] at this
          omega
        · have := i4 i
          have := i1N (i : Int) 0 _ (Am.get t.kids k) (Nat.le_refl _)
          show p'' i + i2p (i : Int) 0 (Am.get t.kids k) + _ ≤ _
          omega
        · have := i5 i
          have := i1N (-1) (i : Int) _ (Am.get t.kids k) (Nat.le_refl _)
          show q'' i + i2p (-1) (i : Int) (Am.get t.kids k) + _ ≤ _
          omega
      · obtain ⟨p'', q'', i1, i2, i3, _, _⟩ := hu.elim id False.elim
        rw [List.drop_length] at i2 i3
        refine Evt.pure ⟨i1.r, i1.l, fun i hi => ?_, fun i hi => ?_⟩
        · have := i2 i
          have h2 := i1.vr i hi
          rw [d8U] at this
          show Am.get u.1 i = _
          rw [h2]; omega
        · have := i3 i
          have h2 := i1.vl i hi
          rw [d8U] at this
          show Am.get u.2 i = _
          rw [h2]; omega
    have p5J : ∀ rule lex : Int, i2p rule lex t = (if t.rule = rule ∧ (0 ≤ rule ∨ t.lex = lex) then 1 else 0) + d8U rule lex t.kids := fun rule lex => i5K rule lex t
    rw [i4L] at hp hq
    refine Evt.succ ?_
    simp only [d2w]
    cases hok with
    | leaf _ h hl hk =>
      refine Evt.cond (fun _ => ?_) (fun e => ?_)
      · have h1 := hs.vl t.lex.toNat (by omega)
        have h2 := hq t.lex.toNat
        refine Evt.chk (by have := hs.l; omega) (Evt.d5A (core (s.1, s.2.set t.lex.toNat (wr .i64 (Am.get s.2 t.lex.toNat + 1))) p (fun i => q i + if i = t.lex.toNat then 1 else 0) ⟨hs.r, by simp; exact hs.l, hs.vr, fun i hi => ?_⟩ (fun k hk2 => by rw [hk] at hk2; simp at hk2) (fun i => by have := hp i; omega) (fun i => by have := hq i; show q i + (if _ then 1 else 0) + _ ≤ _; split <;> omega) (fun i => ?_) (fun i => ?_)))
        · show Am.get (s.2.set _ _) i = _
          rw [d1d]
          by_cases ei : t.lex.toNat = i
          · subst ei
            rw [if_pos ⟨rfl, by have := hs.l; omega⟩, if_pos rfl, h1, d0G (by omega) (by omega)]; omega
          · rw [if_neg (by omega), if_neg (by omega), hs.vl i hi]; omega
        · rw [p5J, if_neg (by omega)]; omega
        · rw [p5J]
          by_cases ei : i = t.lex.toNat
          · rw [if_pos ei, if_pos ⟨h, .inr (by omega)⟩]; omega
          · rw [if_neg ei, if_neg (by omega)]; omega
      · replace e := bx e
        omega
    | node _ h hl hn hk =>
      refine Evt.cond (fun e => ?_) (fun _ => ?_)
      · replace e := bx e
        omega
      · have h1 := hs.vr t.rule.toNat (by omega)
        have h2 := hp t.rule.toNat
        refine Evt.chk (by have := hs.r; omega) (Evt.d5A (core (s.1.set t.rule.toNat (wr .i64 (Am.get s.1 t.rule.toNat + 1)), s.2) (fun i => p i + if i = t.rule.toNat then 1 else 0) q ⟨by simp; exact hs.r, hs.l, fun i hi => ?_, hs.vl⟩ hk (fun i => by have := hp i; show p i + (if _ then 1 else 0) + _ ≤ _; split <;> omega) (fun i => by have := hq i; omega) (fun i => ?_) (fun i => ?_)))
        · show Am.get (s.1.set _ _) i = _
          rw [d1d]
          by_cases ei : t.rule.toNat = i
          · subst ei
            rw [if_pos ⟨rfl, by have := hs.r; omega⟩, if_pos rfl, h1, d0G (by omega) (by omega)]; omega
          · rw [if_neg (by omega), if_neg (by omega), hs.vr i hi]; omega
        · rw [p5J]
          by_cases ei : i = t.rule.toNat
          · rw [if_pos ei, if_pos ⟨by omega, .inl (by omega)⟩]; omega
          · rw [if_neg ei, if_neg (by omega)]; omega
        · rw [p5J, if_neg (by omega)]; omega
def TF0 (g : Yq) (t : Yl) : Prop := Evt (fun n => ZI n g t) (fun d => d.code = 0)
def i4M (g : Yq) (l : List Yl) (f : Yf) : Prop := (f = ⟨0, 0⟩ ∧ ∀ k, k < l.length → TF0 g (Am.get l k)) ∨ ∃ (i : Nat) (c : Yf), i < l.length ∧ f = ⟨c.code, (i : Int)⟩ ∧ c.code ≠ 0 ∧ Evt (fun n => ZI n g (Am.get l i)) (fun d => d = c) ∧ ∀ k, k < i → TF0 g (Am.get l k)
theorem i4M.uniq {g : Yq} {l : List Yl} {f f' : Yf} (h : i4M g l f) (k : i4M g l f') : f = f' := by
  rcases h with ⟨rfl, h⟩ | ⟨i, c, hi, rfl, h0, h1, h2⟩ <;> rcases k with ⟨rfl, k⟩ | ⟨j, d, hj, rfl, k0, k1, k2⟩
  · rfl
  · exact absurd (Evt.i7Y k1 (h j hj)) k0
  · exact absurd (Evt.i7Y h1 (k i hi)) h0
  · rcases Nat.lt_trichotomy i j with e | e | e
    · exact absurd (Evt.i7Y h1 (k2 i e)) h0
    · subst e
      have := Evt.i7Y h1 k1
      rw [this]
    · exact absurd (Evt.i7Y k1 (h2 j e)) k0
theorem i2B {rule lex : Int} {l : List Yl} {k : Nat} (h : k < l.length) : d8U rule lex (l.take (k + 1)) = d8U rule lex (l.take k) + i2p rule lex (Am.get l k) := by
  induction l generalizing k with
  | nil => simp at h
  | cons t l ih =>
    cases k with
    | zero => simp only [List.take_succ_cons, List.take_zero, d8U]; show _ = 0 + i2p rule lex t; omega
    | succ k =>
      simp only [List.take_succ_cons, d8U]
      have := ih (k := k) (by simpa using h)
      rw [this]
      show _ = _ + i2p rule lex (Am.get l k)
      omega
theorem i1O {rule lex : Int} {l : List Yl} {k : Nat} (hk : k ≤ l.length) (h : ∀ j, j < k → ndT (Am.get l j) ≤ 200) : d8U rule lex (l.take k) ≤ 200 * k := by
  induction k with
  | zero => simp [d8U]
  | succ k ih =>
    rw [i2B (by omega)]
    have h1 := ih (by omega) (fun j hj => h j (by omega))
    have h2 := h k (by omega)
    have h3 := i1N rule lex _ (Am.get l k) (Nat.le_refl _)
    omega
def p1w (g : Yq) (l : List Yl) (r : YS × Yf) : Prop := ∃ e, i4M g l e ∧ ((e.code ≠ 0 ∧ r = (⟨[], []⟩, e)) ∨ (e.code = 0 ∧ r.2 = ⟨0, 0⟩ ∧ (∀ k, k < l.length → ndT (Am.get l k) ≤ 200) ∧ i8a g (r.1.rules, r.1.YK) (fun i => d8U (i : Int) 0 l) (fun i => d8U (-1) (i : Int) l)))
theorem i6N {g : Yq} (hg : i7Z g) {l : List Yl} (hl : l.length ≤ 200) : Evt (fun n => YN (Zi (d4n n g l) l.length ((List.replicate g.rules.length (default : Int)), (List.replicate g.YK.length (default : Int)))) (d5v)) (p1w g l) := by
  refine Evt.YN (Evt.range (fun k s => (∀ j, j < k → TF0 g (Am.get l j) ∧ ndT (Am.get l j) ≤ 200) ∧ i8a g s (fun i => d8U (i : Int) 0 (l.take k)) (fun i => d8U (-1) (i : Int) (l.take k))) (fun _ => False) (p1w g l) ⟨fun j hj => by omega, by simp, by simp, fun i hi => ?_, fun i hi => ?_⟩ (fun k s hk hi => ?_)) (fun u hu => ?_) (fun r hr => hr)
  · show Am.get (List.replicate _ default) i = _
    rw [d9n]; simp [d8U]
  · show Am.get (List.replicate _ default) i = _
    rw [d9n]; simp [d8U]
  · obtain ⟨i1, i2⟩ := hi
    obtain ⟨f, f', ⟨rfl, hf⟩, h1, h2⟩ := (i8S hg (Am.get l k)).split
    unfold d4n d3q
    refine Evt.bind h1 fun a ha => ?_
    subst ha
    refine Evt.cond (fun e => Evt.bind (P := fun v => v = ⟨a.code, (k : Int)⟩) (Evt.pure rfl) fun v hv => Evt.pure ?_) (fun e => ?_)
    · replace e := bx e
      subst hv
      exact ⟨⟨a.code, (k : Int)⟩, .inr ⟨k, a, hk, rfl, e, h2, fun j hj => (i1 j hj).1⟩, .inl ⟨e, rfl⟩⟩
    · replace e := bx e
      obtain ⟨hok, hnd⟩ := hf e
      have hs1 : ∀ rule lex : Int, d8U rule lex (l.take k) ≤ 200 * k := fun rule lex => i1O (by omega) (fun j hj => (i1 j hj).2)
      refine Evt.bind (p1v _ (Am.get l k) (Nat.le_refl _) hok s _ _ i2 (fun i => by have := hs1 (i : Int) 0; omega) (fun i => by have := hs1 (-1) (i : Int); omega)) fun r hr => Evt.pure ⟨fun j hj => ?_, hr.r, hr.l, fun i hi => ?_, fun i hi => ?_⟩
      · by_cases ej : j = k
        · subst ej; exact ⟨h2.mono fun d hd => by rw [hd]; exact e, hnd⟩
        · exact i1 j (by omega)
      · rw [i2B hk]; exact hr.vr i hi
      · rw [i2B hk]; exact hr.vl i hi
  · obtain ⟨i1, i2⟩ := hu.elim id False.elim
    rw [List.take_length] at i2
    exact Evt.pure ⟨⟨0, 0⟩, .inl ⟨rfl, fun k hk => (i1 k hk).1⟩, .inr ⟨rfl, rfl, fun k hk => (i1 k hk).2, i2⟩⟩
theorem i6O {g : Yq} (hg : i7Z g) {l : List Yl} (hl : l.length ≤ 200) : Evt (fun n => d2a (Zb n l g) n (0, 0, 0)) (ExP (fun t : Int × Int => i4M g l ⟨t.1, t.2⟩) (fun _ => False)) := by
  refine Evt.loop (fun s : Int × Int × Int => l.length - s.2.2.toNat + (if s.1 = 0 then 1 else 0)) (fun s => ∃ k : Nat, s.2.2 = k ∧ k ≤ l.length ∧ ((s.1 = 0 ∧ s.2.1 = 0 ∧ ∀ j, j < k → TF0 g (Am.get l j)) ∨ (s.1 ≠ 0 ∧ i4M g l ⟨s.1, s.2.1⟩))) _ _ ⟨0, rfl, by omega, .inl ⟨rfl, rfl, fun j hj => by omega⟩⟩ (fun s hs => ?_)
  obtain ⟨a, b, i⟩ := s
  obtain ⟨k, rfl, hk, hs⟩ := hs
  simp only at hs
  have hw : wr .i64 ((k : Int) + 1) = ((k + 1 : Nat) : Int) := by rw [d0G (by omega) (by omega)]; omega
  unfold Zb
  simp only [hw, Int.toNat_natCast]
  refine Evt.cond (fun e => ?_) (fun e => Evt.pure ?_)
  · replace e := bx e
    obtain ⟨e1, e2⟩ := e
    subst e2
    rcases hs with ⟨_, h1, h2⟩ | ⟨h1, _⟩
    · obtain ⟨f, f', ⟨rfl, hf⟩, _, h3⟩ := (i8S hg (Am.get l k)).split
      refine Evt.chk (by omega) (Evt.bind h3 fun v hv => ?_)
      subst hv
      refine Evt.cond (fun e => Evt.pure ⟨⟨k + 1, rfl, by omega, .inr ⟨?_, .inr ⟨k, v, by omega, rfl, ?_, h3, h2⟩⟩⟩, ?_⟩) (fun e => Evt.pure ⟨⟨k + 1, rfl, by omega, .inl ⟨rfl, h1, fun j hj => ?_⟩⟩, ?_⟩)
      · replace e := bx e
        exact e
      · replace e := bx e
        exact e
      · replace e := bx e
        show l.length - ((k + 1 : Nat) : Int).toNat + (if v.code = 0 then 1 else 0) < l.length - ((k : Nat) : Int).toNat + (if (0 : Int) = 0 then 1 else 0)
        rw [if_neg e, if_pos rfl]; omega
      · replace e := bx e
        by_cases ej : j = k
        · subst ej; exact h3.mono fun d hd => by rw [hd]; exact e
        · exact h2 j (by omega)
      · show l.length - ((k + 1 : Nat) : Int).toNat + (if (0 : Int) = 0 then 1 else 0) < l.length - ((k : Nat) : Int).toNat + (if (0 : Int) = 0 then 1 else 0)
        omega
    · exact absurd rfl h1
  · rcases hs with ⟨h0, h1, h2⟩ | ⟨h1, h2⟩
    · subst h0 h1
      simp only [decide_true, Bool.cond_false_right, Bool.and_true, decide_eq_false_iff_not] at e
      have : k = l.length := by omega
      subst this
      exact .inl ⟨rfl, h2⟩
    · exact h2
theorem i8b {l : List Yl} (hl : l.length ≤ 200) (hn : ∀ k, k < l.length → ndT (Am.get l k) ≤ 200) (j5 : Int × Int) : Evt (fun n => d2a (Zn n l j5) n (0, 0)) (ExP (fun t : Int => t = d8U j5.1 j5.2 l) (fun _ => False)) := by
  refine Evt.loop (fun s : Int × Int => l.length - s.2.toNat) (fun s => ∃ k : Nat, s = ((d8U j5.1 j5.2 (l.take k) : Int), (k : Int)) ∧ k ≤ l.length) _ _ ⟨0, by simp [d8U], by omega⟩ (fun s hs => ?_)
  obtain ⟨k, rfl, hk⟩ := hs
  have hw : wr .i64 ((k : Int) + 1) = ((k + 1 : Nat) : Int) := by rw [d0G (by omega) (by omega)]; omega
  have hsm := i1O (rule := j5.1) (lex := j5.2) hk (fun j hj => hn j (by omega))
  unfold Zn
  simp only [hw, Int.toNat_natCast]
  refine Evt.cond (fun e => ?_) (fun e => Evt.pure ?_)
  · replace e := bx e
    have hlt : k < l.length := by omega
    have h2 := hn k hlt
    have h3 := i1N j5.1 j5.2 _ (Am.get l k) (Nat.le_refl _)
    refine Evt.chk (by omega) (Evt.bind (i9G j5.1 j5.2 _ _ (Nat.le_refl _) (by omega)) fun v hv => Evt.pure ⟨⟨k + 1, ?_, by omega⟩, by show l.length - ((k + 1 : Nat) : Int).toNat < l.length - (k : Int).toNat; omega⟩)
    rw [hv, i2B hlt, d0G (by omega) (by omega)]
    exact Prod.ext (Int.natCast_add _ _).symm rfl
  · replace e := bx e
    have : k = l.length := by omega
    subst this
    rw [List.take_length]
    rfl
theorem i6r {g : Yq} (hm : Holds g) (l : List Yl) : Evt (fun n => ZM n g l) (fun r => r = true) := by
  have fin : ∀ (v2 : YS × Yf) (c i : Int), c ≠ 0 → v2 = (⟨[], []⟩, ⟨c, i⟩) → Evt (fun n => Zc n v2 g l (c, i)) (fun r => r = true) := fun v2 c i hc hv => by
    subst hv
    unfold Zc
    refine Evt.cond (fun _ => Evt.pure (by simp)) (fun e => ?_)
    replace e := bx e
    exact absurd e hc
  have out : ∀ (v2 : YS × Yf) (c i : Int), c ≠ 0 → v2 = (⟨[], []⟩, ⟨c, i⟩) → Evt (fun n => YU n l g v2 (c, i)) (fun r => r = true) := fun v2 c i hc hv => by
    unfold YU
    refine Evt.YN (d5s.evt (e := .nxt (c, i)) (d5s.brk ?_)) (fun t ht => ?_) (fun r hr => by cases hr)
    · unfold Zb
      refine Evt.cond (fun e => ?_) (fun _ => Evt.pure rfl)
      simp only [Bool.cond_false_right, Bool.and_eq_true, decide_eq_true_eq] at e
      exact absurd e.2 hc
    · cases ht
      exact fin v2 c i hc hv
  unfold ZM
  refine Evt.bind i3I fun v hv => Evt.cond (fun e => ?_) (fun _ => ?_)
  · subst hv; cases e
  obtain ⟨f, f', ⟨rfl, hf⟩, h1, h2⟩ := (i0s hm).split
  by_cases h0 : f.code = 0
  · obtain ⟨hz, hg⟩ := hf h0
    have g2 := hg.rules
    have g3 := hg.YK
    by_cases hl : 200 < l.length
    · refine Evt.bind (P := fun r => r = (⟨[], []⟩, ⟨2, -2⟩)) ?_ fun v2 hv2 => Evt.bind h2 fun v3 hv3 => ?_
      · unfold d5h
        refine Evt.bind h1 fun a ha => ?_
        subst ha
        refine Evt.cond (fun e => ?_) (fun _ => Evt.cond (fun _ => Evt.pure rfl) (fun e => ?_))
        · replace e := bx e
          exact absurd h0 e
        · replace e := bx e
          omega
      · subst hv3
        refine Evt.cond (fun _ => out v2 2 (-2) (by decide) hv2) (fun e => ?_)
        exfalso
        rw [h0, decide_eq_true (show (200 : Int) < (l.length : Int) by omega)] at e
        simp at e
    · refine Evt.bind (P := p1w g l) ?_ fun v2 hv2 => Evt.bind h2 fun v3 hv3 => ?_
      · unfold d5h
        refine Evt.bind h1 fun a ha => ?_
        subst ha
        refine Evt.cond (fun e => ?_) (fun _ => Evt.cond (fun e => ?_) (fun _ => Evt.chk (by rw [d5E]; omega) (Evt.chk (by rw [d5E]; omega) (i6N hg (by omega)))))
        · replace e := bx e
          exact absurd h0 e
        · replace e := bx e
          omega
      · subst hv3
        refine Evt.cond (fun e => ?_) (fun _ => ?_)
        · exfalso
          rw [decide_eq_false (show ¬ (200 : Int) < (l.length : Int) by omega)] at e
          simp at e
        rw [hz]
        obtain ⟨e, he, hcase⟩ := hv2
        unfold YU
        refine Evt.YN (i6O hg (by omega)) (fun t ht => ?_) (fun r hr => hr.elim)
        have het : e = ⟨t.1, t.2⟩ := he.uniq ht
        subst het
        rcases hcase with ⟨hc, hv⟩ | ⟨hc, hr2, hnd, i9A⟩
        · exact fin v2 t.1 t.2 hc hv
        · have hc : t.1 = 0 := hc
          have k1 := i9A.r
          have k2 := i9A.l
          simp only at k1 k2
          have hsm : ∀ rule lex : Int, d8U rule lex l ≤ 200 * l.length := fun rule lex => by
            have := i1O (rule := rule) (lex := lex) (Nat.le_refl l.length) hnd
            rwa [List.take_length] at this
          unfold Zc
          refine Evt.cond (fun e => ?_) (fun _ => Evt.cond (fun e => ?_) (fun _ => ?_))
          · replace e := bx e
            exact absurd hc e
          · replace e := bx e
            rw [hr2] at e
            simp only [not_true_eq_false, false_or] at e
            omega
          have hwn : wr .i64 ((g.rules.length : Int) + (g.YK.length : Int)) = ((g.rules.length + g.YK.length : Nat) : Int) := by rw [d0G (by omega) (by omega)]; omega
          refine Evt.YN (P := ExP (fun _ => True) (fun _ => False)) (Evt.loop (fun s : Int => g.rules.length + g.YK.length - s.toNat) (fun s => ∃ k : Nat, s = k ∧ k ≤ g.rules.length + g.YK.length) _ _ ⟨0, rfl, by omega⟩ (fun s hs => ?_)) (fun t ht => Evt.pure rfl) (fun r hr => hr.elim)
          obtain ⟨k, rfl, hk⟩ := hs
          have hw : wr .i64 ((k : Int) + 1) = ((k + 1 : Nat) : Int) := by rw [d0G (by omega) (by omega)]; omega
          have core : ∀ j5 : Int × Int, k < g.rules.length + g.YK.length → ((0 ≤ j5.1 ∧ j5.1 < g.rules.length ∧ j5.2 = 0) ∨ (j5.1 = -1 ∧ 0 ≤ j5.2 ∧ j5.2 < g.YK.length)) → Evt (fun n => Zd n l v2 (k : Int) j5) (p3t (fun s => (∃ k : Nat, s = k ∧ k ≤ g.rules.length + g.YK.length) ∧ g.rules.length + g.YK.length - s.toNat < g.rules.length + g.YK.length - (k : Int).toNat) (fun _ => True) (fun _ => False)) := fun j5 hlt hj => by
            unfold Zd
            refine Evt.YN (i8b (by omega) hnd j5) (fun t6 ht6 => ?_) (fun r hr => hr.elim)
            have ht6 : t6 = _ := ht6
            subst ht6
            unfold Zz
            rw [hw]
            rcases hj with ⟨a1, a2, a3⟩ | ⟨a1, a2, a3⟩
            · have hv := i9A.vr j5.1.toNat (by omega)
              have e1 : ((j5.1.toNat : Nat) : Int) = j5.1 := by omega
              simp only [e1] at hv
              rw [← a3] at hv
              rw [hv]
              simp only [decide_eq_true a1, decide_eq_false (show ¬ j5.1 < 0 by omega), decide_true, Bool.not_true, cond_true, cond_false, Bool.and_false]
              exact Evt.chk ⟨Zr fun _ => a1, Zr fun _ => by omega⟩ (Evt.chk ⟨Zr fun h => (by cases h), Zr fun h => (by cases h)⟩ (Evt.pure ⟨⟨k + 1, rfl, by omega⟩, by omega⟩))
            · have hv := i9A.vl j5.2.toNat (by omega)
              have e1 : ((j5.2.toNat : Nat) : Int) = j5.2 := by omega
              simp only [e1] at hv
              rw [← a1] at hv
              rw [hv]
              simp only [decide_eq_false (show ¬ 0 ≤ j5.1 by omega), decide_eq_true (show j5.1 < 0 by omega), decide_true, Bool.not_true, Bool.not_false, cond_true, cond_false, Bool.and_true]
              exact Evt.chk ⟨Zr fun h => (by cases h), Zr fun h => (by cases h)⟩ (Evt.chk ⟨Zr fun _ => a2, Zr fun _ => by omega⟩ (Evt.pure ⟨⟨k + 1, rfl, by omega⟩, by omega⟩))
          unfold ZA
          rw [hwn]
          refine Evt.cond (fun e => Evt.cond (fun e2 => ?_) (fun e2 => ?_)) (fun e => Evt.pure trivial)
          · replace e := bx e; replace e2 := bx e2
            have hw2 : wr .i64 ((k : Int) - (g.rules.length : Int)) = ((k - g.rules.length : Nat) : Int) := by rw [d0G (by omega) (by omega)]; omega
            rw [hw2]
            exact core _ (by omega) (.inr ⟨rfl, by omega, by show ((k - g.rules.length : Nat) : Int) < _; omega⟩)
          · replace e := bx e; replace e2 := bx e2
            exact core _ (by omega) (.inl ⟨by omega, by show (k : Int) < _; omega, rfl⟩)
  · refine Evt.bind (P := fun r => r = (⟨[], []⟩, f)) ?_ fun v2 hv2 => Evt.bind h2 fun v3 hv3 => ?_
    · unfold d5h
      refine Evt.bind h1 fun a ha => ?_
      subst ha
      refine Evt.cond (fun _ => Evt.pure rfl) (fun e => ?_)
      replace e := bx e
      exact absurd e h0
    · subst hv3
      refine Evt.cond (fun e => ?_) (fun _ => out v2 _ _ h0 hv2)
      rw [decide_eq_false h0] at e
      cases e
end Go.Proofs.YtgaeiccgdpnkkaaGreatDoor
