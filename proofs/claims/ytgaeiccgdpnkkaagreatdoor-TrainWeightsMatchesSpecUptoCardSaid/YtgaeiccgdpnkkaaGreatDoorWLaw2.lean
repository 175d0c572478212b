import Derived.Lib.ValidLaws
import Derived.Lib.RuneCount
import Derived.Lib.IndexAny
import Derived.Test.YtgaeiccgdpnkkaaGreatDoorWLaw1
set_option linter.unusedVariables false
set_option linter.unusedSimpArgs false
namespace Go.Proofs.YtgaeiccgdpnkkaaGreatDoor
open Go Go.Am
def p3f (T : List d6t) : Prop := ∀ r ∈ T, r.kind = 1 ∨ r.kind = 3 → ∃ k, SOk r.typ k ∧ k ≤ 200
theorem p4s {t : WO} {b n : Nat} (h : WfT b t n) : ∀ {T : List d6t} {up : Int} {i : Nat}, Tab t up i T → p3f T := by
  induction h with
  | con b t k h hs hk h0 =>
    intro T up i hT
    cases hT with
    | leaf _ _ _ _ => intro r hr _; rw [List.mem_singleton] at hr; subst hr; exact ⟨k, hs, hk⟩
    | one _ u _ _ T h1 _ => rw [h0] at h1; cases h1
    | two _ u v _ _ T U h1 _ _ => rw [h0] at h1; cases h1
  | var b t h hi h0 =>
    intro T up i hT
    cases hT with
    | leaf _ _ _ _ => intro r hr hk; rw [List.mem_singleton] at hr; subst hr; simp only [rowOf] at hk; omega
    | one _ u _ _ T h1 _ => rw [h0] at h1; cases h1
    | two _ u v _ _ T U h1 _ _ => rw [h0] at h1; cases h1
  | abs b t u k n h hs hk h0 hu0 ih =>
    intro T up i hT
    cases hT with
    | leaf _ _ _ h1 => rw [h0] at h1; cases h1
    | one _ u' _ _ T h1 hT =>
      rw [h0] at h1; cases h1
      intro r hr hk2
      rcases List.mem_cons.1 hr with rfl | hr
      · exact ⟨k, hs, hk⟩
      · exact ih hT r hr hk2
    | two _ u v _ _ T U h1 _ _ => rw [h0] at h1; cases h1
  | app b t u v n m h h0 hu0 hv0 ihu ihv =>
    intro T up i hT
    cases hT with
    | leaf _ _ _ h1 => rw [h0] at h1; cases h1
    | one _ u' _ _ T h1 hT => rw [h0] at h1; cases h1
    | two _ u' v' _ _ T U h1 hT hU =>
      rw [h0] at h1; cases h1
      intro r hr hk
      rcases List.mem_cons.1 hr with rfl | hr
      · simp only [rowOf] at hk; omega
      · rcases List.mem_append.1 hr with hr | hr
        · exact ihu hT r hr hk
        · exact ihv hU r hr hk
structure i6f (W : List d6t) (ty : List WK) (i : Nat) : Prop where
  len : ty.length = W.length
  typ : ∀ j, i ≤ j → j < W.length → ∀ u ctx m, Node W j u ctx m → d7D ctx u = some (Am.get ty j)
  ok : ∀ j, i ≤ j → j < W.length → ∃ k, SOk (Am.get ty j) k ∧ k ≤ 201 * (W.length - j)
theorem i6f.set {W : List d6t} {ty : List WK} {i : Nat} {s : WK} (h : i6f W ty (i + 1)) (hi : i < W.length) (h1 : ∀ u ctx m, Node W i u ctx m → d7D ctx u = some s) (h2 : ∃ k, SOk s k ∧ k ≤ 201 * (W.length - i)) : i6f W (ty.set i s) i := by
  obtain ⟨a, b, c⟩ := h
  refine ⟨by simp [a], fun j hj hj2 u ctx m hn => ?_, fun j hj hj2 => ?_⟩
  · rw [d0B]
    by_cases e : i = j
    · subst e; rw [if_pos ⟨rfl, by omega⟩]; exact h1 u ctx m hn
    · rw [if_neg (by omega)]; exact b j (by omega) hj2 u ctx m hn
  · rw [d0B]
    by_cases e : i = j
    · subst e; rw [if_pos ⟨rfl, by omega⟩]; exact h2
    · rw [if_neg (by omega)]; exact c j (by omega) hj2
theorem d4K {W : List d6t} {i : Nat} {u : WO} {ctx : List WK} {m : Nat} (h : Node W i u ctx m) : (Am.get W i).kind = u.kind ∧ (Am.get W i).typ = u.type ∧ (1 ≤ u.kind ∧ u.kind ≤ 4) ∧ i < W.length := by
  cases h with
  | con _ _ _ up h e hl => rw [e]; exact ⟨rfl, rfl, by omega, hl⟩
  | var _ _ _ up h hi e hl hu hup => rw [e]; exact ⟨rfl, rfl, by omega, hl⟩
  | abs _ _ u _ up n h h0 e hl hu => rw [e]; exact ⟨rfl, rfl, by omega, hl⟩
  | app _ _ u v _ up n m h h0 e hl hu hv => rw [e]; exact ⟨rfl, rfl, by omega, hl⟩
theorem i8p {W : List d6t} {i : Nat} {t : WO} {ctx : List WK} {m : Nat} (h : Node W i t ctx m) (hk : t.kind = 3) : (Am.get W i).kids = [((i + 1 : Nat) : Int)] ∧ i + 1 < W.length ∧ ∃ u n, Node W (i + 1) u (ctx ++ [t.type]) n ∧ d7D ctx t = p5q t.type [d7D (ctx ++ [t.type]) u] := by
  cases h with
  | con _ _ _ up h e hl => omega
  | var _ _ _ up h hi e hl hu hup => omega
  | abs _ _ u _ up n h h0 e hl hu => rw [e]; exact ⟨rfl, (d4K hu).2.2.2, u, n, hu, p0N h h0⟩
  | app _ _ u v _ up n m h h0 e hl hu hv => omega
theorem i8q {W : List d6t} {i : Nat} {t : WO} {ctx : List WK} {m : Nat} (h : Node W i t ctx m) (hk : t.kind = 4) : ∃ n, (Am.get W i).kids = [((i + 1 : Nat) : Int), ((i + 1 + n : Nat) : Int)] ∧ (i + 1 < W.length ∧ i + 1 + n < W.length) ∧ ∃ u v q, Node W (i + 1) u ctx n ∧ Node W (i + 1 + n) v ctx q ∧ d7D ctx t = i7r [d7D ctx u, d7D ctx v] := by
  cases h with
  | con _ _ _ up h e hl => omega
  | var _ _ _ up h hi e hl hu hup => omega
  | abs _ _ u _ up n h h0 e hl hu => omega
  | app _ _ u v _ up n m h h0 e hl hu hv => rw [e]; exact ⟨n, rfl, ⟨(d4K hu).2.2.2, (d4K hv).2.2.2⟩, u, v, m, hu, hv, i7t h h0⟩
theorem p2t {W : List d6t} {i : Nat} {t : WO} {ctx : List WK} {m : Nat} (h : Node W i t ctx m) (hk : t.kind = 1) : d7D ctx t = some t.type := by
  rw [d4l, if_pos hk]
theorem UpC.len {W : List d6t} {up : Int} {ctx : List WK} (h : UpC W up ctx) : (ctx.length : Int) ≤ up + 1 := by
  induction h with
  | top => simp
  | abs i ctx hi hk hu h ih => simp only [List.length_append, List.length_cons, List.length_nil]; omega
  | app i ctx hi hk hu h ih => omega
theorem i8r {W : List d6t} {i : Nat} {t : WO} {ctx : List WK} {m : Nat} (h : Node W i t ctx m) (hk : t.kind = 2) (hl : W.length ≤ 1000) : Evt (fun n => ZM n W i) (fun p => (0 ≤ p ∧ p < W.length ∧ (Am.get W p.toNat).kind = 3) ∧ d7D ctx t = some (Am.get W p.toNat).typ) := by
  cases h with
  | con _ _ _ up h e hl => omega
  | var _ _ _ up h hi e hl2 hu hup =>
    have := hu.len
    exact (p0O e hl2 hi (by omega) hu).mono fun p hp => ⟨hp.1, by rw [d4l, if_neg (by omega), if_pos hk, hp.2]⟩
  | abs _ _ u _ up n h h0 e hl hu => omega
  | app _ _ u v _ up n m h h0 e hl hu hv => omega
theorem Evt.uniq {α : Type} {x : Nat → Option α} {P : α → Prop} {r : α} (h : Evt x (fun a => a = r)) (k : Evt x P) : P r := by
  obtain ⟨a, rfl, N, hN⟩ := h
  obtain ⟨b, hb, M, hM⟩ := k
  have h1 := hN (max N M) (by omega)
  have h2 := hM (max N M) (by omega)
  rw [h1] at h2
  cases h2
  exact hb
theorem i6g {W : List d6t} {t : WO} {n : Nat} {ty : List WK} {i : Nat} (hr : p3f W) (hw : W.length ≤ 1000) (hT : Node W 0 t [] n) (hn : n = W.length) (hi : i < W.length) (h : i6f W ty (i + 1)) :
    Evt (fun k => YV k W (ty, (i : Int))) (i8k (fun s => i6f W s.1 i ∧ s.2 = (i : Int) - 1) (fun _ => False) (fun r => r.2 = false ∧ d7D [] t = none)) := by
  obtain ⟨u, ctx, m, hN, hS⟩ := p4r hT i (by omega) (by omega)
  obtain ⟨hk, r2J, hk4, _⟩ := d4K hN
  have hlen := h.len
  have hw1 : wr .i64 ((i : Int) - 1) = (i : Int) - 1 := Zc (by omega) (by omega)
  unfold YV
  simp only [Int.toNat_natCast, hw1]
  refine Evt.cond (fun _ => Evt.chk (by omega) ?_) (fun e => ?_)
  · refine Evt.cond (fun e => ?_) (fun e => Evt.cond (fun e2 => ?_) (fun e2 => Evt.cond (fun e3 => ?_) (fun e3 => Evt.cond (fun e4 => ?_) (fun e4 => ?_))))
    · replace e := bx e
      obtain ⟨k, hk1, hk2⟩ := hr _ (get_mem hi) (.inl e)
      refine Evt.chk (by omega) (Evt.d4y (Evt.pure ⟨h.set hi (fun u' ctx' m' h' => ?_) ⟨k, hk1, by omega⟩, rfl⟩))
      rw [(d4K h').2.1]
      exact p2t h' (by rw [← (d4K h').1]; exact e)
    · replace e2 := bx e2
      obtain ⟨p, hp, hpe⟩ := (i8r hN (by rw [← hk]; exact e2) hw).eq
      refine Evt.bind hpe fun q hq => ?_
      subst hq
      obtain ⟨⟨p0, p1, p3⟩, _⟩ := hp
      obtain ⟨k, hk1, hk2⟩ := hr _ (get_mem (l := W) (k := q.toNat) (by omega)) (.inr p3)
      refine Evt.chk ⟨p0, p1⟩ (Evt.chk (by omega) (Evt.d4y (Evt.pure ⟨h.set hi (fun u' ctx' m' h' => ?_) ⟨k, hk1, by omega⟩, rfl⟩)))
      exact (Evt.uniq hpe (i8r h' (by rw [← (d4K h').1]; exact e2) hw)).2
    · replace e3 := bx e3
      obtain ⟨p2u, hi1, u1, n1, hN1, hty⟩ := i8p hN (by rw [← hk]; exact e3)
      have g0 : Am.get [((i + 1 : Nat) : Int)] 0 = ((i + 1 : Nat) : Int) := rfl
      obtain ⟨k, hk1, hk2⟩ := hr _ (get_mem hi) (.inr e3)
      obtain ⟨k', hk1', hk2'⟩ := h.ok (i + 1) (by omega) hi1
      simp only [p2u, g0, Int.toNat_natCast, d3I, Option.bind_some]
      refine Evt.chk (by simp) (Evt.chk (by omega) (Evt.chk (by omega) (Evt.d4y (Evt.pure ⟨h.set hi (fun u' ctx' m' h' => ?_) ⟨_, .node _ _ _ _ _ rfl rfl hk1 hk1', by omega⟩, rfl⟩))))
      obtain ⟨_, _, u2, n2, hN2, r0A⟩ := i8p h' (by rw [← (d4K h').1]; exact e3)
      rw [r0A, h.typ (i + 1) (by omega) hi1 _ _ _ hN2, (d4K h').2.1]
      rfl
    · replace e4 := bx e4
      obtain ⟨n1, p2u, ⟨hi1, hi2⟩, u1, v1, q1, hN1, hN2, hty⟩ := i8q hN (by rw [← hk]; exact e4)
      have g0 : Am.get [((i + 1 : Nat) : Int), ((i + 1 + n1 : Nat) : Int)] 0 = ((i + 1 : Nat) : Int) := rfl
      have g1 : Am.get [((i + 1 : Nat) : Int), ((i + 1 + n1 : Nat) : Int)] 1 = ((i + 1 + n1 : Nat) : Int) := rfl
      have gl : [((i + 1 : Nat) : Int), ((i + 1 + n1 : Nat) : Int)].length = 2 := rfl
      have key : ∀ u' ctx' m', Node W i u' ctx' m' → d7D ctx' u' = i7r [some (Am.get ty (i + 1)), some (Am.get ty (i + 1 + n1))] := fun u' ctx' m' h' => by
        obtain ⟨n1', p3g, ⟨r2K, r0B⟩, u1', v1', q1', r0C, r0D, r0E⟩ := i8q h' (by rw [← (d4K h').1]; exact e4)
        rw [p2u] at p3g
        have : n1' = n1 := by
          have := (List.cons.inj (List.cons.inj p3g).2).1
          omega
        subst this
        rw [r0E, h.typ (i + 1) (by omega) hi1 _ _ _ r0C, h.typ (i + 1 + n1') (by omega) r0B _ _ _ r0D]
      obtain ⟨k, hk1, hk2⟩ := h.ok (i + 1) (by omega) hi1
      obtain ⟨k', hk1', hk2'⟩ := h.ok (i + 1 + n1) (by omega) hi2
      simp only [p2u, g0, g1, gl, Int.toNat_natCast]
      generalize hf : Am.get ty (i + 1) = f at *
      generalize hx : Am.get ty (i + 1 + n1) = x at *
      have bad : i7r [some f, some x] = none → d7D [] t = none := fun hb => Classical.byContradiction fun hc => hS hc (by rw [key _ _ _ hN, hb])
      refine Evt.chk (by omega) (Evt.chk (by omega) (Evt.chk (by omega) (Evt.chk (by omega) ?_)))
      cases hk1 with
      | leaf _ hb h0 =>
        have : f.base ≠ [] := by rcases hb with h | h <;> rw [h] <;> simp
        simp only [this, decide_false, Bool.not_false, cond_true, Bool.not_true]
        refine Evt.chk (Ys fun h => by cases h) (Evt.pure ⟨rfl, bad ?_⟩)
        unfold i7r
        simp only []
        rw [if_neg (by rw [h0]; simp)]
      | node _ a c j l e1 e2 e3 e4 =>
        have hl2 : (f.args.length : Int) = 2 := by rw [e2]; rfl
        simp only [e1, hl2, decide_true, Bool.not_true, Bool.not_false, cond_false]
        have ga : Am.get f.args 0 = a := by rw [e2]; rfl
        refine Evt.chk (Ys fun _ => by omega) (Evt.bind (i2Q (s := Am.get f.args 0) (t := x) (by rw [ga]; exact e3) hk1' (by omega) (by omega)) fun w hw2 => Evt.cond (fun e => Evt.pure ⟨rfl, bad ?_⟩) (fun e => Evt.chk (by omega) (Evt.chk (by omega) (Evt.d4y (Evt.pure ⟨h.set hi (fun u' ctx' m' h' => ?_) ⟨l, by rw [e2]; exact e4, by omega⟩, rfl⟩)))))
        · replace e := bx e
          unfold i7r
          simp only []
          rw [if_neg]
          intro hh
          rw [hw2.2 hh.2] at e; cases e
        · replace e := bx e
          rw [key _ _ _ h']
          unfold i7r
          simp only []
          rw [if_pos ⟨by omega, hw2.1 e⟩]
    · replace e := bx e; replace e2 := bx e2; replace e3 := bx e3; replace e4 := bx e4
      omega
  · replace e := bx e
    have : ¬ (0 : Int) ≤ (i : Int) := by omega
    omega
theorem i4Z {t : WO} {n : Nat} (h : WfT 0 t n) (hn : n ≤ 1000) : Evt (fun k => d0S k t) (TyR [] t) := by
  unfold d0S p0P
  refine Evt.bind (p2s h (-1) 0 (by omega)) fun W hW => ?_
  obtain ⟨hl, hT⟩ := hW
  have hN : Node W 0 t [] n := p4q h rfl hT hl ⟨by omega, fun k _ => by rw [Nat.zero_add]⟩ .top (by omega)
  have hro := p4s h hT
  have hpos := (d4K hN).2.2.2
  have hw1 : wr .i64 ((W.length : Int) - 1) = (W.length : Int) - 1 := Zc (by omega) (by omega)
  rw [hw1]
  refine Evt.chk (by rw [d3T]; omega) (Evt.Xx (P := ExP (fun ty => i6f W ty 0) (fun r : WK × Bool => r.2 = false ∧ d7D [] t = none)) (Evt.loop (fun s : List WK × Int => (s.2 + 1).toNat) (fun s => ∃ i : Nat, i ≤ W.length ∧ s.2 = (i : Int) - 1 ∧ i6f W s.1 i) _ _ ⟨W.length, Nat.le_refl _, rfl, by simp, fun j h1 h2 => by omega, fun j h1 h2 => by omega⟩ (fun s hs => ?_)) (fun ty hty => ?_) (fun r hr => .inr hr))
  · obtain ⟨i, hi, hs2, hinv⟩ := hs
    obtain ⟨ty, x⟩ := s
    simp only at hs2 hinv
    subst hs2
    match i, hi, hinv with
    | 0, hi, hinv =>
      unfold YV
      refine Evt.cond (fun e => ?_) (fun e => Evt.pure hinv)
      replace e := bx e
      have e : (0 : Int) ≤ ((0 : Nat) : Int) - 1 := e
      omega
    | i + 1, hi, hinv =>
      have := i6g hro (by omega) hN (by omega) (by omega) hinv
      rw [show (((i + 1 : Nat) : Int) - 1) = (i : Int) by omega]
      refine this.mono fun c hc => ?_
      cases c with
      | nxt s' => exact ⟨⟨i, by omega, hc.2, hc.1⟩, by show (s'.2 + 1).toNat < ((i : Int) + 1).toNat; rw [hc.2]; omega⟩
      | brk t' => exact hc.elim
      | ret r => exact hc
  · have hty : i6f W ty 0 := hty
    unfold d0Y
    have := hty.len
    exact Evt.chk (by omega) (Evt.pure (.inl ⟨rfl, hty.typ 0 (by omega) (by omega) _ _ _ hN⟩))
theorem i5a (t : WO) : Ev2 (fun n => d3s n t) (fun n => ZN n t) (fun a b => a = b) := by
  unfold d3s ZN
  have h1 := d8k _ t (Nat.le_refl _) 1 0 0 (by omega) (by omega) (by omega) (by omega) (by omega) (by omega)
  refine Ev2.d3y h1 fun a ha => ?_
  obtain ⟨rfl, _⟩ := ha
  by_cases hc : (d9a t 1 0 0).1.code = 0
  · obtain ⟨n, hwf, _, hn⟩ := p4p _ t (Nat.le_refl _) 1 0 0 hc
    refine Ev2.i3A (d9w t) (fun u hu => ?_) (fun r hr => ?_)
    · simp only [hc, decide_true, Bool.not_true, cond_false]
      unfold d0k
      refine Ev2.d3y (i6d hwf (ctx := []) ⟨rfl, fun j hj => by omega⟩ (by omega) (by omega)) fun x hx => Ev2.i7j (i4Z hwf (by omega)) fun y hy => ?_
      have e : x.2 = y.2 := by
        rcases hx with ⟨h1, h2⟩ | ⟨h1, h2⟩ <;> rcases hy with ⟨h3, h4⟩ | ⟨h3, h4⟩
        · rw [h1, h3]
        · rw [h4] at h2; cases h2
        · rw [h4] at h2; cases h2
        · rw [h1, h3]
      rw [e]
      exact Ev2.cond rfl (fun _ => Ev2.pure rfl) (fun _ => Ev2.pure rfl)
    · rw [if_pos hc] at hr; cases hr
  · refine Ev2.i3A (d9w t) (fun u hu => ?_) (fun r hr => ?_)
    · rw [if_neg hc] at hu; cases hu
    · rw [if_neg hc] at hr; cases hr
      simp only [hc, decide_false, Bool.not_false, cond_true]
      exact Evt.pure rfl
end Go.Proofs.YtgaeiccgdpnkkaaGreatDoor
namespace Go.Proofs.YtgaeiccgdpnkkaaGreatDoor
open Go Go.Am Go.Lib
theorem p3h (s : Bs) : (bs s).data.toList = s := by simp [bs]
theorem p6P (s : Bs) : (bs s).size = s.length := by simp [bs, ByteArray.size]
theorem d6u {s : Bs} {p : Nat} (h : p < s.length) : 1 ≤ d5t s p := by
  unfold d5t
  rw [if_pos h]
  exact Lib.decode_width_pos _ _ (by rw [p6P]; exact h)
theorem p0Q (s : Bs) (i : Int) : 0 ≤ Xd s i := by unfold Xd; omega
theorem d3J (s : Bs) (i : Nat) : Xd s i = ((s.getD i 0).toNat : Int) := by unfold Xd; rw [Int.toNat_natCast]
def rpos (s : Bs) : Nat → Nat
  | 0 => 0
  | k + 1 => rpos s k + d5t s (rpos s k)
def RC (s : Bs) (c : Nat) : Prop := s.length ≤ rpos s c ∧ ∀ j, j < c → rpos s j < s.length
theorem i2R (s : Bs) {j k : Nat} (h : j ≤ k) : rpos s j ≤ rpos s k := by
  induction k with
  | zero => have : j = 0 := by omega
            subst this; exact Nat.le_refl _
  | succ k ih =>
    by_cases e : j = k + 1
    · subst e; exact Nat.le_refl _
    · have := ih (by omega)
      show rpos s j ≤ rpos s k + d5t s (rpos s k)
      omega
theorem RC.uniq {s : Bs} {c d : Nat} (h : RC s c) (k : RC s d) : c = d := by
  rcases Nat.lt_trichotomy c d with e | e | e
  · have := k.2 c e; have := h.1; omega
  · exact e
  · have := h.2 d e; have := k.1; omega
theorem p0R {s : Bs} : ∀ {k : Nat}, (∀ j, j < k → rpos s j < s.length) → k ≤ rpos s k
  | 0, _ => Nat.le_refl _
  | k + 1, h => by
    have h1 := p0R (s := s) (k := k) (fun j hj => h j (by omega))
    have h2 := d6u (h k (by omega))
    show k + 1 ≤ rpos s k + d5t s (rpos s k)
    omega
theorem p6Q {s : Bs} {c : Nat} (h : ∀ j, j < c → rpos s j < s.length) : c ≤ s.length := by
  cases c with
  | zero => omega
  | succ c => have h1 := p0R (s := s) (k := c) (fun j hj => h j (by omega)); have h2 := h c (by omega); omega
theorem i6h (s : Bs) (hs : s.length < 4294967296) : Evt (fun n => YT n s) (fun v => ∃ c : Nat, v = c ∧ RC s c) := by
  unfold YT
  refine Evt.Xx (P := ExP (fun v : Int => ∃ c : Nat, v = c ∧ RC s c) (fun _ => False)) (Evt.loop (fun u : Nat × Int => s.length - u.1) (fun u => ∃ k : Nat, u = (rpos s k, (k : Int)) ∧ ∀ j, j < k → rpos s j < s.length) _ _ ⟨0, rfl, fun j hj => by omega⟩ (fun u hu => ?_)) (fun t ht => Evt.pure ht) (fun _ h => h.elim)
  obtain ⟨k, rfl, hk⟩ := hu
  unfold Zd
  have hkl := p6Q hk
  refine Evt.cond (fun e => Evt.pure ?_) (fun e => Evt.pure ?_)
  · replace e := bx e
    have e : rpos s k < s.length := e
    have := d6u e
    refine ⟨⟨k + 1, ?_, fun j hj => ?_⟩, by show s.length - (rpos s k + d5t s (rpos s k)) < s.length - rpos s k; omega⟩
    · show (rpos s k + d5t s (rpos s k), wr .i64 ((k : Int) + 1)) = _
      rw [Zc (by omega) (by omega)]; rfl
    · by_cases ej : j = k
      · subst ej; exact e
      · exact hk j (by omega)
  · replace e := bx e
    have e : s.length ≤ rpos s k := e
    exact ⟨k, rfl, e, hk⟩
def i1F (r : Int) : Prop := r = 32 ∨ r = 9 ∨ r = 10 ∨ r = 40 ∨ r = 41 ∨ r = 91 ∨ r = 93 ∨ r = 44 ∨ r = 59
def stops : Bs := [32, 9, 10, 40, 41, 91, 93, 44, 59]
theorem i2S (b : UInt8) : b ∈ stops ↔ i1F (b.toNat : Int) := by
  unfold stops i1F
  simp only [List.mem_cons, List.not_mem_nil, or_false, ← UInt8.toNat_inj]
  simp only [UInt8.reduceToNat]
  omega
theorem i7u {n b0 b1 b2 b3 : Nat} (h : (decodeN n b0 b1 b2 b3).1 < 128) : b0 < 128 ∧ (decodeN n b0 b1 b2 b3).1 = b0 := by
  unfold decodeN at h ⊢
  repeat' split at h
  all_goals first | (rename_i h1; exact ⟨h1, by simp [h1]⟩) | (exfalso; simp only at h; omega)
theorem decodeN_ascii {n b0 b1 b2 b3 : Nat} (h : b0 < 128) : decodeN n b0 b1 b2 b3 = (b0, 1) := by unfold decodeN; rw [if_pos h]
theorem i9e {n b0 b1 b2 b3 : Nat} : (2 ≤ (decodeN n b0 b1 b2 b3).2 → 128 ≤ b1) ∧ (3 ≤ (decodeN n b0 b1 b2 b3).2 → 128 ≤ b2) ∧ (4 ≤ (decodeN n b0 b1 b2 b3).2 → 128 ≤ b3) ∧ (decodeN n b0 b1 b2 b3).2 ≤ 4 := by
  unfold decodeN
  repeat' split
  all_goals (refine ⟨fun h => ?_, fun h => ?_, fun h => ?_, ?_⟩ <;> (try simp only at h) <;> (try simp only) <;> omega)
theorem i9f {n b0 b1 b2 b3 : Nat} (hn : 1 ≤ n) : (decodeN n b0 b1 b2 b3).2 ≤ n := by
  unfold decodeN
  repeat' split
  all_goals (simp only; omega)
theorem decodeL_le {l : Bs} (h : 0 < l.length) : (decodeL l).2 ≤ l.length := by rw [decodeL_N]; exact i9f h
theorem i7v (s : Bs) (p : Nat) : rune s p = ((decodeN (s.length - p) (s.getD p 0).toNat (s.getD (p + 1) 0).toNat (s.getD (p + 2) 0).toNat (s.getD (p + 3) 0).toNat).1 : Nat) := by
  unfold rune
  rw [decode_N, p3h]
theorem p2v {s : Bs} {p : Nat} (h : p < s.length) : d5t s p = (decodeN (s.length - p) (s.getD p 0).toNat (s.getD (p + 1) 0).toNat (s.getD (p + 2) 0).toNat (s.getD (p + 3) 0).toNat).2 := by
  unfold d5t
  rw [if_pos h, decode_N, p3h]
theorem p2w {s : Bs} {p : Nat} (h : rune s p < 128) : rune s p = ((s.getD p 0).toNat : Int) := by
  rw [i7v] at h ⊢
  rw [(i7u (by omega)).2]
theorem i7w {r : Int} (h : i1F r) : r < 128 := by unfold i1F at h; omega
def p3i (s : Bs) : Prop := ∃ k, rpos s k < s.length ∧ i1F (rune s (rpos s k))
theorem i0g {s : Bs} {p : Nat} (h : p < s.length) : s.getD p 0 ∈ s := by
  rw [List.getD_eq_getElem?_getD, List.getElem?_eq_getElem h]
  exact List.getElem_mem h
theorem i9g {s : Bs} {i : Nat} (hi : i < s.length) (hb : (s.getD i 0).toNat < 128) : ∃ k, rpos s k = i := by
  have key : ∀ m, ∃ k, (rpos s k = i) ∨ (rpos s k < i ∧ m ≤ rpos s k) := by
    intro m
    induction m with
    | zero =>
      by_cases h0 : i = 0
      · exact ⟨0, .inl h0.symm⟩
      · exact ⟨0, .inr ⟨by show 0 < i; omega, Nat.zero_le _⟩⟩
    | succ m ih =>
      obtain ⟨k, h | ⟨h1, h2⟩⟩ := ih
      · exact ⟨k, .inl h⟩
      · have hlt : rpos s k < s.length := by omega
        have hw := d6u hlt
        have hwe := p2v hlt
        have hin := i9e (n := s.length - rpos s k) (b0 := (s.getD (rpos s k) 0).toNat) (b1 := (s.getD (rpos s k + 1) 0).toNat) (b2 := (s.getD (rpos s k + 2) 0).toNat) (b3 := (s.getD (rpos s k + 3) 0).toNat)
        rw [← hwe] at hin
        have hstep : rpos s (k + 1) = rpos s k + d5t s (rpos s k) := rfl
        by_cases e : rpos s (k + 1) ≤ i
        · by_cases e2 : rpos s (k + 1) = i
          · exact ⟨k + 1, .inl e2⟩
          · exact ⟨k + 1, .inr ⟨by omega, by omega⟩⟩
        · exfalso
          obtain ⟨a1, a2, a3, a4⟩ := hin
          obtain ⟨d, hd⟩ : ∃ d, i = rpos s k + d := ⟨i - rpos s k, by omega⟩
          have hd' : d = 1 ∨ d = 2 ∨ d = 3 := by omega
          rcases hd' with rfl | rfl | rfl
          · have := a1 (by omega); rw [← hd] at this; omega
          · have := a2 (by omega); rw [← hd] at this; omega
          · have := a3 (by omega); rw [← hd] at this; omega
  obtain ⟨k, h | ⟨h1, h2⟩⟩ := key i
  · exact ⟨k, h⟩
  · omega
theorem p2x (s : Bs) : p3i s ↔ ∃ b ∈ s, b ∈ stops := by
  constructor
  · rintro ⟨k, h1, h2⟩
    refine ⟨s.getD (rpos s k) 0, i0g h1, (i2S _).2 ?_⟩
    rw [← p2w (i7w h2)]
    exact h2
  · rintro ⟨b, hb, hs⟩
    obtain ⟨i, hi, e⟩ := List.getElem_of_mem hb
    have e2 : s.getD i 0 = b := by rw [List.getD_eq_getElem?_getD, List.getElem?_eq_getElem hi]; exact e
    have h3 := (i2S b).1 hs
    have p6N := i7w h3
    obtain ⟨k, hk⟩ := i9g hi (by rw [e2]; omega)
    refine ⟨k, by omega, ?_⟩
    rw [hk, i7v, e2, decodeN_ascii (by omega)]
    exact h3
theorem d9c {j0 : Int × Int × Int} {l : Bs} {r i : Int} (hi0 : 0 ≤ i) (hi : i < j0.1) (h1 : i < l.length) (h4 : i < 5) (hr : 0 ≤ r) (hr2 : r < 100000000000) (hg : 128 ≤ Xd l i ∧ Xd l i ≤ 191) : d2L (fun _ => XG j0 l) (r, i) (64 * r + Xd l i - 128, i + 1) := by
  refine d2L.one ?_
  unfold XG
  refine Evt.cond (fun _ => Evt.chk ⟨hi0, h1⟩ (Evt.cond (fun e => ?_) (fun _ => Evt.pure ?_))) (fun e => ?_)
  · replace e := bx e
    have e : Xd l i < 128 ∨ 191 < Xd l i := e
    omega
  · show Ctl.nxt (wr .i64 (wr .i64 (wr .i64 (64 * r) + wr .i64 (Xd l i)) - 128), wr .i64 (i + 1)) = _
    have hb := p0Q l i
    rw [Zc (n := 64 * r) (by omega) (by omega), Zc (n := Xd l i) (by omega) (by omega), Zc (n := 64 * r + Xd l i) (by omega) (by omega), Zc (by omega) (by omega), Zc (by omega) (by omega)]
  · replace e := bx e
    have e : j0.1 ≤ i := e
    omega
theorem i4k {j0 : Int × Int × Int} {l : Bs} {r i : Int} (hi0 : 0 ≤ i) (hi : i < j0.1) (h1 : i < l.length) (hg : Xd l i < 128 ∨ 191 < Xd l i) : d5f (fun _ => XG j0 l) (r, i) (.ret 0) := by
  refine d5f.ret ?_
  unfold XG
  refine Evt.cond (fun _ => Evt.chk ⟨hi0, h1⟩ (Evt.cond (fun e => Evt.pure rfl) (fun e => ?_))) (fun e => ?_)
  · replace e := bx e
    have e1 : 128 ≤ Xd l i := e.1
    have e2 : Xd l i ≤ 191 := e.2
    omega
  · replace e := bx e
    have e : j0.1 ≤ i := e
    omega
theorem p0S {j0 : Int × Int × Int} {l : Bs} {r i : Int} (hi : i = j0.1) : d5f (fun _ => XG j0 l) (r, i) (.nxt r) := by
  refine d5f.brk ?_
  unfold XG
  refine Evt.cond (fun e => ?_) (fun _ => Evt.pure rfl)
  replace e := bx e
  have e : i < j0.1 := e
  omega
theorem i0t {j0 : Int × Int × Int} {l : Bs} {e : Ex Int Int} {v : Int} (hl : ¬ (l.length : Int) < j0.1) (h : d5f (fun _ => XG j0 l) (j0.2.2, 1) e) (hv : (e = .ret v) ∨ ∃ r, e = .nxt r ∧ v = if r < j0.2.1 ∨ 1114111 < r ∨ (55296 ≤ r ∧ r ≤ 57343) then 0 else j0.1) : Evt (fun n => XK n l j0) (fun w => w = v) := by
  unfold XK
  refine Evt.cond (fun e2 => ?_) (fun _ => Evt.Xx h.evt (fun t ht => ?_) (fun r hr => ?_))
  · replace e2 := bx e2
    exact absurd e2 hl
  · subst ht
    rcases hv with hv | ⟨r, hv, hv2⟩
    · cases hv
    · cases hv
      unfold ZW
      refine Evt.cond (fun e2 => Evt.pure ?_) (fun e2 => Evt.pure ?_)
      · replace e2 := bx e2
        rw [hv2, if_pos (by omega)]
      · replace e2 := bx e2
        rw [hv2, if_neg]
        rintro (h | h | h)
        · omega
        · omega
        · simp [h] at e2; omega
  · rcases hv with hv | ⟨q, hv, hv2⟩
    · rw [hv] at hr; cases hr; rfl
    · rw [hv] at hr; cases hr
theorem i5b {j0 : Int × Int × Int} {l : Bs} (hl : (l.length : Int) < j0.1) : Evt (fun n => XK n l j0) (fun w => w = 0) := by
  unfold XK
  exact Evt.cond (fun _ => Evt.pure rfl) (fun e => by replace e := bx e; omega)
def lenOf (p : Nat × Nat) : Int := if p.1 = 65533 ∧ p.2 = 1 then 0 else p.2
theorem d2M {p : Nat × Nat} (h : p = (65533, 1)) : lenOf p = 0 := by subst h; rfl
theorem i1h {p : Nat × Nat} (h : p.2 ≠ 1) : lenOf p = p.2 := by unfold lenOf; rw [if_neg (fun e => h e.2)]
theorem i5c {l : Bs} (hl : 0 < l.length) : Evt (fun n => Zs n l) (fun v => v = lenOf (decodeL l)) := by
  rw [decodeL_N]
  have e0 := d3J l 0
  have e1 := d3J l 1
  have e2 := d3J l 2
  have e3 := d3J l 3
  have q0 := (l.getD 0 0).toNat_lt
  have q1 := (l.getD 1 0).toNat_lt
  have q2 := (l.getD 2 0).toNat_lt
  have q3 := (l.getD 3 0).toNat_lt
  generalize (l.getD 0 0).toNat = b0 at *
  generalize (l.getD 1 0).toNat = b1 at *
  generalize (l.getD 2 0).toNat = b2 at *
  generalize (l.getD 3 0).toNat = b3 at *
  have e0 : Xd l 0 = (b0 : Int) := e0
  have e1 : Xd l 1 = (b1 : Int) := e1
  have e2 : Xd l 2 = (b2 : Int) := e2
  have e3 : Xd l 3 = (b3 : Int) := e3
  unfold Zs
  rw [e0]
  have w0 : wr .i64 (b0 : Int) = b0 := Zc (by omega) (by omega)
  rw [w0]
  refine Evt.chk (by omega) (Evt.cond (fun e => Evt.pure ?_) (fun e => Evt.cond (fun k => ?_) (fun k => Evt.cond (fun k2 => ?_) (fun k2 => Evt.cond (fun k3 => ?_) (fun k3 => Evt.pure ?_)))))
  · replace e := bx e
    rw [decodeN_ascii (by omega)]
    unfold lenOf
    simp only
    rw [if_neg (by omega)]; rfl
  · replace e := bx e; replace k := bx k
    rw [Zc (n := (b0 : Int) - 192) (by omega) (by omega)]
    by_cases hn : (l.length : Int) < 2
    · refine (i5b hn).mono fun w hw => ?_
      rw [hw, d2M]
      unfold decodeN
      repeat' split
      all_goals first | rfl | (exfalso; omega)
    · by_cases g1 : 128 ≤ Xd l 1 ∧ Xd l 1 ≤ 191
      · have h := (d9c (j0 := (2, 128, (b0 : Int) - 192)) (l := l) (r := (b0 : Int) - 192) (i := 1) (by omega) (by show (1 : Int) < 2; omega) (by omega) (by omega) (by omega) (by omega) g1).ends (p0S rfl)
        refine i0t hn h (.inr ⟨_, rfl, ?_⟩)
        rw [e1] at g1 ⊢
        show _ = if 64 * ((b0 : Int) - 192) + (b1 : Int) - 128 < 128 ∨ 1114111 < 64 * ((b0 : Int) - 192) + (b1 : Int) - 128 ∨ (55296 ≤ 64 * ((b0 : Int) - 192) + (b1 : Int) - 128 ∧ 64 * ((b0 : Int) - 192) + (b1 : Int) - 128 ≤ 57343) then (0 : Int) else 2
        rw [if_neg (by omega)]
        obtain ⟨x, hx⟩ : ∃ x, decodeN l.length b0 b1 b2 b3 = (x, 2) := ⟨_, by unfold decodeN; rw [if_neg (by omega), if_pos (by omega), if_pos (by omega)]⟩
        rw [hx, i1h (by simp)]; rfl
      · have h := i4k (j0 := (2, 128, (b0 : Int) - 192)) (l := l) (r := (b0 : Int) - 192) (i := 1) (by omega) (by show (1 : Int) < 2; omega) (by omega) (by omega)
        refine i0t hn h (.inl ?_)
        rw [e1] at g1
        rw [d2M]
        unfold decodeN
        repeat' split
        all_goals first | rfl | (exfalso; omega)
  · replace e := bx e; replace k2 := bx k2
    have k := k2
    rw [Zc (n := (b0 : Int) - 224) (by omega) (by omega)]
    by_cases hn : (l.length : Int) < 3
    · refine (i5b hn).mono fun w hw => ?_
      rw [hw, d2M]
      unfold decodeN
      repeat' split
      all_goals first | rfl | (exfalso; omega)
    · by_cases g1 : 128 ≤ Xd l 1 ∧ Xd l 1 ≤ 191
      · have s1 := d9c (j0 := (3, 2048, (b0 : Int) - 224)) (l := l) (r := (b0 : Int) - 224) (i := 1) (by omega) (by show (1 : Int) < 3; omega) (by omega) (by omega) (by omega) (by omega) g1
        by_cases g2 : 128 ≤ Xd l 2 ∧ Xd l 2 ≤ 191
        · have h := (s1.trans (d9c (j0 := (3, 2048, (b0 : Int) - 224)) (l := l) (r := 64 * ((b0 : Int) - 224) + Xd l 1 - 128) (i := 2) (by omega) (by show (2 : Int) < 3; omega) (by omega) (by omega) (by omega) (by omega) g2)).ends (p0S rfl)
          refine i0t hn h (.inr ⟨_, rfl, ?_⟩)
          rw [e1] at g1; rw [e2] at g2; rw [e1, e2]
          generalize hr : 64 * (64 * ((b0 : Int) - 224) + (b1 : Int) - 128) + (b2 : Int) - 128 = r
          show _ = if r < 2048 ∨ 1114111 < r ∨ (55296 ≤ r ∧ r ≤ 57343) then (0 : Int) else 3
          by_cases hc : r < 2048 ∨ 1114111 < r ∨ (55296 ≤ r ∧ r ≤ 57343)
          · rw [if_pos hc, d2M]
            unfold decodeN
            repeat' split
            all_goals first | rfl | (exfalso; omega)
          · rw [if_neg hc]
            obtain ⟨x, hx⟩ : ∃ x, decodeN l.length b0 b1 b2 b3 = (x, 3) := ⟨_, by unfold decodeN; rw [if_neg (by omega), if_neg (by omega), if_pos (by omega), if_pos (by omega)]⟩
            rw [hx, i1h (by simp)]; rfl
        · have h := s1.ends (i4k (i := 2) (by omega) (by show (2 : Int) < 3; omega) (by omega) (by omega))
          refine i0t hn h (.inl ?_)
          rw [e1] at g1; rw [e2] at g2
          rw [d2M]
          unfold decodeN
          repeat' split
          all_goals first | rfl | (exfalso; omega)
      · have h := i4k (j0 := (3, 2048, (b0 : Int) - 224)) (l := l) (r := (b0 : Int) - 224) (i := 1) (by omega) (by show (1 : Int) < 3; omega) (by omega) (by omega)
        refine i0t hn h (.inl ?_)
        rw [e1] at g1
        rw [d2M]
        unfold decodeN
        repeat' split
        all_goals first | rfl | (exfalso; omega)
  · replace e := bx e; replace k3 := bx k3
    rw [Zc (n := (b0 : Int) - 240) (by omega) (by omega)]
    by_cases hn : (l.length : Int) < 4
    · refine (i5b hn).mono fun w hw => ?_
      rw [hw, d2M]
      unfold decodeN
      repeat' split
      all_goals first | rfl | (exfalso; omega)
    · by_cases g1 : 128 ≤ Xd l 1 ∧ Xd l 1 ≤ 191
      · have s1 := d9c (j0 := (4, 65536, (b0 : Int) - 240)) (l := l) (r := (b0 : Int) - 240) (i := 1) (by omega) (by show (1 : Int) < 4; omega) (by omega) (by omega) (by omega) (by omega) g1
        by_cases g2 : 128 ≤ Xd l 2 ∧ Xd l 2 ≤ 191
        · have s2 := s1.trans (d9c (j0 := (4, 65536, (b0 : Int) - 240)) (l := l) (r := 64 * ((b0 : Int) - 240) + Xd l 1 - 128) (i := 2) (by omega) (by show (2 : Int) < 4; omega) (by omega) (by omega) (by omega) (by omega) g2)
          by_cases g3 : 128 ≤ Xd l 3 ∧ Xd l 3 ≤ 191
          · have h := (s2.trans (d9c (j0 := (4, 65536, (b0 : Int) - 240)) (l := l) (r := 64 * (64 * ((b0 : Int) - 240) + Xd l 1 - 128) + Xd l 2 - 128) (i := 3) (by omega) (by show (3 : Int) < 4; omega) (by omega) (by omega) (by omega) (by omega) g3)).ends (p0S rfl)
            refine i0t hn h (.inr ⟨_, rfl, ?_⟩)
            rw [e1] at g1; rw [e2] at g2; rw [e3] at g3; rw [e1, e2, e3]
            generalize hr : 64 * (64 * (64 * ((b0 : Int) - 240) + (b1 : Int) - 128) + (b2 : Int) - 128) + (b3 : Int) - 128 = r
            show _ = if r < 65536 ∨ 1114111 < r ∨ (55296 ≤ r ∧ r ≤ 57343) then (0 : Int) else 4
            by_cases hc : r < 65536 ∨ 1114111 < r ∨ (55296 ≤ r ∧ r ≤ 57343)
            · rw [if_pos hc, d2M]
              unfold decodeN
              repeat' split
              all_goals first | rfl | (exfalso; omega)
            · rw [if_neg hc]
              obtain ⟨x, hx⟩ : ∃ x, decodeN l.length b0 b1 b2 b3 = (x, 4) := ⟨_, by unfold decodeN; rw [if_neg (by omega), if_neg (by omega), if_neg (by omega), if_pos (by omega), if_pos (by omega)]⟩
              rw [hx, i1h (by simp)]; rfl
          · have h := s2.ends (i4k (i := 3) (by omega) (by show (3 : Int) < 4; omega) (by omega) (by omega))
            refine i0t hn h (.inl ?_)
            rw [e1] at g1; rw [e2] at g2; rw [e3] at g3
            rw [d2M]
            unfold decodeN
            repeat' split
            all_goals first | rfl | (exfalso; omega)
        · have h := s1.ends (i4k (i := 2) (by omega) (by show (2 : Int) < 4; omega) (by omega) (by omega))
          refine i0t hn h (.inl ?_)
          rw [e1] at g1; rw [e2] at g2
          rw [d2M]
          unfold decodeN
          repeat' split
          all_goals first | rfl | (exfalso; omega)
      · have h := i4k (j0 := (4, 65536, (b0 : Int) - 240)) (l := l) (r := (b0 : Int) - 240) (i := 1) (by omega) (by show (1 : Int) < 4; omega) (by omega) (by omega)
        refine i0t hn h (.inl ?_)
        rw [e1] at g1
        rw [d2M]
        unfold decodeN
        repeat' split
        all_goals first | rfl | (exfalso; omega)
  · replace e := bx e; replace k := bx k; replace k2 := bx k2; replace k3 := bx k3
    rw [d2M]
    unfold decodeN
    repeat' split
    all_goals first | rfl | (exfalso; omega)
theorem p4t : ∀ b : Fin 256, ∀ i : Fin 8, decide ((b.val * 2 ^ (8 * i.val)) &&& 9259542123273814144 = 0) = decide (b.val < 128) := by decide +kernel
theorem d5x (b : UInt8) (i : Nat) (hi : i < 8) : (b.toNat * 2 ^ (8 * i)) &&& 9259542123273814144 = 0 ↔ b.toNat < 128 := by
  have := p4t ⟨b.toNat, b.toNat_lt⟩ ⟨i, hi⟩
  simpa using this
def IsW (v : Int) (w : Nat) : Prop := v = w ∧ w < 18446744073709551616
theorem IsW.or {v u : Int} {w x : Nat} (h : IsW v w) (k : IsW u x) : IsW (d0q .or .u64 v u) (w ||| x) := by
  obtain ⟨rfl, h⟩ := h
  obtain ⟨rfl, k⟩ := k
  exact ⟨i5W h k, Nat.or_lt_two_pow (n := 64) h k⟩
theorem d7U (b : UInt8) (i : Nat) (hi : i < 8) : IsW (wr .u64 (wr .u64 (b.toNat : Int) * 2 ^ (min (8 * i) 64))) (b.toNat * 2 ^ (8 * i)) := by
  have hb := b.toNat_lt
  have h1 : b.toNat * 2 ^ (8 * i) ≤ 255 * 2 ^ 56 := Nat.mul_le_mul (by omega) (Nat.pow_le_pow_right (by decide) (by omega))
  have h2 : b.toNat * 2 ^ (8 * i) < 18446744073709551616 := by omega
  refine ⟨?_, h2⟩
  have e1 : wr .u64 (b.toNat : Int) = (b.toNat : Int) := d3r (by omega)
  have e2 : min (8 * i) 64 = 8 * i := by omega
  rw [e1, e2]
  have e3 : ((b.toNat : Int) * 2 ^ (8 * i)) = ((b.toNat * 2 ^ (8 * i) : Nat) : Int) := by simp
  rw [e3]
  exact d3r h2
theorem p2y (b : UInt8) : IsW (wr .u64 (b.toNat : Int)) (b.toNat * 2 ^ (8 * 0)) := by
  have hb := b.toNat_lt
  have e1 : wr .u64 (b.toNat : Int) = (b.toNat : Int) := d3r (by omega)
  exact ⟨by rw [e1]; simp, by simp; omega⟩
theorem i5d {v : Int} {w : Nat} (h : IsW v w) : d0q .and .u64 v 9259542123273814144 = 0 ↔ w &&& 9259542123273814144 = 0 := by
  obtain ⟨rfl, h⟩ := h
  have := d8Y (x := w) (y := 9259542123273814144) h (by decide)
  have e : ((9259542123273814144 : Nat) : Int) = 9259542123273814144 := rfl
  rw [e] at this
  rw [this]
  omega
theorem d2D {s : Bs} (h : 8 ≤ s.length) : Evt (fun _ => XS s) (fun v => ∃ w, IsW v w ∧ (w &&& 9259542123273814144 = 0 ↔ ∀ b ∈ s.take 8, b.toNat < 128)) := by
  match s, h with
  | b0 :: b1 :: b2 :: b3 :: b4 :: b5 :: b6 :: b7 :: t, h =>
    unfold XS
    refine Evt.cond (fun e => by cases e) (fun _ => Evt.chk (by omega) (Evt.chk (by omega) (Evt.chk (by omega) (Evt.chk (by omega) (Evt.chk (by omega) (Evt.chk (by omega) (Evt.chk (by omega) (Evt.chk (by omega) (Evt.pure ⟨_, (((((((p2y b0).or (d7U b1 1 (by omega))).or (d7U b2 2 (by omega))).or (d7U b3 3 (by omega))).or (d7U b4 4 (by omega))).or (d7U b5 5 (by omega))).or (d7U b6 6 (by omega))).or (d7U b7 7 (by omega)), ?_⟩)))))))))
    simp only [or_mask, d5x _ _ (show 0 < 8 by omega), d5x _ _ (show 1 < 8 by omega), d5x _ _ (show 2 < 8 by omega), d5x _ _ (show 3 < 8 by omega), d5x _ _ (show 4 < 8 by omega), d5x _ _ (show 5 < 8 by omega), d5x _ _ (show 6 < 8 by omega), d5x _ _ (show 7 < 8 by omega)]
    simp only [List.take_succ_cons, List.take_zero, List.mem_cons, List.not_mem_nil, or_false, forall_eq_or_imp, forall_eq]
    simp only [and_assoc]
theorem d4m {s : Bs} (h : ∀ b ∈ s.take 8, b.toNat < 128) : validD s = validD (s.drop 8) := validD_ascii 8 s h
theorem i1i (L : Nat) (V : Bool) (s : Bs) (hs : s.length ≤ L) (hv : validD s = V) : Evt (fun _ => Zt s) (i8k (fun s' => (s'.length ≤ L ∧ validD s' = V) ∧ s'.length < s.length) (fun t => t.length ≤ L ∧ validD t = V) (fun _ => False)) := by
  unfold Zt
  by_cases h : (32 : Int) < (s.length : Int)
  · simp only [h, decide_true, d9v, cond_true]
    refine Evt.bind (d2D (by omega)) fun a ha => Evt.chk (Ys fun _ => by omega) (Evt.bind (d2D (by rw [List.length_drop]; omega)) fun b hb => Evt.chk (Ys fun _ => by omega)
      (Evt.bind (d2D (by rw [List.length_drop]; omega)) fun c hc => Evt.chk ⟨Ys fun _ => by omega, Ys fun _ => by omega⟩ (Evt.bind (d2D (by rw [List.length_drop]; omega)) fun d hd => Evt.cond (fun e => Evt.chk ⟨by omega, by omega⟩ (Evt.pure ?_)) (fun _ => Evt.pure ⟨hs, hv⟩))))
    replace e := bx e
    obtain ⟨wa, ia, ma⟩ := ha
    obtain ⟨wb, ib, mb⟩ := hb
    obtain ⟨wc, ic, mc⟩ := hc
    obtain ⟨wd, id, md⟩ := hd
    have e2 := (i5d ((ia.or ib).or (ic.or id))).1 e
    simp only [or_mask, ma, mb, mc, md] at e2
    obtain ⟨⟨k1, k2⟩, k3, k4⟩ := e2
    refine ⟨⟨by rw [List.length_drop]; omega, ?_⟩, by rw [List.length_drop]; omega⟩
    have r1 := d4m k1
    have r2 := d4m k2
    have r3 := d4m k3
    have r4 := d4m k4
    rw [List.drop_drop] at r2 r3 r4
    rw [← hv, r1, r2, r3, r4]
  · simp only [h, decide_false, i3C, cond_false, Option.bind_some]
    exact Evt.chk (Ys fun h => Bool.noConfusion h) (Evt.chk (Ys fun h => Bool.noConfusion h) (Evt.chk ⟨Ys fun h => Bool.noConfusion h, Ys fun h => Bool.noConfusion h⟩ (Evt.pure ⟨hs, hv⟩)))
theorem p4u : ∀ b : Fin 256, Am.get d7y b.val = (firstT b.val : Int) ∧ wr .i64 (d0q .and .u8 (Am.get d7y b.val) 7) = ((firstT b.val % 8 : Nat) : Int) ∧ Int.fdiv (Am.get d7y b.val) (2 ^ (min 4 8)) = ((firstT b.val / 16 : Nat) : Int) ∧ firstT b.val / 16 < 16 := by decide +kernel
theorem p4v : ∀ k : Fin 16, (Am.get d9H k.val).lo = (accLo k.val : Int) ∧ (Am.get d9H k.val).hi = (accHi k.val : Int) := by decide +kernel
theorem take_one : ∀ {s : Bs}, (s.getD 0 0).toNat < 128 → ∀ b ∈ s.take 1, b.toNat < 128
  | [], _, c, hc => by simp at hc
  | b :: t, h, c, hc => by
    simp only [List.take_succ_cons, List.take_zero, List.mem_singleton] at hc
    subst hc
    exact h
theorem i1j (V : Bool) (s : Bs) (hv : validD s = V) : Evt (fun n => Zu n s) (i8k (fun s' => validD s' = V ∧ s'.length < s.length) (fun _ => V = true) (fun r => r = V)) := by
  unfold Zu
  refine Evt.cond (fun e => ?_) (fun e => Evt.pure ?_)
  rotate_left
  · replace e := bx e
    have : s = [] := List.eq_nil_of_length_eq_zero (by omega)
    subst this
    exact hv.symm
  replace e := bx e
  have hne : s ≠ [] := fun h => by rw [h] at e; simp at e
  have hb := d3J s 0
  have q0 := (s.getD 0 0).toNat_lt
  have hb : Xd s 0 = ((s.getD 0 0).toNat : Int) := hb
  refine Evt.chk e (Evt.cond (fun e2 => ?_) (fun e2 => ?_))
  · replace e2 := bx e2
    have h1 : validD s = validD (s.drop 1) := validD_ascii 1 s (take_one (by omega))
    have hl1 : (s.drop 1).length = s.length - 1 := List.length_drop
    refine Evt.chk ⟨by omega, by omega⟩ ?_
    by_cases h8 : (8 : Int) < ((s.drop 1).length : Int)
    · simp only [h8, decide_true, d9v, cond_true]
      refine Evt.bind (d2D (by omega)) fun a ha => Evt.cond (fun e3 => ?_) (fun _ => Evt.pure ⟨by rw [← h1]; exact hv, by omega⟩)
      replace e3 := bx e3
      obtain ⟨wa, ia, ma⟩ := ha
      have k1 := ma.1 ((i5d ia).1 e3)
      have h2 := d4m k1
      have hl2 : ((s.drop 1).drop 8).length = s.length - 9 := by rw [List.length_drop, hl1]; omega
      have hv2 : validD ((s.drop 1).drop 8) = V := by rw [← h2, ← h1]; exact hv
      generalize (s.drop 1).drop 8 = u at *
      refine Evt.chk ⟨by omega, by omega⟩ ?_
      by_cases h16 : (16 : Int) < (u.length : Int)
      · simp only [h16, decide_true, d9v, cond_true]
        refine Evt.bind (d2D (by omega)) fun b hb => Evt.chk (Ys fun _ => by omega) (Evt.bind (d2D (by rw [List.length_drop]; omega)) fun c hc => Evt.cond (fun e4 => ?_) (fun _ => Evt.pure ⟨hv2, by omega⟩))
        replace e4 := bx e4
        obtain ⟨wb, ib, mb⟩ := hb
        obtain ⟨wc, ic, mc⟩ := hc
        have e5 := (i5d (ib.or ic)).1 e4
        simp only [or_mask, mb, mc] at e5
        have r1 := d4m e5.1
        have r2 := d4m e5.2
        rw [List.drop_drop] at r2
        refine Evt.chk ⟨by omega, by omega⟩ (Evt.Xx (P := ExP (fun t : Bs => t.length ≤ u.length ∧ validD t = V) (fun _ => False)) (Evt.loop (fun u : Bs => u.length) (fun t => t.length ≤ u.length ∧ validD t = V) _ _ ⟨by rw [List.length_drop]; omega, by rw [← hv2, r1, r2]⟩ (fun t ht => i1i _ V t ht.1 ht.2)) (fun t ht => ?_) (fun r hr => hr.elim))
        unfold d0G YJ
        exact Evt.pure ⟨ht.2, by have := ht.1; omega⟩
      · simp only [h16, decide_false, i3C, cond_false, Option.bind_some]
        exact Evt.chk (Ys fun h => Bool.noConfusion h) (Evt.pure ⟨hv2, by omega⟩)
    · simp only [h8, decide_false, i3C, cond_false, Option.bind_some]
      exact Evt.pure ⟨by rw [← h1]; exact hv, by omega⟩
  · replace e2 := bx e2
    have d7V := validD_lead s hne (by omega)
    obtain ⟨_, t2, t3, t4⟩ := p4u ⟨(s.getD 0 0).toNat, q0⟩
    obtain ⟨a1, a2⟩ := p4v ⟨firstT (s.getD 0 0).toNat / 16, t4⟩
    have hbn : (Xd s 0).toNat = (s.getD 0 0).toNat := by omega
    simp only at t2 t3 t4 a1 a2
    rw [hbn]
    simp only [t2, t3, Int.toNat_natCast, a1, a2]
    refine Evt.chk ⟨by omega, by omega⟩ (Evt.chk ⟨by omega, by omega⟩ ?_)
    generalize firstT (s.getD 0 0).toNat % 8 = Z at *
    generalize accLo (firstT (s.getD 0 0).toNat / 16) = lo at *
    generalize accHi (firstT (s.getD 0 0).toNat / 16) = hi at *
    have e1 : Xd s 1 = ((s.getD 1 0).toNat : Int) := d3J s 1
    have e2 : Xd s 2 = ((s.getD 2 0).toNat : Int) := d3J s 2
    have e3 : Xd s 3 = ((s.getD 3 0).toNat : Int) := d3J s 3
    rw [e1, e2, e3]
    generalize (s.getD 1 0).toNat = b1 at *
    generalize (s.getD 2 0).toNat = b2 at *
    generalize (s.getD 3 0).toNat = b3 at *
    rw [hv] at d7V
    unfold checkN at d7V
    refine Evt.cond (fun k => ?_) (fun k => Evt.cond (fun k2 => ?_) (fun k2 => Evt.cond (fun k3 => ?_) (fun k3 => Evt.pure ?_)))
    · replace k := bx k
      have hZ : Z = 2 := by omega
      rw [if_pos hZ] at d7V
      refine Evt.chk (Ys fun c => by replace c := bx c; omega) (Evt.chk (Ys fun c => by replace c := bx c; omega) (Evt.cond (fun c => Evt.pure ?_) (fun c => ?_)))
      · replace c := bx c
        rw [if_pos (by omega)] at d7V
        exact d7V.symm
      · replace c := bx c
        rw [if_neg (by omega)] at d7V
        exact Evt.chk ⟨by omega, by omega⟩ (Evt.pure ⟨d7V.symm, by rw [List.length_drop]; omega⟩)
    · replace k2 := bx k2
      have hZ : Z = 3 := by omega
      rw [if_neg (by omega), if_pos hZ] at d7V
      refine Evt.chk (Ys fun c => by replace c := bx c; omega) (Evt.chk (Ys fun c => by replace c := bx c; omega) (Evt.chk (Ys fun c => by replace c := bx c; omega) (Evt.chk (Ys fun c => by replace c := bx c; omega) (Evt.cond (fun c => Evt.pure ?_) (fun c => ?_)))))
      · replace c := bx c
        rw [if_pos (by omega)] at d7V
        exact d7V.symm
      · replace c := bx c
        rw [if_neg (by omega)] at d7V
        exact Evt.chk ⟨by omega, by omega⟩ (Evt.pure ⟨d7V.symm, by rw [List.length_drop]; omega⟩)
    · replace k3 := bx k3
      have hZ : Z = 4 := by omega
      rw [if_neg (by omega), if_neg (by omega), if_pos hZ] at d7V
      refine Evt.chk (Ys fun c => by replace c := bx c; omega) (Evt.chk (Ys fun c => by replace c := bx c; omega) (Evt.chk (Ys fun c => by replace c := bx c; omega) (Evt.chk (Ys fun c => by replace c := bx c; omega) (Evt.chk (Ys fun c => by replace c := bx c; omega) (Evt.chk (Ys fun c => by replace c := bx c; omega) (Evt.cond (fun c => Evt.pure ?_) (fun c => ?_)))))))
      · replace c := bx c
        rw [if_pos (by omega)] at d7V
        exact d7V.symm
      · replace c := bx c
        rw [if_neg (by omega)] at d7V
        exact Evt.chk ⟨by omega, by omega⟩ (Evt.pure ⟨d7V.symm, by rw [List.length_drop]; omega⟩)
    · replace k := bx k; replace k2 := bx k2; replace k3 := bx k3
      rw [if_neg (by omega), if_neg (by omega), if_neg (by omega)] at d7V
      exact d7V.symm
theorem i3E (s : Bs) : Evt (fun n => d0w n s) (fun r => r = validD s) := by
  unfold d0w
  exact Evt.Xx (P := ExP (fun _ => validD s = true) (fun r => r = validD s)) (Evt.loop (fun u : Bs => u.length) (fun u => validD u = validD s) _ _ rfl (fun u hu => i1j _ u hu)) (fun t ht => Evt.pure (Eq.symm ht)) (fun _ h => h)
theorem i1z (c : Bs) : ∀ l : Bs, 0 ≤ Lib.indexAny l c ↔ ∃ b ∈ l, b ∈ c
  | [] => by simp [Lib.indexAny]
  | b :: l => by
    have ih := i1z c l
    have hge := Lib.indexAny_ge c l
    unfold Lib.indexAny
    by_cases hb : c.contains b = true
    · rw [if_pos hb]
      have : b ∈ c := by simpa using hb
      exact ⟨fun _ => ⟨b, by simp, this⟩, fun _ => by decide⟩
    · rw [if_neg hb]
      have hn : b ∉ c := by simpa using hb
      by_cases h1 : Lib.indexAny l c = -1
      · rw [if_pos (by simp [h1])]
        constructor
        · intro h; omega
        · rintro ⟨x, hx, hc⟩
          rcases List.mem_cons.1 hx with rfl | hx
          · exact absurd hc hn
          · have := ih.2 ⟨x, hx, hc⟩; omega
      · rw [if_neg (by simp [h1])]
        constructor
        · intro _
          obtain ⟨x, hx, hc⟩ := ih.1 (by omega)
          exact ⟨x, by simp [hx], hc⟩
        · intro _; omega
theorem i0u (c : UInt8) : ∀ l : Bs, 0 ≤ Lib.indexByte l c ↔ c ∈ l
  | [] => by simp [Lib.indexByte]
  | b :: l => by
    have ih := i0u c l
    unfold Lib.indexByte
    by_cases hb : b = c
    · subst hb; simp
    · rw [if_neg (by simp [hb])]
      have hn : ¬ c = b := fun h => hb h.symm
      by_cases h1 : Lib.indexByte l c = -1
      · rw [if_pos (by simp [h1])]
        simp only [List.mem_cons, hn, false_or, ← ih]
        omega
      · rw [if_neg (by simp [h1])]
        simp only [List.mem_cons, hn, false_or, ← ih]
        have : -1 ≤ Lib.indexByte l c := by
          clear ih h1
          induction l with
          | nil => simp [Lib.indexByte]
          | cons x l ihl => unfold Lib.indexByte; split; · decide
                            · split; · decide
                              · omega
        omega
theorem d6v (s : Bs) (c : Int) : Evt (fun _ => d2N s c) (fun v => v = Lib.indexByte s c.toNat.toUInt8) := Evt.pure rfl
theorem i6i {r : Int} (h : 128 ≤ r) : ∃ (l : Bs) (b : UInt8), YC r = l ++ [b] ∧ 1 ≤ l.length ∧ l.length ≤ 3 ∧ 128 ≤ b.toNat := by
  have key : ∀ c : Nat, 128 ≤ c → 128 ≤ (UInt8.ofNat (0x80 + c % 64)).toNat := fun c _ => by
    rw [UInt8.toNat_ofNat']
    omega
  unfold YC Utf8.encode
  have hc : 128 ≤ (if Utf8.valid r then r.toNat else Utf8.runeError) := by
    split
    · omega
    · decide
  generalize (if Utf8.valid r then r.toNat else Utf8.runeError) = c at hc
  simp only
  split
  · omega
  · split
    · exact ⟨[_], _, rfl, by simp, by simp, key c hc⟩
    · split
      · exact ⟨[_, _], _, rfl, by simp, by simp, key c hc⟩
      · exact ⟨[_, _, _], _, rfl, by simp, by simp, key c hc⟩
theorem i2T : stops.all (fun b => decide (b.toNat < 128)) = true := by decide
theorem i9h {l : Bs} {b : UInt8} : Xd (l ++ [b]) l.length = b.toNat := by
  unfold Xd
  rw [Int.toNat_natCast, List.getD_eq_getElem?_getD, List.getElem?_append_right (Nat.le_refl _)]
  simp
theorem i5e (k : Nat) : (stops.getD k 0).toNat < 128 := by
  rw [List.getD_eq_getElem?_getD]
  by_cases h : k < stops.length
  · rw [List.getElem?_eq_getElem h]
    exact of_decide_eq_true (List.all_eq_true.1 i2T _ (List.getElem_mem h))
  · rw [List.getElem?_eq_none (by omega)]
    simp
theorem i6j (k : Nat) : Xd stops k < 128 := by
  rw [d3J]
  have := i5e k
  omega
theorem i0v : ∀ (l : List UInt8) (c : UInt8), (∀ b ∈ l, b ≠ c) → Lib.indexByte l c = -1
  | [], _, _ => rfl
  | b :: l, c, h => by
    have hb : (b == c) = false := beq_false_of_ne (h b (List.mem_cons_self ..))
    have ih := i0v l c (fun x hx => h x (List.mem_cons_of_mem _ hx))
    simp [Lib.indexByte, hb, ih]
theorem i2U (r : Int) (h : 128 ≤ r) : Evt (fun n => d1z n r stops ()) (i8k (fun _ => False) (fun _ => True) (fun v => v = -1)) := by
  obtain ⟨l, b, e, h1, h3, hb⟩ := i6i h
  have hl : (YC r).length = l.length + 1 := by rw [e]; simp
  have hs : stops.length = 9 := rfl
  have hw : wr .i64 (((YC r).length : Int) - 1) = (l.length : Int) := by
    rw [hl, Zc (by omega) (by omega)]; omega
  have hw2 : wr .i64 ((l.length : Int) + 1) = ((l.length + 1 : Nat) : Int) := by
    rw [Zc (by omega) (by omega)]; omega
  have p8N : Xd (YC r) (l.length : Int) = b.toNat := by rw [e]; exact i9h
  have hst := i6j l.length
  unfold d1z
  rw [hw, hw2, p8N, Int.toNat_natCast]
  refine Evt.cond (fun _ => ?_) (fun _ => Evt.pure trivial)
  refine Evt.chk (by omega) (Evt.chk (by omega) (Evt.cond (fun _ => ?_) (fun e2 => ?_)))
  · refine Evt.chk (by omega) (Evt.bind (d6v _ _) fun v hv => Evt.cond (fun _ => Evt.pure rfl) (fun e3 => ?_))
    exfalso
    have hn : Lib.indexByte (stops.drop (l.length + 1)) ((b.toNat : Int).toNat.toUInt8) = -1 := i0v _ _ (fun x hx e4 => by
      have hm : x ∈ stops := List.mem_of_mem_drop hx
      have := of_decide_eq_true (List.all_eq_true.1 i2T _ hm)
      have e5 : x = b := by rw [e4]; simp
      rw [e5] at this
      omega)
    rw [hn] at hv
    replace e3 := bx e3
    omega
  · exfalso
    replace e2 := bx e2
    omega
theorem i6k (r : Int) (hr : 0 ≤ r) : Evt (fun n => d1R n stops r) (fun v => 0 ≤ v ↔ i1F r) := by
  have no : 128 ≤ r → ((0 : Int) ≤ -1 ↔ i1F r) := fun h => ⟨fun h => by omega, fun h2 => by have := i7w h2; omega⟩
  unfold d1R
  refine Evt.cond (fun e => Evt.bind (d6v _ _) fun v hv => Evt.pure ?_) (fun e => ?_)
  · replace e := bx e
    obtain ⟨c, rfl⟩ : ∃ c : Nat, r = c := ⟨r.toNat, by omega⟩
    have e1 : wr .u8 (c : Int) = (c : Int) := by
      have h1 : IntKind.u8.min = 0 := by decide
      have h2 : IntKind.u8.max = 255 := by decide
      exact i4z ⟨by omega, by omega⟩
    rw [hv, e1, Int.toNat_natCast, i0u, i2S]
    have : (c.toUInt8).toNat = c := by
      rw [Nat.toUInt8, UInt8.toNat_ofNat']
      omega
    rw [this]
  have h128 : 128 ≤ r := by
    by_cases h : 128 ≤ r
    · exact h
    · exfalso
      have e1 : decide (0 ≤ r) = true := decide_eq_true hr
      have e2 : decide (r < 128) = true := decide_eq_true (by omega)
      rw [e1, e2] at e
      cases e
  refine Evt.cond (fun _ => ?_) (fun _ => ?_)
  · refine Evt.Xx (P := ExP (fun _ => True) (fun _ => False)) (Evt.loop (fun u : Nat => stops.length - u) (fun _ => True) _ _ trivial (fun u _ => ?_)) (fun t _ => Evt.pure (no h128)) (fun _ h => h.elim)
    unfold d2E
    refine Evt.cond (fun e => ?_) (fun _ => Evt.pure trivial)
    replace e := bx e
    have := d6u e
    refine Evt.chk e (Evt.cond (fun e2 => ?_) (fun _ => Evt.pure ⟨trivial, by omega⟩))
    replace e2 := bx e2
    exfalso
    rw [i7v, decodeN_ascii (i5e u)] at e2
    have := i5e u
    simp only at e2
    omega
  · refine Evt.bind (P := fun _ => True) ?_ fun v _ => Evt.cond (fun _ => Evt.pure (no h128)) (fun _ => ?_)
    · unfold d2n
      exact Evt.cond (fun _ => Evt.pure trivial) (fun _ => Evt.cond (fun _ => Evt.pure trivial) (fun _ => Evt.pure trivial))
    · exact Evt.Xx (P := ExP (fun _ => True) (fun v => v = -1)) (Evt.loop (fun _ : Unit => 0) (fun _ => True) _ _ trivial (fun u _ => (i2U r h128).mono fun c hc => by
        cases c with
        | nxt s => exact hc.elim
        | brk t => trivial
        | ret x => exact hc)) (fun t _ => Evt.pure (no h128)) (fun r h => (show r = -1 from h).symm ▸ no h128)
theorem i3F (s : Bs) (hs : s.length < 4294967281) : Evt (fun n => d0Z n s [32, 9, 10, 40, 41, 91, 93, 44, 59]) (fun r => r = true ↔ p3i s) := by
  show Evt (fun n => d0Z n s stops) _
  unfold d0Z
  refine Evt.bind (P := fun v => 0 ≤ v ↔ p3i s) ?_ fun v hv => Evt.pure (by rw [decide_eq_true_eq]; exact hv)
  unfold d4L
  refine Evt.cond (fun _ => Evt.chk ⟨by decide, hs, by decide, i2T⟩ (Evt.pure (by rw [i1z, p2x]))) (fun e => ?_)
  replace e := bx e
  unfold d4f
  refine Evt.cond (fun e2 => by cases e2) (fun _ => Evt.cond (fun e2 => ?_) (fun _ => ?_))
  · replace e2 := bx e2
    exact absurd e2 (by decide)
  refine Evt.bind (P := fun b => b = false) (Evt.pure ?_) fun b hb => Evt.cond (fun e2 => ?_) (fun _ => ?_)
  · exact decide_eq_false (by omega)
  · rw [hb] at e2; cases e2
  unfold d2F
  refine Evt.Xx (P := ExP (fun _ => ¬ p3i s) (fun v => 0 ≤ v ∧ p3i s)) (Evt.loop (fun u : Nat => s.length - u) (fun u => ∃ k, u = rpos s k ∧ ∀ j, j < k → ¬ i1F (rune s (rpos s j))) _ _ ⟨0, rfl, fun j hj => by omega⟩ (fun u hu => ?_)) (fun t ht => Evt.pure ⟨fun h => by omega, fun h => absurd h ht⟩) (fun r h => ⟨fun _ => h.2, fun _ => h.1⟩)
  obtain ⟨k, rfl, hk⟩ := hu
  unfold d2G
  refine Evt.cond (fun e2 => ?_) (fun e2 => Evt.pure ?_)
  · replace e2 := bx e2
    have := d6u e2
    refine Evt.chk e2 (Evt.bind (i6k _ (by unfold rune; omega)) fun v hv => Evt.cond (fun e3 => Evt.pure ?_) (fun e3 => Evt.pure ⟨⟨k + 1, rfl, fun j hj => ?_⟩, by omega⟩))
    · replace e3 := bx e3
      exact ⟨by omega, k, e2, hv.1 e3⟩
    · replace e3 := bx e3
      by_cases ej : j = k
      · subst ej; intro h; have := hv.2 h; omega
      · exact hk j (by omega)
  · replace e2 := bx e2
    rintro ⟨j, h1, h2⟩
    by_cases hj : j < k
    · exact hk j hj h2
    · have := i2R s (show k ≤ j by omega); omega
def i8s (s : Bs) : Prop := (∃ c, RC s c ∧ 1 ≤ c ∧ c ≤ 30) ∧ validD s = true ∧ ¬ p3i s
theorem RC.ex (s : Bs) : ∃ c, RC s c := by
  obtain ⟨c, _, h⟩ : ∃ c, c ≤ s.length ∧ s.length ≤ rpos s c := ⟨s.length, Nat.le_refl _, by
    have : ∀ k, k ≤ rpos s k ∨ s.length ≤ rpos s k := fun k => by
      induction k with
      | zero => left; exact Nat.le_refl _
      | succ k ih =>
        have hs : rpos s (k + 1) = rpos s k + d5t s (rpos s k) := rfl
        rcases ih with h | h
        · by_cases hl : rpos s k < s.length
          · have := d6u hl; left; omega
          · right; omega
        · right; omega
    rcases this s.length with h | h <;> omega⟩
  induction c with
  | zero => exact ⟨0, h, fun j hj => by omega⟩
  | succ c ih =>
    by_cases hc : s.length ≤ rpos s c
    · exact ih (by omega) hc
    · exact ⟨c + 1, h, fun j hj => by have := i2R s (show j ≤ c by omega); omega⟩
theorem i3G (s : Bs) (hs : s.length < 4294967281) : Evt (fun n => d6w n s) (fun r => r = true ↔ i8s s) := by
  unfold d6w
  refine Evt.bind (i6h s (by omega)) fun v hv => ?_
  obtain ⟨c, rfl, hc⟩ := hv
  by_cases hr : 1 ≤ c ∧ c ≤ 30
  · have e1 : (decide ((1 : Int) ≤ (c : Int))) = true := decide_eq_true (by omega)
    have e2 : (decide ((c : Int) ≤ 30)) = true := decide_eq_true (by omega)
    simp only [e1, e2, cond_true, d9v]
    refine Evt.bind (i3E s) fun b hb => ?_
    subst hb
    cases hv : validD s with
    | true =>
      simp only [d9v, cond_true]
      refine Evt.bind (i3F s hs) fun b hb => Evt.pure ?_
      unfold i8s
      cases b with
      | true => simp only [Bool.not_true]; exact ⟨fun h => (by cases h), fun h => absurd (hb.1 rfl) h.2.2⟩
      | false => simp only [Bool.not_false]; exact ⟨fun _ => ⟨⟨c, hc, hr⟩, hv, fun h => by have := hb.2 h; cases this⟩, fun _ => (by trivial)⟩
    | false =>
      simp only [i3C, cond_false, Option.bind_some]
      exact Evt.pure ⟨fun h => (by cases h), fun h => by have := h.2.1; rw [hv] at this; cases this⟩
  · have e3 : (bif (decide ((1 : Int) ≤ (c : Int))) then (decide ((c : Int) ≤ 30)) else false) = false := by
      cases h1 : decide ((1 : Int) ≤ (c : Int)) with
      | true =>
        have := of_decide_eq_true h1
        simp only [cond_true, decide_eq_false_iff_not]; omega
      | false => rfl
    simp only [e3, i3C, cond_false, Option.bind_some]
    refine Evt.pure ⟨fun h => (by cases h), fun h => ?_⟩
    obtain ⟨⟨d, hd, h1⟩, _⟩ := h
    have := hc.uniq hd
    omega
theorem d8H {s : Bs} {p : Nat} : (bif (bif (bif (bif (bif (bif (bif (bif (decide ((rune s p) = 32)) then true else (decide ((rune s p) = 9))) then true else (decide ((rune s p) = 10))) then true else (decide ((rune s p) = 40))) then true else (decide ((rune s p) = 41))) then true else (decide ((rune s p) = 91))) then true else (decide ((rune s p) = 93))) then true else (decide ((rune s p) = 44))) then true else (decide ((rune s p) = 59))) = true ↔ i1F (rune s p) := by
  generalize rune s p = r
  unfold i1F
  simp only [Bool.cond_true_left, Bool.or_eq_true, decide_eq_true_eq]
  omega
theorem i7x (s : Bs) (hs : s.length < 4294967281) : Evt (fun n => d1A n s) (fun r => r = true ↔ i8s s) := by
  unfold d1A
  refine Evt.Xx (P := ExP (fun v : Int => (∃ c : Nat, v = c ∧ RC s c) ∧ ¬ p3i s) (fun r => r = false ∧ p3i s)) (Evt.loop (fun u : Nat × Int => s.length - u.1) (fun u => ∃ k : Nat, u = (rpos s k, (k : Int)) ∧ ∀ j, j < k → rpos s j < s.length ∧ ¬ i1F (rune s (rpos s j))) _ _ ⟨0, rfl, fun j hj => by omega⟩ (fun u hu => ?_)) (fun t ht => ?_) (fun r h => ?_)
  · obtain ⟨k, rfl, hk⟩ := hu
    have hkl := p6Q fun j hj => (hk j hj).1
    unfold d1J
    refine Evt.cond (fun e => ?_) (fun e => Evt.pure ?_)
    · replace e := bx e
      have e : rpos s k < s.length := e
      have := d6u e
      refine Evt.chk e (Evt.cond (fun e2 => Evt.pure ?_) (fun e2 => Evt.pure ?_))
      · exact ⟨rfl, k, e, d8H.1 e2⟩
      · have hn : ¬ i1F (rune s (rpos s k)) := fun h => by
          have h2 := d8H.2 h
          have e2 : _ = false := e2
          rw [h2] at e2; cases e2
        refine ⟨⟨k + 1, ?_, fun j hj => ?_⟩, by show s.length - (rpos s k + d5t s (rpos s k)) < s.length - rpos s k; omega⟩
        · show (rpos s k + d5t s (rpos s k), wr .i64 ((k : Int) + 1)) = _
          rw [Zc (by omega) (by omega)]; rfl
        · by_cases ej : j = k
          · subst ej; exact ⟨e, hn⟩
          · exact hk j (by omega)
    · replace e := bx e
      have e : s.length ≤ rpos s k := e
      refine ⟨⟨k, rfl, e, fun j hj => (hk j hj).1⟩, ?_⟩
      rintro ⟨j, h1, h2⟩
      by_cases hj : j < k
      · exact (hk j hj).2 h2
      · have := i2R s (show k ≤ j by omega); omega
  · obtain ⟨⟨c, hc0, hc⟩, hns⟩ := ht
    subst hc0
    unfold d1K
    refine Evt.cond (fun e => Evt.pure ⟨fun h => (by cases h), fun h => ?_⟩) (fun e => ?_)
    · replace e := bx e
      obtain ⟨⟨d, hd, h1⟩, _⟩ := h
      have := hc.uniq hd
      omega
    · replace e := bx e
      refine Evt.Xx (P := ExP (fun _ => validD s = true) (fun r => r = false ∧ validD s = false)) (Evt.loop (fun u : Int => s.length - u.toNat) (fun u => 0 ≤ u ∧ u ≤ s.length ∧ validD (s.drop u.toNat) = validD s) _ _ ⟨by omega, by omega, rfl⟩ (fun u hu => ?_)) (fun t ht => Evt.pure ⟨fun _ => ⟨⟨c, hc, by omega⟩, ht, hns⟩, fun _ => rfl⟩) (fun r h => ?_)
      · obtain ⟨h0, h1, h2⟩ := hu
        unfold d1L
        refine Evt.cond (fun e2 => ?_) (fun e2 => Evt.pure ?_)
        · replace e2 := bx e2
          have hlen : (s.drop u.toNat).length = s.length - u.toNat := List.length_drop
          have hne : s.drop u.toNat ≠ [] := fun h => by rw [h] at hlen; simp at hlen; omega
          refine Evt.chk ⟨h0, by omega⟩ (Evt.bind (i5c (by omega)) fun v hv => ?_)
          have hst := validD_step _ hne
          have hw1 := decodeL_width (s.drop u.toNat)
          have hw2 : (decodeL (s.drop u.toNat)).2 ≤ (s.drop u.toNat).length := decodeL_le (by omega)
          unfold lenOf at hv
          by_cases hb : (decodeL (s.drop u.toNat)).1 = 65533 ∧ (decodeL (s.drop u.toNat)).2 = 1
          · rw [if_pos hb] at hst hv
            refine Evt.cond (fun e3 => Evt.pure ⟨rfl, by rw [← h2, hst]⟩) (fun e3 => ?_)
            replace e3 := bx e3
            exact absurd hv e3
          · rw [if_neg hb] at hst hv
            refine Evt.cond (fun e3 => ?_) (fun e3 => Evt.pure ?_)
            · replace e3 := bx e3
              omega
            · have hwr : wr .i64 (u + v) = u + v := Zc (by omega) (by omega)
              rw [hwr]
              have ht : (u + v).toNat = u.toNat + (decodeL (s.drop u.toNat)).2 := by omega
              refine ⟨⟨by omega, by omega, ?_⟩, by omega⟩
              rw [ht, ← List.drop_drop, ← hst, h2]
        · replace e2 := bx e2
          have : s.drop u.toNat = [] := List.drop_eq_nil_of_le (by omega)
          rw [← h2, this]; rfl
      · obtain ⟨rfl, h2⟩ := h
        refine ⟨fun h => (by cases h), fun h => ?_⟩
        have := h.2.1
        rw [h2] at this
        cases this
  · obtain ⟨rfl, h2⟩ := h
    exact ⟨fun h => (by cases h), fun h => absurd h2 h.2.2⟩
end Go.Proofs.YtgaeiccgdpnkkaaGreatDoor
namespace Go.Am
open Go
theorem Evt.p6R {α : Type} {x : Nat → Option α} {P : α → Prop} {r : α} (h : Evt x (fun a => a = r)) (k : Evt x P) : P r := by
  obtain ⟨a, rfl, N, hN⟩ := h
  obtain ⟨b, hb, M, hM⟩ := k
  have h1 := hN (max N M) (by omega)
  have h2 := hM (max N M) (by omega)
  rw [h1] at h2
  cases h2
  exact hb
theorem Evt.and {α : Type} {x : Nat → Option α} {P Q : α → Prop} (h : Evt x P) (k : Evt x Q) : Evt x (fun a => P a ∧ Q a) := by
  obtain ⟨r, hr, e⟩ := h.eq
  exact e.mono fun a ha => by subst ha; exact ⟨hr, Evt.p6R e k⟩
theorem Ev2.split {α β : Type} {x : Nat → Option α} {y : Nat → Option β} {P : α → β → Prop} (h : Ev2 x y P) : ∃ a b, P a b ∧ Evt x (fun c => c = a) ∧ Evt y (fun c => c = b) := by
  obtain ⟨a, b, hp, N, hN⟩ := h
  exact ⟨a, b, hp, ⟨a, rfl, N, fun n hn => (hN n hn).1⟩, ⟨b, rfl, N, fun n hn => (hN n hn).2⟩⟩
theorem Ev2.join {α β : Type} {x : Nat → Option α} {y : Nat → Option β} {P : α → β → Prop} {a : α} {b : β} (hp : P a b) (h : Evt x (fun c => c = a)) (k : Evt y (fun c => c = b)) : Ev2 x y P :=
  (Ev2.both h k).mono fun a b h => by obtain ⟨rfl, rfl⟩ := h; exact hp
end Go.Am
namespace Go.Proofs.YtgaeiccgdpnkkaaGreatDoor
open Go Go.Am
def i8t (g : Xg) (kids : Int) : Prop := ∀ k : Nat, k < 4 → ∀ r, d8G g 0 k r → (0 ≤ r ↔ (k : Int) ≤ kids)
structure i8u (h : WU) (r : WQ) : Prop where
  kids : 1 ≤ r.kids ∧ r.kids ≤ 3
  weight : 0 ≤ r.weight ∧ r.weight ≤ 1000000
  graph : d1n h r.graph
  places : i8t r.graph r.kids
structure p4w (h : WU) (x : XE) : Prop where
  weight : 0 ≤ x.weight ∧ x.weight ≤ 1000000
  graph : d1n h x.graph
  word : i8s x.word
structure i0w (g : Xa) : Prop where
  hier : i2L g.hierarchy
  Xw : 3 < g.hierarchy.Xw.length
  rules : g.rules.length ≤ 40
  Xj : g.Xj.length ≤ 100
  rule : ∀ k, k < g.rules.length → i8u g.hierarchy (Am.get g.rules k)
  lex : ∀ k, k < g.Xj.length → p4w g.hierarchy (Am.get g.Xj k)
  start : d1n g.hierarchy g.start
def p4x (g : Xg) : Prop := ∀ k, k < g.nodes.length → (Am.get g.nodes k).links.length ≤ 9223372036854775807
theorem i1G {h : WU} {g : Xg} (hg : d1n h g) (hh : h.Xw.length ≤ 40) (kids : Int) : Evt (fun n => d2C n g kids) (fun b => b = true → i8t g kids) := by
  unfold d2C
  have h1 := hg.some
  refine Evt.Xx (Evt.range (fun k _ => ∀ j : Nat, j < k → ∀ r, d8G g 0 j r → (0 ≤ r ↔ (j : Int) ≤ kids)) (fun _ => False) (fun b => b = false) (fun j hj => by omega) (fun k s hk hi => ?_)) (fun t ht => Evt.pure fun _ => ht.elim id False.elim) (fun r hr h => by rw [h] at hr; cases hr)
  unfold d1b
  refine Evt.bind (d5n hg hh (a := 0) (by omega) k) fun v hv => Evt.cond (fun _ => Evt.pure rfl) (fun e => Evt.pure fun j hj r hr => ?_)
  have hv : d8G g 0 k v := hv
  by_cases ej : j = k
  · subst ej
    have := d8G.uniq hg (a := 0) h1 hr hv
    subst this
    simp only [Bool.not_eq_false', decide_eq_true_eq] at e
    by_cases h0 : 0 ≤ r
    · simp [h0] at e; simp [h0, e]
    · simp [h0] at e; simp only [h0, false_iff]; omega
  · exact hi j (by omega) r hr
theorem i2V (t : WO) : Ev2 (fun n => d3s n t) (fun n => Yv n t) (fun a b => a = b) := by
  unfold Yv
  obtain ⟨a, b, rfl, h, k⟩ := (i5a t).split
  exact Ev2.join rfl h (Evt.bind k fun v hv => by subst hv; exact Evt.pure rfl)
theorem i2W {h : WU} (hh : i2L h) {t : Xi} (ht : i7l h.types t) {r : WQ} (hlen : p4x r.graph) : Ev2 (fun n => d6x n h t r) (fun n => ZO n h r) (fun a b => a = b ∧ (a = 0 → i8u h r)) := by
  unfold d6x ZO
  refine Ev2.cond rfl (fun _ => Ev2.pure ⟨rfl, fun h => absurd (show (3 : Int) = 0 from h) (by decide)⟩) (fun e => ?_)
  replace e := bx e
  refine Ev2.bind (d6q hh ht hlen) fun f f' hf => ?_
  obtain ⟨rfl, hf⟩ := hf
  refine Ev2.cond rfl (fun e2 => Ev2.pure ⟨rfl, fun h => ?_⟩) (fun e2 => ?_)
  · replace e2 := bx e2
    exact absurd h e2
  replace e2 := bx e2
  have hg := hf e2
  obtain ⟨b, ex, hbe, hl, hr⟩ := (i9c (r := r) hg hh.n r.kids rfl rfl).split
  have hpl := Evt.p6R hl (i1G hg hh.n r.kids)
  refine Ev2.d3y hl fun b' hb' => ?_
  subst hb'
  rcases hbe with ⟨rfl, rfl⟩ | ⟨rfl, rfl⟩
  · simp only [Bool.not_true, cond_false]
    refine Ev2.i3A hr (fun t ht => ?_) (fun r hr => by cases hr)
    unfold d0l
    exact Ev2.bind (i2V r.meaning) fun a b hab => by subst hab; exact Ev2.pure ⟨rfl, fun _ => ⟨by omega, by omega, hg, hpl rfl⟩⟩
  · simp only [Bool.not_false, cond_true]
    refine Ev2.i3A hr (fun t ht => by cases ht) (fun r hr => ?_)
    cases hr
    exact Evt.pure ⟨rfl, fun h => absurd (show (5 : Int) = 0 from h) (by decide)⟩
theorem i1H {h : WU} (hh : i2L h) {t : Xi} (ht : i7l h.types t) {x : XE} (hlen : p4x x.graph) (hw : x.word.length < 4294967281) : Ev2 (fun n => d5y n h t x) (fun n => d0m n h x) (fun a b => a = b ∧ (a = 0 → p4w h x)) := by
  unfold d5y d0m
  refine Ev2.bind (Ev2.both (i3G x.word hw) (i7x x.word hw)) fun a b hab => ?_
  have e0 : a = b := by
    cases a <;> cases b <;> simp_all
  subst e0
  refine Ev2.cond rfl (fun _ => Ev2.pure ⟨rfl, fun h => absurd (show (10 : Int) = 0 from h) (by decide)⟩) (fun e1 => ?_)
  replace e1 := bx e1
  refine Ev2.cond rfl (fun _ => Ev2.pure ⟨rfl, fun h => absurd (show (3 : Int) = 0 from h) (by decide)⟩) (fun e => ?_)
  replace e := bx e
  refine Ev2.bind (d6q hh ht hlen) fun f f' hf => ?_
  obtain ⟨rfl, hf⟩ := hf
  refine Ev2.cond rfl (fun e2 => Ev2.pure ⟨rfl, fun h => ?_⟩) (fun e2 => ?_)
  · replace e2 := bx e2
    exact absurd h e2
  replace e2 := bx e2
  exact Ev2.bind (i2V x.meaning) fun a b hab => by subst hab; exact Ev2.pure ⟨rfl, fun _ => ⟨by omega, hf e2, hab.1.1 e1⟩⟩
structure Holds (g : Xa) : Prop where
  rule : ∀ k, k < g.rules.length → p4x (Am.get g.rules k).graph
  lex : ∀ k, k < g.Xj.length → p4x (Am.get g.Xj k).graph ∧ (Am.get g.Xj k).word.length < 4294967281
  start : p4x g.start
def p2z (P : Prop) (a b : WM) : Prop := a = b ∧ (a.code = 0 → a = ⟨0, 0⟩ ∧ P)
theorem d6y {P : Prop} {a b : Int} (h : a ≠ 0) : p2z P ⟨a, b⟩ ⟨a, b⟩ := ⟨rfl, fun e => absurd e h⟩
theorem d9L {g : Xa} (hm : Holds g) : Ev2 (fun n => d2v n g) (fun n => Zb n g) (p2z (i0w g)) := by
  unfold d2v Zb
  refine Ev2.bind ((d8F g.hierarchy)) fun f f' hf => ?_
  obtain ⟨rfl, hf⟩ := hf
  refine Ev2.cond rfl (fun e => Ev2.pure ⟨rfl, fun h => ?_⟩) (fun e => ?_)
  · replace e := bx e
    exact absurd h e
  replace e := bx e
  have hh := hf e
  refine Ev2.cond rfl (fun _ => Ev2.d3y (d1v _ _) fun f hf => by subst hf; exact Ev2.pure (d6y (by decide))) (fun e1 => ?_)
  replace e1 := bx e1
  refine Ev2.cond rfl (fun _ => Ev2.d3y (d1v _ _) fun f hf => by subst hf; exact Ev2.pure (d6y (by decide))) (fun e2 => ?_)
  replace e2 := bx e2
  refine Ev2.d3y (d6V hh.types) fun t ht => ?_
  refine Ev2.Xx (Ev2.range (fun k s _ => Known (fun i => (Am.get g.rules i).name) k s ∧ ∀ i, i < k → i8u g.hierarchy (Am.get g.rules i)) (fun _ _ => False) (p2z (i0w g)) ⟨i1a, fun i hi => by omega⟩ (fun k s u hk hi => ?_)) (fun s u hu => ?_) (fun r r' hr => hr)
  · obtain ⟨hkn, hp⟩ := hi
    unfold d3j Zi
    refine Ev2.d3y (d7R _) fun a ha => Ev2.i7j (d9J _) fun b hb => ?_
    subst ha hb
    refine Ev2.cond rfl (fun _ => Ev2.d3y (d1v _ _) fun f hf => by subst hf; exact Ev2.pure (d6y (by decide))) (fun _ => ?_)
    refine Ev2.p4e (by omega) ?_
    have hlen : (g.rules.take k).length = k := by rw [List.length_take]; omega
    refine Ev2.i9b (fun e => ?_) (fun e => ?_)
    · refine Ev2.i3A (i1c (fun i => (Am.get g.rules i).name) (Am.get g.rules k).name ⟨7, (k : Int)⟩ (fun j hj => ?_)) (fun t ht => ?_) (fun r hr => ?_)
      · rw [hlen] at hj
        unfold YA
        rw [d6U hj]
        by_cases e2 : (Am.get g.rules j).name = (Am.get g.rules k).name <;> simp [e2]
      · rw [hlen] at ht
        rcases ht with ⟨_, h2⟩ | ⟨h1, _⟩
        · exact absurd ((hkn _).1 e) h2
        · cases h1
      · rw [hlen] at hr
        rcases hr with ⟨h1, _⟩ | ⟨h1, _⟩
        · cases h1
        · cases h1
          exact Evt.bind (d1v _ _) fun f hf => by subst hf; exact Evt.pure (d6y (by decide))
    · have hno : ¬ ∃ j, j < k ∧ (Am.get g.rules j).name = (Am.get g.rules k).name := fun h => by
        rw [(hkn _).2 h] at e; cases e
      refine Ev2.i3A (i1c (fun i => (Am.get g.rules i).name) (Am.get g.rules k).name ⟨7, (k : Int)⟩ (fun j hj => ?_)) (fun t ht => ?_) (fun r hr => ?_)
      · rw [hlen] at hj
        unfold YA
        rw [d6U hj]
        by_cases e2 : (Am.get g.rules j).name = (Am.get g.rules k).name <;> simp [e2]
      · unfold Zj
        refine Ev2.p8J (Ev2.bind (i2W hh ‹i7l _ _› (hm.rule k hk)) fun a b hab => ?_)
        obtain ⟨rfl, hr⟩ := hab
        refine Ev2.cond rfl (fun e3 => Ev2.d3y (d1v _ _) fun f hf => ?_) (fun e3 => Ev2.pure ⟨i1b hkn, fun i hi => ?_⟩)
        · subst hf
          replace e3 := bx e3
          exact Ev2.pure (d6y e3)
        · replace e3 := bx e3
          by_cases ei : i = k
          · subst ei; exact hr e3
          · exact hp i (by omega)
      · rw [hlen] at hr
        rcases hr with ⟨h1, _⟩ | ⟨_, h2⟩
        · cases h1
        · exact absurd h2 hno
  · have p6S := (hu.elim id False.elim).2
    unfold d3k Zk
    refine Ev2.Xx (Ev2.range (fun k _ _ => ∀ i, i < k → p4w g.hierarchy (Am.get g.Xj i)) (fun _ _ => False) (p2z (i0w g)) (fun i hi => by omega) (fun k s u hk hi => ?_)) (fun s u hu => ?_) (fun r r' hr => hr)
    · unfold d3l Zl
      refine Ev2.bind (i1H hh ht (hm.lex k hk).1 (hm.lex k hk).2) fun a b hab => ?_
      obtain ⟨rfl, hr⟩ := hab
      refine Ev2.cond rfl (fun e3 => Ev2.d3y (d1v _ _) fun f hf => ?_) (fun e3 => Ev2.pure fun i hi2 => ?_)
      · subst hf
        replace e3 := bx e3
        exact Ev2.pure (d6y e3)
      · replace e3 := bx e3
        by_cases ei : i = k
        · subst ei; exact hr e3
        · exact hi i (by omega)
    · have p6T := hu.elim id False.elim
      unfold d3m Zm
      refine Ev2.bind (d6q hh ht hm.start) fun f f' hf => ?_
      obtain ⟨rfl, hf⟩ := hf
      refine Ev2.cond rfl (fun e3 => Ev2.d3y (d1v _ _) fun f hf => ?_) (fun e3 => Ev2.pure ⟨rfl, fun _ => ⟨rfl, ?_⟩⟩)
      · subst hf
        replace e3 := bx e3
        exact Ev2.pure (d6y e3)
      · replace e3 := bx e3
        exact ⟨hh, by omega, by omega, by omega, p6S, p6T, hf e3⟩
inductive i5f : WK → Prop
  | mk (s : WK) (h : s.args.length ≤ 1048576) (h2 : ∀ k, k < s.args.length → i5f (Am.get s.args k)) : i5f s
inductive p0T : WO → Prop
  | mk (t : WO) (h0 : i5f t.type) (h : t.args.length ≤ 1048576) (h2 : ∀ k, k < t.args.length → p0T (Am.get t.args k)) : p0T t
structure i4l (g : Xg) : Prop where
  nodes : g.nodes.length ≤ 1048576
  links : ∀ y ∈ g.nodes, y.links.length ≤ 1048576
structure p4y (r : WQ) : Prop where
  graph : i4l r.graph
  meaning : p0T r.meaning
structure p8O (r : XE) : Prop where
  word : r.word.length ≤ 1048576
  graph : i4l r.graph
  meaning : p0T r.meaning
structure p4z (h : WU) : Prop where
  types : h.types.length ≤ 1048576
structure p4A (g : Xa) : Prop where
  hier : p4z g.hierarchy
  nr : g.rules.length ≤ 1048576
  nl : g.Xj.length ≤ 1048576
  rule : ∀ y ∈ g.rules, p4y y
  lex : ∀ y ∈ g.Xj, p8O y
  start : i4l g.start
structure p7G (c : d1s) : Prop where
  hier : ∀ y ∈ c.hierarchy, p4z y
  start : ∀ y ∈ c.start, i4l y
  rules : ∀ y ∈ c.rules, ∀ r ∈ y.put, p4y r
  Xj : ∀ y ∈ c.Xj, ∀ r ∈ y.put, p8O r
theorem p4x.of {g : Xg} (h : i4l g) : p4x g := fun k hk => by
  have := h.links _ (get_mem hk)
  omega
theorem p4A.holds {g : Xa} (h : p4A g) : Holds g := ⟨fun k hk => .of (h.rule _ (get_mem hk)).graph, fun k hk => ⟨.of (h.lex _ (get_mem hk)).graph, by have := (h.lex _ (get_mem hk)).word; omega⟩, .of h.start⟩
def i6l (g : Xg) (v : Int) : Prop := d8G g 0 0 v ∧ 0 ≤ v ∧ v < g.nodes.length
theorem p0U {h : WU} {r : WQ} (hr : i8u h r) (hh : h.Xw.length ≤ 40) : ∃ v, i6l r.graph v := by
  have h1 := hr.graph.some
  obtain ⟨v, hv, _⟩ := d5n hr.graph hh (a := 0) (by omega) 0
  have hv : d8G r.graph 0 0 v := hv
  have hk := hr.kids
  have := (hr.places 0 (by omega) v hv).2 (by omega)
  exact ⟨v, hv, this, hv.lt hr.graph h1⟩
theorem i9i (a b : Nat) : Evt (fun n => d8I n a b) (fun v => v = (Nat.gcd a b : Nat)) := by
  unfold d8I
  refine Evt.Xx (P := ExP (fun t : Int => t = (Nat.gcd a b : Nat)) (fun _ : Int => False)) (Evt.loop (fun s : Int × Int => s.2.toNat) (fun s => 0 ≤ s.1 ∧ 0 ≤ s.2 ∧ Nat.gcd s.1.toNat s.2.toNat = Nat.gcd a b) _ _ ⟨by show (0 : Int) ≤ (a : Int); omega, by show (0 : Int) ≤ (b : Int); omega, rfl⟩ (fun s hs => ?_)) (fun t ht => Evt.pure ht) (fun r hr => hr.elim)
  obtain ⟨h0, h1, h2⟩ := hs
  unfold d9d
  refine Evt.cond (fun e => ?_) (fun e => Evt.pure ?_)
  · replace e := bx e
    have hm : Int.tmod s.1 s.2 = ((s.1.toNat % s.2.toNat : Nat) : Int) := by
      obtain ⟨x, hx⟩ : ∃ x : Nat, s.1 = x := ⟨s.1.toNat, by omega⟩
      obtain ⟨y, hy⟩ : ∃ y : Nat, s.2 = y := ⟨s.2.toNat, by omega⟩
      rw [hx, hy, Int.toNat_natCast, Int.toNat_natCast]
      exact (Int.ofNat_tmod x y).symm
    have hp : 0 < s.2.toNat := by omega
    have hlt : s.1.toNat % s.2.toNat < s.2.toNat := Nat.mod_lt _ hp
    refine Evt.chk e (Evt.pure ?_)
    rw [hm]
    refine ⟨⟨h1, by show (0 : Int) ≤ ((s.1.toNat % s.2.toNat : Nat) : Int); omega, ?_⟩, by show (((s.1.toNat % s.2.toNat : Nat) : Int)).toNat < _; omega⟩
    show Nat.gcd s.2.toNat (((s.1.toNat % s.2.toNat : Nat) : Int)).toNat = _
    rw [Int.toNat_natCast, Nat.gcd_comm, ← Nat.gcd_rec, Nat.gcd_comm, h2]
  · replace e := bx e
    show s.1 = _
    rw [e] at h2
    simp at h2
    omega
def d4Z (a t : Nat) : WZ := if 0 < t then ⟨((a / Nat.gcd a t : Nat) : Int), ((t / Nat.gcd a t : Nat) : Int)⟩ else ⟨0, 1⟩
theorem i2X (a : Nat) (ha : a ≤ 1152921504606846976) : Evt (fun _ => d5Y a) (fun v => v = a) := by
  unfold d5Y
  refine Evt.cond (fun e => ?_) (fun _ => Evt.pure ?_)
  · replace e := bx e
    omega
  · exact d3r (by omega)
theorem i7y (a t : Nat) (ha : a ≤ 1152921504606846976) (ht : t ≤ 1152921504606846976) (h0 : 0 < t) : Evt (fun n => i0x n a t) (fun r => r.1 = d4Z a t) := by
  have hg : 0 < Nat.gcd a t := Nat.gcd_pos_of_pos_right _ h0
  have h1 : a / Nat.gcd a t ≤ a := Nat.div_le_self _ _
  have h2 : t / Nat.gcd a t ≤ t := Nat.div_le_self _ _
  unfold i0x
  refine Evt.cond (fun e => ?_) (fun _ => ?_)
  · replace e := bx e
    omega
  refine Evt.bind (i2X a ha) fun v1 e1 => Evt.bind (i2X t ht) fun v2 e2 => ?_
  subst e1; subst e2
  refine Evt.bind (i9i a t) fun v3 e3 => ?_
  subst e3
  have d1 : Int.tdiv (a : Int) (Nat.gcd a t : Nat) = ((a / Nat.gcd a t : Nat) : Int) := (Int.ofNat_tdiv a _).symm
  have d2 : Int.tdiv (t : Int) (Nat.gcd a t : Nat) = ((t / Nat.gcd a t : Nat) : Int) := (Int.ofNat_tdiv t _).symm
  rw [d1, d2]
  have hk : ∀ x : Nat, x ≤ 1152921504606846976 → InK .u64 (x : Int) := fun x hx => by
    have e1 : IntKind.u64.min = 0 := by decide
    have e2 : IntKind.u64.max = 18446744073709551615 := by decide
    exact ⟨by omega, by omega⟩
  refine Evt.chk ⟨by omega, hk _ (by omega)⟩ (Evt.chk (hk _ (by omega)) ?_)
  refine Evt.bind (P := fun r : WZ × WM => r.1 = d4Z a t) ?_ fun r hr => Evt.pure hr
  unfold i6m
  refine Evt.cond (fun e => ?_) (fun _ => Evt.cond (fun e => ?_) (fun _ => Evt.pure ?_))
  · exfalso
    replace e := bx e
    omega
  · exfalso
    have e1 : decide ((a : Int) < 0) = false := decide_eq_false (by omega)
    have e2 : decide ((t : Int) < 0) = false := decide_eq_false (by omega)
    rw [e1, e2] at e
    cases e
  · show WZ.mk (wr .i64 ((a / Nat.gcd a t : Nat) : Int)) (wr .i64 ((t / Nat.gcd a t : Nat) : Int)) = _
    unfold d4Z
    rw [if_pos h0]
    clear d1 d2
    generalize a / Nat.gcd a t = x at h1
    generalize t / Nat.gcd a t = y at h2
    rw [Zc (by omega) (by omega), Zc (by omega) (by omega)]
open Classical in
noncomputable def d2O (g : Xa) (k : Nat) : Nat := if h : ∃ v, i6l (Am.get g.rules k).graph v then (Am.get (Am.get g.rules k).graph.nodes (Classical.choose h).toNat).type.toNat else 0
def d3n (g : Xa) (k : Nat) : Nat := (Am.get (Am.get g.Xj k).graph.nodes 0).type.toNat
theorem i2Y {g : Xa} (hg : i0w g) {k : Nat} (hk : k < g.rules.length) : ∃ v, i6l (Am.get g.rules k).graph v ∧ (Am.get (Am.get g.rules k).graph.nodes v.toNat).type = d2O g k ∧ d2O g k < g.hierarchy.types.length := by
  have hr := hg.rule k hk
  have hm := p0U hr hg.hier.n
  have hs := Classical.choose_spec hm
  have ht := hr.graph.type (Classical.choose hm).toNat (by have := hs.2; omega)
  refine ⟨Classical.choose hm, hs, ?_⟩
  have e : d2O g k = (Am.get (Am.get g.rules k).graph.nodes (Classical.choose hm).toNat).type.toNat := dif_pos hm
  rw [e]
  omega
theorem i2Z {g : Xa} (hg : i0w g) {k : Nat} (hk : k < g.Xj.length) : (Am.get (Am.get g.Xj k).graph.nodes 0).type = d3n g k ∧ d3n g k < g.hierarchy.types.length := by
  have hr := (hg.lex k hk).graph
  have ht := hr.type 0 hr.some
  unfold d3n
  omega
theorem p0V {h : WU} {g : Xg} (hg : d1n h g) (hh : h.Xw.length ≤ 40) {v : Int} (hm : i6l g v) : Evt (fun n => d4k n g 0 0) (fun u => u = v) :=
  (d5n hg hh (a := 0) (by have := hg.some; omega) 0).mono fun u hu => d8G.uniq hg hg.some (show d8G g 0 0 u from hu) hm.1
theorem i9j {h : WU} {g : Xg} (hg : d1n h g) {v : Int} (hm : i6l g v) : Evt (fun _ => Za g 0 0) (fun u => u = v) :=
  (i0q (g := g) (a := 0) (by have := hg.some; omega) 0).mono fun u hu => d8G.uniq hg hg.some (show d8G g 0 0 u from hu) hm.1
def acc (cls : Nat → Nat) (v : Nat → Int) : Nat → Nat → Int
  | 0, _ => 0
  | k + 1, c => acc cls v k c + if cls k = c then v k else 0
theorem d7E {cls : Nat → Nat} {v : Nat → Int} {M : Int} (hM : 0 ≤ M) : ∀ k c, (∀ j, j < k → 0 ≤ v j ∧ v j ≤ M) → 0 ≤ acc cls v k c ∧ acc cls v k c ≤ k * M
  | 0, c, _ => by simp [acc]
  | k + 1, c, h => by
    have ih := d7E (cls := cls) hM k c (fun j hj => h j (by omega))
    have hk := h k (by omega)
    have e : ((k + 1 : Nat) : Int) * M = k * M + M := by
      rw [Int.natCast_succ, Int.add_mul, Int.one_mul]
    rw [e]
    unfold acc
    split <;> omega
noncomputable def tot (g : Xa) (c : Xt) (cl : Nat) : Int := acc (d2O g) (fun k => Am.get c.rules k) g.rules.length cl + acc (d3n g) (fun k => Am.get c.Xj k) g.Xj.length cl
structure p0W (g : Xa) (c : Xt) (M : Int) : Prop where
  r : c.rules.length = g.rules.length
  l : c.Xj.length = g.Xj.length
  vr : ∀ k, k < g.rules.length → 0 ≤ Am.get c.rules k ∧ Am.get c.rules k ≤ M
  vl : ∀ k, k < g.Xj.length → 0 ≤ Am.get c.Xj k ∧ Am.get c.Xj k ≤ M
structure WSt (T : Nat) (cls : Nat → Nat) (base : Nat → Int) (v : Nat → Int) (k : Nat) (s : List Int × List Int) : Prop where
  len : s.1.length = T
  sums : ∀ c, c < T → Am.get s.1 c = base c + acc cls v k c
  cl : s.2.length = k
  at_ : ∀ j, j < k → Am.get s.2 j = cls j
theorem WSt.step {T : Nat} {cls : Nat → Nat} {base v : Nat → Int} {k : Nat} {s : List Int × List Int} (h : WSt T cls base v k s) (hc : cls k < T) (hb : ∀ c, c < T → -4611686018427387904 ≤ base c + acc cls v (k + 1) c ∧ base c + acc cls v (k + 1) c ≤ 4611686018427387904) :
    WSt T cls base v (k + 1) (s.1.set (cls k) (wr .i64 (Am.get s.1 (cls k) + v k)), s.2 ++ [(cls k : Int)]) := by
  refine ⟨by simp; exact h.len, fun c hc2 => ?_, by simp; exact h.cl, fun j hj => ?_⟩
  · show Am.get (s.1.set (cls k) _) c = _
    rw [d0B]
    by_cases e : cls k = c
    · subst e
      rw [if_pos ⟨rfl, by rw [h.len]; exact hc⟩, h.sums _ hc]
      have e2 : acc cls v (k + 1) (cls k) = acc cls v k (cls k) + v k := by simp [acc]
      have := hb (cls k) hc
      rw [e2] at this ⊢
      rw [Zc (by omega) (by omega)]
      omega
    · rw [if_neg (fun x => e x.1), h.sums _ hc2]
      have e2 : acc cls v (k + 1) c = acc cls v k c := by simp [acc, e]
      rw [e2]
  · show Am.get (s.2 ++ [(cls k : Int)]) j = _
    by_cases e : j = k
    · subst e
      have := d5e (l := s.2) (x := (cls j : Int))
      rwa [h.cl] at this
    · rw [d4I (by rw [h.cl]; omega)]
      exact h.at_ j (by omega)
theorem i3a (T m : Nat) (cls : Nat → Nat) (tt : Nat → Int) (a l0 l2 : List Int) (hm : m ≤ 100) (ha : a.length = m) (h0 : l0.length = m) (h2 : l2.length = T) (hc : ∀ k, k < m → Am.get l0 k = cls k ∧ cls k < T)
    (hs : ∀ c, c < T → Am.get l2 c = tt c ∧ 0 ≤ tt c ∧ tt c ≤ 1152921504606846976) (hv : ∀ k, k < m → 0 ≤ Am.get a k ∧ Am.get a k ≤ 1152921504606846976) :
    Evt (fun n => d3K n a l0 l2) (fun r => r.length = m ∧ ∀ k, k < m → Am.get r k = d4Z (Am.get a k).toNat (tt (cls k)).toNat) := by
  unfold d3K
  refine Evt.chk (by omega) ?_
  refine Evt.Xx (Evt.range (fun k s => s.length = k ∧ ∀ j, j < k → Am.get s j = d4Z (Am.get a j).toNat (tt (cls j)).toNat) (fun _ => False) (fun _ => False) ⟨rfl, fun j h => absurd h (Nat.not_lt_zero _)⟩ (fun k s hk hi => ?_)) (fun t ht => ?_) (fun r (hr : False) => hr.elim)
  · rw [h0] at hk
    obtain ⟨e1, e2⟩ := hc k hk
    obtain ⟨e3, e4, e5⟩ := hs (cls k) e2
    have e6 := hv k hk
    have key : ∀ x : WZ, x = d4Z (Am.get a k).toNat (tt (cls k)).toNat → (s ++ [x]).length = k + 1 ∧ ∀ j, j < k + 1 → Am.get (s ++ [x]) j = d4Z (Am.get a j).toNat (tt (cls j)).toNat := fun x hx => by
      refine ⟨by simp; exact hi.1, fun j hj => ?_⟩
      by_cases ej : j = k
      · subst ej
        have := d5e (l := s) (x := x)
        rw [hi.1] at this
        rw [this, hx]
      · rw [d4I (by rw [hi.1]; omega)]
        exact hi.2 j (by omega)
    have hlen : ∀ x : WZ, (s ++ [x]).length = k + 1 := fun x => by simp; exact hi.1
    unfold d4g
    rw [e1, Int.toNat_natCast, e3]
    refine Evt.chk (by omega) (Evt.cond (fun e => ?_) (fun e => ?_))
    · replace e := bx e
      obtain ⟨x, hx⟩ : ∃ x : Nat, Am.get a k = x := ⟨(Am.get a k).toNat, by omega⟩
      obtain ⟨y, hy⟩ : ∃ y : Nat, tt (cls k) = y := ⟨(tt (cls k)).toNat, by omega⟩
      rw [hx, hy]
      refine Evt.chk (by omega) (Evt.bind (i7y x y (by omega) (by omega) (by omega)) fun r hr => Evt.d4y (Evt.chk (by rw [hlen, d3T]; omega) (Evt.pure (key _ ?_))))
      rw [hr, hx, hy]
      rfl
    · replace e := bx e
      refine Evt.d4y (Evt.chk (by rw [hlen, d3T]; omega) (Evt.pure (key _ ?_)))
      unfold d4Z
      rw [if_neg (by omega)]
  · simp only [ExP, or_false] at ht
    rw [h0] at ht
    exact Evt.pure ht
def WIs (g : Xa) (c : Xt) (r : List WZ × List WZ) : Prop :=
  (r.1.length = g.rules.length ∧ ∀ k, k < g.rules.length → Am.get r.1 k = d4Z (Am.get c.rules k).toNat (tot g c (d2O g k)).toNat) ∧
  (r.2.length = g.Xj.length ∧ ∀ k, k < g.Xj.length → Am.get r.2 k = d4Z (Am.get c.Xj k).toNat (tot g c (d3n g k)).toNat)
theorem i3b {g : Xa} (hg : i0w g) {c : Xt} (hc : p0W g c 1000000000) : Evt (fun n => d4w n g c) (WIs g c) := by
  have g1 := hg.hier.types.1
  have g2 := hg.rules
  have g3 := hg.Xj
  have c1 := hc.r
  have c2 := hc.l
  have hbR : ∀ k cl, k ≤ g.rules.length → 0 ≤ acc (d2O g) (fun k => Am.get c.rules k) k cl ∧ acc (d2O g) (fun k => Am.get c.rules k) k cl ≤ 40000000000 := fun k cl hk => by
    have := d7E (cls := d2O g) (v := fun k => Am.get c.rules k) (M := 1000000000) (by omega) k cl (fun j hj => hc.vr j (by omega))
    omega
  have hbL : ∀ k cl, k ≤ g.Xj.length → 0 ≤ acc (d3n g) (fun k => Am.get c.Xj k) k cl ∧ acc (d3n g) (fun k => Am.get c.Xj k) k cl ≤ 100000000000 := fun k cl hk => by
    have := d7E (cls := d3n g) (v := fun k => Am.get c.Xj k) (M := 1000000000) (by omega) k cl (fun j hj => hc.vl j (by omega))
    omega
  have g60 := hg.hier.types.1
  unfold d4w
  refine Evt.chk (by rw [d3T]; omega) ?_
  refine Evt.Xx (Evt.range (fun k s => WSt g.hierarchy.types.length (d2O g) (fun _ => 0) (fun k => Am.get c.rules k) k s) (fun _ => False) (fun _ => False) ⟨by simp, fun cl _ => by show Am.get (List.replicate _ default) cl = _; rw [d9K]; rfl, rfl, fun j h => absurd h (Nat.not_lt_zero _)⟩ (fun k s hk hi => ?_)) (fun t ht => ?_) (fun r (hr : False) => hr.elim)
  · obtain ⟨v, hmm, ht, hcl⟩ := i2Y hg hk
    have ⟨_, hv0, hv1⟩ := hmm
    have hs := hi.step hcl (fun cl _ => by have := hbR (k + 1) cl (by omega); omega)
    unfold d4M
    refine Evt.bind (p0V (hg.rule k hk).graph hg.hier.n hmm) fun u hu => ?_
    subst hu
    rw [ht, Int.toNat_natCast]
    have hl2 : (s.2 ++ [(d2O g k : Int)]).length = k + 1 := hs.cl
    refine Evt.chk ⟨hv0, hv1⟩ (Evt.d4y (Evt.chk (by rw [hl2, d3T]; omega) (Evt.chk (by rw [hi.len]; omega) (Evt.chk (by omega) (Evt.d4y (Evt.pure hs))))))
  · simp only [ExP, or_false] at ht
    unfold d4N
    refine Evt.Xx (Evt.range (fun k s => WSt g.hierarchy.types.length (d3n g) (fun cl => acc (d2O g) (fun k => Am.get c.rules k) g.rules.length cl) (fun k => Am.get c.Xj k) k s) (fun _ => False) (fun _ => False) ⟨ht.len, fun cl hcl => by have := ht.sums cl hcl; simp only [acc]; omega, rfl, fun j h => absurd h (Nat.not_lt_zero _)⟩ (fun k s hk hi => ?_)) (fun u hu => ?_) (fun r (hr : False) => hr.elim)
    · obtain ⟨ht2, hcl⟩ := i2Z hg hk
      have hs := hi.step hcl (fun cl _ => by have := hbR g.rules.length cl (Nat.le_refl _); have := hbL (k + 1) cl (by omega); omega)
      have hn := (hg.lex k hk).graph.some
      unfold d4O
      rw [ht2, Int.toNat_natCast]
      have hl2 : (s.2 ++ [(d3n g k : Int)]).length = k + 1 := hs.cl
      exact Evt.chk (by omega) (Evt.d4y (Evt.chk (by rw [hl2, d3T]; omega) (Evt.chk (by rw [hi.len]; omega) (Evt.chk (by omega) (Evt.d4y (Evt.pure hs))))))
    · simp only [ExP, or_false] at hu
      have p9w : ∀ cl, cl < g.hierarchy.types.length → Am.get u.1 cl = tot g c cl ∧ 0 ≤ tot g c cl ∧ tot g c cl ≤ 1152921504606846976 := fun cl hcl => by
        have h1 := hu.sums cl hcl
        have h2 := hbR g.rules.length cl (Nat.le_refl _)
        have h3 := hbL g.Xj.length cl (Nat.le_refl _)
        unfold tot
        omega
      unfold d4P
      refine Evt.bind (i3a g.hierarchy.types.length g.rules.length (d2O g) (tot g c) c.rules t.2 u.1 (by omega) c1 ht.cl hu.len (fun k hk => ⟨ht.at_ k hk, by obtain ⟨_, _, _, h⟩ := i2Y hg hk; exact h⟩) p9w (fun k hk => by have := hc.vr k hk; omega)) fun x hx => ?_
      refine Evt.bind (i3a g.hierarchy.types.length g.Xj.length (d3n g) (tot g c) c.Xj u.2 u.1 (by omega) c2 hu.cl hu.len (fun k hk => ⟨hu.at_ k hk, (i2Z hg hk).2⟩) p9w (fun k hk => by have := hc.vl k hk; omega)) fun y hy => ?_
      exact Evt.pure ⟨hx, hy⟩
theorem p0W.le {g : Xa} {c : Xt} {M N : Int} (h : p0W g c M) (hm : M ≤ N) : p0W g c N := ⟨h.r, h.l, fun k hk => by have := h.vr k hk; omega, fun k hk => by have := h.vl k hk; omega⟩
end Go.Proofs.YtgaeiccgdpnkkaaGreatDoor
