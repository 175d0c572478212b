import Derived.Lib.ValidLaws
import Derived.Lib.RuneCount
import Derived.Lib.IndexAny
import Derived.Test.YtgaeiccgdpnkkaaGreatDoorPLaw1
set_option linter.unusedVariables false
set_option linter.unusedSimpArgs false
namespace Go.Proofs.YtgaeiccgdpnkkaaGreatDoor
open Go Go.Am
def p5q (T : List d8g) : Prop := ∀ r ∈ T, r.kind = 1 ∨ r.kind = 3 → ∃ k, SOk r.typ k ∧ k ≤ 200
theorem p6E {t : Yh} {b n : Nat} (h : WfT b t n) : ∀ {T : List d8g} {up : Int} {i : Nat}, Tab t up i T → p5q T := by
 induction h with
 | con b t k h hs hk h0 =>
  intro T up i hT
  cases hT with
  | leaf _ _ _ _ => intro r hr _; rw [List.mem_singleton] at hr; subst hr; exact ⟨k, hs, hk⟩
  | one _ u _ _ T h1 _ => rw [h0] at h1; cases h1
  | two _ u v _ _ T U h1 _ _ => rw [h0] at h1; cases h1
 | var b t h hi h0 =>
  intro T up i hT
  cases hT with
  | leaf _ _ _ _ => intro r hr hk; rw [List.mem_singleton] at hr; subst hr; simp only [rowOf] at hk; omega
  | one _ u _ _ T h1 _ => rw [h0] at h1; cases h1
  | two _ u v _ _ T U h1 _ _ => rw [h0] at h1; cases h1
 | abs b t u k n h hs hk h0 hu0 ih =>
  intro T up i hT
  cases hT with
  | leaf _ _ _ h1 => rw [h0] at h1; cases h1
  | one _ u' _ _ T h1 hT =>
   rw [h0] at h1; cases h1
   intro r hr hk2
   rcases List.mem_cons.1 hr with rfl | hr
   ·exact ⟨k, hs, hk⟩
   ·exact ih hT r hr hk2
  | two _ u v _ _ T U h1 _ _ => rw [h0] at h1; cases h1
 | app b t u v n m h h0 hu0 hv0 ihu ihv =>
  intro T up i hT
  cases hT with
  | leaf _ _ _ h1 => rw [h0] at h1; cases h1
  | one _ u' _ _ T h1 hT => rw [h0] at h1; cases h1
  | two _ u' v' _ _ T U h1 hT hU =>
   rw [h0] at h1; cases h1
   intro r hr hk
   rcases List.mem_cons.1 hr with rfl | hr
   ·simp only [rowOf] at hk; omega
   ·rcases List.mem_append.1 hr with hr | hr
    ·exact ihu hT r hr hk
    ·exact ihv hU r hr hk
structure i8h (W : List d8g) (ty : List Ye) (i : Nat) : Prop where
 len : ty.length = W.length
 typ : ∀ j, i ≤ j → j < W.length → ∀ u ctx m, Node W j u ctx m → d9t ctx u = some (Am.get ty j)
 ok : ∀ j, i ≤ j → j < W.length → ∃ k, SOk (Am.get ty j) k ∧ k ≤ 201 * (W.length - j)
theorem i8h.set {W : List d8g} {ty : List Ye} {i : Nat} {s : Ye} (h : i8h W ty (i + 1)) (hi : i < W.length) (h1 : ∀ u ctx m, Node W i u ctx m → d9t ctx u = some s) (h2 : ∃ k, SOk s k ∧ k ≤ 201 * (W.length - i)) : i8h W (ty.set i s) i := by
 obtain ⟨a, b, c⟩ := h
 refine ⟨by simp [a], fun j hj hj2 u ctx m hn => ?_, fun j hj hj2 => ?_⟩
 ·rw [d2j]
  by_cases e : i = j
  ·subst e; rw [if_pos ⟨rfl, by omega⟩]; exact h1 u ctx m hn
  ·rw [if_neg (by omega)]; exact b j (by omega) hj2 u ctx m hn
 ·rw [d2j]
  by_cases e : i = j
  ·subst e; rw [if_pos ⟨rfl, by omega⟩]; exact h2
  ·rw [if_neg (by omega)]; exact c j (by omega) hj2
theorem d6D {W : List d8g} {i : Nat} {u : Yh} {ctx : List Ye} {m : Nat} (h : Node W i u ctx m) : (Am.get W i).kind = u.kind ∧ (Am.get W i).typ = u.type ∧ (1 ≤ u.kind ∧ u.kind ≤ 4) ∧ i < W.length := by
 cases h with
 | con _ _ _ up h e hl => rw [e]; exact ⟨rfl, rfl, by omega, hl⟩
 | var _ _ _ up h hi e hl hu hup => rw [e]; exact ⟨rfl, rfl, by omega, hl⟩
 | abs _ _ u _ up n h h0 e hl hu => rw [e]; exact ⟨rfl, rfl, by omega, hl⟩
 | app _ _ u v _ up n m h h0 e hl hu hv => rw [e]; exact ⟨rfl, rfl, by omega, hl⟩
theorem p0r {W : List d8g} {i : Nat} {t : Yh} {ctx : List Ye} {m : Nat} (h : Node W i t ctx m) (hk : t.kind = 3) : (Am.get W i).kids = [((i + 1 : Nat) : Int)] ∧ i + 1 < W.length ∧ ∃ u n, Node W (i + 1) u (ctx ++ [t.type]) n ∧ d9t ctx t = p7F t.type [d9t (ctx ++ [t.type]) u] := by
 cases h with
 | con _ _ _ up h e hl => omega
 | var _ _ _ up h hi e hl hu hup => omega
 | abs _ _ u _ up n h h0 e hl hu => rw [e]; exact ⟨rfl, (d6D hu).2.2.2, u, n, hu, p2Q h h0⟩
 | app _ _ u v _ up n m h h0 e hl hu hv => omega
theorem p0s {W : List d8g} {i : Nat} {t : Yh} {ctx : List Ye} {m : Nat} (h : Node W i t ctx m) (hk : t.kind = 4) : ∃ n, (Am.get W i).kids = [((i + 1 : Nat) : Int), ((i + 1 + n : Nat) : Int)] ∧ (i + 1 < W.length ∧ i + 1 + n < W.length) ∧ ∃ u v q, Node W (i + 1) u ctx n ∧ Node W (i + 1 + n) v ctx q ∧ d9t ctx t = i9v [d9t ctx u, d9t ctx v] := by
 cases h with
 | con _ _ _ up h e hl => omega
 | var _ _ _ up h hi e hl hu hup => omega
 | abs _ _ u _ up n h h0 e hl hu => omega
 | app _ _ u v _ up n m h h0 e hl hu hv => rw [e]; exact ⟨n, rfl, ⟨(d6D hu).2.2.2, (d6D hv).2.2.2⟩, u, v, m, hu, hv, i9x h h0⟩
theorem p4B {W : List d8g} {i : Nat} {t : Yh} {ctx : List Ye} {m : Nat} (h : Node W i t ctx m) (hk : t.kind = 1) : d9t ctx t = some t.type := by
 rw [d6f, if_pos hk]
theorem UpC.len {W : List d8g} {up : Int} {ctx : List Ye} (h : UpC W up ctx) : (ctx.length : Int) ≤ up + 1 := by
 induction h with
 | top => simp
 | abs i ctx hi hk hu h ih => simp only [List.length_append, List.length_cons, List.length_nil]; omega
 | app i ctx hi hk hu h ih => omega
theorem p0t {W : List d8g} {i : Nat} {t : Yh} {ctx : List Ye} {m : Nat} (h : Node W i t ctx m) (hk : t.kind = 2) (hl : W.length ≤ 1000) : Evt (fun n => d1t n W i) (fun p => (0 ≤ p ∧ p < W.length ∧ (Am.get W p.toNat).kind = 3) ∧ d9t ctx t = some (Am.get W p.toNat).typ) := by
 cases h with
 | con _ _ _ up h e hl => omega
 | var _ _ _ up h hi e hl2 hu hup =>
  have := hu.len
  exact (p2R e hl2 hi (by omega) hu).mono fun p hp => ⟨hp.1, by rw [d6f, if_neg (by omega), if_pos hk, hp.2]⟩
 | abs _ _ u _ up n h h0 e hl hu => omega
 | app _ _ u v _ up n m h h0 e hl hu hv => omega
theorem Evt.uniq {α : Type} {x : Nat → Option α} {P : α → Prop} {r : α} (h : Evt x (fun a => a = r)) (k : Evt x P) : P r := by
 obtain ⟨a, rfl, N, hN⟩ := h
 obtain ⟨b, hb, M, hM⟩ := k
 have h1 := hN (max N M) (by omega)
 have h2 := hM (max N M) (by omega)
 rw [h1] at h2
 cases h2
 exact hb
theorem i8i {W : List d8g} {t : Yh} {n : Nat} {ty : List Ye} {i : Nat} (hr : p5q W) (hw : W.length ≤ 1000) (hT : Node W 0 t [] n) (hn : n = W.length) (hi : i < W.length) (h : i8h W ty (i + 1)) :
  Evt (fun k => d0y k W (ty, (i : Int))) (i8z (fun s => i8h W s.1 i ∧ s.2 = (i : Int) - 1) (fun _ => False) (fun r => r.2 = false ∧ d9t [] t = none)) := by
 obtain ⟨u, ctx, m, hN, hS⟩ := p6D hT i (by omega) (by omega)
 obtain ⟨hk, r5b, hk4, _⟩ := d6D hN
 have hlen := h.len
 have hw1 : wr .i64 ((i : Int) - 1) = (i : Int) - 1 := d0n (by omega) (by omega)
 unfold d0y
 simp only [Int.toNat_natCast, hw1]
 refine Evt.cond (fun _ => Evt.chk (by omega) ?_) (fun e => ?_)
 ·refine Evt.cond (fun e => ?_) (fun e => Evt.cond (fun e2 => ?_) (fun e2 => Evt.cond (fun e3 => ?_) (fun e3 => Evt.cond (fun e4 => ?_) (fun e4 => ?_))))
  ·replace e := bx e
   obtain ⟨k, hk1, hk2⟩ := hr _ (get_mem hi) (.inl e)
   refine Evt.chk (by omega) (Evt.d6r (Evt.pure ⟨h.set hi (fun u' ctx' m' h' => ?_) ⟨k, hk1, by omega⟩, rfl⟩))
   rw [(d6D h').2.1]
   exact p4B h' (by rw [← (d6D h').1]; exact e)
  ·replace e2 := bx e2
   obtain ⟨p, hp, hpe⟩ := (p0t hN (by rw [← hk]; exact e2) hw).eq
   refine Evt.bind hpe fun q hq => ?_
   subst hq
   obtain ⟨⟨p0, p1, p3⟩, _⟩ := hp
   obtain ⟨k, hk1, hk2⟩ := hr _ (get_mem (l := W) (k := q.toNat) (by omega)) (.inr p3)
   refine Evt.chk ⟨p0, p1⟩ (Evt.chk (by omega) (Evt.d6r (Evt.pure ⟨h.set hi (fun u' ctx' m' h' => ?_) ⟨k, hk1, by omega⟩, rfl⟩)))
   exact (Evt.uniq hpe (p0t h' (by rw [← (d6D h').1]; exact e2) hw)).2
  ·replace e3 := bx e3
   obtain ⟨p1f, hi1, u1, n1, hN1, hty⟩ := p0r hN (by rw [← hk]; exact e3)
   have g0 : Am.get [((i + 1 : Nat) : Int)] 0 = ((i + 1 : Nat) : Int) := rfl
   obtain ⟨k, hk1, hk2⟩ := hr _ (get_mem hi) (.inr e3)
   obtain ⟨k', hk1', hk2'⟩ := h.ok (i + 1) (by omega) hi1
   simp only [p1f, g0, Int.toNat_natCast, d5y, Option.bind_some]
   refine Evt.chk (by simp) (Evt.chk (by omega) (Evt.chk (by omega) (Evt.d6r (Evt.pure ⟨h.set hi (fun u' ctx' m' h' => ?_) ⟨_, .node _ _ _ _ _ rfl rfl hk1 hk1', by omega⟩, rfl⟩))))
   obtain ⟨_, _, u2, n2, hN2, r2R⟩ := p0r h' (by rw [← (d6D h').1]; exact e3)
   rw [r2R, h.typ (i + 1) (by omega) hi1 _ _ _ hN2, (d6D h').2.1]
   rfl
  ·replace e4 := bx e4
   obtain ⟨n1, p1f, ⟨hi1, hi2⟩, u1, v1, q1, hN1, hN2, hty⟩ := p0s hN (by rw [← hk]; exact e4)
   have g0 : Am.get [((i + 1 : Nat) : Int), ((i + 1 + n1 : Nat) : Int)] 0 = ((i + 1 : Nat) : Int) := rfl
   have g1 : Am.get [((i + 1 : Nat) : Int), ((i + 1 + n1 : Nat) : Int)] 1 = ((i + 1 + n1 : Nat) : Int) := rfl
   have gl : [((i + 1 : Nat) : Int), ((i + 1 + n1 : Nat) : Int)].length = 2 := rfl
   have key : ∀ u' ctx' m', Node W i u' ctx' m' → d9t ctx' u' = i9v [some (Am.get ty (i + 1)), some (Am.get ty (i + 1 + n1))] := fun u' ctx' m' h' => by
    obtain ⟨n1', p5r, ⟨r5c, r2S⟩, u1', v1', q1', r2T, r2U, r2V⟩ := p0s h' (by rw [← (d6D h').1]; exact e4)
    rw [p1f] at p5r
    have : n1' = n1 := by
     have := (List.cons.inj (List.cons.inj p5r).2).1
     omega
    subst this
    rw [r2V, h.typ (i + 1) (by omega) hi1 _ _ _ r2T, h.typ (i + 1 + n1') (by omega) r2S _ _ _ r2U]
   obtain ⟨k, hk1, hk2⟩ := h.ok (i + 1) (by omega) hi1
   obtain ⟨k', hk1', hk2'⟩ := h.ok (i + 1 + n1) (by omega) hi2
   simp only [p1f, g0, g1, gl, Int.toNat_natCast]
   generalize hf : Am.get ty (i + 1) = f at *
   generalize hx : Am.get ty (i + 1 + n1) = x at *
   have bad : i9v [some f, some x] = none → d9t [] t = none := fun hb => Classical.byContradiction fun hc => hS hc (by rw [key _ _ _ hN, hb])
   refine Evt.chk (by omega) (Evt.chk (by omega) (Evt.chk (by omega) (Evt.chk (by omega) ?_)))
   cases hk1 with
   | leaf _ hb h0 =>
    have : f.base ≠ [] := by rcases hb with h | h <;> rw [h] <;> simp
    simp only [this, decide_false, Bool.not_false, cond_true, Bool.not_true]
    refine Evt.chk (ZO fun h => by cases h) (Evt.pure ⟨rfl, bad ?_⟩)
    unfold i9v
    simp only []
    rw [if_neg (by rw [h0]; simp)]
   | node _ a c j l e1 e2 e3 e4 =>
    have hl2 : (f.args.length : Int) = 2 := by rw [e2]; rfl
    simp only [e1, hl2, decide_true, Bool.not_true, Bool.not_false, cond_false]
    have ga : Am.get f.args 0 = a := by rw [e2]; rfl
    refine Evt.chk (ZO fun _ => by omega) (Evt.bind (i4N (s := Am.get f.args 0) (t := x) (by rw [ga]; exact e3) hk1' (by omega) (by omega)) fun w hw2 => Evt.cond (fun e => Evt.pure ⟨rfl, bad ?_⟩) (fun e => Evt.chk (by omega) (Evt.chk (by omega) (Evt.d6r (Evt.pure ⟨h.set hi (fun u' ctx' m' h' => ?_) ⟨l, by rw [e2]; exact e4, by omega⟩, rfl⟩)))))
    ·replace e := bx e
     unfold i9v
     simp only []
     rw [if_neg]
     intro hh
     rw [hw2.2 hh.2] at e; cases e
    ·replace e := bx e
     rw [key _ _ _ h']
     unfold i9v
     simp only []
     rw [if_pos ⟨by omega, hw2.1 e⟩]
  ·replace e := bx e; replace e2 := bx e2; replace e3 := bx e3; replace e4 := bx e4
   omega
 ·replace e := bx e
  have : ¬ (0 : Int) ≤ (i : Int) := by omega
  omega
theorem i7b {t : Yh} {n : Nat} (h : WfT 0 t n) (hn : n ≤ 1000) : Evt (fun k => d2z k t) (TyR [] t) := by
 unfold d2z p2S
 refine Evt.bind (p4A h (-1) 0 (by omega)) fun W hW => ?_
 obtain ⟨hl, hT⟩ := hW
 have hN : Node W 0 t [] n := p6C h rfl hT hl ⟨by omega, fun k _ => by rw [Nat.zero_add]⟩ .top (by omega)
 have hro := p6E h hT
 have hpos := (d6D hN).2.2.2
 have hw1 : wr .i64 ((W.length : Int) - 1) = (W.length : Int) - 1 := d0n (by omega) (by omega)
 rw [hw1]
 refine Evt.chk (by rw [d5N]; omega) (Evt.YN (P := ExP (fun ty => i8h W ty 0) (fun r : Ye × Bool => r.2 = false ∧ d9t [] t = none)) (Evt.loop (fun s : List Ye × Int => (s.2 + 1).toNat) (fun s => ∃ i : Nat, i ≤ W.length ∧ s.2 = (i : Int) - 1 ∧ i8h W s.1 i) _ _ ⟨W.length, Nat.le_refl _, rfl, by simp, fun j h1 h2 => by omega, fun j h1 h2 => by omega⟩ (fun s hs => ?_)) (fun ty hty => ?_) (fun r hr => .inr hr))
 ·obtain ⟨i, hi, hs2, hinv⟩ := hs
  obtain ⟨ty, x⟩ := s
  simp only at hs2 hinv
  subst hs2
  match i, hi, hinv with
  | 0, hi, hinv =>
   unfold d0y
   refine Evt.cond (fun e => ?_) (fun e => Evt.pure hinv)
   replace e := bx e
   have e : (0 : Int) ≤ ((0 : Nat) : Int) - 1 := e
   omega
  | i + 1, hi, hinv =>
   have := i8i hro (by omega) hN (by omega) (by omega) hinv
   rw [show (((i + 1 : Nat) : Int) - 1) = (i : Int) by omega]
   refine this.mono fun c hc => ?_
   cases c with
   | nxt s' => exact ⟨⟨i, by omega, hc.2, hc.1⟩, by show (s'.2 + 1).toNat < ((i : Int) + 1).toNat; rw [hc.2]; omega⟩
   | brk t' => exact hc.elim
   | ret r => exact hc
 ·have hty : i8h W ty 0 := hty
  unfold d2F
  have := hty.len
  exact Evt.chk (by omega) (Evt.pure (.inl ⟨rfl, hty.typ 0 (by omega) (by omega) _ _ _ hN⟩))
theorem i7c (t : Yh) : Ev2 (fun n => d5j n t) (fun n => d1u n t) (fun a b => a = b) := by
 unfold d5j d1u
 have h1 := i0d _ t (Nat.le_refl _) 1 0 0 (by omega) (by omega) (by omega) (by omega) (by omega) (by omega)
 refine Ev2.d5E h1 fun a ha => ?_
 obtain ⟨rfl, _⟩ := ha
 by_cases hc : (i0Q t 1 0 0).1.code = 0
 ·obtain ⟨n, hwf, _, hn⟩ := p6B _ t (Nat.le_refl _) 1 0 0 hc
  refine Ev2.i5B (i1n t) (fun u hu => ?_) (fun r hr => ?_)
  ·simp only [hc, decide_true, Bool.not_true, cond_false]
   unfold d1S
   refine Ev2.d5E (i8f hwf (ctx := []) ⟨rfl, fun j hj => by omega⟩ (by omega) (by omega)) fun x hx => Ev2.i9n (i7b hwf (by omega)) fun y hy => ?_
   have e : x.2 = y.2 := by
    rcases hx with ⟨h1, h2⟩ | ⟨h1, h2⟩ <;> rcases hy with ⟨h3, h4⟩ | ⟨h3, h4⟩
    ·rw [h1, h3]
    ·rw [h4] at h2; cases h2
    ·rw [h4] at h2; cases h2
    ·rw [h1, h3]
   rw [e]
   exact Ev2.cond rfl (fun _ => Ev2.pure rfl) (fun _ => Ev2.pure rfl)
  ·rw [if_pos hc] at hr; cases hr
 ·refine Ev2.i5B (i1n t) (fun u hu => ?_) (fun r hr => ?_)
  ·rw [if_neg hc] at hu; cases hu
  ·rw [if_neg hc] at hr; cases hr
   simp only [hc, decide_false, Bool.not_false, cond_true]
   exact Evt.pure rfl
end Go.Proofs.YtgaeiccgdpnkkaaGreatDoor
namespace Go.Proofs.YtgaeiccgdpnkkaaGreatDoor
open Go Go.Am Go.Lib
theorem p5s (s : Bs) : (bs s).data.toList = s := by simp [bs]
theorem p9h (s : Bs) : (bs s).size = s.length := by simp [bs, ByteArray.size]
theorem d8h {s : Bs} {p : Nat} (h : p < s.length) : 1 ≤ d7j s p := by
 unfold d7j
 rw [if_pos h]
 exact Lib.decode_width_pos _ _ (by rw [p9h]; exact h)
theorem p2T (s : Bs) (i : Int) : 0 ≤ Yx s i := by unfold Yx; omega
theorem d5z (s : Bs) (i : Nat) : Yx s i = ((s.getD i 0).toNat : Int) := by unfold Yx; rw [Int.toNat_natCast]
def rpos (s : Bs) : Nat → Nat
 | 0 => 0
 | k + 1 => rpos s k + d7j s (rpos s k)
def RC (s : Bs) (c : Nat) : Prop := s.length ≤ rpos s c ∧ ∀ j, j < c → rpos s j < s.length
theorem i4O (s : Bs) {j k : Nat} (h : j ≤ k) : rpos s j ≤ rpos s k := by
  induction k with
  | zero => have : j = 0 := by omega
            subst this; exact Nat.le_refl _
  | succ k ih =>
    by_cases e : j = k + 1
    · subst e; exact Nat.le_refl _
    · have := ih (by omega)
      show rpos s j ≤ rpos s k + d7j s (rpos s k)
      omega
theorem RC.uniq {s : Bs} {c d : Nat} (h : RC s c) (k : RC s d) : c = d := by
 rcases Nat.lt_trichotomy c d with e | e | e
 ·have := k.2 c e; have := h.1; omega
 ·exact e
 ·have := h.2 d e; have := k.1; omega
theorem p2U {s : Bs} : ∀ {k : Nat}, (∀ j, j < k → rpos s j < s.length) → k ≤ rpos s k
 | 0, _ => Nat.le_refl _
 | k + 1, h => by
  have h1 := p2U (s := s) (k := k) (fun j hj => h j (by omega))
  have h2 := d8h (h k (by omega))
  show k + 1 ≤ rpos s k + d7j s (rpos s k)
  omega
theorem p9i {s : Bs} {c : Nat} (h : ∀ j, j < c → rpos s j < s.length) : c ≤ s.length := by
 cases c with
 | zero => omega
 | succ c => have h1 := p2U (s := s) (k := c) (fun j hj => h j (by omega)); have h2 := h c (by omega); omega
theorem i8j (s : Bs) (hs : s.length < 4294967296) : Evt (fun n => d0w n s) (fun v => ∃ c : Nat, v = c ∧ RC s c) := by
 unfold d0w
 refine Evt.YN (P := ExP (fun v : Int => ∃ c : Nat, v = c ∧ RC s c) (fun _ => False)) (Evt.loop (fun u : Nat × Int => s.length - u.1) (fun u => ∃ k : Nat, u = (rpos s k, (k : Int)) ∧ ∀ j, j < k → rpos s j < s.length) _ _ ⟨0, rfl, fun j hj => by omega⟩ (fun u hu => ?_)) (fun t ht => Evt.pure ht) (fun _ h => h.elim)
 obtain ⟨k, rfl, hk⟩ := hu
 unfold d0F
 have hkl := p9i hk
 refine Evt.cond (fun e => Evt.pure ?_) (fun e => Evt.pure ?_)
 ·replace e := bx e
  have e : rpos s k < s.length := e
  have := d8h e
  refine ⟨⟨k + 1, ?_, fun j hj => ?_⟩, by show s.length - (rpos s k + d7j s (rpos s k)) < s.length - rpos s k; omega⟩
  ·show (rpos s k + d7j s (rpos s k), wr .i64 ((k : Int) + 1)) = _
   rw [d0n (by omega) (by omega)]; rfl
  ·by_cases ej : j = k
   ·subst ej; exact e
   ·exact hk j (by omega)
 ·replace e := bx e
  have e : s.length ≤ rpos s k := e
  exact ⟨k, rfl, e, hk⟩
def i3A (r : Int) : Prop := r = 32 ∨ r = 9 ∨ r = 10 ∨ r = 40 ∨ r = 41 ∨ r = 91 ∨ r = 93 ∨ r = 44 ∨ r = 59
def stops : Bs := [32, 9, 10, 40, 41, 91, 93, 44, 59]
theorem i4P (b : UInt8) : b ∈ stops ↔ i3A (b.toNat : Int) := by
 unfold stops i3A
 simp only [List.mem_cons, List.not_mem_nil, or_false, ← UInt8.toNat_inj]
 simp only [UInt8.reduceToNat]
 omega
theorem i9y {n b0 b1 b2 b3 : Nat} (h : (decodeN n b0 b1 b2 b3).1 < 128) : b0 < 128 ∧ (decodeN n b0 b1 b2 b3).1 = b0 := by
 unfold decodeN at h ⊢
 repeat' split at h
 all_goals first | (rename_i h1; exact ⟨h1, by simp [h1]⟩) | (exfalso; simp only at h; omega)
theorem decodeN_ascii {n b0 b1 b2 b3 : Nat} (h : b0 < 128) : decodeN n b0 b1 b2 b3 = (b0, 1) := by unfold decodeN; rw [if_pos h]
theorem p1g {n b0 b1 b2 b3 : Nat} : (2 ≤ (decodeN n b0 b1 b2 b3).2 → 128 ≤ b1) ∧ (3 ≤ (decodeN n b0 b1 b2 b3).2 → 128 ≤ b2) ∧ (4 ≤ (decodeN n b0 b1 b2 b3).2 → 128 ≤ b3) ∧ (decodeN n b0 b1 b2 b3).2 ≤ 4 := by
 unfold decodeN
 repeat' split
 all_goals (refine ⟨fun h => ?_, fun h => ?_, fun h => ?_, ?_⟩ <;> (try simp only at h) <;> (try simp only) <;> omega)
theorem p1h {n b0 b1 b2 b3 : Nat} (hn : 1 ≤ n) : (decodeN n b0 b1 b2 b3).2 ≤ n := by
 unfold decodeN
 repeat' split
 all_goals (simp only; omega)
theorem decodeL_le {l : Bs} (h : 0 < l.length) : (decodeL l).2 ≤ l.length := by rw [decodeL_N]; exact p1h h
theorem i9z (s : Bs) (p : Nat) : rune s p = ((decodeN (s.length - p) (s.getD p 0).toNat (s.getD (p + 1) 0).toNat (s.getD (p + 2) 0).toNat (s.getD (p + 3) 0).toNat).1 : Nat) := by
 unfold rune
 rw [decode_N, p5s]
theorem p4C {s : Bs} {p : Nat} (h : p < s.length) : d7j s p = (decodeN (s.length - p) (s.getD p 0).toNat (s.getD (p + 1) 0).toNat (s.getD (p + 2) 0).toNat (s.getD (p + 3) 0).toNat).2 := by
 unfold d7j
 rw [if_pos h, decode_N, p5s]
theorem p4D {s : Bs} {p : Nat} (h : rune s p < 128) : rune s p = ((s.getD p 0).toNat : Int) := by
 rw [i9z] at h ⊢
 rw [(i9y (by omega)).2]
theorem i9A {r : Int} (h : i3A r) : r < 128 := by unfold i3A at h; omega
def p5t (s : Bs) : Prop := ∃ k, rpos s k < s.length ∧ i3A (rune s (rpos s k))
theorem i2a {s : Bs} {p : Nat} (h : p < s.length) : s.getD p 0 ∈ s := by
 rw [List.getD_eq_getElem?_getD, List.getElem?_eq_getElem h]
 exact List.getElem_mem h
theorem p1i {s : Bs} {i : Nat} (hi : i < s.length) (hb : (s.getD i 0).toNat < 128) : ∃ k, rpos s k = i := by
 have key : ∀ m, ∃ k, (rpos s k = i) ∨ (rpos s k < i ∧ m ≤ rpos s k) := by
  intro m
  induction m with
  | zero =>
   by_cases h0 : i = 0
   ·exact ⟨0, .inl h0.symm⟩
   ·exact ⟨0, .inr ⟨by show 0 < i; omega, Nat.zero_le _⟩⟩
  | succ m ih =>
   obtain ⟨k, h | ⟨h1, h2⟩⟩ := ih
   ·exact ⟨k, .inl h⟩
   ·have hlt : rpos s k < s.length := by omega
    have hw := d8h hlt
    have hwe := p4C hlt
    have hin := p1g (n := s.length - rpos s k) (b0 := (s.getD (rpos s k) 0).toNat) (b1 := (s.getD (rpos s k + 1) 0).toNat) (b2 := (s.getD (rpos s k + 2) 0).toNat) (b3 := (s.getD (rpos s k + 3) 0).toNat)
    rw [← hwe] at hin
    have hstep : rpos s (k + 1) = rpos s k + d7j s (rpos s k) := rfl
    by_cases e : rpos s (k + 1) ≤ i
    ·by_cases e2 : rpos s (k + 1) = i
     ·exact ⟨k + 1, .inl e2⟩
     ·exact ⟨k + 1, .inr ⟨by omega, by omega⟩⟩
    ·exfalso
     obtain ⟨a1, a2, a3, a4⟩ := hin
     obtain ⟨d, hd⟩ : ∃ d, i = rpos s k + d := ⟨i - rpos s k, by omega⟩
     have hd' : d = 1 ∨ d = 2 ∨ d = 3 := by omega
     rcases hd' with rfl | rfl | rfl
     ·have := a1 (by omega); rw [← hd] at this; omega
     ·have := a2 (by omega); rw [← hd] at this; omega
     ·have := a3 (by omega); rw [← hd] at this; omega
 obtain ⟨k, h | ⟨h1, h2⟩⟩ := key i
 ·exact ⟨k, h⟩
 ·omega
theorem p4E (s : Bs) : p5t s ↔ ∃ b ∈ s, b ∈ stops := by
 constructor
 ·rintro ⟨k, h1, h2⟩
  refine ⟨s.getD (rpos s k) 0, i2a h1, (i4P _).2 ?_⟩
  rw [← p4D (i9A h2)]
  exact h2
 ·rintro ⟨b, hb, hs⟩
  obtain ⟨i, hi, e⟩ := List.getElem_of_mem hb
  have e2 : s.getD i 0 = b := by rw [List.getD_eq_getElem?_getD, List.getElem?_eq_getElem hi]; exact e
  have h3 := (i4P b).1 hs
  have p9f := i9A h3
  obtain ⟨k, hk⟩ := p1i hi (by rw [e2]; omega)
  refine ⟨k, by omega, ?_⟩
  rw [hk, i9z, e2, decodeN_ascii (by omega)]
  exact h3
theorem i0S {j0 : Int × Int × Int} {l : Bs} {r i : Int} (hi0 : 0 ≤ i) (hi : i < j0.1) (h1 : i < l.length) (h4 : i < 5) (hr : 0 ≤ r) (hr2 : r < 100000000000) (hg : 128 ≤ Yx l i ∧ Yx l i ≤ 191) : d4C (fun _ => YX j0 l) (r, i) (64 * r + Yx l i - 128, i + 1) := by
 refine d4C.one ?_
 unfold YX
 refine Evt.cond (fun _ => Evt.chk ⟨hi0, h1⟩ (Evt.cond (fun e => ?_) (fun _ => Evt.pure ?_))) (fun e => ?_)
 ·replace e := bx e
  have e : Yx l i < 128 ∨ 191 < Yx l i := e
  omega
 ·show Ctl.nxt (wr .i64 (wr .i64 (wr .i64 (64 * r) + wr .i64 (Yx l i)) - 128), wr .i64 (i + 1)) = _
  have hb := p2T l i
  rw [d0n (n := 64 * r) (by omega) (by omega), d0n (n := Yx l i) (by omega) (by omega), d0n (n := 64 * r + Yx l i) (by omega) (by omega), d0n (by omega) (by omega), d0n (by omega) (by omega)]
 ·replace e := bx e
  have e : j0.1 ≤ i := e
  omega
theorem i6l {j0 : Int × Int × Int} {l : Bs} {r i : Int} (hi0 : 0 ≤ i) (hi : i < j0.1) (h1 : i < l.length) (hg : Yx l i < 128 ∨ 191 < Yx l i) : d6U (fun _ => YX j0 l) (r, i) (.ret 0) := by
 refine d6U.ret ?_
 unfold YX
 refine Evt.cond (fun _ => Evt.chk ⟨hi0, h1⟩ (Evt.cond (fun e => Evt.pure rfl) (fun e => ?_))) (fun e => ?_)
 ·replace e := bx e
  have e1 : 128 ≤ Yx l i := e.1
  have e2 : Yx l i ≤ 191 := e.2
  omega
 ·replace e := bx e
  have e : j0.1 ≤ i := e
  omega
theorem p2V {j0 : Int × Int × Int} {l : Bs} {r i : Int} (hi : i = j0.1) : d6U (fun _ => YX j0 l) (r, i) (.nxt r) := by
 refine d6U.brk ?_
 unfold YX
 refine Evt.cond (fun e => ?_) (fun _ => Evt.pure rfl)
 replace e := bx e
 have e : i < j0.1 := e
 omega
theorem i2l {j0 : Int × Int × Int} {l : Bs} {e : Ex Int Int} {v : Int} (hl : ¬ (l.length : Int) < j0.1) (h : d6U (fun _ => YX j0 l) (j0.2.2, 1) e) (hv : (e = .ret v) ∨ ∃ r, e = .nxt r ∧ v = if r < j0.2.1 ∨ 1114111 < r ∨ (55296 ≤ r ∧ r ≤ 57343) then 0 else j0.1) : Evt (fun n => Ze n l j0) (fun w => w = v) := by
 unfold Ze
 refine Evt.cond (fun e2 => ?_) (fun _ => Evt.YN h.evt (fun t ht => ?_) (fun r hr => ?_))
 ·replace e2 := bx e2
  exact absurd e2 hl
 ·subst ht
  rcases hv with hv | ⟨r, hv, hv2⟩
  ·cases hv
  ·cases hv
   unfold d1E
   refine Evt.cond (fun e2 => Evt.pure ?_) (fun e2 => Evt.pure ?_)
   ·replace e2 := bx e2
    rw [hv2, if_pos (by omega)]
   ·replace e2 := bx e2
    rw [hv2, if_neg]
    rintro (h | h | h)
    ·omega
    ·omega
    ·simp [h] at e2; omega
 ·rcases hv with hv | ⟨q, hv, hv2⟩
  ·rw [hv] at hr; cases hr; rfl
  ·rw [hv] at hr; cases hr
theorem i7d {j0 : Int × Int × Int} {l : Bs} (hl : (l.length : Int) < j0.1) : Evt (fun n => Ze n l j0) (fun w => w = 0) := by
 unfold Ze
 exact Evt.cond (fun _ => Evt.pure rfl) (fun e => by replace e := bx e; omega)
def lenOf (p : Nat × Nat) : Int := if p.1 = 65533 ∧ p.2 = 1 then 0 else p.2
theorem d4D {p : Nat × Nat} (h : p = (65533, 1)) : lenOf p = 0 := by subst h; rfl
theorem i3a {p : Nat × Nat} (h : p.2 ≠ 1) : lenOf p = p.2 := by unfold lenOf; rw [if_neg (fun e => h e.2)]
theorem i7e {l : Bs} (hl : 0 < l.length) : Evt (fun n => d0X n l) (fun v => v = lenOf (decodeL l)) := by
 rw [decodeL_N]
 have e0 := d5z l 0
 have e1 := d5z l 1
 have e2 := d5z l 2
 have e3 := d5z l 3
 have q0 := (l.getD 0 0).toNat_lt
 have q1 := (l.getD 1 0).toNat_lt
 have q2 := (l.getD 2 0).toNat_lt
 have q3 := (l.getD 3 0).toNat_lt
 generalize (l.getD 0 0).toNat = b0 at *
 generalize (l.getD 1 0).toNat = b1 at *
 generalize (l.getD 2 0).toNat = b2 at *
 generalize (l.getD 3 0).toNat = b3 at *
 have e0 : Yx l 0 = (b0 : Int) := e0
 have e1 : Yx l 1 = (b1 : Int) := e1
 have e2 : Yx l 2 = (b2 : Int) := e2
 have e3 : Yx l 3 = (b3 : Int) := e3
 unfold d0X
 rw [e0]
 have w0 : wr .i64 (b0 : Int) = b0 := d0n (by omega) (by omega)
 rw [w0]
 refine Evt.chk (by omega) (Evt.cond (fun e => Evt.pure ?_) (fun e => Evt.cond (fun k => ?_) (fun k => Evt.cond (fun k2 => ?_) (fun k2 => Evt.cond (fun k3 => ?_) (fun k3 => Evt.pure ?_)))))
 ·replace e := bx e
  rw [decodeN_ascii (by omega)]
  unfold lenOf
  simp only
  rw [if_neg (by omega)]; rfl
 ·replace e := bx e; replace k := bx k
  rw [d0n (n := (b0 : Int) - 192) (by omega) (by omega)]
  by_cases hn : (l.length : Int) < 2
  ·refine (i7d hn).mono fun w hw => ?_
   rw [hw, d4D]
   unfold decodeN
   repeat' split
   all_goals first | rfl | (exfalso; omega)
  ·by_cases g1 : 128 ≤ Yx l 1 ∧ Yx l 1 ≤ 191
   ·have h := (i0S (j0 := (2, 128, (b0 : Int) - 192)) (l := l) (r := (b0 : Int) - 192) (i := 1) (by omega) (by show (1 : Int) < 2; omega) (by omega) (by omega) (by omega) (by omega) g1).ends (p2V rfl)
    refine i2l hn h (.inr ⟨_, rfl, ?_⟩)
    rw [e1] at g1 ⊢
    show _ = if 64 * ((b0 : Int) - 192) + (b1 : Int) - 128 < 128 ∨ 1114111 < 64 * ((b0 : Int) - 192) + (b1 : Int) - 128 ∨ (55296 ≤ 64 * ((b0 : Int) - 192) + (b1 : Int) - 128 ∧ 64 * ((b0 : Int) - 192) + (b1 : Int) - 128 ≤ 57343) then (0 : Int) else 2
    rw [if_neg (by omega)]
    obtain ⟨x, hx⟩ : ∃ x, decodeN l.length b0 b1 b2 b3 = (x, 2) := ⟨_, by unfold decodeN; rw [if_neg (by omega), if_pos (by omega), if_pos (by omega)]⟩
    rw [hx, i3a (by simp)]; rfl
   ·have h := i6l (j0 := (2, 128, (b0 : Int) - 192)) (l := l) (r := (b0 : Int) - 192) (i := 1) (by omega) (by show (1 : Int) < 2; omega) (by omega) (by omega)
    refine i2l hn h (.inl ?_)
    rw [e1] at g1
    rw [d4D]
    unfold decodeN
    repeat' split
    all_goals first | rfl | (exfalso; omega)
 ·replace e := bx e; replace k2 := bx k2
  have k := k2
  rw [d0n (n := (b0 : Int) - 224) (by omega) (by omega)]
  by_cases hn : (l.length : Int) < 3
  ·refine (i7d hn).mono fun w hw => ?_
   rw [hw, d4D]
   unfold decodeN
   repeat' split
   all_goals first | rfl | (exfalso; omega)
  ·by_cases g1 : 128 ≤ Yx l 1 ∧ Yx l 1 ≤ 191
   ·have s1 := i0S (j0 := (3, 2048, (b0 : Int) - 224)) (l := l) (r := (b0 : Int) - 224) (i := 1) (by omega) (by show (1 : Int) < 3; omega) (by omega) (by omega) (by omega) (by omega) g1
    by_cases g2 : 128 ≤ Yx l 2 ∧ Yx l 2 ≤ 191
    ·have h := (s1.trans (i0S (j0 := (3, 2048, (b0 : Int) - 224)) (l := l) (r := 64 * ((b0 : Int) - 224) + Yx l 1 - 128) (i := 2) (by omega) (by show (2 : Int) < 3; omega) (by omega) (by omega) (by omega) (by omega) g2)).ends (p2V rfl)
     refine i2l hn h (.inr ⟨_, rfl, ?_⟩)
     rw [e1] at g1; rw [e2] at g2; rw [e1, e2]
     generalize hr : 64 * (64 * ((b0 : Int) - 224) + (b1 : Int) - 128) + (b2 : Int) - 128 = r
     show _ = if r < 2048 ∨ 1114111 < r ∨ (55296 ≤ r ∧ r ≤ 57343) then (0 : Int) else 3
     by_cases hc : r < 2048 ∨ 1114111 < r ∨ (55296 ≤ r ∧ r ≤ 57343)
     ·rw [if_pos hc, d4D]
      unfold decodeN
      repeat' split
      all_goals first | rfl | (exfalso; omega)
     ·rw [if_neg hc]
      obtain ⟨x, hx⟩ : ∃ x, decodeN l.length b0 b1 b2 b3 = (x, 3) := ⟨_, by unfold decodeN; rw [if_neg (by omega), if_neg (by omega), if_pos (by omega), if_pos (by omega)]⟩
      rw [hx, i3a (by simp)]; rfl
    ·have h := s1.ends (i6l (i := 2) (by omega) (by show (2 : Int) < 3; omega) (by omega) (by omega))
     refine i2l hn h (.inl ?_)
     rw [e1] at g1; rw [e2] at g2
     rw [d4D]
     unfold decodeN
     repeat' split
     all_goals first | rfl | (exfalso; omega)
   ·have h := i6l (j0 := (3, 2048, (b0 : Int) - 224)) (l := l) (r := (b0 : Int) - 224) (i := 1) (by omega) (by show (1 : Int) < 3; omega) (by omega) (by omega)
    refine i2l hn h (.inl ?_)
    rw [e1] at g1
    rw [d4D]
    unfold decodeN
    repeat' split
    all_goals first | rfl | (exfalso; omega)
 ·replace e := bx e; replace k3 := bx k3
  rw [d0n (n := (b0 : Int) - 240) (by omega) (by omega)]
  by_cases hn : (l.length : Int) < 4
  ·refine (i7d hn).mono fun w hw => ?_
   rw [hw, d4D]
   unfold decodeN
   repeat' split
   all_goals first | rfl | (exfalso; omega)
  ·by_cases g1 : 128 ≤ Yx l 1 ∧ Yx l 1 ≤ 191
   ·have s1 := i0S (j0 := (4, 65536, (b0 : Int) - 240)) (l := l) (r := (b0 : Int) - 240) (i := 1) (by omega) (by show (1 : Int) < 4; omega) (by omega) (by omega) (by omega) (by omega) g1
    by_cases g2 : 128 ≤ Yx l 2 ∧ Yx l 2 ≤ 191
    ·have s2 := s1.trans (i0S (j0 := (4, 65536, (b0 : Int) - 240)) (l := l) (r := 64 * ((b0 : Int) - 240) + Yx l 1 - 128) (i := 2) (by omega) (by show (2 : Int) < 4; omega) (by omega) (by omega) (by omega) (by omega) g2)
     by_cases g3 : 128 ≤ Yx l 3 ∧ Yx l 3 ≤ 191
     ·have h := (s2.trans (i0S (j0 := (4, 65536, (b0 : Int) - 240)) (l := l) (r := 64 * (64 * ((b0 : Int) - 240) + Yx l 1 - 128) + Yx l 2 - 128) (i := 3) (by omega) (by show (3 : Int) < 4; omega) (by omega) (by omega) (by omega) (by omega) g3)).ends (p2V rfl)
      refine i2l hn h (.inr ⟨_, rfl, ?_⟩)
      rw [e1] at g1; rw [e2] at g2; rw [e3] at g3; rw [e1, e2, e3]
      generalize hr : 64 * (64 * (64 * ((b0 : Int) - 240) + (b1 : Int) - 128) + (b2 : Int) - 128) + (b3 : Int) - 128 = r
      show _ = if r < 65536 ∨ 1114111 < r ∨ (55296 ≤ r ∧ r ≤ 57343) then (0 : Int) else 4
      by_cases hc : r < 65536 ∨ 1114111 < r ∨ (55296 ≤ r ∧ r ≤ 57343)
      ·rw [if_pos hc, d4D]
       unfold decodeN
       repeat' split
       all_goals first | rfl | (exfalso; omega)
      ·rw [if_neg hc]
       obtain ⟨x, hx⟩ : ∃ x, decodeN l.length b0 b1 b2 b3 = (x, 4) := ⟨_, by unfold decodeN; rw [if_neg (by omega), if_neg (by omega), if_neg (by omega), if_pos (by omega), if_pos (by omega)]⟩
       rw [hx, i3a (by simp)]; rfl
     ·have h := s2.ends (i6l (i := 3) (by omega) (by show (3 : Int) < 4; omega) (by omega) (by omega))
      refine i2l hn h (.inl ?_)
      rw [e1] at g1; rw [e2] at g2; rw [e3] at g3
      rw [d4D]
      unfold decodeN
      repeat' split
      all_goals first | rfl | (exfalso; omega)
    ·have h := s1.ends (i6l (i := 2) (by omega) (by show (2 : Int) < 4; omega) (by omega) (by omega))
     refine i2l hn h (.inl ?_)
     rw [e1] at g1; rw [e2] at g2
     rw [d4D]
     unfold decodeN
     repeat' split
     all_goals first | rfl | (exfalso; omega)
   ·have h := i6l (j0 := (4, 65536, (b0 : Int) - 240)) (l := l) (r := (b0 : Int) - 240) (i := 1) (by omega) (by show (1 : Int) < 4; omega) (by omega) (by omega)
    refine i2l hn h (.inl ?_)
    rw [e1] at g1
    rw [d4D]
    unfold decodeN
    repeat' split
    all_goals first | rfl | (exfalso; omega)
 ·replace e := bx e; replace k := bx k; replace k2 := bx k2; replace k3 := bx k3
  rw [d4D]
  unfold decodeN
  repeat' split
  all_goals first | rfl | (exfalso; omega)
theorem p6F : ∀ b : Fin 256, ∀ i : Fin 8, decide ((b.val * 2 ^ (8 * i.val)) &&& 9259542123273814144 = 0) = decide (b.val < 128) := by decide +kernel
theorem d7n (b : UInt8) (i : Nat) (hi : i < 8) : (b.toNat * 2 ^ (8 * i)) &&& 9259542123273814144 = 0 ↔ b.toNat < 128 := by
 have := p6F ⟨b.toNat, b.toNat_lt⟩ ⟨i, hi⟩
 simpa using this
def IsW (v : Int) (w : Nat) : Prop := v = w ∧ w < 18446744073709551616
theorem IsW.or {v u : Int} {w x : Nat} (h : IsW v w) (k : IsW u x) : IsW (d1G .or .u64 v u) (w ||| x) := by
 obtain ⟨rfl, h⟩ := h
 obtain ⟨rfl, k⟩ := k
 exact ⟨i7Y h k, Nat.or_lt_two_pow (n := 64) h k⟩
theorem d9N (b : UInt8) (i : Nat) (hi : i < 8) : IsW (wr .u64 (wr .u64 (b.toNat : Int) * 2 ^ (min (8 * i) 64))) (b.toNat * 2 ^ (8 * i)) := by
 have hb := b.toNat_lt
 have h1 : b.toNat * 2 ^ (8 * i) ≤ 255 * 2 ^ 56 := Nat.mul_le_mul (by omega) (Nat.pow_le_pow_right (by decide) (by omega))
 have h2 : b.toNat * 2 ^ (8 * i) < 18446744073709551616 := by omega
 refine ⟨?_, h2⟩
 have e1 : wr .u64 (b.toNat : Int) = (b.toNat : Int) := d5i (by omega)
 have e2 : min (8 * i) 64 = 8 * i := by omega
 rw [e1, e2]
 have e3 : ((b.toNat : Int) * 2 ^ (8 * i)) = ((b.toNat * 2 ^ (8 * i) : Nat) : Int) := by simp
 rw [e3]
 exact d5i h2
theorem p4F (b : UInt8) : IsW (wr .u64 (b.toNat : Int)) (b.toNat * 2 ^ (8 * 0)) := by
 have hb := b.toNat_lt
 have e1 : wr .u64 (b.toNat : Int) = (b.toNat : Int) := d5i (by omega)
 exact ⟨by rw [e1]; simp, by simp; omega⟩
theorem i7f {v : Int} {w : Nat} (h : IsW v w) : d1G .and .u64 v 9259542123273814144 = 0 ↔ w &&& 9259542123273814144 = 0 := by
 obtain ⟨rfl, h⟩ := h
 have := d9o (x := w) (y := 9259542123273814144) h (by decide)
 have e : ((9259542123273814144 : Nat) : Int) = 9259542123273814144 := rfl
 rw [e] at this
 rw [this]
 omega
theorem d4t {s : Bs} (h : 8 ≤ s.length) : Evt (fun _ => Zn s) (fun v => ∃ w, IsW v w ∧ (w &&& 9259542123273814144 = 0 ↔ ∀ b ∈ s.take 8, b.toNat < 128)) := by
 match s, h with
 | b0 :: b1 :: b2 :: b3 :: b4 :: b5 :: b6 :: b7 :: t, h =>
  unfold Zn
  refine Evt.cond (fun e => by cases e) (fun _ => Evt.chk (by omega) (Evt.chk (by omega) (Evt.chk (by omega) (Evt.chk (by omega) (Evt.chk (by omega) (Evt.chk (by omega) (Evt.chk (by omega) (Evt.chk (by omega) (Evt.pure ⟨_, (((((((p4F b0).or (d9N b1 1 (by omega))).or (d9N b2 2 (by omega))).or (d9N b3 3 (by omega))).or (d9N b4 4 (by omega))).or (d9N b5 5 (by omega))).or (d9N b6 6 (by omega))).or (d9N b7 7 (by omega)), ?_⟩)))))))))
  simp only [or_mask, d7n _ _ (show 0 < 8 by omega), d7n _ _ (show 1 < 8 by omega), d7n _ _ (show 2 < 8 by omega), d7n _ _ (show 3 < 8 by omega), d7n _ _ (show 4 < 8 by omega), d7n _ _ (show 5 < 8 by omega), d7n _ _ (show 6 < 8 by omega), d7n _ _ (show 7 < 8 by omega)]
  simp only [List.take_succ_cons, List.take_zero, List.mem_cons, List.not_mem_nil, or_false, forall_eq_or_imp, forall_eq]
  simp only [and_assoc]
theorem d6g {s : Bs} (h : ∀ b ∈ s.take 8, b.toNat < 128) : validD s = validD (s.drop 8) := validD_ascii 8 s h
theorem i3b (L : Nat) (V : Bool) (s : Bs) (hs : s.length ≤ L) (hv : validD s = V) : Evt (fun _ => d0Y s) (i8z (fun s' => (s'.length ≤ L ∧ validD s' = V) ∧ s'.length < s.length) (fun t => t.length ≤ L ∧ validD t = V) (fun _ => False)) := by
 unfold d0Y
 by_cases h : (32 : Int) < (s.length : Int)
 ·simp only [h, decide_true, i1m, cond_true]
  refine Evt.bind (d4t (by omega)) fun a ha => Evt.chk (ZO fun _ => by omega) (Evt.bind (d4t (by rw [List.length_drop]; omega)) fun b hb => Evt.chk (ZO fun _ => by omega)
   (Evt.bind (d4t (by rw [List.length_drop]; omega)) fun c hc => Evt.chk ⟨ZO fun _ => by omega, ZO fun _ => by omega⟩ (Evt.bind (d4t (by rw [List.length_drop]; omega)) fun d hd => Evt.cond (fun e => Evt.chk ⟨by omega, by omega⟩ (Evt.pure ?_)) (fun _ => Evt.pure ⟨hs, hv⟩))))
  replace e := bx e
  obtain ⟨wa, ia, ma⟩ := ha
  obtain ⟨wb, ib, mb⟩ := hb
  obtain ⟨wc, ic, mc⟩ := hc
  obtain ⟨wd, id, md⟩ := hd
  have e2 := (i7f ((ia.or ib).or (ic.or id))).1 e
  simp only [or_mask, ma, mb, mc, md] at e2
  obtain ⟨⟨k1, k2⟩, k3, k4⟩ := e2
  refine ⟨⟨by rw [List.length_drop]; omega, ?_⟩, by rw [List.length_drop]; omega⟩
  have r1 := d6g k1
  have r2 := d6g k2
  have r3 := d6g k3
  have r4 := d6g k4
  rw [List.drop_drop] at r2 r3 r4
  rw [← hv, r1, r2, r3, r4]
 ·simp only [h, decide_false, i5D, cond_false, Option.bind_some]
  exact Evt.chk (ZO fun h => Bool.noConfusion h) (Evt.chk (ZO fun h => Bool.noConfusion h) (Evt.chk ⟨ZO fun h => Bool.noConfusion h, ZO fun h => Bool.noConfusion h⟩ (Evt.pure ⟨hs, hv⟩)))
theorem p6G : ∀ b : Fin 256, Am.get d9n b.val = (firstT b.val : Int) ∧ wr .i64 (d1G .and .u8 (Am.get d9n b.val) 7) = ((firstT b.val % 8 : Nat) : Int) ∧ Int.fdiv (Am.get d9n b.val) (2 ^ (min 4 8)) = ((firstT b.val / 16 : Nat) : Int) ∧ firstT b.val / 16 < 16 := by decide +kernel
theorem p6H : ∀ k : Fin 16, (Am.get i1A k.val).lo = (accLo k.val : Int) ∧ (Am.get i1A k.val).hi = (accHi k.val : Int) := by decide +kernel
theorem take_one : ∀ {s : Bs}, (s.getD 0 0).toNat < 128 → ∀ b ∈ s.take 1, b.toNat < 128
 | [], _, c, hc => by simp at hc
 | b :: t, h, c, hc => by
  simp only [List.take_succ_cons, List.take_zero, List.mem_singleton] at hc
  subst hc
  exact h
theorem i3c (V : Bool) (s : Bs) (hv : validD s = V) : Evt (fun n => d0Z n s) (i8z (fun s' => validD s' = V ∧ s'.length < s.length) (fun _ => V = true) (fun r => r = V)) := by
 unfold d0Z
 refine Evt.cond (fun e => ?_) (fun e => Evt.pure ?_)
 rotate_left
 ·replace e := bx e
  have : s = [] := List.eq_nil_of_length_eq_zero (by omega)
  subst this
  exact hv.symm
 replace e := bx e
 have hne : s ≠ [] := fun h => by rw [h] at e; simp at e
 have hb := d5z s 0
 have q0 := (s.getD 0 0).toNat_lt
 have hb : Yx s 0 = ((s.getD 0 0).toNat : Int) := hb
 refine Evt.chk e (Evt.cond (fun e2 => ?_) (fun e2 => ?_))
 ·replace e2 := bx e2
  have h1 : validD s = validD (s.drop 1) := validD_ascii 1 s (take_one (by omega))
  have hl1 : (s.drop 1).length = s.length - 1 := List.length_drop
  refine Evt.chk ⟨by omega, by omega⟩ ?_
  by_cases h8 : (8 : Int) < ((s.drop 1).length : Int)
  ·simp only [h8, decide_true, i1m, cond_true]
   refine Evt.bind (d4t (by omega)) fun a ha => Evt.cond (fun e3 => ?_) (fun _ => Evt.pure ⟨by rw [← h1]; exact hv, by omega⟩)
   replace e3 := bx e3
   obtain ⟨wa, ia, ma⟩ := ha
   have k1 := ma.1 ((i7f ia).1 e3)
   have h2 := d6g k1
   have hl2 : ((s.drop 1).drop 8).length = s.length - 9 := by rw [List.length_drop, hl1]; omega
   have hv2 : validD ((s.drop 1).drop 8) = V := by rw [← h2, ← h1]; exact hv
   generalize (s.drop 1).drop 8 = u at *
   refine Evt.chk ⟨by omega, by omega⟩ ?_
   by_cases h16 : (16 : Int) < (u.length : Int)
   ·simp only [h16, decide_true, i1m, cond_true]
    refine Evt.bind (d4t (by omega)) fun b hb => Evt.chk (ZO fun _ => by omega) (Evt.bind (d4t (by rw [List.length_drop]; omega)) fun c hc => Evt.cond (fun e4 => ?_) (fun _ => Evt.pure ⟨hv2, by omega⟩))
    replace e4 := bx e4
    obtain ⟨wb, ib, mb⟩ := hb
    obtain ⟨wc, ic, mc⟩ := hc
    have e5 := (i7f (ib.or ic)).1 e4
    simp only [or_mask, mb, mc] at e5
    have r1 := d6g e5.1
    have r2 := d6g e5.2
    rw [List.drop_drop] at r2
    refine Evt.chk ⟨by omega, by omega⟩ (Evt.YN (P := ExP (fun t : Bs => t.length ≤ u.length ∧ validD t = V) (fun _ => False)) (Evt.loop (fun u : Bs => u.length) (fun t => t.length ≤ u.length ∧ validD t = V) _ _ ⟨by rw [List.length_drop]; omega, by rw [← hv2, r1, r2]⟩ (fun t ht => i3b _ V t ht.1 ht.2)) (fun t ht => ?_) (fun r hr => hr.elim))
    unfold d2o d0e
    exact Evt.pure ⟨ht.2, by have := ht.1; omega⟩
   ·simp only [h16, decide_false, i5D, cond_false, Option.bind_some]
    exact Evt.chk (ZO fun h => Bool.noConfusion h) (Evt.pure ⟨hv2, by omega⟩)
  ·simp only [h8, decide_false, i5D, cond_false, Option.bind_some]
   exact Evt.pure ⟨by rw [← h1]; exact hv, by omega⟩
 ·replace e2 := bx e2
  have d9O := validD_lead s hne (by omega)
  obtain ⟨_, t2, t3, t4⟩ := p6G ⟨(s.getD 0 0).toNat, q0⟩
  obtain ⟨a1, a2⟩ := p6H ⟨firstT (s.getD 0 0).toNat / 16, t4⟩
  have hbn : (Yx s 0).toNat = (s.getD 0 0).toNat := by omega
  simp only at t2 t3 t4 a1 a2
  rw [hbn]
  simp only [t2, t3, Int.toNat_natCast, a1, a2]
  refine Evt.chk ⟨by omega, by omega⟩ (Evt.chk ⟨by omega, by omega⟩ ?_)
  generalize firstT (s.getD 0 0).toNat % 8 = Z at *
  generalize accLo (firstT (s.getD 0 0).toNat / 16) = lo at *
  generalize accHi (firstT (s.getD 0 0).toNat / 16) = hi at *
  have e1 : Yx s 1 = ((s.getD 1 0).toNat : Int) := d5z s 1
  have e2 : Yx s 2 = ((s.getD 2 0).toNat : Int) := d5z s 2
  have e3 : Yx s 3 = ((s.getD 3 0).toNat : Int) := d5z s 3
  rw [e1, e2, e3]
  generalize (s.getD 1 0).toNat = b1 at *
  generalize (s.getD 2 0).toNat = b2 at *
  generalize (s.getD 3 0).toNat = b3 at *
  rw [hv] at d9O
  unfold checkN at d9O
  refine Evt.cond (fun k => ?_) (fun k => Evt.cond (fun k2 => ?_) (fun k2 => Evt.cond (fun k3 => ?_) (fun k3 => Evt.pure ?_)))
  ·replace k := bx k
   have hZ : Z = 2 := by omega
   rw [if_pos hZ] at d9O
   refine Evt.chk (ZO fun c => by replace c := bx c; omega) (Evt.chk (ZO fun c => by replace c := bx c; omega) (Evt.cond (fun c => Evt.pure ?_) (fun c => ?_)))
   ·replace c := bx c
    rw [if_pos (by omega)] at d9O
    exact d9O.symm
   ·replace c := bx c
    rw [if_neg (by omega)] at d9O
    exact Evt.chk ⟨by omega, by omega⟩ (Evt.pure ⟨d9O.symm, by rw [List.length_drop]; omega⟩)
  ·replace k2 := bx k2
   have hZ : Z = 3 := by omega
   rw [if_neg (by omega), if_pos hZ] at d9O
   refine Evt.chk (ZO fun c => by replace c := bx c; omega) (Evt.chk (ZO fun c => by replace c := bx c; omega) (Evt.chk (ZO fun c => by replace c := bx c; omega) (Evt.chk (ZO fun c => by replace c := bx c; omega) (Evt.cond (fun c => Evt.pure ?_) (fun c => ?_)))))
   ·replace c := bx c
    rw [if_pos (by omega)] at d9O
    exact d9O.symm
   ·replace c := bx c
    rw [if_neg (by omega)] at d9O
    exact Evt.chk ⟨by omega, by omega⟩ (Evt.pure ⟨d9O.symm, by rw [List.length_drop]; omega⟩)
  ·replace k3 := bx k3
   have hZ : Z = 4 := by omega
   rw [if_neg (by omega), if_neg (by omega), if_pos hZ] at d9O
   refine Evt.chk (ZO fun c => by replace c := bx c; omega) (Evt.chk (ZO fun c => by replace c := bx c; omega) (Evt.chk (ZO fun c => by replace c := bx c; omega) (Evt.chk (ZO fun c => by replace c := bx c; omega) (Evt.chk (ZO fun c => by replace c := bx c; omega) (Evt.chk (ZO fun c => by replace c := bx c; omega) (Evt.cond (fun c => Evt.pure ?_) (fun c => ?_)))))))
   ·replace c := bx c
    rw [if_pos (by omega)] at d9O
    exact d9O.symm
   ·replace c := bx c
    rw [if_neg (by omega)] at d9O
    exact Evt.chk ⟨by omega, by omega⟩ (Evt.pure ⟨d9O.symm, by rw [List.length_drop]; omega⟩)
  ·replace k := bx k; replace k2 := bx k2; replace k3 := bx k3
   rw [if_neg (by omega), if_neg (by omega), if_neg (by omega)] at d9O
   exact d9O.symm
theorem i5F (s : Bs) : Evt (fun n => d2f n s) (fun r => r = validD s) := by
 unfold d2f
 exact Evt.YN (P := ExP (fun _ => validD s = true) (fun r => r = validD s)) (Evt.loop (fun u : Bs => u.length) (fun u => validD u = validD s) _ _ rfl (fun u hu => i3c _ u hu)) (fun t ht => Evt.pure (Eq.symm ht)) (fun _ h => h)
theorem i3s (c : Bs) : ∀ l : Bs, 0 ≤ Lib.indexAny l c ↔ ∃ b ∈ l, b ∈ c
 | [] => by simp [Lib.indexAny]
 | b :: l => by
  have ih := i3s c l
  have hge := Lib.indexAny_ge c l
  unfold Lib.indexAny
  by_cases hb : c.contains b = true
  ·rw [if_pos hb]
   have : b ∈ c := by simpa using hb
   exact ⟨fun _ => ⟨b, by simp, this⟩, fun _ => by decide⟩
  ·rw [if_neg hb]
   have hn : b ∉ c := by simpa using hb
   by_cases h1 : Lib.indexAny l c = -1
   ·rw [if_pos (by simp [h1])]
    constructor
    ·intro h; omega
    ·rintro ⟨x, hx, hc⟩
     rcases List.mem_cons.1 hx with rfl | hx
     ·exact absurd hc hn
     ·have := ih.2 ⟨x, hx, hc⟩; omega
   ·rw [if_neg (by simp [h1])]
    constructor
    ·intro _
     obtain ⟨x, hx, hc⟩ := ih.1 (by omega)
     exact ⟨x, by simp [hx], hc⟩
    ·intro _; omega
theorem i2m (c : UInt8) : ∀ l : Bs, 0 ≤ Lib.indexByte l c ↔ c ∈ l
  | [] => by simp [Lib.indexByte]
  | b :: l => by
    have ih := i2m c l
    unfold Lib.indexByte
    by_cases hb : b = c
    · subst hb; simp
    · rw [if_neg (by simp [hb])]
      have hn : ¬ c = b := fun h => hb h.symm
      by_cases h1 : Lib.indexByte l c = -1
      · rw [if_pos (by simp [h1])]
        simp only [List.mem_cons, hn, false_or, ← ih]
        omega
      · rw [if_neg (by simp [h1])]
        simp only [List.mem_cons, hn, false_or, ← ih]
        have : -1 ≤ Lib.indexByte l c := by
          clear ih h1
          induction l with
          | nil => simp [Lib.indexByte]
          | cons x l ihl => unfold Lib.indexByte; split; · decide
                            · split; · decide
                              · omega
        omega
theorem d8i (s : Bs) (c : Int) : Evt (fun _ => d4E s c) (fun v => v = Lib.indexByte s c.toNat.toUInt8) := Evt.pure rfl
theorem i8k {r : Int} (h : 128 ≤ r) : ∃ (l : Bs) (b : UInt8), ZW r = l ++ [b] ∧ 1 ≤ l.length ∧ l.length ≤ 3 ∧ 128 ≤ b.toNat := by
 have key : ∀ c : Nat, 128 ≤ c → 128 ≤ (UInt8.ofNat (0x80 + c % 64)).toNat := fun c _ => by
  rw [UInt8.toNat_ofNat']
  omega
 unfold ZW Utf8.encode
 have hc : 128 ≤ (if Utf8.valid r then r.toNat else Utf8.runeError) := by
  split
  ·omega
  ·decide
 generalize (if Utf8.valid r then r.toNat else Utf8.runeError) = c at hc
 simp only
 split
 ·omega
 ·split
  ·exact ⟨[_], _, rfl, by simp, by simp, key c hc⟩
  ·split
   ·exact ⟨[_, _], _, rfl, by simp, by simp, key c hc⟩
   ·exact ⟨[_, _, _], _, rfl, by simp, by simp, key c hc⟩
theorem i4Q : stops.all (fun b => decide (b.toNat < 128)) = true := by decide
theorem p1j {l : Bs} {b : UInt8} : Yx (l ++ [b]) l.length = b.toNat := by
 unfold Yx
 rw [Int.toNat_natCast, List.getD_eq_getElem?_getD, List.getElem?_append_right (Nat.le_refl _)]
 simp
theorem i7g (k : Nat) : (stops.getD k 0).toNat < 128 := by
 rw [List.getD_eq_getElem?_getD]
 by_cases h : k < stops.length
 ·rw [List.getElem?_eq_getElem h]
  exact of_decide_eq_true (List.all_eq_true.1 i4Q _ (List.getElem_mem h))
 ·rw [List.getElem?_eq_none (by omega)]
  simp
theorem i8l (k : Nat) : Yx stops k < 128 := by
 rw [d5z]
 have := i7g k
 omega
theorem i2n : ∀ (l : List UInt8) (c : UInt8), (∀ b ∈ l, b ≠ c) → Lib.indexByte l c = -1
 | [], _, _ => rfl
 | b :: l, c, h => by
  have hb : (b == c) = false := beq_false_of_ne (h b (List.mem_cons_self ..))
  have ih := i2n l c (fun x hx => h x (List.mem_cons_of_mem _ hx))
  simp [Lib.indexByte, hb, ih]
theorem i4R (r : Int) (h : 128 ≤ r) : Evt (fun n => d3j n r stops ()) (i8z (fun _ => False) (fun _ => True) (fun v => v = -1)) := by
 obtain ⟨l, b, e, h1, h3, hb⟩ := i8k h
 have hl : (ZW r).length = l.length + 1 := by rw [e]; simp
 have hs : stops.length = 9 := rfl
 have hw : wr .i64 (((ZW r).length : Int) - 1) = (l.length : Int) := by
  rw [hl, d0n (by omega) (by omega)]; omega
 have hw2 : wr .i64 ((l.length : Int) + 1) = ((l.length + 1 : Nat) : Int) := by
  rw [d0n (by omega) (by omega)]; omega
 have r1g : Yx (ZW r) (l.length : Int) = b.toNat := by rw [e]; exact p1j
 have hst := i8l l.length
 unfold d3j
 rw [hw, hw2, r1g, Int.toNat_natCast]
 refine Evt.cond (fun _ => ?_) (fun _ => Evt.pure trivial)
 refine Evt.chk (by omega) (Evt.chk (by omega) (Evt.cond (fun _ => ?_) (fun e2 => ?_)))
 ·refine Evt.chk (by omega) (Evt.bind (d8i _ _) fun v hv => Evt.cond (fun _ => Evt.pure rfl) (fun e3 => ?_))
  exfalso
  have hn : Lib.indexByte (stops.drop (l.length + 1)) ((b.toNat : Int).toNat.toUInt8) = -1 := i2n _ _ (fun x hx e4 => by
   have hm : x ∈ stops := List.mem_of_mem_drop hx
   have := of_decide_eq_true (List.all_eq_true.1 i4Q _ hm)
   have e5 : x = b := by rw [e4]; simp
   rw [e5] at this
   omega)
  rw [hn] at hv
  replace e3 := bx e3
  omega
 ·exfalso
  replace e2 := bx e2
  omega
theorem i8m (r : Int) (hr : 0 ≤ r) : Evt (fun n => d3D n stops r) (fun v => 0 ≤ v ↔ i3A r) := by
 have no : 128 ≤ r → ((0 : Int) ≤ -1 ↔ i3A r) := fun h => ⟨fun h => by omega, fun h2 => by have := i9A h2; omega⟩
 unfold d3D
 refine Evt.cond (fun e => Evt.bind (d8i _ _) fun v hv => Evt.pure ?_) (fun e => ?_)
 ·replace e := bx e
  obtain ⟨c, rfl⟩ : ∃ c : Nat, r = c := ⟨r.toNat, by omega⟩
  have e1 : wr .u8 (c : Int) = (c : Int) := by
   have h1 : IntKind.u8.min = 0 := by decide
   have h2 : IntKind.u8.max = 255 := by decide
   exact i6A ⟨by omega, by omega⟩
  rw [hv, e1, Int.toNat_natCast, i2m, i4P]
  have : (c.toUInt8).toNat = c := by
   rw [Nat.toUInt8, UInt8.toNat_ofNat']
   omega
  rw [this]
 have h128 : 128 ≤ r := by
  by_cases h : 128 ≤ r
  ·exact h
  ·exfalso
   have e1 : decide (0 ≤ r) = true := decide_eq_true hr
   have e2 : decide (r < 128) = true := decide_eq_true (by omega)
   rw [e1, e2] at e
   cases e
 refine Evt.cond (fun _ => ?_) (fun _ => ?_)
 ·refine Evt.YN (P := ExP (fun _ => True) (fun _ => False)) (Evt.loop (fun u : Nat => stops.length - u) (fun _ => True) _ _ trivial (fun u _ => ?_)) (fun t _ => Evt.pure (no h128)) (fun _ h => h.elim)
  unfold d4u
  refine Evt.cond (fun e => ?_) (fun _ => Evt.pure trivial)
  replace e := bx e
  have := d8h e
  refine Evt.chk e (Evt.cond (fun e2 => ?_) (fun _ => Evt.pure ⟨trivial, by omega⟩))
  replace e2 := bx e2
  exfalso
  rw [i9z, decodeN_ascii (i7g u)] at e2
  have := i7g u
  simp only at e2
  omega
 ·refine Evt.bind (P := fun _ => True) ?_ fun v _ => Evt.cond (fun _ => Evt.pure (no h128)) (fun _ => ?_)
  ·unfold d3Z
   exact Evt.cond (fun _ => Evt.pure trivial) (fun _ => Evt.cond (fun _ => Evt.pure trivial) (fun _ => Evt.pure trivial))
  ·exact Evt.YN (P := ExP (fun _ => True) (fun v => v = -1)) (Evt.loop (fun _ : Unit => 0) (fun _ => True) _ _ trivial (fun u _ => (i4R r h128).mono fun c hc => by
    cases c with
    | nxt s => exact hc.elim
    | brk t => trivial
    | ret x => exact hc)) (fun t _ => Evt.pure (no h128)) (fun r h => (show r = -1 from h).symm ▸ no h128)
theorem i5G (s : Bs) (hs : s.length < 4294967281) : Evt (fun n => d2G n s [32, 9, 10, 40, 41, 91, 93, 44, 59]) (fun r => r = true ↔ p5t s) := by
 show Evt (fun n => d2G n s stops) _
 unfold d2G
 refine Evt.bind (P := fun v => 0 ≤ v ↔ p5t s) ?_ fun v hv => Evt.pure (by rw [decide_eq_true_eq]; exact hv)
 unfold d6E
 refine Evt.cond (fun _ => Evt.chk ⟨by decide, hs, by decide, i4Q⟩ (Evt.pure (by rw [i3s, p4E]))) (fun e => ?_)
 replace e := bx e
 unfold d5Y
 refine Evt.cond (fun e2 => by cases e2) (fun _ => Evt.cond (fun e2 => ?_) (fun _ => ?_))
 ·replace e2 := bx e2
  exact absurd e2 (by decide)
 refine Evt.bind (P := fun b => b = false) (Evt.pure ?_) fun b hb => Evt.cond (fun e2 => ?_) (fun _ => ?_)
 ·exact decide_eq_false (by omega)
 ·rw [hb] at e2; cases e2
 unfold d4v
 refine Evt.YN (P := ExP (fun _ => ¬ p5t s) (fun v => 0 ≤ v ∧ p5t s)) (Evt.loop (fun u : Nat => s.length - u) (fun u => ∃ k, u = rpos s k ∧ ∀ j, j < k → ¬ i3A (rune s (rpos s j))) _ _ ⟨0, rfl, fun j hj => by omega⟩ (fun u hu => ?_)) (fun t ht => Evt.pure ⟨fun h => by omega, fun h => absurd h ht⟩) (fun r h => ⟨fun _ => h.2, fun _ => h.1⟩)
 obtain ⟨k, rfl, hk⟩ := hu
 unfold d4w
 refine Evt.cond (fun e2 => ?_) (fun e2 => Evt.pure ?_)
 ·replace e2 := bx e2
  have := d8h e2
  refine Evt.chk e2 (Evt.bind (i8m _ (by unfold rune; omega)) fun v hv => Evt.cond (fun e3 => Evt.pure ?_) (fun e3 => Evt.pure ⟨⟨k + 1, rfl, fun j hj => ?_⟩, by omega⟩))
  ·replace e3 := bx e3
   exact ⟨by omega, k, e2, hv.1 e3⟩
  ·replace e3 := bx e3
   by_cases ej : j = k
   ·subst ej; intro h; have := hv.2 h; omega
   ·exact hk j (by omega)
 ·replace e2 := bx e2
  rintro ⟨j, h1, h2⟩
  by_cases hj : j < k
  ·exact hk j hj h2
  ·have := i4O s (show k ≤ j by omega); omega
def p0u (s : Bs) : Prop := (∃ c, RC s c ∧ 1 ≤ c ∧ c ≤ 30) ∧ validD s = true ∧ ¬ p5t s
theorem RC.ex (s : Bs) : ∃ c, RC s c := by
 obtain ⟨c, _, h⟩ : ∃ c, c ≤ s.length ∧ s.length ≤ rpos s c := ⟨s.length, Nat.le_refl _, by
  have : ∀ k, k ≤ rpos s k ∨ s.length ≤ rpos s k := fun k => by
   induction k with
   | zero => left; exact Nat.le_refl _
   | succ k ih =>
    have hs : rpos s (k + 1) = rpos s k + d7j s (rpos s k) := rfl
    rcases ih with h | h
    ·by_cases hl : rpos s k < s.length
     ·have := d8h hl; left; omega
     ·right; omega
    ·right; omega
  rcases this s.length with h | h <;> omega⟩
 induction c with
 | zero => exact ⟨0, h, fun j hj => by omega⟩
 | succ c ih =>
  by_cases hc : s.length ≤ rpos s c
  ·exact ih (by omega) hc
  ·exact ⟨c + 1, h, fun j hj => by have := i4O s (show j ≤ c by omega); omega⟩
theorem i5H (s : Bs) (hs : s.length < 4294967281) : Evt (fun n => d8j n s) (fun r => r = true ↔ p0u s) := by
 unfold d8j
 refine Evt.bind (i8j s (by omega)) fun v hv => ?_
 obtain ⟨c, rfl, hc⟩ := hv
 by_cases hr : 1 ≤ c ∧ c ≤ 30
 ·have e1 : (decide ((1 : Int) ≤ (c : Int))) = true := decide_eq_true (by omega)
  have e2 : (decide ((c : Int) ≤ 30)) = true := decide_eq_true (by omega)
  simp only [e1, e2, cond_true, i1m]
  refine Evt.bind (i5F s) fun b hb => ?_
  subst hb
  cases hv : validD s with
  | true =>
   simp only [i1m, cond_true]
   refine Evt.bind (i5G s hs) fun b hb => Evt.pure ?_
   unfold p0u
   cases b with
   | true => simp only [Bool.not_true]; exact ⟨fun h => (by cases h), fun h => absurd (hb.1 rfl) h.2.2⟩
   | false => simp only [Bool.not_false]; exact ⟨fun _ => ⟨⟨c, hc, hr⟩, hv, fun h => by have := hb.2 h; cases this⟩, fun _ => (by trivial)⟩
  | false =>
   simp only [i5D, cond_false, Option.bind_some]
   exact Evt.pure ⟨fun h => (by cases h), fun h => by have := h.2.1; rw [hv] at this; cases this⟩
 ·have e3 : (bif (decide ((1 : Int) ≤ (c : Int))) then (decide ((c : Int) ≤ 30)) else false) = false := by
   cases h1 : decide ((1 : Int) ≤ (c : Int)) with
   | true =>
    have := of_decide_eq_true h1
    simp only [cond_true, decide_eq_false_iff_not]; omega
   | false => rfl
  simp only [e3, i5D, cond_false, Option.bind_some]
  refine Evt.pure ⟨fun h => (by cases h), fun h => ?_⟩
  obtain ⟨⟨d, hd, h1⟩, _⟩ := h
  have := hc.uniq hd
  omega
theorem i0A {s : Bs} {p : Nat} : (bif (bif (bif (bif (bif (bif (bif (bif (decide ((rune s p) = 32)) then true else (decide ((rune s p) = 9))) then true else (decide ((rune s p) = 10))) then true else (decide ((rune s p) = 40))) then true else (decide ((rune s p) = 41))) then true else (decide ((rune s p) = 91))) then true else (decide ((rune s p) = 93))) then true else (decide ((rune s p) = 44))) then true else (decide ((rune s p) = 59))) = true ↔ i3A (rune s p) := by
 generalize rune s p = r
 unfold i3A
 simp only [Bool.cond_true_left, Bool.or_eq_true, decide_eq_true_eq]
 omega
theorem i9B (s : Bs) (hs : s.length < 4294967281) : Evt (fun n => d3k n s) (fun r => r = true ↔ p0u s) := by
 unfold d3k
 refine Evt.YN (P := ExP (fun v : Int => (∃ c : Nat, v = c ∧ RC s c) ∧ ¬ p5t s) (fun r => r = false ∧ p5t s)) (Evt.loop (fun u : Nat × Int => s.length - u.1) (fun u => ∃ k : Nat, u = (rpos s k, (k : Int)) ∧ ∀ j, j < k → rpos s j < s.length ∧ ¬ i3A (rune s (rpos s j))) _ _ ⟨0, rfl, fun j hj => by omega⟩ (fun u hu => ?_)) (fun t ht => ?_) (fun r h => ?_)
 ·obtain ⟨k, rfl, hk⟩ := hu
  have hkl := p9i fun j hj => (hk j hj).1
  unfold d3t
  refine Evt.cond (fun e => ?_) (fun e => Evt.pure ?_)
  ·replace e := bx e
   have e : rpos s k < s.length := e
   have := d8h e
   refine Evt.chk e (Evt.cond (fun e2 => Evt.pure ?_) (fun e2 => Evt.pure ?_))
   ·exact ⟨rfl, k, e, i0A.1 e2⟩
   ·have hn : ¬ i3A (rune s (rpos s k)) := fun h => by
     have h2 := i0A.2 h
     have e2 : _ = false := e2
     rw [h2] at e2; cases e2
    refine ⟨⟨k + 1, ?_, fun j hj => ?_⟩, by show s.length - (rpos s k + d7j s (rpos s k)) < s.length - rpos s k; omega⟩
    ·show (rpos s k + d7j s (rpos s k), wr .i64 ((k : Int) + 1)) = _
     rw [d0n (by omega) (by omega)]; rfl
    ·by_cases ej : j = k
     ·subst ej; exact ⟨e, hn⟩
     ·exact hk j (by omega)
  ·replace e := bx e
   have e : s.length ≤ rpos s k := e
   refine ⟨⟨k, rfl, e, fun j hj => (hk j hj).1⟩, ?_⟩
   rintro ⟨j, h1, h2⟩
   by_cases hj : j < k
   ·exact (hk j hj).2 h2
   ·have := i4O s (show k ≤ j by omega); omega
 ·obtain ⟨⟨c, hc0, hc⟩, hns⟩ := ht
  subst hc0
  unfold d3u
  refine Evt.cond (fun e => Evt.pure ⟨fun h => (by cases h), fun h => ?_⟩) (fun e => ?_)
  ·replace e := bx e
   obtain ⟨⟨d, hd, h1⟩, _⟩ := h
   have := hc.uniq hd
   omega
  ·replace e := bx e
   refine Evt.YN (P := ExP (fun _ => validD s = true) (fun r => r = false ∧ validD s = false)) (Evt.loop (fun u : Int => s.length - u.toNat) (fun u => 0 ≤ u ∧ u ≤ s.length ∧ validD (s.drop u.toNat) = validD s) _ _ ⟨by omega, by omega, rfl⟩ (fun u hu => ?_)) (fun t ht => Evt.pure ⟨fun _ => ⟨⟨c, hc, by omega⟩, ht, hns⟩, fun _ => rfl⟩) (fun r h => ?_)
   ·obtain ⟨h0, h1, h2⟩ := hu
    unfold d3v
    refine Evt.cond (fun e2 => ?_) (fun e2 => Evt.pure ?_)
    ·replace e2 := bx e2
     have hlen : (s.drop u.toNat).length = s.length - u.toNat := List.length_drop
     have hne : s.drop u.toNat ≠ [] := fun h => by rw [h] at hlen; simp at hlen; omega
     refine Evt.chk ⟨h0, by omega⟩ (Evt.bind (i7e (by omega)) fun v hv => ?_)
     have hst := validD_step _ hne
     have hw1 := decodeL_width (s.drop u.toNat)
     have hw2 : (decodeL (s.drop u.toNat)).2 ≤ (s.drop u.toNat).length := decodeL_le (by omega)
     unfold lenOf at hv
     by_cases hb : (decodeL (s.drop u.toNat)).1 = 65533 ∧ (decodeL (s.drop u.toNat)).2 = 1
     ·rw [if_pos hb] at hst hv
      refine Evt.cond (fun e3 => Evt.pure ⟨rfl, by rw [← h2, hst]⟩) (fun e3 => ?_)
      replace e3 := bx e3
      exact absurd hv e3
     ·rw [if_neg hb] at hst hv
      refine Evt.cond (fun e3 => ?_) (fun e3 => Evt.pure ?_)
      ·replace e3 := bx e3
       omega
      ·have hwr : wr .i64 (u + v) = u + v := d0n (by omega) (by omega)
       rw [hwr]
       have ht : (u + v).toNat = u.toNat + (decodeL (s.drop u.toNat)).2 := by omega
       refine ⟨⟨by omega, by omega, ?_⟩, by omega⟩
       rw [ht, ← List.drop_drop, ← hst, h2]
    ·replace e2 := bx e2
     have : s.drop u.toNat = [] := List.drop_eq_nil_of_le (by omega)
     rw [← h2, this]; rfl
   ·obtain ⟨rfl, h2⟩ := h
    refine ⟨fun h => (by cases h), fun h => ?_⟩
    have := h.2.1
    rw [h2] at this
    cases this
 ·obtain ⟨rfl, h2⟩ := h
  exact ⟨fun h => (by cases h), fun h => absurd h2 h.2.2⟩
end Go.Proofs.YtgaeiccgdpnkkaaGreatDoor
namespace Go.Am
open Go
theorem Evt.p9j {α : Type} {x : Nat → Option α} {P : α → Prop} {r : α} (h : Evt x (fun a => a = r)) (k : Evt x P) : P r := by
 obtain ⟨a, rfl, N, hN⟩ := h
 obtain ⟨b, hb, M, hM⟩ := k
 have h1 := hN (max N M) (by omega)
 have h2 := hM (max N M) (by omega)
 rw [h1] at h2
 cases h2
 exact hb
theorem Evt.and {α : Type} {x : Nat → Option α} {P Q : α → Prop} (h : Evt x P) (k : Evt x Q) : Evt x (fun a => P a ∧ Q a) := by
 obtain ⟨r, hr, e⟩ := h.eq
 exact e.mono fun a ha => by subst ha; exact ⟨hr, Evt.p9j e k⟩
theorem Ev2.split {α β : Type} {x : Nat → Option α} {y : Nat → Option β} {P : α → β → Prop} (h : Ev2 x y P) : ∃ a b, P a b ∧ Evt x (fun c => c = a) ∧ Evt y (fun c => c = b) := by
 obtain ⟨a, b, hp, N, hN⟩ := h
 exact ⟨a, b, hp, ⟨a, rfl, N, fun n hn => (hN n hn).1⟩, ⟨b, rfl, N, fun n hn => (hN n hn).2⟩⟩
theorem Ev2.join {α β : Type} {x : Nat → Option α} {y : Nat → Option β} {P : α → β → Prop} {a : α} {b : β} (hp : P a b) (h : Evt x (fun c => c = a)) (k : Evt y (fun c => c = b)) : Ev2 x y P :=
 (Ev2.both h k).mono fun a b h => by obtain ⟨rfl, rfl⟩ := h; exact hp
end Go.Am
namespace Go.Proofs.YtgaeiccgdpnkkaaGreatDoor
open Go Go.Am
def p0v (g : Yz) (kids : Int) : Prop := ∀ k : Nat, k < 4 → ∀ r, i0z g 0 k r → (0 ≤ r ↔ (k : Int) ≤ kids)
structure p0w (h : Yo) (r : Yi) : Prop where
 kids : 1 ≤ r.kids ∧ r.kids ≤ 3
 weight : 0 ≤ r.weight ∧ r.weight ≤ 1000000
 graph : d2V h r.graph
 places : p0v r.graph r.kids
structure p6I (h : Yo) (x : YT) : Prop where
 weight : 0 ≤ x.weight ∧ x.weight ≤ 1000000
 graph : d2V h x.graph
 word : p0u x.word
structure i1F (g : Yn) : Prop where
 hier : i4I g.hierarchy
 YL : 3 < g.hierarchy.YL.length
 rules : g.rules.length ≤ 40
 Yy : g.Yy.length ≤ 100
 rule : ∀ k, k < g.rules.length → p0w g.hierarchy (Am.get g.rules k)
 lex : ∀ k, k < g.Yy.length → p6I g.hierarchy (Am.get g.Yy k)
 start : d2V g.hierarchy g.start
def p6J (g : Yz) : Prop := ∀ k, k < g.nodes.length → (Am.get g.nodes k).links.length ≤ 9223372036854775807
theorem i3B {h : Yo} {g : Yz} (hg : d2V h g) (hh : h.YL.length ≤ 40) (kids : Int) : Evt (fun n => d4r n g kids) (fun b => b = true → p0v g kids) := by
 unfold d4r
 have h1 := hg.some
 refine Evt.YN (Evt.range (fun k _ => ∀ j : Nat, j < k → ∀ r, i0z g 0 j r → (0 ≤ r ↔ (j : Int) ≤ kids)) (fun _ => False) (fun b => b = false) (fun j hj => by omega) (fun k s hk hi => ?_)) (fun t ht => Evt.pure fun _ => ht.elim id False.elim) (fun r hr h => by rw [h] at hr; cases hr)
 unfold d2I
 refine Evt.bind (d7d hg hh (a := 0) (by omega) k) fun v hv => Evt.cond (fun _ => Evt.pure rfl) (fun e => Evt.pure fun j hj r hr => ?_)
 have hv : i0z g 0 k v := hv
 by_cases ej : j = k
 ·subst ej
  have := i0z.uniq hg (a := 0) h1 hr hv
  subst this
  simp only [Bool.not_eq_false', decide_eq_true_eq] at e
  by_cases h0 : 0 ≤ r
  ·simp [h0] at e; simp [h0, e]
  ·simp [h0] at e; simp only [h0, false_iff]; omega
 ·exact hi j (by omega) r hr
theorem i4S (t : Yh) : Ev2 (fun n => d5j n t) (fun n => ZR n t) (fun a b => a = b) := by
 unfold ZR
 obtain ⟨a, b, rfl, h, k⟩ := (i7c t).split
 exact Ev2.join rfl h (Evt.bind k fun v hv => by subst hv; exact Evt.pure rfl)
theorem i4T {h : Yo} (hh : i4I h) {t : YB} (ht : i9p h.types t) {r : Yi} (hlen : p6J r.graph) : Ev2 (fun n => d8k n h t r) (fun n => d1v n h r) (fun a b => a = b ∧ (a = 0 → p0w h r)) := by
 unfold d8k d1v
 refine Ev2.cond rfl (fun _ => Ev2.pure ⟨rfl, fun h => absurd (show (3 : Int) = 0 from h) (by decide)⟩) (fun e => ?_)
 replace e := bx e
 refine Ev2.bind (d8d hh ht hlen) fun f f' hf => ?_
 obtain ⟨rfl, hf⟩ := hf
 refine Ev2.cond rfl (fun e2 => Ev2.pure ⟨rfl, fun h => ?_⟩) (fun e2 => ?_)
 ·replace e2 := bx e2
  exact absurd h e2
 replace e2 := bx e2
 have hg := hf e2
 obtain ⟨b, ex, hbe, hl, hr⟩ := (p1d (r := r) hg hh.n r.kids rfl rfl).split
 have hpl := Evt.p9j hl (i3B hg hh.n r.kids)
 refine Ev2.d5E hl fun b' hb' => ?_
 subst hb'
 rcases hbe with ⟨rfl, rfl⟩ | ⟨rfl, rfl⟩
 ·simp only [Bool.not_true, cond_false]
  refine Ev2.i5B hr (fun t ht => ?_) (fun r hr => by cases hr)
  unfold d1T
  exact Ev2.bind (i4S r.meaning) fun a b hab => by subst hab; exact Ev2.pure ⟨rfl, fun _ => ⟨by omega, by omega, hg, hpl rfl⟩⟩
 ·simp only [Bool.not_false, cond_true]
  refine Ev2.i5B hr (fun t ht => by cases ht) (fun r hr => ?_)
  cases hr
  exact Evt.pure ⟨rfl, fun h => absurd (show (5 : Int) = 0 from h) (by decide)⟩
theorem i3C {h : Yo} (hh : i4I h) {t : YB} (ht : i9p h.types t) {x : YT} (hlen : p6J x.graph) (hw : x.word.length < 4294967281) : Ev2 (fun n => d7o n h t x) (fun n => d1U n h x) (fun a b => a = b ∧ (a = 0 → p6I h x)) := by
 unfold d7o d1U
 refine Ev2.bind (Ev2.both (i5H x.word hw) (i9B x.word hw)) fun a b hab => ?_
 have e0 : a = b := by
  cases a <;> cases b <;> simp_all
 subst e0
 refine Ev2.cond rfl (fun _ => Ev2.pure ⟨rfl, fun h => absurd (show (10 : Int) = 0 from h) (by decide)⟩) (fun e1 => ?_)
 replace e1 := bx e1
 refine Ev2.cond rfl (fun _ => Ev2.pure ⟨rfl, fun h => absurd (show (3 : Int) = 0 from h) (by decide)⟩) (fun e => ?_)
 replace e := bx e
 refine Ev2.bind (d8d hh ht hlen) fun f f' hf => ?_
 obtain ⟨rfl, hf⟩ := hf
 refine Ev2.cond rfl (fun e2 => Ev2.pure ⟨rfl, fun h => ?_⟩) (fun e2 => ?_)
 ·replace e2 := bx e2
  exact absurd h e2
 replace e2 := bx e2
 exact Ev2.bind (i4S x.meaning) fun a b hab => by subst hab; exact Ev2.pure ⟨rfl, fun _ => ⟨by omega, hf e2, hab.1.1 e1⟩⟩
structure Holds (g : Yn) : Prop where
 rule : ∀ k, k < g.rules.length → p6J (Am.get g.rules k).graph
 lex : ∀ k, k < g.Yy.length → p6J (Am.get g.Yy k).graph ∧ (Am.get g.Yy k).word.length < 4294967281
 start : p6J g.start
def p4G (P : Prop) (a b : Yg) : Prop := a = b ∧ (a.code = 0 → a = ⟨0, 0⟩ ∧ P)
theorem d8l {P : Prop} {a b : Int} (h : a ≠ 0) : p4G P ⟨a, b⟩ ⟨a, b⟩ := ⟨rfl, fun e => absurd e h⟩
theorem i1G {g : Yn} (hm : Holds g) : Ev2 (fun n => d4j n g) (fun n => d0E n g) (p4G (i1F g)) := by
 unfold d4j d0E
 refine Ev2.bind ((i0y g.hierarchy)) fun f f' hf => ?_
 obtain ⟨rfl, hf⟩ := hf
 refine Ev2.cond rfl (fun e => Ev2.pure ⟨rfl, fun h => ?_⟩) (fun e => ?_)
 ·replace e := bx e
  exact absurd h e
 replace e := bx e
 have hh := hf e
 refine Ev2.cond rfl (fun _ => Ev2.d5E (d3f _ _) fun f hf => by subst hf; exact Ev2.pure (d8l (by decide))) (fun e1 => ?_)
 replace e1 := bx e1
 refine Ev2.cond rfl (fun _ => Ev2.d5E (d3f _ _) fun f hf => by subst hf; exact Ev2.pure (d8l (by decide))) (fun e2 => ?_)
 replace e2 := bx e2
 refine Ev2.d5E (d8N hh.types) fun t ht => ?_
 refine Ev2.YN (Ev2.range (fun k s _ => Known (fun i => (Am.get g.rules i).name) k s ∧ ∀ i, i < k → p0w g.hierarchy (Am.get g.rules i)) (fun _ _ => False) (p4G (i1F g)) ⟨i2T, fun i hi => by omega⟩ (fun k s u hk hi => ?_)) (fun s u hu => ?_) (fun r r' hr => hr)
 ·obtain ⟨hkn, hp⟩ := hi
  unfold d4Z d0L
  refine Ev2.d5E (d9K _) fun a ha => Ev2.i9n (i1C _) fun b hb => ?_
  subst ha hb
  refine Ev2.cond rfl (fun _ => Ev2.d5E (d3f _ _) fun f hf => by subst hf; exact Ev2.pure (d8l (by decide))) (fun _ => ?_)
  refine Ev2.p5k (by omega) ?_
  have hlen : (g.rules.take k).length = k := by rw [List.length_take]; omega
  refine Ev2.i6X (fun e => ?_) (fun e => ?_)
  ·refine Ev2.i5B (i2V (fun i => (Am.get g.rules i).name) (Am.get g.rules k).name ⟨7, (k : Int)⟩ (fun j hj => ?_)) (fun t ht => ?_) (fun r hr => ?_)
   ·rw [hlen] at hj
    unfold ZV
    rw [d8M hj]
    by_cases e2 : (Am.get g.rules j).name = (Am.get g.rules k).name <;> simp [e2]
   ·rw [hlen] at ht
    rcases ht with ⟨_, h2⟩ | ⟨h1, _⟩
    ·exact absurd ((hkn _).1 e) h2
    ·cases h1
   ·rw [hlen] at hr
    rcases hr with ⟨h1, _⟩ | ⟨h1, _⟩
    ·cases h1
    ·cases h1
     exact Evt.bind (d3f _ _) fun f hf => by subst hf; exact Evt.pure (d8l (by decide))
  ·have hno : ¬ ∃ j, j < k ∧ (Am.get g.rules j).name = (Am.get g.rules k).name := fun h => by
    rw [(hkn _).2 h] at e; cases e
   refine Ev2.i5B (i2V (fun i => (Am.get g.rules i).name) (Am.get g.rules k).name ⟨7, (k : Int)⟩ (fun j hj => ?_)) (fun t ht => ?_) (fun r hr => ?_)
   ·rw [hlen] at hj
    unfold ZV
    rw [d8M hj]
    by_cases e2 : (Am.get g.rules j).name = (Am.get g.rules k).name <;> simp [e2]
   ·unfold d0M
    refine Ev2.r1c (Ev2.bind (i4T hh ‹i9p _ _› (hm.rule k hk)) fun a b hab => ?_)
    obtain ⟨rfl, hr⟩ := hab
    refine Ev2.cond rfl (fun e3 => Ev2.d5E (d3f _ _) fun f hf => ?_) (fun e3 => Ev2.pure ⟨i2U hkn, fun i hi => ?_⟩)
    ·subst hf
     replace e3 := bx e3
     exact Ev2.pure (d8l e3)
    ·replace e3 := bx e3
     by_cases ei : i = k
     ·subst ei; exact hr e3
     ·exact hp i (by omega)
   ·rw [hlen] at hr
    rcases hr with ⟨h1, _⟩ | ⟨_, h2⟩
    ·cases h1
    ·exact absurd h2 hno
 ·have p9k := (hu.elim id False.elim).2
  unfold d5a d0N
  refine Ev2.YN (Ev2.range (fun k _ _ => ∀ i, i < k → p6I g.hierarchy (Am.get g.Yy i)) (fun _ _ => False) (p4G (i1F g)) (fun i hi => by omega) (fun k s u hk hi => ?_)) (fun s u hu => ?_) (fun r r' hr => hr)
  ·unfold d5b d0O
   refine Ev2.bind (i3C hh ht (hm.lex k hk).1 (hm.lex k hk).2) fun a b hab => ?_
   obtain ⟨rfl, hr⟩ := hab
   refine Ev2.cond rfl (fun e3 => Ev2.d5E (d3f _ _) fun f hf => ?_) (fun e3 => Ev2.pure fun i hi2 => ?_)
   ·subst hf
    replace e3 := bx e3
    exact Ev2.pure (d8l e3)
   ·replace e3 := bx e3
    by_cases ei : i = k
    ·subst ei; exact hr e3
    ·exact hi i (by omega)
  ·have p9l := hu.elim id False.elim
   unfold d5c d0P
   refine Ev2.bind (d8d hh ht hm.start) fun f f' hf => ?_
   obtain ⟨rfl, hf⟩ := hf
   refine Ev2.cond rfl (fun e3 => Ev2.d5E (d3f _ _) fun f hf => ?_) (fun e3 => Ev2.pure ⟨rfl, fun _ => ⟨rfl, ?_⟩⟩)
   ·subst hf
    replace e3 := bx e3
    exact Ev2.pure (d8l e3)
   ·replace e3 := bx e3
    exact ⟨hh, by omega, by omega, by omega, p9k, p9l, hf e3⟩
inductive i7h : Ye → Prop
 | mk (s : Ye) (h : s.args.length ≤ 1048576) (h2 : ∀ k, k < s.args.length → i7h (Am.get s.args k)) : i7h s
inductive p2W : Yh → Prop
 | mk (t : Yh) (h0 : i7h t.type) (h : t.args.length ≤ 1048576) (h2 : ∀ k, k < t.args.length → p2W (Am.get t.args k)) : p2W t
structure i6m (g : Yz) : Prop where
 nodes : g.nodes.length ≤ 1048576
 links : ∀ y ∈ g.nodes, y.links.length ≤ 1048576
structure p6K (r : Yi) : Prop where
 graph : i6m r.graph
 meaning : p2W r.meaning
structure r1h (r : YT) : Prop where
 word : r.word.length ≤ 1048576
 graph : i6m r.graph
 meaning : p2W r.meaning
structure p6L (h : Yo) : Prop where
 types : h.types.length ≤ 1048576
structure p6M (g : Yn) : Prop where
 hier : p6L g.hierarchy
 nr : g.rules.length ≤ 1048576
 nl : g.Yy.length ≤ 1048576
 rule : ∀ y ∈ g.rules, p6K y
 lex : ∀ y ∈ g.Yy, r1h y
 start : i6m g.start
structure p9X (c : d3b) : Prop where
 hier : ∀ y ∈ c.hierarchy, p6L y
 start : ∀ y ∈ c.start, i6m y
 rules : ∀ y ∈ c.rules, ∀ r ∈ y.put, p6K r
 Yy : ∀ y ∈ c.Yy, ∀ r ∈ y.put, r1h r
theorem p6J.of {g : Yz} (h : i6m g) : p6J g := fun k hk => by
 have := h.links _ (get_mem hk)
 omega
theorem p6M.holds {g : Yn} (h : p6M g) : Holds g := ⟨fun k hk => .of (h.rule _ (get_mem hk)).graph, fun k hk => ⟨.of (h.lex _ (get_mem hk)).graph, by have := (h.lex _ (get_mem hk)).word; omega⟩, .of h.start⟩
end Go.Proofs.YtgaeiccgdpnkkaaGreatDoor
namespace Go.Am
open Go
theorem Ev2.succ {α β : Type} {x : Nat → Option α} {y : Nat → Option β} {P : α → β → Prop} (h : Ev2 (fun n => x (n + 1)) (fun n => y (n + 1)) P) : Ev2 x y P := by
 obtain ⟨a, b, hp, N, hN⟩ := h
 refine ⟨a, b, hp, N + 1, fun n hn => ?_⟩
 obtain ⟨m, rfl⟩ : ∃ m, n = m + 1 := ⟨n - 1, by omega⟩
 exact hN m (by omega)
end Go.Am
namespace Go.Proofs.YtgaeiccgdpnkkaaGreatDoor
open Go Go.Am
theorem i4U {s : Yr} {k : Nat} (h : k < s.kids.length) : SizeOf.sizeOf (Am.get s.kids k) < SizeOf.sizeOf s := by
 cases s with
 | mk a b c =>
  have := List.sizeOf_lt_of_mem (get_mem (l := c) h)
  show SizeOf.sizeOf (Am.get c k) < _
  simp only [Yr.mk.sizeOf_spec]
  omega
inductive d7D (g : Yn) : Yr → Prop
 | leaf (t : Yr) (h : t.rule = -1) (hl : 0 ≤ t.lex ∧ t.lex < g.Yy.length) (hk : t.kids = []) : d7D g t
 | node (t : Yr) (h : 0 ≤ t.rule ∧ t.rule < g.rules.length) (hl : t.lex = 0) (hn : (t.kids.length : Int) = (Am.get g.rules t.rule.toNat).kids) (hk : ∀ k, k < t.kids.length → d7D g (Am.get t.kids k)) : d7D g t
mutual
def ndT : Yr → Nat
 | .mk _ _ kids => 1 + ndL kids
def ndL : List Yr → Nat
 | [] => 0
 | t :: l => ndT t + ndL l
end
theorem p9m (t : Yr) : ndT t = 1 + ndL t.kids := by cases t; rw [ndT]; rfl
def p9n (g : Yn) (t : Yr) (b : Int) (x y : Yg × Int × Int) : Prop := x.1 = y.1 ∧ (x.1.code = 0 → x = y ∧ x.1 = ⟨0, 0⟩ ∧ d7D g t ∧ x.2.1 = b + ndT t ∧ x.2.1 ≤ 200 ∧ 0 ≤ x.2.2 ∧ x.2.2 ≤ x.2.1)
theorem i3d {g : Yn} {t : Yr} {b c : Int} {p q : Int × Int} (h : c ≠ 0) {i : Int} : p9n g t b (⟨c, i⟩, p) (⟨c, i⟩, q) := ⟨rfl, fun e => absurd e h⟩
theorem p0x {g : Yn} {m : Nat} (ih : ∀ (t : Yr), SizeOf.sizeOf t ≤ m → ∀ d ch b l : Int, 0 ≤ d → d ≤ 49 → 0 ≤ ch → ch ≤ 3 → 0 ≤ b → b ≤ 200 → 0 ≤ l → l ≤ b → Ev2 (fun n => d2k n t d ch b g.hierarchy.types g.hierarchy.YL g.rules g.Yy g.start.nodes l) (fun n => Zf n g t d ch b l) (p9n g t b))
  {t : Yr} (ht : SizeOf.sizeOf t ≤ m + 1) {d ch b l : Int} (d0 : 0 ≤ d) (d1 : d ≤ 48) (c0 : 0 ≤ ch) (c1 : ch ≤ 3) (b0 : 0 ≤ b) (b1 : b < 200) (l0 : 0 ≤ l) (l1 : l ≤ b + 1) (hk : (∀ k, k < t.kids.length → d7D g (Am.get t.kids k)) → d7D g t) :
  Ev2 (fun n => YN (Zi (d5P (d2k n) t d ch g.hierarchy.types g.hierarchy.YL g.rules g.Yy g.start.nodes) t.kids.length ((wr .i64 (b + 1)), l)) (d7e)) (fun n => YN (Zi (d2g (Zf n) g t d ch) t.kids.length ((wr .i64 (b + 1)), l)) (d3w)) (p9n g t b) := by
 have hw : wr .i64 (b + 1) = b + 1 := d0n (by omega) (by omega)
 have hd : wr .i64 (d + 1) = d + 1 := d0n (by omega) (by omega)
 rw [hw]
 refine Ev2.YN (Ev2.range (fun k s u => s = u ∧ (∀ j, j < k → d7D g (Am.get t.kids j)) ∧ s.1 + ndL (t.kids.drop k) = b + 1 + ndL t.kids ∧ b + 1 ≤ s.1 ∧ s.1 ≤ 200 ∧ 0 ≤ s.2 ∧ s.2 ≤ s.1) (fun _ _ => False) (fun x y : Yg × Int × Int => x.1 = y.1 ∧ x.1.code ≠ 0) ⟨rfl, fun j hj => by omega, rfl, by show b + 1 ≤ b + 1; omega, by show b + 1 ≤ 200; omega, l0, l1⟩ (fun k s u hk2 hi => ?_)) (fun s u hu => ?_) (fun r r' hr => ⟨hr.1, fun e => absurd e hr.2⟩)
 ·obtain ⟨rfl, i1, i0, i2, i3, i4, i5⟩ := hi
  rw [d4s hk2, ndL] at i0
  unfold d5P d2g
  rw [hd]
  have hsz := i4U hk2
  refine Ev2.bind (ih _ (by omega) (d + 1) ch s.1 s.2 (by omega) (by omega) c0 c1 (by omega) i3 i4 i5) fun x y hxy => ?_
  obtain ⟨e1, e2⟩ := hxy
  refine Ev2.cond (by rw [e1]) (fun e => Ev2.pure ?_) (fun e => Ev2.pure ?_)
  ·replace e := bx e
   exact ⟨e1, e⟩
  ·replace e := bx e
   obtain ⟨rfl, _, h2, h3, h4, h5, h6⟩ := e2 e
   refine ⟨rfl, fun j hj => ?_, by show x.2.1 + _ = _; omega, by show b + 1 ≤ x.2.1; omega, h4, h5, h6⟩
   by_cases ej : j = k
   ·subst ej; exact h2
   ·exact i1 j (by omega)
 ·obtain ⟨rfl, i1, i0, i2, i3, i4, i5⟩ := hu.elim id False.elim
  rw [List.drop_length, ndL] at i0
  exact Ev2.pure ⟨rfl, fun _ => ⟨rfl, rfl, hk i1, by show s.1 = _; rw [p9m]; omega, i3, i4, i5⟩⟩
theorem p2X {g : Yn} (hg : i1F g) : ∀ (m : Nat) (t : Yr), SizeOf.sizeOf t ≤ m → ∀ d ch b l : Int, 0 ≤ d → d ≤ 49 → 0 ≤ ch → ch ≤ 3 → 0 ≤ b → b ≤ 200 → 0 ≤ l → l ≤ b → Ev2 (fun n => d2k n t d ch b g.hierarchy.types g.hierarchy.YL g.rules g.Yy g.start.nodes l) (fun n => Zf n g t d ch b l) (p9n g t b) := by
 intro m
 induction m with
 | zero => intro s h; cases s; simp only [Yr.mk.sizeOf_spec] at h; omega
 | succ m ih =>
  intro t ht d ch b l d0 d1 c0 c1 b0 b1 l0 l1
  have hw : wr .i64 (b + 1) = b + 1 := d0n (by omega) (by omega)
  have hl : wr .i64 (l + 1) = l + 1 := d0n (by omega) (by omega)
  have hc : wr .i64 (ch + 1) = ch + 1 := d0n (by omega) (by omega)
  refine Ev2.succ ?_
  simp only [d2k, Zf, d2l, Option.bind_some]
  refine Ev2.cond rfl (fun _ => Ev2.pure (i3d (by decide))) (fun e1 => Ev2.cond rfl (fun _ => Ev2.pure (i3d (by decide))) (fun e2 => Ev2.cond rfl (fun _ => Ev2.pure (i3d (by decide))) (fun e3 => Ev2.cond rfl (fun e4 => ?_) (fun e4 => ?_))))
  ·replace e4 := bx e4
   rw [hw] at e1
   replace e1 := bx e1; replace e2 := bx e2; replace e3 := bx e3
   refine Ev2.p9b (by omega) (Ev2.p5k (by omega) ?_)
   have hkr := (hg.rule t.rule.toNat (by omega)).kids
   unfold d4K d0R
   simp only [d2l, Option.bind_some]
   refine Ev2.cond rfl (fun _ => Ev2.pure (i3d (by decide))) (fun e5 => ?_)
   replace e5 := bx e5
   have hk : (∀ k, k < t.kids.length → d7D g (Am.get t.kids k)) → d7D g t := fun h => .node t (by omega) (e3 (by omega)) e5 h
   have one : ∀ c : Int, 0 ≤ c → c ≤ 4 → Ev2 (fun n => d3O (d2k n) b (l, (Am.get g.rules t.rule.toNat).kids) t d g.hierarchy.types g.hierarchy.YL g.rules g.Yy g.start.nodes c) (fun n => d0o (Zf n) b l (Am.get g.rules t.rule.toNat).kids g t d c) (p9n g t b) := fun c h0 h4 => by
    unfold d3O d0o d0S
    simp only [d2l, Option.bind_some]
    refine Ev2.cond rfl (fun _ => Ev2.pure (i3d (by decide))) (fun e6 => ?_)
    replace e6 := bx e6
    refine Ev2.i5A (fun e7 => ?_) (fun _ => ?_)
    ·replace e7 := bx e7
     omega
    ·exact p0x ih ht d0 (by omega) h0 (by omega) b0 (by omega) l0 (by omega) hk
   refine Ev2.i6X (fun e6 => Ev2.i5A (fun e7 => ?_) (fun _ => one 0 (by omega) (by omega))) (fun e6 => Ev2.i5A (fun _ => ?_) (fun e7 => ?_))
   ·replace e6 := bx e6; replace e7 := bx e7
    exact absurd e7 e6
   ·rw [hc]; exact one _ (by omega) (by omega)
   ·replace e6 := bx e6; replace e7 := bx e7
    exact absurd e6 e7
  ·rw [hw] at e1
   replace e1 := bx e1; replace e2 := bx e2; replace e3 := bx e3; replace e4 := bx e4
   unfold d4K d0R
   simp only [d2l, Option.bind_some]
   refine Ev2.cond rfl (fun _ => Ev2.pure (i3d (by decide))) (fun e5 => ?_)
   replace e5 := bx e5
   have hk : (∀ k, k < t.kids.length → d7D g (Am.get t.kids k)) → d7D g t := fun _ => .leaf t (by omega) (by omega) (List.length_eq_zero_iff.1 (by omega))
   refine Ev2.i6X (fun _ => Ev2.i5A (fun e7 => ?_) (fun _ => ?_)) (fun e6 => ?_)
   ·replace e7 := bx e7
    omega
   ·unfold d3O d0o d0S
    refine Ev2.i6X (fun e8 => ?_) (fun _ => Ev2.i5A (fun e8 => ?_) (fun _ => Ev2.i5A (fun _ => ?_) (fun e8 => ?_)))
    ·replace e8 := bx e8
     omega
    ·replace e8 := bx e8
     omega
    ·rw [hl]
     exact p0x ih ht d0 (by omega) (by omega) (by omega) b0 (by omega) (by omega) (by omega) hk
    ·cases e8
   ·replace e6 := bx e6
    omega
theorem p4H {g : Yn} (hg : i1F g) (t : Yr) : Ev2 (fun n => d7U n g t) (fun n => d1w n g t) (i1D (d7D g t ∧ ndT t ≤ 200)) := by
 unfold d7U d1w
 refine Ev2.bind (p2X hg _ t (Nat.le_refl _) 1 0 0 0 (by omega) (by omega) (by omega) (by omega) (by omega) (by omega) (by omega) (by omega)) fun x y hxy => ?_
 obtain ⟨e1, e2⟩ := hxy
 simp only [d2l, Option.bind_some]
 refine Ev2.i6X (fun e => ?_) (fun e => ?_)
 ·replace e := bx e
  refine Ev2.i5A (fun e3 => ?_) (fun _ => Ev2.pure ⟨e1, fun h => absurd h e⟩)
  rw [← e1, decide_eq_false e] at e3
  cases e3
 ·replace e := bx e
  obtain ⟨rfl, h1, h2, h3, h4, _⟩ := e2 e
  rw [decide_eq_true e]
  refine Ev2.cond rfl (fun _ => Ev2.pure (d1s (by decide))) (fun _ => Ev2.pure ⟨h1.symm, fun _ => ⟨h2, by omega⟩⟩)
def i8n (g : Yz) (v : Int) : Prop := i0z g 0 0 v ∧ 0 ≤ v ∧ v < g.nodes.length
theorem p2Y {h : Yo} {r : Yi} (hr : p0w h r) (hh : h.YL.length ≤ 40) : ∃ v, i8n r.graph v := by
 have h1 := hr.graph.some
 obtain ⟨v, hv, _⟩ := d7d hr.graph hh (a := 0) (by omega) 0
 have hv : i0z r.graph 0 0 v := hv
 have hk := hr.kids
 have := (hr.places 0 (by omega) v hv).2 (by omega)
 exact ⟨v, hv, this, hv.lt hr.graph h1⟩
theorem i0T (a b : Nat) : Evt (fun n => d8m n a b) (fun v => v = (Nat.gcd a b : Nat)) := by
 unfold d8m
 refine Evt.YN (P := ExP (fun t : Int => t = (Nat.gcd a b : Nat)) (fun _ : Int => False)) (Evt.loop (fun s : Int × Int => s.2.toNat) (fun s => 0 ≤ s.1 ∧ 0 ≤ s.2 ∧ Nat.gcd s.1.toNat s.2.toNat = Nat.gcd a b) _ _ ⟨by show (0 : Int) ≤ (a : Int); omega, by show (0 : Int) ≤ (b : Int); omega, rfl⟩ (fun s hs => ?_)) (fun t ht => Evt.pure ht) (fun r hr => hr.elim)
 obtain ⟨h0, h1, h2⟩ := hs
 unfold i0U
 refine Evt.cond (fun e => ?_) (fun e => Evt.pure ?_)
 ·replace e := bx e
  have hm : Int.tmod s.1 s.2 = ((s.1.toNat % s.2.toNat : Nat) : Int) := by
   obtain ⟨x, hx⟩ : ∃ x : Nat, s.1 = x := ⟨s.1.toNat, by omega⟩
   obtain ⟨y, hy⟩ : ∃ y : Nat, s.2 = y := ⟨s.2.toNat, by omega⟩
   rw [hx, hy, Int.toNat_natCast, Int.toNat_natCast]
   exact (Int.ofNat_tmod x y).symm
  have hp : 0 < s.2.toNat := by omega
  have hlt : s.1.toNat % s.2.toNat < s.2.toNat := Nat.mod_lt _ hp
  refine Evt.chk e (Evt.pure ?_)
  rw [hm]
  refine ⟨⟨h1, by show (0 : Int) ≤ ((s.1.toNat % s.2.toNat : Nat) : Int); omega, ?_⟩, by show (((s.1.toNat % s.2.toNat : Nat) : Int)).toNat < _; omega⟩
  show Nat.gcd s.2.toNat (((s.1.toNat % s.2.toNat : Nat) : Int)).toNat = _
  rw [Int.toNat_natCast, Nat.gcd_comm, ← Nat.gcd_rec, Nat.gcd_comm, h2]
 ·replace e := bx e
  show s.1 = _
  rw [e] at h2
  simp at h2
  omega
def d5d (a t : Nat) : Ym := if 0 < t then ⟨((a / Nat.gcd a t : Nat) : Int), ((t / Nat.gcd a t : Nat) : Int)⟩ else ⟨0, 1⟩
theorem d8n (a : Nat) (ha : a ≤ 1152921504606846976) : Evt (fun _ => d6F a) (fun v => v = a) := by
 unfold d6F
 refine Evt.cond (fun e => ?_) (fun _ => Evt.pure ?_)
 ·replace e := bx e
  omega
 ·exact d5i (by omega)
theorem i9C (a t : Nat) (ha : a ≤ 1152921504606846976) (ht : t ≤ 1152921504606846976) (h0 : 0 < t) : Evt (fun n => i2o n a t) (fun r => r.1 = d5d a t) := by
 have hg : 0 < Nat.gcd a t := Nat.gcd_pos_of_pos_right _ h0
 have h1 : a / Nat.gcd a t ≤ a := Nat.div_le_self _ _
 have h2 : t / Nat.gcd a t ≤ t := Nat.div_le_self _ _
 unfold i2o
 refine Evt.cond (fun e => ?_) (fun _ => ?_)
 ·replace e := bx e
  omega
 refine Evt.bind (d8n a ha) fun v1 e1 => Evt.bind (d8n t ht) fun v2 e2 => ?_
 subst e1; subst e2
 refine Evt.bind (i0T a t) fun v3 e3 => ?_
 subst e3
 have d1 : Int.tdiv (a : Int) (Nat.gcd a t : Nat) = ((a / Nat.gcd a t : Nat) : Int) := (Int.ofNat_tdiv a _).symm
 have d2 : Int.tdiv (t : Int) (Nat.gcd a t : Nat) = ((t / Nat.gcd a t : Nat) : Int) := (Int.ofNat_tdiv t _).symm
 rw [d1, d2]
 have hk : ∀ x : Nat, x ≤ 1152921504606846976 → InK .u64 (x : Int) := fun x hx => by
  have e1 : IntKind.u64.min = 0 := by decide
  have e2 : IntKind.u64.max = 18446744073709551615 := by decide
  exact ⟨by omega, by omega⟩
 refine Evt.chk ⟨by omega, hk _ (by omega)⟩ (Evt.chk (hk _ (by omega)) ?_)
 refine Evt.bind (P := fun r : Ym × Yg => r.1 = d5d a t) ?_ fun r hr => Evt.pure hr
 unfold i4V
 refine Evt.cond (fun e => ?_) (fun _ => Evt.cond (fun e => ?_) (fun _ => Evt.pure ?_))
 ·exfalso
  replace e := bx e
  omega
 ·exfalso
  have e1 : decide ((a : Int) < 0) = false := decide_eq_false (by omega)
  have e2 : decide ((t : Int) < 0) = false := decide_eq_false (by omega)
  rw [e1, e2] at e
  cases e
 ·show Ym.mk (wr .i64 ((a / Nat.gcd a t : Nat) : Int)) (wr .i64 ((t / Nat.gcd a t : Nat) : Int)) = _
  unfold d5d
  rw [if_pos h0]
  clear d1 d2
  generalize a / Nat.gcd a t = x at h1
  generalize t / Nat.gcd a t = y at h2
  rw [d0n (by omega) (by omega), d0n (by omega) (by omega)]
open Classical in
noncomputable def d4k (g : Yn) (k : Nat) : Nat := if h : ∃ v, i8n (Am.get g.rules k).graph v then (Am.get (Am.get g.rules k).graph.nodes (Classical.choose h).toNat).type.toNat else 0
def d4o (g : Yn) (k : Nat) : Nat := (Am.get (Am.get g.Yy k).graph.nodes 0).type.toNat
theorem i4W {g : Yn} (hg : i1F g) {k : Nat} (hk : k < g.rules.length) : ∃ v, i8n (Am.get g.rules k).graph v ∧ (Am.get (Am.get g.rules k).graph.nodes v.toNat).type = d4k g k ∧ d4k g k < g.hierarchy.types.length := by
 have hr := hg.rule k hk
 have hm := p2Y hr hg.hier.n
 have hs := Classical.choose_spec hm
 have ht := hr.graph.type (Classical.choose hm).toNat (by have := hs.2; omega)
 refine ⟨Classical.choose hm, hs, ?_⟩
 have e : d4k g k = (Am.get (Am.get g.rules k).graph.nodes (Classical.choose hm).toNat).type.toNat := dif_pos hm
 rw [e]
 omega
theorem i4X {g : Yn} (hg : i1F g) {k : Nat} (hk : k < g.Yy.length) : (Am.get (Am.get g.Yy k).graph.nodes 0).type = d4o g k ∧ d4o g k < g.hierarchy.types.length := by
 have hr := (hg.lex k hk).graph
 have ht := hr.type 0 hr.some
 unfold d4o
 omega
theorem p2Z {h : Yo} {g : Yz} (hg : d2V h g) (hh : h.YL.length ≤ 40) {v : Int} (hm : i8n g v) : Evt (fun n => d6e n g 0 0) (fun u => u = v) :=
 (d7d hg hh (a := 0) (by have := hg.some; omega) 0).mono fun u hu => i0z.uniq hg hg.some (show i0z g 0 0 u from hu) hm.1
theorem p1k {h : Yo} {g : Yz} (hg : d2V h g) {v : Int} (hm : i8n g v) : Evt (fun _ => d0D g 0 0) (fun u => u = v) :=
 (i2i (g := g) (a := 0) (by have := hg.some; omega) 0).mono fun u hu => i0z.uniq hg hg.some (show i0z g 0 0 u from hu) hm.1
def acc (cls : Nat → Nat) (v : Nat → Int) : Nat → Nat → Int
 | 0, _ => 0
 | k + 1, c => acc cls v k c + if cls k = c then v k else 0
theorem d9u {cls : Nat → Nat} {v : Nat → Int} {M : Int} (hM : 0 ≤ M) : ∀ k c, (∀ j, j < k → 0 ≤ v j ∧ v j ≤ M) → 0 ≤ acc cls v k c ∧ acc cls v k c ≤ k * M
 | 0, c, _ => by simp [acc]
 | k + 1, c, h => by
  have ih := d9u (cls := cls) hM k c (fun j hj => h j (by omega))
  have hk := h k (by omega)
  have e : ((k + 1 : Nat) : Int) * M = k * M + M := by
   rw [Int.natCast_succ, Int.add_mul, Int.one_mul]
  rw [e]
  unfold acc
  split <;> omega
noncomputable def tot (g : Yn) (c : YH) (cl : Nat) : Int := acc (d4k g) (fun k => Am.get c.rules k) g.rules.length cl + acc (d4o g) (fun k => Am.get c.Yy k) g.Yy.length cl
structure p3x (g : Yn) (c : YH) (M : Int) : Prop where
 r : c.rules.length = g.rules.length
 l : c.Yy.length = g.Yy.length
 vr : ∀ k, k < g.rules.length → 0 ≤ Am.get c.rules k ∧ Am.get c.rules k ≤ M
 vl : ∀ k, k < g.Yy.length → 0 ≤ Am.get c.Yy k ∧ Am.get c.Yy k ≤ M
structure WSt (T : Nat) (cls : Nat → Nat) (base : Nat → Int) (v : Nat → Int) (k : Nat) (s : List Int × List Int) : Prop where
 len : s.1.length = T
 sums : ∀ c, c < T → Am.get s.1 c = base c + acc cls v k c
 cl : s.2.length = k
 at_ : ∀ j, j < k → Am.get s.2 j = cls j
theorem WSt.step {T : Nat} {cls : Nat → Nat} {base v : Nat → Int} {k : Nat} {s : List Int × List Int} (h : WSt T cls base v k s) (hc : cls k < T) (hb : ∀ c, c < T → -4611686018427387904 ≤ base c + acc cls v (k + 1) c ∧ base c + acc cls v (k + 1) c ≤ 4611686018427387904) :
  WSt T cls base v (k + 1) (s.1.set (cls k) (wr .i64 (Am.get s.1 (cls k) + v k)), s.2 ++ [(cls k : Int)]) := by
 refine ⟨by simp; exact h.len, fun c hc2 => ?_, by simp; exact h.cl, fun j hj => ?_⟩
 ·show Am.get (s.1.set (cls k) _) c = _
  rw [d2j]
  by_cases e : cls k = c
  ·subst e
   rw [if_pos ⟨rfl, by rw [h.len]; exact hc⟩, h.sums _ hc]
   have e2 : acc cls v (k + 1) (cls k) = acc cls v k (cls k) + v k := by simp [acc]
   have := hb (cls k) hc
   rw [e2] at this ⊢
   rw [d0n (by omega) (by omega)]
   omega
  ·rw [if_neg (fun x => e x.1), h.sums _ hc2]
   have e2 : acc cls v (k + 1) c = acc cls v k c := by simp [acc, e]
   rw [e2]
 ·show Am.get (s.2 ++ [(cls k : Int)]) j = _
  by_cases e : j = k
  ·subst e
   have := d6T (l := s.2) (x := (cls j : Int))
   rwa [h.cl] at this
  ·rw [d6B (by rw [h.cl]; omega)]
   exact h.at_ j (by omega)
theorem i4Y (T m : Nat) (cls : Nat → Nat) (tt : Nat → Int) (a l0 l2 : List Int) (hm : m ≤ 100) (ha : a.length = m) (h0 : l0.length = m) (h2 : l2.length = T) (hc : ∀ k, k < m → Am.get l0 k = cls k ∧ cls k < T)
  (hs : ∀ c, c < T → Am.get l2 c = tt c ∧ 0 ≤ tt c ∧ tt c ≤ 1152921504606846976) (hv : ∀ k, k < m → 0 ≤ Am.get a k ∧ Am.get a k ≤ 1152921504606846976) :
  Evt (fun n => d5A n a l0 l2) (fun r => r.length = m ∧ ∀ k, k < m → Am.get r k = d5d (Am.get a k).toNat (tt (cls k)).toNat) := by
 unfold d5A
 refine Evt.chk (by omega) ?_
 refine Evt.YN (Evt.range (fun k s => s.length = k ∧ ∀ j, j < k → Am.get s j = d5d (Am.get a j).toNat (tt (cls j)).toNat) (fun _ => False) (fun _ => False) ⟨rfl, fun j h => absurd h (Nat.not_lt_zero _)⟩ (fun k s hk hi => ?_)) (fun t ht => ?_) (fun r (hr : False) => hr.elim)
 ·rw [h0] at hk
  obtain ⟨e1, e2⟩ := hc k hk
  obtain ⟨e3, e4, e5⟩ := hs (cls k) e2
  have e6 := hv k hk
  have key : ∀ x : Ym, x = d5d (Am.get a k).toNat (tt (cls k)).toNat → (s ++ [x]).length = k + 1 ∧ ∀ j, j < k + 1 → Am.get (s ++ [x]) j = d5d (Am.get a j).toNat (tt (cls j)).toNat := fun x hx => by
   refine ⟨by simp; exact hi.1, fun j hj => ?_⟩
   by_cases ej : j = k
   ·subst ej
    have := d6T (l := s) (x := x)
    rw [hi.1] at this
    rw [this, hx]
   ·rw [d6B (by rw [hi.1]; omega)]
    exact hi.2 j (by omega)
  have hlen : ∀ x : Ym, (s ++ [x]).length = k + 1 := fun x => by simp; exact hi.1
  unfold d5Z
  rw [e1, Int.toNat_natCast, e3]
  refine Evt.chk (by omega) (Evt.cond (fun e => ?_) (fun e => ?_))
  ·replace e := bx e
   obtain ⟨x, hx⟩ : ∃ x : Nat, Am.get a k = x := ⟨(Am.get a k).toNat, by omega⟩
   obtain ⟨y, hy⟩ : ∃ y : Nat, tt (cls k) = y := ⟨(tt (cls k)).toNat, by omega⟩
   rw [hx, hy]
   refine Evt.chk (by omega) (Evt.bind (i9C x y (by omega) (by omega) (by omega)) fun r hr => Evt.d6r (Evt.chk (by rw [hlen, d5N]; omega) (Evt.pure (key _ ?_))))
   rw [hr, hx, hy]
   rfl
  ·replace e := bx e
   refine Evt.d6r (Evt.chk (by rw [hlen, d5N]; omega) (Evt.pure (key _ ?_)))
   unfold d5d
   rw [if_neg (by omega)]
 ·simp only [ExP, or_false] at ht
  rw [h0] at ht
  exact Evt.pure ht
def WIs (g : Yn) (c : YH) (r : List Ym × List Ym) : Prop :=
 (r.1.length = g.rules.length ∧ ∀ k, k < g.rules.length → Am.get r.1 k = d5d (Am.get c.rules k).toNat (tot g c (d4k g k)).toNat) ∧
 (r.2.length = g.Yy.length ∧ ∀ k, k < g.Yy.length → Am.get r.2 k = d5d (Am.get c.Yy k).toNat (tot g c (d4o g k)).toNat)
theorem i4Z {g : Yn} (hg : i1F g) {c : YH} (hc : p3x g c 1000000000) : Evt (fun n => d7p n g c) (WIs g c) := by
 have g1 := hg.hier.types.1
 have g2 := hg.rules
 have g3 := hg.Yy
 have c1 := hc.r
 have c2 := hc.l
 have hbR : ∀ k cl, k ≤ g.rules.length → 0 ≤ acc (d4k g) (fun k => Am.get c.rules k) k cl ∧ acc (d4k g) (fun k => Am.get c.rules k) k cl ≤ 40000000000 := fun k cl hk => by
  have := d9u (cls := d4k g) (v := fun k => Am.get c.rules k) (M := 1000000000) (by omega) k cl (fun j hj => hc.vr j (by omega))
  omega
 have hbL : ∀ k cl, k ≤ g.Yy.length → 0 ≤ acc (d4o g) (fun k => Am.get c.Yy k) k cl ∧ acc (d4o g) (fun k => Am.get c.Yy k) k cl ≤ 100000000000 := fun k cl hk => by
  have := d9u (cls := d4o g) (v := fun k => Am.get c.Yy k) (M := 1000000000) (by omega) k cl (fun j hj => hc.vl j (by omega))
  omega
 have g60 := hg.hier.types.1
 unfold d7p
 refine Evt.chk (by rw [d5N]; omega) ?_
 refine Evt.YN (Evt.range (fun k s => WSt g.hierarchy.types.length (d4k g) (fun _ => 0) (fun k => Am.get c.rules k) k s) (fun _ => False) (fun _ => False) ⟨by simp, fun cl _ => by show Am.get (List.replicate _ default) cl = _; rw [i1E]; rfl, rfl, fun j h => absurd h (Nat.not_lt_zero _)⟩ (fun k s hk hi => ?_)) (fun t ht => ?_) (fun r (hr : False) => hr.elim)
 ·obtain ⟨v, hmm, ht, hcl⟩ := i4W hg hk
  have ⟨_, hv0, hv1⟩ := hmm
  have hs := hi.step hcl (fun cl _ => by have := hbR (k + 1) cl (by omega); omega)
  unfold d6G
  refine Evt.bind (p2Z (hg.rule k hk).graph hg.hier.n hmm) fun u hu => ?_
  subst hu
  rw [ht, Int.toNat_natCast]
  have hl2 : (s.2 ++ [(d4k g k : Int)]).length = k + 1 := hs.cl
  refine Evt.chk ⟨hv0, hv1⟩ (Evt.d6r (Evt.chk (by rw [hl2, d5N]; omega) (Evt.chk (by rw [hi.len]; omega) (Evt.chk (by omega) (Evt.d6r (Evt.pure hs))))))
 ·simp only [ExP, or_false] at ht
  unfold d6H
  refine Evt.YN (Evt.range (fun k s => WSt g.hierarchy.types.length (d4o g) (fun cl => acc (d4k g) (fun k => Am.get c.rules k) g.rules.length cl) (fun k => Am.get c.Yy k) k s) (fun _ => False) (fun _ => False) ⟨ht.len, fun cl hcl => by have := ht.sums cl hcl; simp only [acc]; omega, rfl, fun j h => absurd h (Nat.not_lt_zero _)⟩ (fun k s hk hi => ?_)) (fun u hu => ?_) (fun r (hr : False) => hr.elim)
  ·obtain ⟨ht2, hcl⟩ := i4X hg hk
   have hs := hi.step hcl (fun cl _ => by have := hbR g.rules.length cl (Nat.le_refl _); have := hbL (k + 1) cl (by omega); omega)
   have hn := (hg.lex k hk).graph.some
   unfold d6I
   rw [ht2, Int.toNat_natCast]
   have hl2 : (s.2 ++ [(d4o g k : Int)]).length = k + 1 := hs.cl
   exact Evt.chk (by omega) (Evt.d6r (Evt.chk (by rw [hl2, d5N]; omega) (Evt.chk (by rw [hi.len]; omega) (Evt.chk (by omega) (Evt.d6r (Evt.pure hs))))))
  ·simp only [ExP, or_false] at hu
   have p9Y : ∀ cl, cl < g.hierarchy.types.length → Am.get u.1 cl = tot g c cl ∧ 0 ≤ tot g c cl ∧ tot g c cl ≤ 1152921504606846976 := fun cl hcl => by
    have h1 := hu.sums cl hcl
    have h2 := hbR g.rules.length cl (Nat.le_refl _)
    have h3 := hbL g.Yy.length cl (Nat.le_refl _)
    unfold tot
    omega
   unfold d6J
   refine Evt.bind (i4Y g.hierarchy.types.length g.rules.length (d4k g) (tot g c) c.rules t.2 u.1 (by omega) c1 ht.cl hu.len (fun k hk => ⟨ht.at_ k hk, by obtain ⟨_, _, _, h⟩ := i4W hg hk; exact h⟩) p9Y (fun k hk => by have := hc.vr k hk; omega)) fun x hx => ?_
   refine Evt.bind (i4Y g.hierarchy.types.length g.Yy.length (d4o g) (tot g c) c.Yy u.2 u.1 (by omega) c2 hu.cl hu.len (fun k hk => ⟨hu.at_ k hk, (i4X hg hk).2⟩) p9Y (fun k hk => by have := hc.vl k hk; omega)) fun y hy => ?_
   exact Evt.pure ⟨hx, hy⟩
theorem p3x.le {g : Yn} {c : YH} {M N : Int} (h : p3x g c M) (hm : M ≤ N) : p3x g c N := ⟨h.r, h.l, fun k hk => by have := h.vr k hk; omega, fun k hk => by have := h.vl k hk; omega⟩
end Go.Proofs.YtgaeiccgdpnkkaaGreatDoor
