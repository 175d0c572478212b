/-
 AM, part 29: from the evaluator's form to the theorem on drawn regions.
-/
import Derived.Scope
import Derived.Test.YtaohdfpcdfbnlaaGreatDoorAm2
import Derived.Test.YtaohdfpcdfbnlaaGreatDoorLcs
set_option linter.unusedVariables false
set_option linter.unusedSimpArgs false
namespace Go.Am
open Go
def kO : List Oper → Nat
 | [] => 0
 | o :: l => kO l + (bif needs o.op then 1 else 0)
def qOk : Nat → List Row → Prop
 | _, [] => True
 | q, x :: l => x.q = q ∧ qOk (bif needs x.o.op then q + 1 else q) l
def lR (trk : List Nat) : Nat → List Row → Log
 | _, [] => []
 | i, x :: l => bif trk.contains i then (x.r.rd, upL x.r ++ x.ups.map (·.1)) :: lR trk (i + 1) l else lR trk (i + 1) l
def nrd (trk : List Nat) : Nat → List Row → Prop
 | _, [] => True
 | i, x :: l => (trk.contains i = false → cH x.o.op ≠ none → x.r.rd = []) ∧ nrd trk (i + 1) l
theorem CO {trk : List Nat} : ∀ (l : List Row) (i j : Nat) (h : j < l.length), nrd trk i l → trk.contains (i + j) = false → cH (l[j]).o.op ≠ none → (l[j]).r.rd = []
 | x :: l, i, 0, _, h, ht, hc => h.1 (by simpa using ht) hc
 | x :: l, i, j + 1, hj, h, ht, hc => CO l (i + 1) j (by simpa using hj) h.2 (by rw [← ht]; congr 1; omega) hc
section
variable {P : Program} {gl : Gl} {N : Nat} {ops : Array Oper} {b : Nat} {trk : List Nat} {K : Fr → St → Prop} {w0 : World} {μ0 : Mu} {st0 : St} {Q : Exit → Act → World → Prop}
theorem Aa {x : Row} {fr : Fr} {st : St} {q : Nat} (h : Fits P gl N ops b x fr st) (hq : st[q]? = some (some .resv)) (hne : needs x.o.op = true → q ≠ x.q) : (x.st st)[q]? = some (some .resv) := by
 rw [jv fun hm => ?_]
 ·exact hq
 ·rcases fO hm with hm | ⟨e, hm⟩
  ·obtain ⟨ob, h1, h2⟩ := mX h _ (wo h.wX hm)
   rw [hq] at h1; cases h1; exact h2 rfl
  ·exact hne (h.makes hm) e
theorem jx {o : Oper} {l : List Oper} {i k : Nat} {lg : Log} {fr : Fr} {st : St} (x : Row) (hx : x.o = o) (hq : x.q = b + k) (hf : Fits P gl N ops b x fr st) (hnr : trk.contains i = false → cH x.o.op ≠ none → x.r.rd = [])
  (hk : ∀ m, k ≤ m → m < k + kO (o :: l) → st[b + m]? = some (some .resv))
  (ih : (∀ m, (bif needs o.op then k + 1 else k) ≤ m → m < (bif needs o.op then k + 1 else k) + kO l → (x.st st)[b + m]? = some (some .resv)) →
   ∃ rows : List Row, rows.map (·.o) = l ∧ qOk (b + (bif needs o.op then k + 1 else k)) rows ∧ Trace P gl N ops b rows (x.ap (fr, st)) ∧ K (full rows (x.ap (fr, st))).1 (full rows (x.ap (fr, st))).2 ∧ CJ (jw (trk.contains i) lg x.r x.ups ++ lR trk (i + 1) rows) ∧ nrd trk (i + 1) rows) :
  ∃ rows : List Row, rows.map (·.o) = o :: l ∧ qOk (b + k) rows ∧ Trace P gl N ops b rows (fr, st) ∧ K (full rows (fr, st)).1 (full rows (fr, st)).2 ∧ CJ (lg ++ lR trk i rows) ∧ nrd trk i rows := by
 obtain ⟨rows, h1, h2, h3, h4, h5, h6⟩ := ih fun m h1 h2 => by
  refine Aa hf (hk m ?_ ?_) fun hn => ?_
  ·cases hn : needs o.op <;> simp [hn] at h1 <;> omega
  ·simp only [kO]; cases hn : needs o.op <;> simp [hn] at h2 ⊢ <;> omega
  ·rw [hx] at hn
   rw [hq]
   simp [hn] at h1; omega
 refine ⟨x :: rows, by simp [hx, h1], ⟨hq, ?_⟩, ⟨hf, h3⟩, h4, ?_, hnr, h6⟩
 ·rw [hx]
  cases hn : needs o.op <;> simp [hn] at h2 ⊢
  ·exact h2
  ·exact h2
 ·simp only [lR]
  unfold jw at h5
  cases ht : trk.contains i with
  | false => rw [ht] at h5; exact h5
  | true =>
   rw [ht] at h5
   simp only [cond_true, List.append_assoc, List.cons_append, List.nil_append] at h5 ⊢
   exact h5
set_option maxHeartbeats 1000000 in
theorem nh : ∀ (l : List Oper) (i k : Nat) (lg : Log) (fr : Fr) (st : St), EvD P gl N ops b trk K l i k lg fr st →
  (∀ m, k ≤ m → m < k + kO l → st[b + m]? = some (some .resv)) →
  ∃ rows : List Row, rows.map (·.o) = l ∧ qOk (b + k) rows ∧ Trace P gl N ops b rows (fr, st) ∧ K (full rows (fr, st)).1 (full rows (fr, st)).2 ∧ CJ (lg ++ lR trk i rows) ∧ nrd trk i rows
 | [], i, k, lg, fr, st, h, _ => ⟨[], rfl, trivial, trivial, h.2, by simpa [lR] using h.1, trivial⟩
 | ⟨dst, op, ty, pos, af, none⟩ :: l, i, k, lg, fr, st, h, hk => by
  simp only [EvD] at h
  by_cases h0 : opk op = 0
  ·rw [h0] at h
   obtain ⟨h1, h2⟩ := (kj op).1 h0
   obtain ⟨a, c, d⟩ := h
   refine jx ⟨_, b + k, true, aop P gl true op fr (look st) (b + k), []⟩ rfl rfl ⟨c, trivial, rfl, ⟨rV, fun _ h => (by cases h)⟩, fun _ => .inl ⟨h1, rfl, a, (fun hn => by rw [h2] at hn; cases hn), rfl⟩, fun hn => absurd (vX h2) hn⟩ (fun _ hc => absurd h1 hc) hk ?_
   rw [h2]
   exact fun hk' => nh l _ _ _ _ _ d hk'
  ·by_cases h1' : opk op = 1
   ·rw [h1'] at h
    obtain ⟨h1, h2⟩ := (kj op).2 h1'
    obtain ⟨a, c, d⟩ := h
    refine jx ⟨_, b + k, true, aop P gl true op fr (look st) (b + k), []⟩ rfl rfl ⟨c, trivial, rfl, ⟨rV, fun _ h => (by cases h)⟩, fun _ => .inl ⟨h1, rfl, a, fun hn => hk k (Nat.le_refl _) ?_, rfl⟩, fun _ => h2⟩ (fun _ hc => absurd h1 hc) hk ?_
    ·simp only [kO, h2, cond_true]; omega
    ·rw [h2]
     exact fun hk' => nh l _ _ _ _ _ d hk'
   ·obtain ⟨f, args, ats, rfl⟩ := iK h0 h1'
    simp only [opk, CK, Ep] at h
    cases hf : ev1 gl fr f <;> rw [hf] at h <;> first | exact h.elim | skip
    obtain ⟨a, ⟨c, d⟩, r, rd, ups, hp, hu, hrd, htr, e⟩ := h
    refine jx ⟨_, b + k, true, ⟨r, True, rd, none, none⟩, ups⟩ rfl rfl ⟨a, trivial, rfl, ⟨M7 rfl, hu⟩, fun _ => .inr ⟨f, args.toList, _, _, _, r, rd, rfl, c, d, hf, hp, rfl, fun o ho => ⟨(hrd o ho).1, let ⟨ob, h1, h2⟩ := (hrd o ho).2; ⟨ob, kl.1 h1, h2⟩⟩⟩, fun hn => absurd rfl hn⟩ (fun ht _ => htr ht) hk ?_
    exact fun hk' => nh l _ _ _ _ _ e hk'
 | ⟨dst, op, ty, pos, af, some (j, want)⟩ :: l, i, k, lg, fr, st, h, hk => by
  simp only [EvD] at h
  cases hg : BL fr want (gslot ops j) with
  | none => rw [hg] at h; unfold CM at h; split at h <;> first | exact h.elim | (rename_i e; cases e)
  | some G =>
   rw [hg] at h
   obtain ⟨g1, g2⟩ := zF (dst := dst) (op := op) (ty := ty) (pos := pos) (af := af) hg
   by_cases h0 : opk op = 0
   ·rw [h0] at h
    obtain ⟨a, c, d⟩ := h
    obtain ⟨h1, h2⟩ := (kj op).1 h0
    refine jx ⟨_, b + k, G, aop P gl G op fr (look st) (b + k), []⟩ rfl rfl ⟨c, g2.symm ▸ trivial, g1.symm, ⟨rV, fun _ h => (by cases h)⟩, fun (hG : G = true) => .inl ⟨h1, by subst hG; rfl, a hG, (fun hn => by rw [h2] at hn; cases hn), rfl⟩, fun hn => absurd (vX h2) hn⟩ (fun _ hc => absurd h1 hc) hk ?_
    rw [h2]
    exact fun hk' => nh l _ _ _ _ _ d hk'
   ·by_cases h1 : opk op = 1
    ·rw [h1] at h; exact h.elim
    ·obtain ⟨f, args, ats, rfl⟩ := iK h0 h1
     simp only [opk, CM, yD] at h
     cases hf : ev1 gl fr f <;> rw [hf] at h <;> first | exact h.elim | skip
     obtain ⟨a, ⟨c, d⟩, r, rd, ups, hp, hu, hrd, htr, hgf, e⟩ := h
     refine jx ⟨_, b + k, G, ⟨r, True, rd, none, none⟩, ups⟩ rfl rfl ⟨a, g2.symm ▸ trivial, g1.symm, ⟨M7 rfl, hu⟩, fun (hG : G = true) => .inr ⟨f, args.toList, _, _, _, r, rd, rfl, by subst hG; exact c, by subst hG; exact d, hf, hp hG, rfl, fun o ho => ⟨(hrd o ho).1, let ⟨ob, h1, h2⟩ := (hrd o ho).2; ⟨ob, kl.1 h1, h2⟩⟩⟩, fun hn => absurd rfl hn⟩ (fun ht _ => htr ht) hk ?_
     have es : (bif G then puts ((LR.mk r True rd none none).app (b + k) st) ups else st) = puts st ups := by
      cases G with
      | true => rfl
      | false => exact (hgf rfl).symm
     intro hk'
     simp only [Row.ap, Row.st, Row.fr, Row.d, es] at hk' ⊢
     exact nh l _ _ _ _ _ e hk'
theorem Ab : ∀ (l : List Row) (q : Nat), qOk q l → ∀ j (h : j < l.length), q ≤ (l[j]).q ∧ (needs (l[j]).o.op = true → (l[j]).q < q + kO (l.map (·.o)))
 | x :: l, q, h, 0, _ => by
  refine ⟨Nat.le_of_eq h.1.symm, fun hn => ?_⟩
  simp only [List.getElem_cons_zero] at hn ⊢
  rw [h.1]
  simp only [List.map_cons, kO, hn, cond_true]; omega
 | x :: l, q, h, j + 1, hj => by
  have := Ab l _ h.2 j (by simpa using hj)
  simp only [List.getElem_cons_succ, List.map_cons, kO]
  cases hn : needs x.o.op <;> simp only [hn, cond_true, cond_false] at this ⊢
  ·exact ⟨this.1, fun h => by have := this.2 h; omega⟩
  ·exact ⟨by omega, fun h => by have := this.2 h; omega⟩
theorem Ac : ∀ (l : List Row) (q : Nat), qOk q l → ∀ i j (hi : i < l.length) (hj : j < l.length), i < j → needs (l[i]).o.op = true → (l[i]).q < (l[j]).q
 | x :: l, q, h, 0, j + 1, _, hj, _, hn => by
  simp only [List.getElem_cons_zero, List.getElem_cons_succ] at hn ⊢
  have := (Ab l _ h.2 j (by simpa using hj)).1
  rw [hn, cond_true] at this
  rw [h.1]; omega
 | x :: l, q, h, i + 1, j + 1, hi, hj, hij, hn => by
  simp only [List.getElem_cons_succ] at hn ⊢
  exact Ac l _ h.2 i j (by simpa using hi) (by simpa using hj) (by omega) hn
theorem Ad {rd up : List Nat} : ∀ {lg : Log}, HK rd up lg → ∀ y ∈ lg, (∀ o ∈ up, o ∉ y.1) ∧ ∀ o ∈ y.2, o ∉ rd
 | (rd', up') :: l, h, y, hy => by
  rcases List.mem_cons.1 hy with e | e
  ·subst e
   exact ⟨h.1, h.2.1⟩
  ·exact Ad h.2.2 y e
theorem tJ {trk : List Nat} : ∀ (l : List Row) (i j : Nat) (h : j < l.length), trk.contains (i + j) = true → ((l[j]).r.rd, upL (l[j]).r ++ (l[j]).ups.map (·.1)) ∈ lR trk i l
 | x :: l, i, 0, _, ht => by simp only [lR, Nat.add_zero] at ht ⊢; rw [ht]; simp
 | x :: l, i, j + 1, hj, ht => by
  have := tJ l (i + 1) j (by simpa using hj) (by rw [← ht]; congr 1; omega)
  simp only [lR, List.getElem_cons_succ]
  cases trk.contains i with
  | true => exact List.mem_cons_of_mem _ this
  | false => exact this
theorem Fm {x : Row} {o : Nat} (h : o ∈ x.wr) : o ∈ upL x.r ++ x.ups.map (·.1) := by
 unfold Row.wr at h
 cases hG : x.G <;> rw [hG] at h <;> simp only [cond_true, cond_false] at h
 ·cases h
 ·exact h
theorem Fo {x : Row} {o : Nat} (h : o ∈ x.rd) : o ∈ x.r.rd := by
 unfold Row.rd at h
 cases hG : x.G <;> rw [hG] at h
 ·cases h
 ·exact h
theorem Ae {trk : List Nat} : ∀ (l : List Row) (i : Nat), CJ (lR trk i l) → ∀ j m (hj : j < l.length) (hm : m < l.length), j < m → trk.contains (i + j) = true → trk.contains (i + m) = true →
  (∀ o ∈ (l[j]).wr, o ∉ (l[m]).rd) ∧ ∀ o ∈ (l[m]).wr, o ∉ (l[j]).rd
 | x :: l, i, h, 0, m + 1, _, hm, _, t1, t2 => by
  simp only [lR, Nat.add_zero] at h t1
  rw [t1] at h
  have := Ad h.1 _ (tJ l (i + 1) m (by simpa using hm) (by rw [← t2]; congr 1; omega))
  simp only [List.getElem_cons_zero, List.getElem_cons_succ]
  exact ⟨fun o ho ho' => this.1 o (Fm ho) (Fo ho'), fun o ho ho' => this.2 o (Fm ho) (Fo ho')⟩
 | x :: l, i, h, j + 1, m + 1, hj, hm, hjm, t1, t2 => by
  have h' : CJ (lR trk (i + 1) l) := by
   simp only [lR] at h
   cases ht : trk.contains i with
   | true => rw [ht] at h; exact h.2
   | false => rw [ht] at h; exact h
  simp only [List.getElem_cons_succ]
  exact Ae l (i + 1) h' j m (by simpa using hj) (by simpa using hm) (by omega) (by rw [← t1]; congr 1; omega) (by rw [← t2]; congr 1; omega)
theorem qY {rows : List Row} {s : Fr × St} (h : Trace P gl N ops b rows s) (j : Nat) (hj : j < rows.length) : ∃ s' : Fr × St, Fits P gl N ops b (rows[j]) s'.1 s'.2 := by
 have e : rows = rows.take j ++ rows[j] :: rows.drop (j + 1) := by rw [List.getElem_cons_drop, List.take_append_drop]
 rw [e] at h
 exact ⟨_, lQ _ h⟩
theorem xE {fr : Fr} {a : Act} {w : World} : ∀ (n : Nat) {st : St} {μ : Mu}, mK gl N w0 μ0 st0 fr st a w μ → ∃ μ', mK gl N w0 μ0 st0 fr (st ++ List.replicate n (some .resv)) a w μ'
 | 0, st, μ, h => ⟨μ, by simpa using h⟩
 | n + 1, st, μ, h => by
  obtain ⟨k1, k2⟩ := wN h.sim
  obtain ⟨μ', h'⟩ := xE n (st := st ++ [some .resv]) ⟨k1, h.glob.step k2, h.fr.step k2, h.size, h.defers, h.step.trans k2⟩
  exact ⟨μ', by simpa [List.replicate_succ, List.append_assoc] using h'⟩
theorem yF {fr : Fr} {a : Act} {w : World} {st : St} {μ : Mu} (h : mK gl N w0 μ0 st0 fr st a w μ) : mK gl N w0 μ0 st0 fr st a { w with drawn := w.drawn + 1 } μ := by
 have step : Step w μ st { w with drawn := w.drawn + 1 } μ st := ⟨Nat.le_refl _, rfl, rfl, rfl, fun _ _ _ => rfl, fun _ h => .inl h, Nat.le_refl _, fun _ ob' _ h => ⟨ob', h, by
  cases ob' with
  | arr g n b es => exact ⟨Nat.le_refl _, fun _ => ⟨rfl, rfl, rfl, rfl, fun blk base c ty _ hh => ⟨c, hh, rfl⟩⟩⟩
  | mps => exact ⟨rfl, rfl⟩
  | mpi => exact ⟨rfl, rfl, rfl⟩
  | sit => rfl
  | resv => trivial⟩⟩
 exact ⟨⟨fun o ob ho => (h.sim.obj o ob ho).step step (fun _ _ _ => rfl), h.sim.inj⟩, h.glob.step step, h.fr.step step, h.size, h.defers, h.step.trans step⟩
variable {n0 : Nat} {keep : List Nat} {AQ' : AQ} {fr : Fr} {st : St}
theorem ak {id : Nat} {l : List Oper} (trk : List Nat) (n : Nat) (hm : P.follows .mixedOrders = true) (ho : zZ l.toArray trk = true) (hn : kO l = n)
  (h : EvD P gl N l.toArray st.length trk (fun fr st => AQ' .normal (Fr.only keep fr) st) l 0 0 [] fr (st ++ List.replicate n (some .resv))) :
  AWp P gl N n0 keep (.region id l.toArray true) AQ' fr st := by
 intro w0 μ0 st0 hl a w ⟨μ, hc⟩
 obtain ⟨μ1, hc1⟩ := xE n (yF hc)
 have hget : ∀ m, m < n → (st ++ List.replicate n (some Ob.resv))[st.length + m]? = some (some .resv) := fun m hm => by
  rw [List.getElem?_append_right (by omega), Nat.add_sub_cancel_left]
  simp [hm]
 obtain ⟨rows, h1, h2, h3, h4, h5, h6⟩ := nh l 0 0 [] fr _ h fun m _ hm => hget m (by omega)
 refine wp_region_any hm ?_
 have hlen : rows.length = l.length := by rw [← h1]; simp
 have hop : ∀ i (hi : i < rows.length), l.toArray[i]? = some (rows[i]).o := fun i hi => by
  have : l[i]? = (rows.map (·.o))[i]? := by rw [h1]
  simpa [hi] using this
 have GS := ho
 unfold zZ at GS
 simp only [List.all_eq_true, List.mem_range, Bool.and_eq_true] at GS
 have HL : Good P gl N l.toArray st.length rows (fr, st ++ List.replicate n (some .resv)) := by
  refine ⟨by simpa using h1.symm, h3, fun i j hi hj hne hni hnj => ?_, fun x hx hnx => ?_, fun i o hio e he hb => ?_, fun i j hi hj hij => ?_⟩
  ·rcases Nat.lt_or_gt_of_ne hne with hlt | hlt
   ·exact Nat.ne_of_lt (Ac rows _ h2 i j hi hj hlt hni)
   ·exact Nat.ne_of_gt (Ac rows _ h2 j i hj hi hlt hnj)
  ·obtain ⟨j, hj, e⟩ := List.getElem_of_mem hx
   have := Ab rows _ h2 j hj
   rw [e, h1, hn] at this
   obtain ⟨q1, q2⟩ := this
   have q3 := q2 hnx
   have := hget (x.q - st.length) (by omega)
   rw [show st.length + (x.q - st.length) = x.q by omega] at this
   exact ⟨this, by omega⟩
  ·have hil : i < l.length := by
    rcases Nat.lt_or_ge i l.length with h' | h'
    ·exact h'
    ·rw [Array.getElem?_eq_none (by simpa using h')] at hio; cases hio
   have := (GS i (by simpa using hil)).1
   rw [hio] at this
   simp only [List.all_eq_true] at this
   have := this e (by simpa using he)
   rw [hb] at this
   simp only [Bool.not_true, Bool.false_or] at this
   exact Nat.lt_of_lt_of_le (Nat.lt_succ_self _) (Nat.le_of_ble_eq_true this)
  ·have hp := (GS j (by simpa [← hlen] using hj)).2 i hij
   unfold CN at hp
   rw [hop i hi, hop j hj] at hp
   simp only [Bool.or_eq_true] at hp
   rcases hp with hp | hp
   ·exact .inl (tI l.toArray.toList [] rfl (fun j hj => absurd hj (Nat.not_lt_zero _)) j i hp)
   ·right
    simp only [Bool.and_eq_true, Bool.or_eq_true] at hp
    obtain ⟨hp1, hp2⟩ := hp
    refine ⟨hp1, ?_⟩
    obtain ⟨s1, f1⟩ := qY h3 i hi
    obtain ⟨s2, f2⟩ := qY h3 j hj
    rcases hp2 with ⟨hp2, hp3⟩ | ⟨t1, t2⟩
    ·have hcc : ∀ k (hk : k < rows.length), qz trk k (rows[k]).o.op = false → cH (rows[k]).o.op ≠ none → (rows[k]).r.rd = [] := fun k hk hc hne => by
      refine CO rows 0 k hk h6 ?_ hne
      unfold qz at hc
      have : (cH (rows[k]).o.op).isSome = true := by cases h : cH (rows[k]).o.op with
       | none => exact absurd h hne
       | some => rfl
      rw [this, Bool.true_and] at hc
      rw [Nat.zero_add]; exact hc
     refine ⟨fun o a1 a2 => ?_, fun o a1 a2 => ?_⟩
     ·cases hw : (wrs (rows[i]).o.op || qz trk i (rows[i]).o.op) with
      | false =>
       rw [Bool.or_eq_false_iff] at hw
       rw [xD f1 hw.1 (hcc i hi hw.2)] at a1; cases a1
      | true => cases hr : (rds (rows[j]).o.op || qz trk j (rows[j]).o.op) with
       | false =>
        rw [Bool.or_eq_false_iff] at hr
        rw [oC f2 hr.1 (hcc j hj hr.2)] at a2; cases a2
       | true => rw [hw, hr] at hp2; cases hp2
     ·cases hw : (wrs (rows[j]).o.op || qz trk j (rows[j]).o.op) with
      | false =>
       rw [Bool.or_eq_false_iff] at hw
       rw [xD f2 hw.1 (hcc j hj hw.2)] at a1; cases a1
      | true => cases hr : (rds (rows[i]).o.op || qz trk i (rows[i]).o.op) with
       | false =>
        rw [Bool.or_eq_false_iff] at hr
        rw [oC f1 hr.1 (hcc i hi hr.2)] at a2; cases a2
       | true => rw [hw, hr] at hp3; cases hp3
    ·exact Ae rows 0 (by simpa using h5) i j hi hj hij (by simpa using t1) (by simpa using t2)
 have hl0 : ∀ i, lst (Array.replicate l.toArray.size false) i = false := fun i => by
  unfold lst
  rw [Array.getD_eq_getD_getElem?]
  by_cases hi : i < l.length
  ·simp [hi]
  ·simp [hi]
 refine zS HL (fun a w μ hc => ⟨_, _, h4, μ, hc.sim, hc.glob, hc.fr.only keep, hc.size, hc.defers, hc.step⟩) _ _ _ _ μ1 (by simp [hlen]) ?_ ?_ ?_ ?_
 ·have : ∀ n, cnt (lst (Array.replicate l.toArray.size false)) n ≤ n := fun n => by
   induction n with
   | zero => exact Nat.le_refl _
   | succ n ih => simp only [cnt, hl0, cond_false]; omega
  have := this rows.length
  simpa [hlen] using this
 ·intro k o hk; rw [hl0] at hk; cases hk
 ·intro i j hi hj hj'; rw [hl0] at hj'; cases hj'
 ·rw [xq rows 0 _ fun k _ _ => hl0 k]
  exact hc1
end
end Go.Am
namespace Go.Am
open Go
section
variable {P : Program} {gl : Gl} {N n0 : Nat} {ops : Array Oper} {keep : List Nat} {Q : AQ} {fr : Fr} {st : St} {lg : Log} {b q : Nat} {trk : List Nat} {K : Fr → St → Prop}
 {dst : Option Nat} {op : Op} {l : List Oper} {i k : Nat} {tr : Bool} {kk k1 : Log → Fr → St → Prop} {d : D} {p : Prop} {rd : List Nat} {o : Nat} {ob : Ob} {G : Bool}
@[congr] theorem Fp {fr' : Fr} {st' : St} {lg' : Log} {i' k' : Nat} (h0 : i = i') (h1 : k = k') (h2 : lg = lg') (h : fr = fr') (h3 : st = st') : EvD P gl N ops b trk K l i k lg fr st = EvD P gl N ops b trk K l i' k' lg' fr' st' := by rw [h0, h1, h2, h, h3]
@[congr] theorem Er {r r' : LR} (h : r = r') : Cd N q tr dst lg fr st kk r = Cd N q tr dst lg fr st kk r' := by rw [h]
@[congr] theorem DA {r r' : LR} (h : r = r') : zX N q G tr dst lg fr st kk r = zX N q G tr dst lg fr st kk r' := by rw [h]
@[congr] theorem Es {n n' : Nat} {q' : Nat} {tr' : Bool} (h1 : q = q') (h2 : tr = tr') (h : n = n') : CK P gl N b q tr kk k1 dst op lg fr st n = CK P gl N b q' tr' kk k1 dst op lg fr st n' := by rw [h, h1, h2]
@[congr] theorem Et {n n' : Nat} {g g' : Option Bool} {q' : Nat} {tr' : Bool} (h1 : q = q') (h2 : tr = tr') (h : n = n') (h3 : g = g') : CM P gl N b q tr kk dst op lg fr st n g = CM P gl N b q' tr' kk dst op lg fr st n' g' := by rw [h, h1, h2, h3]
@[congr] theorem Eu {a a' : Prop} {f f' : D} {args args' : List D} (h : a = a') (h2 : f = f') (h3 : args = args') : Ep P gl N b tr dst lg fr st kk a f args = Ep P gl N b tr dst lg fr st kk a' f' args' := by rw [h, h2, h3]
@[congr] theorem DB {a a' : Prop} {f f' : D} {args args' : List D} (h : a = a') (h2 : f = f') (h3 : args = args') : yD P gl N b G tr dst lg fr st kk a f args = yD P gl N b G tr dst lg fr st kk a' f' args' := by rw [h, h2, h3]
@[congr] theorem DC {f : FuncId} {args args' : List D} (h : args = args') : yC P gl b tr dst lg fr st kk f args = yC P gl b tr dst lg fr st kk f args' := by rw [h]
@[congr] theorem CP {f : FuncId} {args args' : List D} (h : args = args') : tH P gl b G tr dst lg fr st kk f args = tH P gl b G tr dst lg fr st kk f args' := by rw [h]
theorem HM : EvD P gl N ops b trk K [] i k lg fr st = (CJ lg ∧ K fr st) := rfl
theorem HO {o : Oper} {l' : List Oper} : EvD P gl N ops b trk K (List.append (o :: l) l') i k lg fr st = EvD P gl N ops b trk K (o :: List.append l l') i k lg fr st := rfl
theorem GU {l' : List Oper} : EvD P gl N ops b trk K (List.append [] l') i k lg fr st = EvD P gl N ops b trk K l' i k lg fr st := rfl
theorem GV {ty : TypeId} {pos : String} {af : Array Edge} : EvD P gl N ops b trk K (⟨dst, op, ty, pos, af, none⟩ :: l) i k lg fr st =
  CK P gl N b (b + k) (trk.contains i) (EvD P gl N ops b trk K l (i + 1) k) (EvD P gl N ops b trk K l (i + 1) (k + 1)) dst op lg fr st (opk op) := rfl
theorem Fq {ty : TypeId} {pos : String} {af : Array Edge} {j : Nat} {want : Bool} : EvD P gl N ops b trk K (⟨dst, op, ty, pos, af, some (j, want)⟩ :: l) i k lg fr st =
  CM P gl N b (b + k) (trk.contains i) (EvD P gl N ops b trk K l (i + 1) k) dst op lg fr st (opk op) (BL fr want (gslot ops j)) := rfl
theorem IX : CK P gl N b q tr kk k1 dst op lg fr st 0 = Cd N q tr dst lg fr st kk (aop P gl true op fr (look st) q) := rfl
theorem IY : CK P gl N b q tr kk k1 dst op lg fr st 1 = Cd N q tr dst lg fr st k1 (aop P gl true op fr (look st) q) := rfl
theorem IZ {f : Operand} {args : Array Operand} {ats : Array TypeId} : CK P gl N b q tr kk k1 dst (.call ⟨.value f, args, ats⟩) lg fr st 2 = Ep P gl N b tr dst lg fr st kk (eok gl true fr f ∧ (∀ x ∈ args.toList, eok gl true fr x)) (ev1 gl fr f) (args.toList.map (ev1 gl fr)) := rfl
theorem Ja : CM P gl N b q tr kk dst op lg fr st 0 (some G) = zX N q G tr dst lg fr st kk (aop P gl G op fr (look st) q) := rfl
theorem Jb {f : Operand} {args : Array Operand} {ats : Array TypeId} : CM P gl N b q tr kk dst (.call ⟨.value f, args, ats⟩) lg fr st 2 (some G) = yD P gl N b G tr dst lg fr st kk (eok gl G fr f ∧ (∀ x ∈ args.toList, eok gl G fr x)) (ev1 gl fr f) (args.toList.map (ev1 gl fr)) := rfl
theorem Jc : Cd N q tr dst lg fr st kk ⟨d, p, rd, none, none⟩ = (p ∧ dlt N dst ∧ kk (jw tr lg ⟨d, p, rd, none, none⟩ []) (fr.hH dst d) st) := rfl
theorem Jd : Cd N q tr dst lg fr st kk ⟨d, p, rd, some (o, ob), none⟩ = (p ∧ dlt N dst ∧ kk (jw tr lg ⟨d, p, rd, some (o, ob), none⟩ []) (fr.hH dst d) (st.set o (some ob))) := rfl
theorem Je : Cd N q tr dst lg fr st kk ⟨d, p, rd, none, some ob⟩ = (p ∧ dlt N dst ∧ kk (jw tr lg ⟨d, p, rd, none, some ob⟩ []) (fr.hH dst d) (st.set q (some ob))) := rfl
theorem HS : zX N q G tr dst lg fr st kk ⟨d, p, rd, none, none⟩ = (aN G p ∧ dlt N dst ∧ kk (jw tr lg ⟨d, p, rd, none, none⟩ []) (fr.hH dst (.cond G d)) st) := by cases G <;> rfl
theorem HT {g : FuncId} {first cap args : List D} : Ep P gl N b tr dst lg fr st kk p (.fn g first cap) args = (dlt N dst ∧ p ∧ yC P gl b tr dst lg fr st kk g (first ++ args ++ cap)) := rfl
theorem GW {g : FuncId} {first cap args : List D} : yD P gl N b G tr dst lg fr st kk p (.fn g first cap) args = (dlt N dst ∧ p ∧ tH P gl b G tr dst lg fr st kk g (first ++ args ++ cap)) := rfl
theorem HU {r : LR} {ups : List (Nat × Ob)} : jw false lg r ups = lg := rfl
theorem A0 {f : FuncId} {args : List D} {r : D} (h : Pure P gl f args r) (hk : kk (jw tr lg ⟨r, True, [], none, none⟩ []) (fr.hH dst r) st) :
  yC P gl b tr dst lg fr st kk f args :=
 ⟨r, [], [], h.loc, fun _ h => (by cases h), fun _ h => (by cases h), fun _ => rfl, hk⟩
theorem Y3 {f : FuncId} {args : List D} {r : D} (h : G = true → Pure P gl f args r) (hk : kk (jw tr lg ⟨r, True, [], none, none⟩ []) (fr.hH dst (.cond G r)) st) :
  tH P gl b G tr dst lg fr st kk f args :=
 ⟨r, [], [], fun e => (h e).loc, fun _ h => (by cases h), fun _ h => (by cases h), fun _ => rfl, fun _ => rfl, hk⟩
theorem HV {ups : List (Nat × Ob)} : jw true lg ⟨d, p, rd, none, some ob⟩ ups = lg ++ [(rd, ups.map (·.1))] := rfl
theorem GX {ups : List (Nat × Ob)} : jw true lg ⟨d, p, rd, none, none⟩ ups = lg ++ [(rd, ups.map (·.1))] := rfl
theorem GY {ups : List (Nat × Ob)} : jw true lg ⟨d, p, rd, some (o, ob), none⟩ ups = lg ++ [(rd, o :: ups.map (·.1))] := rfl
theorem JV {b : Bool} : (b == true) = b := by cases b <;> rfl
theorem JW {b : Bool} : (b == false) = !b := by cases b <;> rfl
theorem Ew {l : List Oper} {j : Nat} : gslot l.toArray j = (l[j]?).bind (·.dst) := by simp [gslot]
theorem GZ {e : Nat} : (∃ t, TK.slice e = TK.slice t) = True := eq_true ⟨e, rfl⟩
theorem Jf {a c : Nat} : (∃ t u, TK.map a c = TK.map t u) = True := eq_true ⟨a, c, rfl⟩
end
attribute [go_sem] JV JW Ew Option.bind_some GZ Jf Bt kH Int.toNat_natCast imp_self false_implies HO GU HM GV Fq IX IY IZ Ja Jb Jc Jd Je HS HT GW HU HV GX GY HK CJ Nat.add_zero
end Go.Am
namespace Go.Am
open Go
section
variable {P : Program} {gl : Gl} {N n0 : Nat} {keep : List Nat} {Q : AQ} {fr : Fr} {st : St} {c : Code}
theorem fG {t n b : Nat} {full : Bool} {es : List (List D)} (hg : fr.get t = .sl full n b es) (h : es.length * b ≤ top → AWp P gl N n0 keep c Q fr st) : AWp P gl N n0 keep c Q fr st :=
 Dm (p := es.length * b ≤ top) (fun w μ tmps _ hf => by
  have := hf t
  rw [hg] at this
  generalize tmps.getD t undef = v at this
  cases this with
  | tr h => cases h; assumption) h
end
def yG (n : Nat) (rows : List (List D)) : Prop := ∀ r ∈ rows, r.length = n ∧ r.all D.one = true
theorem iL {α : Type} {l : List α} {k : Nat} {d : α} (h : k < l.length) : l.getD k d ∈ l := by
 rw [List.getD_eq_getElem?_getD, List.getElem?_eq_getElem h]; exact List.getElem_mem h
theorem yG.at {n : Nat} {rows : List (List D)} (h : yG n rows) {k : Nat} (hk : k < rows.length) : ∃ r, rows.getD k [] = r ∧ r.length = n ∧ r.take n = r ∧ r.all D.one = true ∧ r ∈ rows := by
 have hm := iL (d := []) hk
 obtain ⟨h1, h2⟩ := h _ hm
 exact ⟨_, rfl, h1, List.take_of_length_le (by omega), h2, hm⟩
theorem yG.at1 {rows : List (List D)} (h : yG 1 rows) {k : Nat} (hk : k < rows.length) : ∃ a, rows.getD k [] = [a] ∧ a.one = true ∧ [a] ∈ rows := by
 have hm := iL (d := []) hk
 obtain ⟨h1, h2⟩ := h _ hm
 generalize rows.getD k [] = r at *
 match r, h1 with
 | [a], _ => simp at h2; exact ⟨a, rfl, h2, hm⟩
theorem yG.at2 {rows : List (List D)} (h : yG 2 rows) {k : Nat} (hk : k < rows.length) : ∃ a b, rows.getD k [] = [a, b] ∧ a.one = true ∧ b.one = true ∧ [a, b] ∈ rows := by
 have hm := iL (d := []) hk
 obtain ⟨h1, h2⟩ := h _ hm
 generalize rows.getD k [] = r at *
 match r, h1 with
 | [a, b], _ => simp at h2; exact ⟨a, b, rfl, h2.1, h2.2, hm⟩
end Go.Am
namespace Go.Am
open Go
def Ft : Ob → Ob → Prop
 | .arr g n b es, .arr g' n' b' es' => g' = g ∧ n' = n ∧ b' = b ∧ es'.length = es.length
 | .mps ag _, .mps ag' _ => ag' = ag
 | .mpi ag k _, .mpi ag' k' _ => ag' = ag ∧ k' = k
 | .sit s p, .sit s' p' => s' = s ∧ p' = p
 | .resv, .resv => True
 | _, _ => False
structure za (st T : St) : Prop where
 len : T.length ≤ st.length
 sh : ∀ (o : Nat) (ob' : Ob), T[o]? = some (some ob') → ∃ ob, st[o]? = some (some ob) ∧ Ft ob ob'
section
variable {w : World} {μ : Mu} {st T : St}
theorem za.own (hk : za st T) {blk : Nat} (h : own μ T blk) : own μ st blk := by
 obtain ⟨o, ob, base, h1, h2⟩ := h
 obtain ⟨ob', h3, _⟩ := hk.sh o ob h1
 exact ⟨o, ob', base, h3, h2⟩
theorem TR.kill (hk : za st T) {v : Value} {d : D} (h : TR w (Am.own μ st) v d) : TR w (Am.own μ T) v d :=
 h.mono (fun _ _ hn => ⟨rfl, fun h => hn (hk.own h)⟩) (Nat.le_refl _)
theorem za.resv (hk : za st T) {o : Nat} (h : st[o]? ≠ some (some .resv)) : T[o]? ≠ some (some .resv) := fun e => by
 obtain ⟨ob, h1, h2⟩ := hk.sh o _ e
 cases ob <;> first | exact h2.elim | exact h h1
theorem VR.kill (hk : za st T) {v : Value} {d : D} (h : VR w μ st v d) (hd : D.sc T.length d) : VR w μ T v d := by
 induction h with
 | any v => exact .any v
 | tr h => exact .tr (h.kill hk)
 | agg vs cs hs hc ih => exact .agg vs cs hs (fun j hj => ih j hj (bJ hd j hj))
 | tup vs cs hs hc ih => exact .tup vs cs hs (fun j hj => ih j hj (bJ hd j hj))
 | fn f vf vc first cap hf hc hfc hcc ih1 ih2 => exact .fn f vf vc first cap hf hc (fun j hj => ih1 j hj (bJ hd.1 j hj)) (fun j hj => ih2 j hj (bJ hd.2 j hj))
 | ref v full o g off len hv ho hr hg h =>
  refine .ref v full o g off len hv hd (hk.resv hr) (fun g' n b es e => ?_) (fun n b es e => ?_)
  ·obtain ⟨ob, h1, h2⟩ := hk.sh o _ e
   cases ob <;> first | exact h2.elim | skip
   have := hg _ _ _ _ h1
   rw [h2.1]; exact this
  ·obtain ⟨ob, h1, h2⟩ := hk.sh o _ e
   cases ob <;> first | exact h2.elim | skip
   obtain ⟨rfl, rfl, rfl, e4⟩ := h2
   have := h _ _ _ h1
   unfold kc at this ⊢
   rw [e4]; exact this
 | ptr v o g i c hv ho hr hg h =>
  refine .ptr v o g i c hv hd (hk.resv hr) (fun g' n b es e => ?_) (fun n b es e => ?_)
  ·obtain ⟨ob, h1, h2⟩ := hk.sh o _ e
   cases ob <;> first | exact h2.elim | skip
   have := hg _ _ _ _ h1
   rw [h2.1]; exact this
  ·obtain ⟨ob, h1, h2⟩ := hk.sh o _ e
   cases ob <;> first | exact h2.elim | skip
   obtain ⟨rfl, rfl, rfl, e4⟩ := h2
   exact h _ _ _ h1
 | mp v o hv ho hr h1 h2 =>
  refine .mp v o hv hd (hk.resv hr) (fun ag es e => ?_) (fun ag k es e => ?_)
  ·obtain ⟨ob, h3, h4⟩ := hk.sh o _ e
   cases ob <;> first | exact h4.elim | skip
   exact h1 _ _ h3
  ·obtain ⟨ob, h3, h4⟩ := hk.sh o _ e
   cases ob <;> first | exact h4.elim | skip
   exact h2 _ _ _ h3
 | it v o hv ho hr h =>
  refine .it v o hv hd (hk.resv hr) (fun s p e => ?_)
  obtain ⟨ob, h3, h4⟩ := hk.sh o _ e
  cases ob <;> first | exact h4.elim | skip
  exact h _ _ h3
 | cond v g d h h0 ih => exact .cond v g d (fun e => ih e (hd e)) h0
end
def D.imm : D → Bool
 | .agg _ | .tup _ | .fn _ _ _ | .ref _ _ _ _ _ | .ptr _ _ _ _ | .mp _ | .it _ | .cond _ _ => false
 | _ => true
def Imm (rows : List (List D)) : Prop := ∀ e ∈ rows, e.all D.imm = true
mutual
inductive Up (st T : St) : D → D → Prop
 | any (d : D) : Up st T d .any
 | same (d : D) : Up st T d d
 | B4 (full : Bool) (n b : Nat) (hb : 1 ≤ b) : Up st T .B4 (.sl full n b [])
 | nref (full : Bool) (o g n b : Nat) (es : List (List D)) (h : T[o]? = some (some (.arr g n b es))) : Up st T .B4 (.ref full o g 0 0)
 | full (f : Bool) (n b : Nat) (es : List (List D)) : Up st T (.sl true n b es) (.sl f n b es)
 | ref (full : Bool) (o g off len n b : Nat) (es : List (List D)) (rows : List (List D)) (h : st[o]? = some (some (.arr g n b es))) (hT : look T o = none) (hb : 1 ≤ b) (hi : Imm es)
   (hr : rows = (es.drop off).take len) : Up st T (.ref full o g off len) (.sl false n b rows)
 | DE (o g off len : Nat) : Up st T (.ref true o g off len) (.ref false o g off len)
 | agg (cs cs' : List D) (h : Ups st T cs cs') : Up st T (.agg cs) (.agg cs')
 | tup (cs cs' : List D) (h : Ups st T cs cs') (hl : cs.all D.live = true) : Up st T (.tup cs) (.tup cs')
 | cond (g : Bool) (d d' : D) (h : Up st T d d') : Up st T (.cond g d) (.cond g d')
inductive Ups (st T : St) : List D → List D → Prop
 | nil : Ups st T [] []
 | cons (d d' : D) (l l' : List D) (h : Up st T d d') (hl : Ups st T l l') : Ups st T (d :: l) (d' :: l')
end
theorem Ups.len {st T : St} : ∀ {l l' : List D}, Ups st T l l' → l'.length = l.length
 | _, _, .nil => rfl
 | _, _, .cons _ _ _ _ _ h => by simp [h.len]
theorem Ups.get {st T : St} : ∀ {l l' : List D}, Ups st T l l' → ∀ (j : Nat) (h : j < l.length) (h' : j < l'.length), Up st T (l[j]) (l'[j])
 | _, _, .cons _ _ _ _ h _, 0, _, _ => h
 | _, _, .cons _ _ _ _ _ h, j + 1, hj, hj' => h.get j (by simpa using hj) (by simpa using hj')
theorem Ups.refl {st T : St} : ∀ (l : List D), Ups st T l l
 | [] => .nil
 | d :: l => .cons d d l l (.same d) (Ups.refl l)
inductive je (st T : St) : List (List D) → List (List D) → Prop
 | same (l : List (List D)) : je st T l l
 | nil : je st T [] []
 | cons (e e' : List D) (l l' : List (List D)) (h : Ups st T e e') (hl : je st T l l') : je st T (e :: l) (e' :: l')
 | snoc (e e' : List D) (l l' : List (List D)) (hl : je st T l l') (h : Ups st T e e') : je st T (l ++ [e]) (l' ++ [e'])
theorem je.spec {st T : St} {l l' : List (List D)} (h : je st T l l') : l'.length = l.length ∧ ∀ (j : Nat) (h : j < l.length) (h' : j < l'.length), Ups st T (l[j]) (l'[j]) := by
 induction h with
 | same l => exact ⟨rfl, fun j _ _ => Ups.refl _⟩
 | nil => exact ⟨rfl, fun j h _ => absurd h (Nat.not_lt_zero _)⟩
 | cons e e' l l' h hl ih =>
  refine ⟨by simp [ih.1], fun j hj hj' => ?_⟩
  cases j with
  | zero => exact h
  | succ j => exact ih.2 j (by simpa using hj) (by simpa using hj')
 | snoc e e' l l' hl h ih =>
  refine ⟨by simp [ih.1], fun j hj hj' => ?_⟩
  by_cases hjl : j < l.length
  ·rw [List.getElem_append_left hjl, List.getElem_append_left (by rw [ih.1]; exact hjl)]
   exact ih.2 j hjl _
  ·have : j = l.length := by simp at hj; omega
   subst this
   have e1 : (l ++ [e])[l.length] = e := by simp
   have e2 : (l' ++ [e'])[l.length]'hj' = e' := by rw [List.getElem_append_right (by omega)]; simp
   rw [e1, e2]; exact h
inductive Br (st T : St) : Ob → Ob → Prop
 | same (ob : Ob) : Br st T ob ob
 | arr (g n b : Nat) (es es' : List (List D)) (h : je st T es es') : Br st T (.arr g n b es) (.arr g n b es')
theorem Br.sh {st T : St} {ob ob' : Ob} (h : Br st T ob ob') : Ft ob ob' := by
 cases h with
 | same => cases ob <;> simp [Ft]
 | arr g n b es es' h => exact ⟨rfl, rfl, rfl, h.spec.1⟩
structure Cg (st T : St) : Prop where
 len : T.length ≤ st.length
 obs : ∀ (o : Nat) (ob' : Ob), T[o]? = some (some ob') → ∃ ob, st[o]? = some (some ob) ∧ Br st T ob ob'
 sc : pF T.length T
theorem Cg.kill {st T : St} (h : Cg st T) : za st T := ⟨h.len, fun o ob' e => let ⟨ob, h1, h2⟩ := h.obs o ob' e; ⟨ob, h1, h2.sh⟩⟩
section
variable {w : World} {μ : Mu} {st T : St}
theorem Fu {v : Value} {d : D} (h : VR w μ st v d) (hi : d.imm = true) (h1 : v.oneCell' = true) : TR w (own μ st) v d := by
 cases h with
 | any => exact .any _ h1
 | tr h => exact h
 | _ => cases hi
theorem VR.up (hs : Sim w μ st) (hk : za st T) {v : Value} {d d' : D} (hu : Up st T d d') (h : VR w μ st v d) (hd : D.sc T.length d') : VR w μ T v d' := by
 induction h generalizing d' with
 | any v => cases hu with
  | any => exact .any _
  | same => exact .any _
 | tr h =>
  cases hu with
  | any => exact .any _
  | same => exact .tr (h.kill hk)
  | B4 full n b hb => cases h; exact .tr (.sl full n b [] none 0 0 (fun _ _ => undef) rfl (Nat.le_refl _) (fun _ => rfl) (by simp [top]) hb (fun e he => by cases he) (.inl rfl) (fun i j hi => absurd hi (Nat.not_lt_zero _)))
  | nref full o g n b es hT =>
   cases h
   refine .ref _ full o g 0 0 ⟨none, 0, 0, rfl⟩ (List.getElem?_eq_some_iff.1 hT).1 (by rw [hT]; simp) (fun g' n' b' es' e => ?_) (fun n' b' es' e => ?_)
   ·rw [hT] at e; cases e; exact Nat.le_refl _
   ·exact ⟨none, 0, rfl, Nat.le_refl _, by omega, fun _ => rfl, .inl rfl⟩
  | full f n b es =>
   cases h.kill hk with
   | sl _ _ _ _ a len cap cv hlen hcap qq hb hb1 hn ha hc => exact .tr (.sl f n b es a len cap cv hlen hcap (fun _ => qq rfl) hb hb1 hn ha hc)
  | ref => cases h
  | DE => cases h
  | agg => cases h
  | tup => cases h
  | cond => cases h
 | agg vs cs hs' hc ih =>
  cases hu with
  | any => exact .any _
  | same => exact VR.kill hk (.agg vs cs hs' hc) hd
  | agg _ cs' hu => exact .agg vs cs' (by rw [hu.len]; exact hs') fun j hj => ih j (by rw [← hu.len]; exact hj) (hu.get j _ hj) (bJ hd j hj)
 | tup vs cs hs' hc ih =>
  cases hu with
  | any => exact .any _
  | same => exact VR.kill hk (.tup vs cs hs' hc) hd
  | tup _ cs' hu hl =>
   exact .tup vs cs' (fun j hj _ => hs' j (by rw [← hu.len]; exact hj) (List.all_eq_true.1 hl _ (List.getElem_mem _))) fun j hj => ih j (by rw [← hu.len]; exact hj) (hu.get j _ hj) (bJ hd j hj)
 | fn f vf vc first cap hf hc hfc hcc ih1 ih2 =>
  cases hu with
  | any => exact .any _
  | same => exact VR.kill hk (.fn f vf vc first cap hf hc hfc hcc) hd
 | ref v full o g off len hv ho hr hg h =>
  cases hu with
  | any => exact .any _
  | same => exact VR.kill hk (.ref v full o g off len hv ho hr hg h) hd
  | DE => exact VR.kill hk (.ref v false o g off len hv ho hr hg fun n b es e => by
    obtain ⟨a, cap, h1, h2, h3, h4, h5⟩ := h n b es e
    exact ⟨a, cap, h1, h2, h3, (fun hf => by cases hf), h5⟩) hd
  | ref _ _ _ _ _ n b es rows hst hT hb hi kV =>
   subst kV
   obtain ⟨a, cap, e1, e2, e3, e4, e5⟩ := h n b es hst
   subst e1
   have hA : mL w μ st (μ o) n b es := hs.obj o _ hst
   have hlen : ((es.drop off).take len).length = len := by simp; omega
   have hrow : ∀ i (hi : i < ((es.drop off).take len).length), ((es.drop off).take len)[i] = es[off + i]'(by rw [hlen] at hi; omega) := fun i hi => by simp
   rcases hA.loc with ⟨m0, e0⟩ | ⟨blk, base, c, ty, em, hh, hsz, hcell⟩
   ·subst e0
    have h0 : len = 0 := by simp at e3; omega
    subst h0
    refine .tr (.sl false n b _ a 0 cap (fun _ _ => undef) (by simp) e2 (fun hf => by cases hf) (by simp) hb (fun e he => by simp at he) (.inl (by simp)) (fun i j hi => by simp at hi))
   ·have hcv : ∀ i j, ∃ u, ∀ (hi : i < len) (hj : j < n), c[base + ((off + i) * n + j)]? = some u ∧ TR w (own μ T) u ((es[off + i]'(by omega))[j]'(by rw [hA.hn _ (List.getElem_mem _)]; exact hj)) := fun i j => by
     by_cases hc : i < len ∧ j < n
     ·obtain ⟨u, h1, h2, h3⟩ := hcell (off + i) j (by omega) (by rw [hA.hn _ (List.getElem_mem _)]; exact hc.2)
      refine ⟨u, fun _ _ => ⟨h1, ?_⟩⟩
      have Jg := hi (es[off + i]'(by omega)) (List.getElem_mem _)
      rw [List.all_eq_true] at Jg
      exact (Fu h2 (Jg _ (List.getElem_mem _)) h3).kill hk
     ·exact ⟨undef, fun hi hj => absurd ⟨hi, hj⟩ hc⟩
    have JX : ∃ cv : Nat → Nat → Value, ∀ i j (hi : i < len) (hj : j < n), c[base + ((off + i) * n + j)]? = some (cv i j) ∧ TR w (own μ T) (cv i j) ((es[off + i]'(by omega))[j]'(by rw [hA.hn _ (List.getElem_mem _)]; exact hj)) :=
     ⟨fun i j => Classical.choose (hcv i j), fun i j hi hj => Classical.choose_spec (hcv i j) hi hj⟩
    obtain ⟨cv, hcv⟩ := JX
    have hlb : ((es.drop off).take len).length * b ≤ top := by
     rw [hlen]
     exact Nat.le_trans (Nat.mul_le_mul_right b (show len ≤ es.length by omega)) hA.Jy
    have hno : ¬ own μ T blk := by
     rintro ⟨o', ob', base', h1, h2⟩
     obtain ⟨ob, h3, _⟩ := hk.sh o' ob' h1
     have := hs.inj o o' _ _ blk base base' hst h3 em h2
     subst this
     rw [kl.2 h1] at hT; cases hT
    refine .tr (.sl false n b _ a len cap cv hlen.symm e2 (fun hf => by cases hf) hlb hb ?_ ?_ ?_)
    ·intro e he
     obtain ⟨i, hi', e'⟩ := List.getElem_of_mem he
     rw [hrow i hi'] at e'
     rw [← e']; exact hA.hn _ (List.getElem_mem _)
    ·by_cases h0 : len = 0
     ·subst h0; left; simp
     ·right
      rcases e5 with e5 | ⟨oq, base', em', ea, c', ty', hh', hsz'⟩
      ·omega
      ·rw [em] at em'; cases em'
       have hlt : blk < w.heap.size := by
        rcases Nat.lt_or_ge blk w.heap.size with h | h
        ·exact h
        ·rw [Array.getElem?_eq_none h] at hh; cases hh
       refine ⟨blk, base + off * n, ea, hlt, hno, fun i j hi' hj => ?_⟩
       rw [hlen] at hi'
       have := (hcv i j hi' hj).1
       simp only [World.cell?, hh]
       rw [show base + off * n + (i * n + j) = base + ((off + i) * n + j) by rw [Nat.add_mul]; omega]
       simpa using this
    ·intro i j hi' hj
     have hi2 : i < len := by rw [hlen] at hi'; exact hi'
     have hn2 : (((es.drop off).take len)[i]).length = n := by rw [hrow i hi']; exact hA.hn _ (List.getElem_mem _)
     have := (hcv i j hi2 (by omega)).2
     have e : (((es.drop off).take len)[i])[j] = (es[off + i]'(by omega))[j]'(by rw [hA.hn _ (List.getElem_mem _)]; omega) := by
      have := hrow i hi'
      congr 1
     rw [e]; exact this
 | ptr v o g i c hv ho hr hg h =>
  cases hu with
  | any => exact .any _
  | same => exact VR.kill hk (.ptr v o g i c hv ho hr hg h) hd
 | mp v o hv ho hr h1 h2 =>
  cases hu with
  | any => exact .any _
  | same => exact VR.kill hk (.mp v o hv ho hr h1 h2) hd
 | it v o hv ho hr h =>
  cases hu with
  | any => exact .any _
  | same => exact VR.kill hk (.it v o hv ho hr h) hd
 | cond v g d h h0 ih =>
  cases hu with
  | any => exact .any _
  | same => exact VR.kill hk (.cond v g d h h0) hd
  | cond _ _ d' hu => exact .cond v g d' (fun e => ih e hu (hd e)) h0
end
end Go.Am
namespace Go.Am
open Go
section
variable {P : Program} {gl : Gl} {N n0 : Nat} {keep : List Nat} {Q : AQ} {fr : Fr} {st : St} {c : Code} {w : World} {μ : Mu} {T : St}
theorem Sim.wk (hs : Sim w μ st) (hw : Cg st T) : Sim w μ T := by
 have hk := hw.kill
 refine ⟨fun o ob' h => ?_, fun o1 o2 ob1 ob2 blk b1 b2 h1 h2 m1 m2 => ?_⟩
 ·obtain ⟨ob, h1, h2⟩ := hw.obs o ob' h
  have hob := hs.obj o ob h1
  have hsc := hw.sc o ob' h
  cases h2 with
  | same =>
   cases ob' with
   | arr g n b es =>
    obtain ⟨a1, a2, a3⟩ := (hob : mL w μ st (μ o) n b es)
    refine (⟨a1, a2, ?_⟩ : mL w μ T (μ o) n b es)
    rcases a3 with a3 | ⟨blk, base, cc, ty, em, hh, hsz, hc⟩
    ·exact .inl a3
    ·exact .inr ⟨blk, base, cc, ty, em, hh, hsz, fun i j hi hj => let ⟨v, e, hv, h1⟩ := hc i j hi hj; ⟨v, e, hv.kill hk (bJ (hsc _ (List.getElem_mem hi)) j hj), h1⟩⟩
   | mps ag es =>
    obtain ⟨blk, ents, clock, em, hh, hsz, hc⟩ := (hob : lC _ ag w μ _ (μ o) es).loc
    refine (⟨⟨blk, ents, clock, em, hh, hsz, fun i hi => ?_⟩⟩ : lC _ ag w μ T (μ o) es)
    obtain ⟨e, e1, e2, e3⟩ := hc i hi
    refine ⟨e, e1, e2, ?_⟩
    have vZ := hsc _ (List.getElem_mem hi)
    cases ag with
    | true => exact VR.kill hk e3 vZ
    | false => obtain ⟨d, a, b⟩ := e3; rw [a] at vZ; exact ⟨d, a, b.kill hk vZ.1⟩
   | mpi ag k es =>
    obtain ⟨blk, ents, clock, em, hh, hsz, hc⟩ := (hob : lC _ ag w μ _ (μ o) es).loc
    refine (⟨⟨blk, ents, clock, em, hh, hsz, fun i hi => ?_⟩⟩ : lC _ ag w μ T (μ o) es)
    obtain ⟨e, e1, e2, e3⟩ := hc i hi
    refine ⟨e, e1, e2, ?_⟩
    have vZ := hsc _ (List.getElem_mem hi)
    cases ag with
    | true => exact VR.kill hk e3 vZ
    | false => obtain ⟨d, a, b⟩ := e3; rw [a] at vZ; exact ⟨d, a, b.kill hk vZ.1⟩
   | sit => exact hob
   | resv => exact hob
  | arr g n b es es' hu =>
   obtain ⟨u1, u2⟩ := hu.spec
   obtain ⟨a1, a2, a3⟩ := (hob : mL w μ st (μ o) n b es)
   refine (⟨by rw [u1]; exact a1, fun e he => ?_, ?_⟩ : mL w μ T (μ o) n b es')
   ·obtain ⟨i, hi, e1⟩ := List.getElem_of_mem he
    rw [← e1, (u2 i (by omega) hi).len]
    exact a2 _ (List.getElem_mem _)
   ·rcases a3 with ⟨a3, a4⟩ | ⟨blk, base, cc, ty, em, hh, hsz, hc⟩
    ·subst a4; left; exact ⟨a3, List.eq_nil_of_length_eq_zero (by simpa using u1)⟩
    ·refine .inr ⟨blk, base, cc, ty, em, hh, by rw [u1]; exact hsz, fun i j hi hj => ?_⟩
     have hu' := u2 i (by omega) hi
     obtain ⟨v, e, hv, h1⟩ := hc i j (by omega) (by rw [← hu'.len]; exact hj)
     exact ⟨v, e, VR.up hs hk (hu'.get j _ hj) hv (bJ (hsc _ (List.getElem_mem hi)) j hj), h1⟩
 ·obtain ⟨ME, e1, _⟩ := hw.obs o1 ob1 h1
  obtain ⟨MF, e2, _⟩ := hw.obs o2 ob2 h2
  exact hs.inj o1 o2 _ _ blk b1 b2 e1 e2 m1 m2
theorem bR.sh {w' : World} {m m' : Option (Nat × Nat)} {a ob ob' : Ob} (h : bR w w' m m' a ob) (hs : Ft ob ob') : bR w w' m m' a ob' := by
 cases ob <;> cases ob' <;> first | exact hs.elim | skip
 ·obtain ⟨rfl, rfl, rfl, e⟩ := hs
  cases a <;> first | exact h | skip
  refine ⟨h.1, fun hg => ?_⟩
  obtain ⟨a1, a2, a3, a4, a5⟩ := h.2 hg
  exact ⟨a1, a2, by rw [e]; exact a3, a4, a5⟩
 ·cases a <;> first | exact h | skip
  exact ⟨h.1.trans (Eq.symm hs), h.2⟩
 ·cases a <;> first | exact h | skip
  exact ⟨h.1.trans hs.1.symm, h.2.1.trans hs.2.symm, h.2.2⟩
 ·cases a <;> exact h
 ·exact h
theorem Step.wk {w0 : World} {μ0 : Mu} {st0 : St} (hl : st0.length ≤ T.length) (hw : Cg st T) (h : Step w0 μ0 st0 w μ st) : Step w0 μ0 st0 w μ T where
 size := h.size
 os := h.os
 output := h.output
 tape := h.tape
 imm := h.imm
 own := fun blk hb => h.own blk (hw.kill.own hb)
 len := hl
 keep := fun o ob' ho h1 => by
  obtain ⟨ob, e1, e2⟩ := hw.obs o ob' h1
  obtain ⟨a, a1, a2⟩ := h.keep o ob ho e1
  exact ⟨a, a1, a2.sh e2.sh⟩
def Af (st T : St) (fr : Fr) : Fr → Prop
 | [] => True
 | (t, d) :: r => Up st T (fr.get t) d ∧ Af st T fr r
theorem Af.get : ∀ {F : Fr}, Af st T fr F → ∀ t, Up st T (fr.get t) (F.get t)
 | [], _, _ => .any _
 | (k, d) :: r, h, t => by
  simp only [Fr.get]
  split
  ·rename_i e; subst e; exact h.1
  ·exact h.2.get t
structure Bk (n0 : Nat) (F : Fr) (T : St) (fr : Fr) (st : St) : Prop where
 len : n0 ≤ T.length
 wk : Cg st T
 up : Af st T fr F
 sc : Fr.sc T.length F
theorem Fv {F : Fr} (hb : Bk n0 F T fr st) (h : AWp P gl N n0 keep c Q F T) : AWp P gl N n0 keep c Q fr st :=
 fun w0 μ0 st0 hl0 a w ⟨μ, hc⟩ => h w0 μ0 st0 hl0 a w ⟨μ, hc.sim.wk hb.wk, vW hc.glob (fun _ h => hb.wk.kill.own h),
  fun t => VR.up hc.sim hb.wk.kill (hb.up.get t) (hc.fr t) (Fr.zC F hb.sc t), hc.size, hc.defers, Step.wk (by rw [hl0]; exact hb.len) hb.wk hc.step⟩
def fin (n0 : Nat) (R : D → St → Prop) (d : D) (st : St) : Prop := ∃ T d', n0 ≤ T.length ∧ Cg st T ∧ Up st T d d' ∧ D.sc T.length d' ∧ R d' T
@[congr] theorem Fw {n : Nat} {st st' : St} {R : D → St → Prop} {d d' : D} (h : d = d') (h2 : st = st') : fin n R d st = fin n R d' st' := by rw [h, h2]
def He (P : Program) (rs : List ResultVar) (n0 : Nat) (R : D → St → Prop) : AQ
 | .exit _, _, _ => False
 | _, fr, st => En P fr st rs ∧ fin n0 R (rsD P fr st rs) st
theorem DF {f : FuncId} {fn : Func} {c : Code} {args : List D} {R : D → St → Prop} {rs : List ResultVar} (keep : List Nat) (hf : P.funcs[f]? = some fn) (hb : fn.body = some c) (hN : fn.ntmps = N) (hr : fn.results.toList = rs)
  (hname : (fn.name != "runtime.NumGoroutine") = true) (hlen : Nat.ble args.length N = true)
  (h : pF st.length st → AWp P gl N st.length keep c (He P rs st.length R) (tB 0 args) st) : Spec P gl f args st R := by
 subst hN hr
 have hlen := Nat.le_of_ble_eq_true hlen
 refine ⟨by rw [hf]; simp [hb, hname], fun w μ vs hs hg hsz hvs => ?_⟩
 refine calls_of_wp hf hb ?_
 have hc : mK gl fn.ntmps w μ st (tB 0 args) st { tmps := vs ++ Array.replicate (fn.ntmps - vs.size) undef, defers := [] } w μ := by
  refine ⟨hs, hg, fun t => ?_, by simp; omega, rfl, Step.refl _ _ _⟩
  rw [tC]
  split
  ·rename_i ht
   have hts : t < vs.size := by rw [hsz]; omega
   have := hvs t (by omega)
   rw [Array.getD_eq_getD_getElem?, Array.getElem?_append_left hts, ← Array.getD_eq_getD_getElem?]
   simpa using this
  ·exact .any _
 refine wp_mono (h hs.sc w μ st rfl _ w ⟨μ, hc⟩) fun e a' w' hq => ?_
 have fin : ∀ fr' st', He P fn.results.toList st.length R .ret fr' st' → tv gl fn.ntmps w μ st fr' st' a' w' → a'.defers = [] ∧ ∃ v, (results fn a'.tmps).run P w' = .ok v w' ∧
   ∃ v' d Da μ', Ending.returned v = .returned v' ∧ R d Da ∧ Sim w' μ' Da ∧ Step w μ st w' μ' Da ∧ VR w' μ' Da v' d := by
  rintro fr' st' ⟨JY, T, d', hle, hw, hu, hsc, hR⟩ ⟨μ', hc'⟩
  obtain ⟨v, h1, h2⟩ := zD hc'.sim hc'.fr (wU _ JY)
  exact ⟨hc'.defers, v, h1, v, d', T, μ', rfl, hR, hc'.sim.wk hw, Step.wk hle hw hc'.step, VR.up hc'.sim hw.kill hu h2 hsc⟩
 cases e with
 | normal => obtain ⟨fr', st', h1, h2⟩ := hq; exact fin fr' st' h1 h2
 | ret => obtain ⟨fr', st', h1, h2⟩ := hq; exact fin fr' st' h1 h2
 | exit id => obtain ⟨fr', st', h1, h2⟩ := hq; exact h1.elim
 | goto => exact hq.elim
 | panic => exact hq.elim
 | outgrown => exact hq.elim
inductive UpL (st T : St) : St → St → Prop
 | nil (l : St) : UpL st T l []
 | dead (x : Option Ob) (l l' : St) (h : UpL st T l l') : UpL st T (x :: l) (none :: l')
 | live (ob ob' : Ob) (l l' : St) (h : Br st T ob ob') (hl : UpL st T l l') : UpL st T (some ob :: l) (some ob' :: l')
theorem UpL.lv {ob : Ob} {l l2 : St} (h : UpL st T l l2) : UpL st T (some ob :: l) (some ob :: l2) := .live _ _ _ _ (.same _) h
theorem Br.s {ob : Ob} : Br st T ob ob := .same _
theorem Up.s {d : D} : Up st T d d := .same _
theorem UpL.len : ∀ {l l' : St}, UpL st T l l' → l'.length ≤ l.length
 | _, _, .nil _ => Nat.zero_le _
 | _, _, .dead _ _ _ h => by simp [h.len]
 | _, _, .live _ _ _ _ _ h => by simp [h.len]
theorem UpL.get : ∀ {l l' : St}, UpL st T l l' → ∀ (j : Nat) (ob' : Ob), l'[j]? = some (some ob') → ∃ ob, l[j]? = some (some ob) ∧ Br st T ob ob'
 | _, _, .nil _, j, ob', h => by simp at h
 | _, _, .dead _ _ _ h, 0, ob', e => by simp at e
 | _, _, .dead _ _ _ h, j + 1, ob', e => by simpa using h.get j ob' (by simpa using e)
 | _, _, .live ob ob2 _ _ h _, 0, ob', e => by simp at e; subst e; exact ⟨ob, rfl, h⟩
 | _, _, .live _ _ _ _ _ h, j + 1, ob', e => by simpa using h.get j ob' (by simpa using e)
def ScL (n : Nat) : St → Prop
 | [] => True
 | none :: l => ScL n l
 | some ob :: l => ob.sc n ∧ ScL n l
theorem ScL.get {n : Nat} : ∀ {l : St}, ScL n l → ∀ (j : Nat) (ob : Ob), l[j]? = some (some ob) → ob.sc n
 | none :: l, h, 0, ob, e => by simp at e
 | some a :: l, h, 0, ob, e => by simp at e; subst e; exact h.1
 | none :: l, h, j + 1, ob, e => ScL.get (l := l) h j ob (by simpa using e)
 | some a :: l, h, j + 1, ob, e => ScL.get (l := l) h.2 j ob (by simpa using e)
end
mutual
theorem D.wq {n m : Nat} (h : n ≤ m) : ∀ (d : D), D.sc n d → D.sc m d
 | .agg cs, hd => D.nM h cs hd
 | .tup cs, hd => D.nM h cs hd
 | .fn _ a b, hd => ⟨D.nM h a hd.1, D.nM h b hd.2⟩
 | .ref _ o _ _ _, hd => (Nat.lt_of_lt_of_le hd h : o < m)
 | .ptr o _ _ _, hd => (Nat.lt_of_lt_of_le hd h : o < m)
 | .mp o, hd => (Nat.lt_of_lt_of_le hd h : o < m)
 | .it o, hd => (Nat.lt_of_lt_of_le hd h : o < m)
 | .cond _ d, hd => fun e => D.wq h d (hd e)
 | .any, _ => trivial
 | .bool _, _ => trivial
 | .int _ _, _ => trivial
 | .str _, _ => trivial
 | .dD, _ => trivial
 | .B4, _ => trivial
 | .D2, _ => trivial
 | .wM, _ => trivial
 | .sl _ _ _ _, _ => trivial
 | .mJ _, _ => trivial
theorem D.nM {n m : Nat} (h : n ≤ m) : ∀ (l : List D), D.scs n l → D.scs m l
 | [], _ => trivial
 | d :: l, hd => ⟨D.wq h d hd.1, D.nM h l hd.2⟩
end
theorem Ob.wq {n m : Nat} (h : n ≤ m) {ob : Ob} (hs : ob.sc n) : ob.sc m := by
 cases ob with
 | arr => exact fun e he => D.nM h _ (hs e he)
 | mps => exact fun e he => D.nM h _ (hs e he)
 | mpi => exact fun e he => D.nM h _ (hs e he)
 | sit => trivial
 | resv => trivial
theorem Ag {d : D} (h : d.imm = true) (n : Nat) : D.sc n d := by cases d <;> first | trivial | cases h
theorem Imm.sc {rows : List (List D)} (h : Imm rows) (n : Nat) : ∀ e ∈ rows, D.scs n e := fun e he =>
 lN fun j hj => Ag (List.all_eq_true.1 (h e he) _ (List.getElem_mem _)) n
theorem DG {s l l' : St} (hs : pF s.length s) (hu : UpL (s ++ l) (s ++ l') l l') (hl : ScL (s ++ l').length l') : Cg (s ++ l) (s ++ l') := by
 refine ⟨by simp; exact hu.len, fun o ob' h => ?_, fun o ob' h => ?_⟩
 ·rcases Nat.lt_or_ge o s.length with ho | ho
  ·rw [List.getElem?_append_left ho] at h
   exact ⟨ob', by rw [List.getElem?_append_left ho]; exact h, .same _⟩
  ·rw [List.getElem?_append_right ho] at h
   obtain ⟨ob, h1, h2⟩ := hu.get _ _ h
   exact ⟨ob, by rw [List.getElem?_append_right ho]; exact h1, h2⟩
 ·rcases Nat.lt_or_ge o s.length with ho | ho
  ·rw [List.getElem?_append_left ho] at h
   exact Ob.wq (by simp) (hs o ob' h)
  ·rw [List.getElem?_append_right ho] at h
   exact hl.get _ _ h
theorem tK {s l : St} (hs : pF s.length s) : Cg (s ++ l) s := by
 have := DG (l := l) (l' := []) hs (.nil l) trivial
 rwa [List.append_nil] at this
theorem rY {s : St} (hs : pF s.length s) : Cg s s := by
 have := tK (l := []) hs
 rwa [List.append_nil] at this
end Go.Am
namespace Go.Am
open Go
section
variable {P : Program} {gl : Gl} {N n0 : Nat} {keep : List Nat} {Q : AQ} {fr : Fr} {st : St} {c : Code} {w : World} {μ : Mu} {T : St}
theorem za.refl (st : St) : za st st := ⟨Nat.le_refl _, fun o ob h => ⟨ob, h, by cases ob <;> simp [Ft]⟩⟩
theorem Spec.up {f : FuncId} {args args' : List D} {R : D → St → Prop} (h : Spec P gl f args' st R) (hu : Ups st st args args') (hsc : D.scs st.length args') : Spec P gl f args st R :=
 ⟨h.1, fun w μ vs h1 h2 h3 h4 => h.2 w μ vs h1 h2 (h3.trans hu.len.symm) fun j hj => VR.up h1 (za.refl st) (hu.get j (by rw [← hu.len]; exact hj) hj) (h4 j (by rw [← hu.len]; exact hj)) (bJ hsc j hj)⟩
theorem Pure.up {f : FuncId} {args args' : List D} {r : D} (h : Pure P gl f args' r) (hu : ∀ st, Ups st st args args') (hi : args'.all D.imm = true ∨ ∀ n, D.scs n args') : Pure P gl f args r := fun st =>
 (h st).up (hu st) (hi.elim (fun hi => lN fun j _ => Ag (List.all_eq_true.1 hi _ (List.getElem_mem _)) _) (fun h => h _))
theorem Fx (hs : Sim w μ st) (n b : Nat) :
  Sim w (upd μ st.length none) (st ++ [some (.arr 0 n b [])]) ∧ Step w μ st w (upd μ st.length none) (st ++ [some (.arr 0 n b [])]) := by
 have look : ∀ o ob, (st ++ [some (Ob.arr 0 n b [])])[o]? = some (some ob) → (o < st.length ∧ st[o]? = some (some ob)) ∨ (o = st.length ∧ ob = .arr 0 n b []) := by
  intro o ob h
  rcases Nat.lt_or_ge o st.length with hl | hl
  ·rw [List.getElem?_append_left hl] at h; exact .inl ⟨hl, h⟩
  ·rw [List.getElem?_append_right hl] at h
   have : o - st.length = 0 := by
    rcases Nat.eq_zero_or_pos (o - st.length) with h0 | h0
    ·exact h0
    ·rw [List.getElem?_eq_none (by simp; omega)] at h; cases h
   rw [this] at h
   simp at h
   exact .inr ⟨by omega, h.symm⟩
 have step : Step w μ st w (upd μ st.length none) (st ++ [some (.arr 0 n b [])]) := by
  refine ⟨Nat.le_refl _, rfl, rfl, rfl, fun _ _ _ => rfl, fun blk hw => ?_, by simp, fun o ob hl h => ?_⟩
  ·obtain ⟨o, ob, base, h, hm⟩ := hw
   rcases look o ob h with ⟨hl, h⟩ | ⟨e, _⟩
   ·rw [V8 μ _ _ (by omega)] at hm; exact .inl ⟨o, ob, base, h, hm⟩
   ·subst e; rw [I6] at hm; cases hm
  ·rw [List.getElem?_append_left hl] at h
   refine ⟨ob, h, ?_⟩
   rw [V8 μ _ _ (by omega)]
   exact bR.refl _ _ _
 refine ⟨⟨fun o ob h => ?_, fun o1 o2 ob1 ob2 blk b1 b2 h1 h2 m1 m2 => ?_⟩, step⟩
 ·rcases look o ob h with ⟨hl, h⟩ | ⟨e, e2⟩
  ·rw [V8 μ _ _ (by omega)]
   exact (hs.obj o ob h).step step (fun _ _ _ => rfl)
  ·subst e; subst e2
   exact (⟨by simp [top], fun e he => (by cases he), .inl ⟨I6 _ _ _, rfl⟩⟩ : mL w _ _ _ n b [])
 ·rcases look o1 ob1 h1 with ⟨l1, h1⟩ | ⟨e, _⟩
  ·rcases look o2 ob2 h2 with ⟨l2, h2⟩ | ⟨e, _⟩
   ·rw [V8 μ _ _ (by omega)] at m1 m2
    exact hs.inj _ _ _ _ _ _ _ h1 h2 m1 m2
   ·subst e; rw [I6] at m2; cases m2
  ·subst e; rw [I6] at m1; cases m1
theorem Z7 (n b : Nat) (h : AWp P gl N n0 keep c Q fr (st ++ [some (.arr 0 n b [])])) : AWp P gl N n0 keep c Q fr st :=
 fun w0 μ0 st0 hl0 a w ⟨_, hc⟩ => h w0 μ0 st0 hl0 a w (let ⟨k1, k2⟩ := Fx hc.sim n b; ⟨_, k1, hc.glob.step k2, hc.fr.step k2, hc.size, hc.defers, hc.step.trans k2⟩)
theorem y3 {s l : St} {d d' : D} {R : D → St → Prop} (hsc : pF s.length s) (hu : Up (s ++ l) s d d') (hd : D.sc s.length d') (h : R d' s) : fin s.length R d (s ++ l) :=
 ⟨s, d', Nat.le_refl _, tK hsc, hu, hd, h⟩
end
theorem dH {s t : St} {k : Nat} : (s ++ t)[s.length + k]? = t[k]? := by
 rw [List.getElem?_append_right (by omega)]; congr 1; omega
theorem oD {s : St} {k : Nat} : look s (s.length + k) = none := by
 unfold look; rw [List.getElem?_eq_none (by omega)]; rfl
attribute [go_sem] He
end Go.Am
namespace Go.Am
open Go
section
variable {P : Program} {gl : Gl} {N n0 : Nat} {keep : List Nat} {Q : AQ} {fr : Fr} {st : St}
theorem Ah {w : World} {t e : TypeId} (hu : P.underlying t = some (.slice e)) (a : Option Addr) (l c : Nat) (ox oy : Operand) :
  (do eqGuard .eql t ox oy (.slice a l c) (.slice none 0 0); binOp .eql t (.slice a l c) (.slice none 0 0) : Sem Value).run P w = .ok (.bool a.isNone) w := by
 have h1 : (eqGuard .eql t ox oy (.slice a l c) (.slice none 0 0)).run P w = .ok () w := by unfold eqGuard; simp
 have h2' : ∀ d, (Op.equalIn (d + 1) t (.slice a l c) (.slice none 0 0)).run P w = .ok a.isNone w := fun d => by
  cases a <;> simp [Op.equalIn, run_underlying hu]
 have h2 : (Op.equalIn 10000 t (.slice a l c) (.slice none 0 0)).run P w = .ok a.isNone w := h2' 9999
 simp only [Sem.run_bind, h1, Result.andThen_ok, binOp, Op.equal, Op.maxDepth, h2]
 rfl
theorem pJ {id : Nat} {x a b : Nat} {t : TypeId} {ty1 ty2 ty3 : TypeId} {p1 p2 : String} {e1 e2 : Array Edge} {f : Bool} {n bb : Nat} {es : List (List D)}
  (hx : fr.get x = .sl f n bb es) (hk : ∃ e, (w6 P t).k = .slice e) (ha : a < N) (hb : b < N)
  (h : ∀ c : Bool, (c = true → es = []) → Q .normal (Fr.only keep ((fr.put a (.sl f n bb es)).put b (.bool c))) st) :
  AWp P gl N n0 keep (.region id #[⟨some a, .move (.tmp x), ty1, p1, e1, none⟩, ⟨some b, .binOp .eql t (.tmp a) (.const (.slice none 0 0)) ty3, ty2, p2, e2, none⟩] false) Q fr st := by
 intro w0 μ0 st0 hl act w ⟨μ, hc⟩
 obtain ⟨e, hk⟩ := hk
 have hu := cR hk
 refine wp_region ?_
 have hr : List.range 2 = [0, 1] := rfl
 show wpOps P _ _ (List.range 2) act w
 rw [hr, wpOps_cons]
 obtain ⟨nx, v, w', μ', h1, h2, h3⟩ := wZ (P := P) (q := 0) (o := ⟨some a, .move (.tmp x), ty1, p1, e1, none⟩) hc (by simp only [aop, eok, ev, hx, rN]) ha (fun h => by cases h)
 have hd : (aop P gl true (.move (.tmp x)) fr (look st) 0).d = .sl f n bb es := by simp only [aop, ev1, ev, hx, strip]
 have hst : (aop P gl true (.move (.tmp x)) fr (look st) 0).app 0 st = st := rfl
 simp only [hst, hd] at h3
 have second : wpOps P #[⟨some a, .move (.tmp x), ty1, p1, e1, none⟩, ⟨some b, .binOp .eql t (.tmp a) (.const (.slice none 0 0)) ty3, ty2, p2, e2, none⟩] (cq gl N w0 μ0 st0 Q) [1] (act.put (some a) v) w' := by
  rw [wpOps_cons]
  have hva := h3.fr a
  simp only [Fr.hH, Fr.pq, if_pos] at hva
  have hv : ∃ ad l c, (act.put (some a) v).tmps.getD a undef = .slice ad l c ∧ (ad = none → es = []) := by
   generalize (act.put (some a) v).tmps.getD a undef = u at hva
   cases hva with
   | tr h => cases h with
    | sl _ _ _ _ ad len cap cv _ _ _ _ _ _ ha' _ =>
     refine ⟨ad, len, cap, rfl, fun e => ?_⟩
     rcases ha' with h | ⟨_, _, h, _⟩
     ·exact h
     ·rw [e] at h; cases h
  obtain ⟨ad, l, c, hv1, hv2⟩ := hv
  have hrun := Ah (w := w') hu ad l c (.tmp a) (.const (.slice none 0 0))
  have hex : (execOp (act.put (some a) v).eval ⟨some b, .binOp .eql t (.tmp a) (.const (.slice none 0 0)) ty3, ty2, p2, e2, none⟩).run P w' = .ok (.value (.bool ad.isNone)) w' := by
   have e1 : (act.put (some a) v).eval (.tmp a) = .slice ad l c := hv1
   have : execOp (act.put (some a) v).eval ⟨some b, .binOp .eql t (.tmp a) (.const (.slice none 0 0)) ty3, ty2, p2, e2, none⟩ =
    (do pure (.value (← (do eqGuard .eql t (.tmp a) (.const (.slice none 0 0)) ((act.put (some a) v).eval (.tmp a)) (.slice none 0 0); binOp .eql t ((act.put (some a) v).eval (.tmp a)) (.slice none 0 0) : Sem Value)))) := rfl
   rw [this, e1, Sem.run_bind, hrun]; rfl
  have yH : mK gl N w0 μ0 st0 ((fr.put a (.sl f n bb es)).hH (some b) (.bool ad.isNone)) st ((act.put (some a) v).put (some b) (.bool ad.isNone)) w' μ' :=
   ⟨h3.sim, h3.glob, h3.fr.put (U3 _ _ _ _) (by rw [h3.size]; exact hb), by simp [Act.put, h3.size]; exact hc.size, by simpa [Act.put] using h3.defers, h3.step⟩
  simp only [wpOp, List.getElem?_toArray, List.getElem?_cons_succ, List.getElem?_cons_zero, Region.wanted, if_true]
  left
  unfold Oper.wp
  rw [hex]
  exact ⟨_, _, h ad.isNone (fun e => hv2 (by simpa using e)), μ', yH.sim, yH.glob, yH.fr.only keep, yH.size, yH.defers, yH.step⟩
 simp only [wpOp, List.getElem?_toArray, List.getElem?_cons_succ, List.getElem?_cons_zero, Region.wanted, if_true]
 left
 unfold Oper.wp
 rw [h1]
 rcases h2 with rfl | ⟨rfl, rfl⟩ <;> exact second
end
end Go.Am
namespace Go.Am
open Go
def wr (k : IntKind) (n : Int) : Int := k.wrap n
def get {α : Type} [Inhabited α] (l : List α) (k : Nat) : α := l.getD k default
def chk {α : Type} (p : Prop) [Decidable p] (x : Option α) : Option α := if p then x else none
def eV {α β : Type} (a : α) (f : α → Option β) : Option β := f a
def gd {α : Type} (G : Bool) (x : Option α) (d : α) : Option α := bif G then x else some d
inductive Ctl (ρ σ τ : Type) where
 | nxt (s : σ)
 | brk (t : τ)
 | ret (x : ρ)
inductive Ex (ρ τ : Type) where
 | nxt (t : τ)
 | ret (x : ρ)
def E0 {ρ τ : Type} (x : Option (Ex ρ τ)) (k : τ → Option ρ) : Option ρ :=
 match x with
 | none => none
 | some (.nxt t) => k t
 | some (.ret r) => some r
def ct {ρ σ τ : Type} (body : σ → Option (Ctl ρ σ τ)) : Nat → σ → Option (Ex ρ τ)
 | 0, _ => none
 | n + 1, s => match body s with
  | none => none
  | some (.nxt s') => ct body n s'
  | some (.brk t) => some (.nxt t)
  | some (.ret x) => some (.ret x)
def iM {ρ σ : Type} (body : Nat → σ → Option (Ctl ρ σ σ)) : Nat → Nat → σ → Option (Ex ρ σ)
 | 0, _, s => some (.nxt s)
 | m + 1, k, s => match body k s with
  | none => none
  | some (.nxt s') => iM body m (k + 1) s'
  | some (.brk s') => some (.nxt s')
  | some (.ret x) => some (.ret x)
def F0 {ρ σ : Type} (body : Nat → σ → Option (Ctl ρ σ σ)) (n : Nat) (s : σ) : Option (Ex ρ σ) := iM body n 0 s
section
variable {α β ρ σ τ : Type}
theorem G1 {p : Prop} [Decidable p] {x : Option α} {e : α} (h : chk p x = some e) : p ∧ x = some e := by
 unfold chk at h
 split at h
 ·rename_i hp; exact ⟨hp, h⟩
 ·cases h
theorem rZ {p : Prop} [Decidable p] {x : Option α} (hp : p) : chk p x = x := if_pos hp
theorem lD {a : α} {f : α → Option β} {e : β} (h : eV a f = some e) : ∃ y, y = a ∧ f y = some e := ⟨a, rfl, h⟩
theorem C6 {x : Option α} {f : α → Option β} {e : β} (h : x.bind f = some e) : ∃ v, x = some v ∧ f v = some e := Option.bind_eq_some_iff.1 h
theorem B0 {c : Bool} {a b : Option α} {e : α} (h : (bif c then a else b) = some e) (hc : c = true) : a = some e := by subst hc; exact h
theorem B1 {c : Bool} {a b : Option α} {e : α} (h : (bif c then a else b) = some e) (hc : c = false) : b = some e := by subst hc; exact h
theorem iu {G : Bool} {x : Option α} {d v : α} (h : gd G x d = some v) (hG : G = true) : x = some v := by subst hG; exact h
end
def rows {α : Type} (E : α → List D) (l : List α) : List (List D) := l.map E
class cU {α : Type} (E : α → List D) (n : outParam Nat) : Prop where
 len : ∀ x, (E x).length = n
 one : ∀ x, (E x).all D.one = true
 imm : ∀ x, (E x).all D.imm = true
def O1 (x : Int) : List D := [.int .i64 x]
def U2 (x : Int) : List D := [.int .u64 x]
def Hf (x : Int) : List D := [.int .i32 x]
def u8c (x : Int) : List D := [.int .u8 x]
def dB (x : Bool) : List D := [.bool x]
def CQ (x : Bs) : List D := [.str x]
def slc {α : Type} (n b : Nat) (E : α → List D) (x : List α) : List D := [.sl false n b (rows E x)]
instance : cU O1 1 := ⟨fun _ => rfl, fun _ => rfl, fun _ => rfl⟩
instance : cU U2 1 := ⟨fun _ => rfl, fun _ => rfl, fun _ => rfl⟩
instance : cU Hf 1 := ⟨fun _ => rfl, fun _ => rfl, fun _ => rfl⟩
instance : cU u8c 1 := ⟨fun _ => rfl, fun _ => rfl, fun _ => rfl⟩
instance : cU dB 1 := ⟨fun _ => rfl, fun _ => rfl, fun _ => rfl⟩
instance : cU CQ 1 := ⟨fun _ => rfl, fun _ => rfl, fun _ => rfl⟩
instance {α : Type} {n b : Nat} {E : α → List D} : cU (slc n b E) 1 := ⟨fun _ => rfl, fun _ => rfl, fun _ => rfl⟩
section
variable {α : Type} {E : α → List D} {n : Nat}
theorem eF (l : List α) : (rows E l).length = l.length := by simp [rows]
theorem xG : rows E [] = [] := rfl
theorem Ai (x : α) (l : List α) : rows E (x :: l) = E x :: rows E l := rfl
theorem L5 (l m : List α) : rows E l ++ rows E m = rows E (l ++ m) := by simp [rows]
theorem Fy (l : List α) (k : Nat) : (rows E l).take k = rows E (l.take k) := by simp [rows, List.map_take]
theorem Fz (l : List α) (k : Nat) : (rows E l).drop k = rows E (l.drop k) := by simp [rows, List.map_drop]
theorem Ey (l : List α) (k : Nat) (x : α) : (rows E l).set k (E x) = rows E (l.set k x) := by simp [rows]
theorem sj (m : Nat) (x : α) : List.replicate m (E x) = rows E (List.replicate m x) := by simp [rows]
theorem FA (l : List α) : l.take l.length = l := List.take_length
theorem I4 [Inhabited α] (l : List α) (k : Nat) : (rows E l).getD k (E default) = E (get l k) := by
 simp only [rows, List.getD_eq_getElem?_getD, get, List.getElem?_map]
 cases l[k]? <;> rfl
theorem vn [Inhabited α] {l : List α} {k : Nat} {d : List D} (h : k < l.length) : (rows E l).getD k d = E (get l k) := by
 simp [rows, get, h]
theorem kB [h : cU E n] (l : List α) : Imm (rows E l) := by
 intro e he
 obtain ⟨s, _, rfl⟩ := List.mem_map.1 he
 exact h.imm s
theorem Hg [h : cU E n] (l : List α) (m : Nat) : (∀ e ∈ rows E l, D.scs m e) = True := eq_true (Imm.sc (kB l) m)
theorem HW (x : Int) : O1 x = [.int .i64 x] := rfl
theorem HX (x : Int) : U2 x = [.int .u64 x] := rfl
theorem HY (x : Int) : Hf x = [.int .i32 x] := rfl
theorem Jh (x : Int) : u8c x = [.int .u8 x] := rfl
theorem Hi (x : Bool) : dB x = [.bool x] := rfl
theorem HZ (x : Bs) : CQ x = [.str x] := rfl
theorem Ji {a b : Nat} (x : List α) : slc a b E x = [.sl false a b (rows E x)] := rfl
theorem Ia (l : List Int) (k : Nat) : (rows O1 l).getD k [.int .i64 0] = [.int .i64 (get l k)] := I4 (E := O1) l k
theorem Ib (l : List Int) (k : Nat) : (rows U2 l).getD k [.int .u64 0] = [.int .u64 (get l k)] := I4 (E := U2) l k
theorem Ic (l : List Int) (k : Nat) : (rows Hf l).getD k [.int .i32 0] = [.int .i32 (get l k)] := I4 (E := Hf) l k
theorem Jj (l : List Int) (k : Nat) : (rows u8c l).getD k [.int .u8 0] = [.int .u8 (get l k)] := I4 (E := u8c) l k
theorem Hj (l : List Bool) (k : Nat) : (rows dB l).getD k [.bool false] = [.bool (get l k)] := I4 (E := dB) l k
theorem Ie (l : List Bs) (k : Nat) : (rows CQ l).getD k [.str []] = [.str (get l k)] := I4 (E := CQ) l k
theorem Jk {a b : Nat} (l : List (List α)) (k : Nat) : (rows (slc a b E) l).getD k [.sl false a b []] = [.sl false a b (rows E (get l k))] := I4 (E := slc a b E) l k
end
def mrw {κ α : Type} (E : α → List D) (m : List (κ × α)) : List (κ × List D) := m.map fun p => (p.1, E p.2)
theorem Ig {κ α : Type} {E : α → List D} (m : List (κ × α)) : (mrw E m).length = m.length := by simp [mrw]
theorem FB {κ α : Type} [DecidableEq κ] {E : α → List D} (k : κ) (m : List (κ × α)) : assoc k (mrw E m) = (assoc k m).map E := by
 induction m with
 | nil => rfl
 | cons p m ih =>
  obtain ⟨a, v⟩ := p
  simp only [mrw, List.map_cons, assoc] at ih ⊢
  split
  ·rfl
  ·exact ih
theorem wu {κ α : Type} [DecidableEq κ] {E : α → List D} (k : κ) (v : α) (m : List (κ × α)) : K1 k (E v) (mrw E m) = mrw E (K1 k v m) := by
 induction m with
 | nil => rfl
 | cons p m ih =>
  obtain ⟨a, u⟩ := p
  simp only [mrw, List.map_cons, K1] at ih ⊢
  split
  ·rfl
  ·simp only [List.map_cons]; rw [ih]
theorem DH {a b : Nat} {z dd : List D} {o : Option Int} : mM ⟨a, b, z, dd, some (.int .i64 0), .int .i64⟩ (o.map O1) = .int .i64 (o.getD default) := by cases o <;> rfl
theorem CS {a b : Nat} {z dd : List D} {o : Option Bool} : mM ⟨a, b, z, dd, some (.bool false), .bool⟩ (o.map dB) = .bool (o.getD default) := by cases o <;> rfl
theorem DI {a b : Nat} {z dd : List D} {o : Option Bs} : mM ⟨a, b, z, dd, some (.str []), .str⟩ (o.map CQ) = .str (o.getD default) := by cases o <;> rfl
theorem Ih {κ α : Type} {E : α → List D} {n : Nat} [h : cU E n] (l : List (κ × α)) (m : Nat) : (∀ (a : κ) (b : List D), (a, b) ∈ mrw E l → D.scs m b) = True := by
 refine eq_true fun a b hb => ?_
 obtain ⟨⟨x, y⟩, h1, h2⟩ := List.mem_map.1 hb
 cases h2
 exact lN fun j hj => Ag (List.all_eq_true.1 (h.imm y) _ (List.getElem_mem _)) m
theorem jh {st T : St} {d d' : D} (h : d = d') : Up st T d d' := h ▸ .same _
section
variable {P : Program} {gl : Gl} {N n0 : Nat} {keep : List Nat} {Q : AQ} {fr : Fr} {st : St}
theorem tL {c : Code} (h : AWp P gl N n0 keep c Q fr st) : AWp P gl N n0 keep (.scope c) Q fr st :=
 fun w0 μ0 st0 hl a w hc => wp_scope_straight (wp_mono (h w0 μ0 st0 hl a w hc) fun e a' w' hq => by
  cases e <;> exact hq)
end
def bS {α : Type} (E : α → List D) (l : List α) : List D := (rows E l).flatten
theorem pK {α : Type} [Inhabited α] {E : α → List D} {l : List α} {k n : Nat} (hn : ∀ a, (E a).length = n) (hk : k < l.length) : rowAt (bS E l) k n = E (get l k) := by
 induction l generalizing k with
 | nil => cases hk
 | cons a l ih =>
  have e : bS E (a :: l) = E a ++ bS E l := by simp [bS, rows]
  rw [e]
  cases k with
  | zero => simp only [rowAt, Nat.zero_mul, List.drop_zero]; rw [← hn a, List.take_left]; rfl
  | succ k =>
   have h2 : rowAt (E a ++ bS E l) (k + 1) n = rowAt (bS E l) k n := by
    simp only [rowAt]
    rw [show (k + 1) * n = (E a).length + k * n by rw [hn a, Nat.succ_mul, Nat.add_comm], ← List.drop_drop, List.drop_left]
   rw [h2]; exact ih (by simpa using hk)
theorem dI {α : Type} {E : α → List D} {st T : St} {x ys : List α} {es : List (List D)} (h : je st T es (rows E ys)) : je st T (rows E x ++ es) (rows E (x ++ ys)) := by
 rw [show rows E (x ++ ys) = rows E x ++ rows E ys by simp [rows]]
 induction x with
 | nil => exact h
 | cons a x ih => exact .cons _ _ _ _ (Ups.refl _) ih
theorem Ch {α : Type} (l : List α) (k : Nat) : (l.drop k).take (l.length - k) = l.drop k := List.take_of_length_le (by rw [List.length_drop]; exact Nat.le_refl _)
theorem FC {st : St} (a b : Nat) : st.length + a + b = st.length + (a + b) := Nat.add_assoc _ _ _
theorem FD {G : Bool} : aN G True = True := by simp [aN]
theorem Hl {G : Bool} {p q : Prop} : aN G (p ∧ q) = (aN G p ∧ aN G q) := by unfold aN; exact propext ⟨fun h => ⟨fun e => (h e).1, fun e => (h e).2⟩, fun h e => ⟨h.1 e, h.2 e⟩⟩
instance {G : Bool} {p : Prop} [Decidable p] : Decidable (aN G p) := by unfold aN; exact inferInstance
instance {k : IntKind} {n : Int} : Decidable (InK k n) := by unfold InK; exact inferInstance
theorem Ho (k : IntKind) (n : Int) : arith k n = ⟨.int k (wr k n), True, [], none, none⟩ := rfl
theorem Ii (k : IntKind) (n : Int) : k.wrap n = wr k n := rfl
theorem W0 {n : Int} (h1 : -9223372036854775808 ≤ n) (h2 : n ≤ 9223372036854775807) : wr .i64 n = n := by
 unfold wr
 exact vJ (k := .i64) ⟨h1, h2⟩
theorem nY {k n : Nat} (hk : k < n) (h : n ≤ 9223372036854775807) : wr .i64 ((k : Int) + 1) = ((k + 1 : Nat) : Int) := by
 rw [W0 (by omega) (by omega)]; omega
theorem kP {k : Nat} (h : k < 9223372036854775807) : wr .i64 ((k : Int) + 1) = ((k + 1 : Nat) : Int) := nY (n := k + 1) (by omega) (by omega)
theorem gy {k n b : Nat} (hk : k < n) (h : n * b ≤ top) (hb : 1 ≤ b) : wr .i64 ((k : Int) + 1) = ((k + 1 : Nat) : Int) := by
 have h1 : n * 1 ≤ n * b := Nat.mul_le_mul_left n hb
 unfold top at h
 rw [W0 (by omega) (by omega)]; omega
section
variable {P : Program} {gl : Gl} {N n0 : Nat} {keep : List Nat} {Q : AQ} {fr : Fr} {st : St} {c x : Code} {id : Nat}
inductive BkS (n0 : Nat) (F : Fr) (T : St) : Fr → St → Prop
 | nil : BkS n0 F T F T
 | cons {F' fr : Fr} {T' st : St} (h : Bk n0 F' T' fr st) (ht : BkS n0 F T F' T') : BkS n0 F T fr st
theorem BkS.one {F : Fr} {T : St} (h : Bk n0 F T fr st) : BkS n0 F T fr st := .cons h .nil
theorem BkS.trans {F F' : Fr} {T T' : St} (h : BkS n0 F' T' fr st) (h2 : BkS n0 F T F' T') : BkS n0 F T fr st := by
 induction h with
 | nil => exact h2
 | cons h _ ih => exact .cons h ih
theorem L6 {F : Fr} {T : St} (hb : BkS n0 F T fr st) (h : AWp P gl N n0 keep c Q F T) : AWp P gl N n0 keep c Q fr st := by
 induction hb with
 | nil => exact h
 | cons hb _ ih => exact Fv hb ih
theorem G0 {s l l' : St} {F : Fr} (hsc : pF s.length s) (hu : UpL (s ++ l) (s ++ l') l l') (hl : ScL (s ++ l').length l') (hf : Af (s ++ l) (s ++ l') fr F) (hs : Fr.sc (s ++ l').length F) :
  BkS s.length F (s ++ l') fr (s ++ l) := .one ⟨by simp, DG hsc hu hl, hf, hs⟩
theorem aO {s l : St} {F : Fr} (hsc : pF s.length s) (hf : Af (s ++ l) s fr F) (hs : Fr.sc s.length F) : BkS s.length F s fr (s ++ l) := .one ⟨Nat.le_refl _, tK hsc, hf, hs⟩
theorem D9 {s : St} {F : Fr} (hsc : pF s.length s) (hf : Af s s fr F) (hs : Fr.sc s.length F) : BkS s.length F s fr s := .one ⟨Nat.le_refl _, rY hsc, hf, hs⟩
theorem lS {s t : St} : (s ++ t)[s.length]? = t[0]? := dH (k := 0)
theorem pL {s : St} : look s s.length = none := oD (k := 0)
theorem bT {s t : St} {k : Nat} (h : t.length ≤ k) : look (s ++ t) (s.length + k) = none := by
 unfold look; rw [List.getElem?_eq_none (by simp; omega)]; rfl
theorem B9 {s : St} {d d' : D} {R : D → St → Prop} (hsc : pF s.length s) (hu : Up s s d d') (hd : D.sc s.length d') (h : R d' s) : fin s.length R d s :=
 ⟨s, d', Nat.le_refl _, rY hsc, hu, hd, h⟩
def Ij (P : Program) (rs : List ResultVar) (n0 : Nat) (R : D → St → Prop) : AQ
 | .exit _, _, _ => False
 | _, fr, st => ∃ F T, BkS n0 F T fr st ∧ En P F T rs ∧ fin n0 R (rsD P F T rs) T
theorem E4 {rs : List ResultVar} {R : D → St → Prop} (h : He P rs n0 R .ret fr st) : Ij P rs n0 R .ret fr st := ⟨fr, st, .nil, h.1, h.2⟩
theorem Ci {rs : List ResultVar} {R : D → St → Prop} (h : He P rs n0 R .ret fr st) : Ij P rs n0 R .normal fr st := ⟨fr, st, .nil, h.1, h.2⟩
theorem tv.bks {w0 : World} {μ0 : Mu} {st0 : St} {a : Act} {w : World} {F : Fr} {T : St} (hl0 : st0.length = n0) (hb : BkS n0 F T fr st) (h : tv gl N w0 μ0 st0 fr st a w) : tv gl N w0 μ0 st0 F T a w := by
 induction hb with
 | nil => exact h
 | cons hb _ ih =>
  obtain ⟨μ, hc⟩ := h
  exact ih ⟨μ, hc.sim.wk hb.wk, vW hc.glob (fun _ h => hb.wk.kill.own h),
   fun t => VR.up hc.sim hb.wk.kill (hb.up.get t) (hc.fr t) (Fr.zC _ hb.sc t), hc.size, hc.defers, Step.wk (by rw [hl0]; exact hb.len) hb.wk hc.step⟩
theorem O4 {f : FuncId} {fn : Func} {c : Code} {args : List D} {R : D → St → Prop} {rs : List ResultVar} (keep : List Nat) (hf : P.funcs[f]? = some fn) (hb : fn.body = some c) (hN : fn.ntmps = N) (hr : fn.results.toList = rs)
  (hname : (fn.name != "runtime.NumGoroutine") = true) (hlen : Nat.ble args.length N = true)
  (h : pF st.length st → AWp P gl N st.length keep c (Ij P rs st.length R) (tB 0 args) st) : Spec P gl f args st R := by
 refine DF keep hf hb hN hr hname hlen fun hsc => ?_
 intro w0 μ0 st0 hl a w hc
 refine wp_mono (h hsc w0 μ0 st0 hl a w hc) fun e a' w' hq => ?_
 cases e with
 | normal =>
  obtain ⟨fr', st', ⟨F, T, h1, h2, h3⟩, h4⟩ := hq
  exact ⟨F, T, ⟨h2, h3⟩, h4.bks hl h1⟩
 | ret =>
  obtain ⟨fr', st', ⟨F, T, h1, h2, h3⟩, h4⟩ := hq
  exact ⟨F, T, ⟨h2, h3⟩, h4.bks hl h1⟩
 | exit id => obtain ⟨fr', st', h1, h2⟩ := hq; exact h1.elim
 | goto => exact hq.elim
 | panic => exact hq.elim
 | outgrown => exact hq.elim
theorem pN {σ Γ ρ : Type} (K : σ → Option ρ) (e : ρ) (F : Γ → σ → Fr) (T : Γ → σ → St) (hk : ∀ γ s fr st, K s = some e → BkS n0 (F γ s) (T γ s) fr st → Q .normal fr st)
  (hx : (∀ γ s fr st, K s = some e → BkS n0 (F γ s) (T γ s) fr st → Q .normal fr st) → AWp P gl N n0 keep x Q fr st) : AWp P gl N n0 keep x Q fr st := hx hk
def PBr {Γ ρ σ : Type} (n0 id : Nat) (F : Γ → Nat → σ → Fr) (T : Γ → Nat → σ → St) (Fb : Γ → σ → Fr) (Tb : Γ → σ → St) (Q : AQ) (k : Nat) : Ctl ρ σ σ → AQ
 | .nxt s => fun ex fr st => ex = .normal ∧ ∃ γ, BkS n0 (F γ (k + 1) s) (T γ (k + 1) s) fr st
 | .brk s => fun ex fr st => ex = .exit id ∧ ∃ γ, BkS n0 (Fb γ s) (Tb γ s) fr st
 | .ret _ => fun ex fr st => ex ≠ .normal ∧ AQ.block id Q ex fr st
theorem arg_ {Γ ρ σ : Type} {body : Nat → σ → Option (Ctl ρ σ σ)} {n : Nat} {s0 : σ} {kk : σ → Option ρ} {e : ρ} (F : Γ → Nat → σ → Fr) (T : Γ → Nat → σ → St) (Fb : Γ → σ → Fr) (Tb : Γ → σ → St) (γ0 : Γ)
  (h : E0 (F0 body n s0) kk = some e)
  (h0 : BkS n0 (F γ0 0 s0) (T γ0 0 s0) fr st)
  (hs : ∀ γ k s b, k < n → body k s = some b → (∀ x, b = .ret x → x = e) → AWp P gl N n0 keep c (PBr n0 id F T Fb Tb Q k b) (F γ k s) (T γ k s))
  (he : ∀ γ s, AWp P gl N n0 keep c (fun ex fr st => ex = .exit id ∧ ∃ γ', BkS n0 (Fb γ' s) (Tb γ' s) fr st) (F γ n s) (T γ n s))
  (hk : ∀ γ s fr st, kk s = some e → BkS n0 (Fb γ s) (Tb γ s) fr st → Q .normal fr st) :
  AWp P gl N n0 keep (.block id (.loop c)) Q fr st := by
 refine U8 (L6 h0 ?_)
 unfold F0 at h
 have key : ∀ m k s γ, k + m = n → E0 (iM body m k s) kk = some e → AWp P gl N n0 keep (.loop c) (AQ.block id Q) (F γ k s) (T γ k s) := by
  intro m
  induction m with
  | zero =>
   intro k s γ hk' h1
   have : k = n := by omega
   subst this
   refine rP (rQ (he γ s) fun ex fr st hq => ?_)
   obtain ⟨rfl, γ', hb⟩ := hq
   show AQ.block id Q (.exit id) fr st
   simp only [AQ.block, if_true]
   exact hk γ' s fr st h1 hb
  | succ m ih =>
   intro k s γ hk' h
   simp only [iM] at h
   cases hb : body k s with
   | none => rw [hb] at h; cases h
   | some b =>
    rw [hb] at h
    refine rP (rQ (hs γ k s b (by omega) hb ?_) fun ex fr st hq => ?_)
    ·intro x hx
     subst hx
     cases h; rfl
    ·cases b with
     | nxt s' =>
      obtain ⟨rfl, γ', hb'⟩ := hq
      exact L6 hb' (ih (k + 1) s' γ' (by omega) h)
     | brk s' =>
      obtain ⟨rfl, γ', hb'⟩ := hq
      show AQ.block id Q (.exit id) fr st
      simp only [AQ.block, if_true]
      exact hk γ' s' fr st h hb'
     | ret x =>
      obtain ⟨h1, h2⟩ := hq
      cases ex with
      | normal => exact absurd rfl h1
      | _ => exact h2
 exact key n 0 s0 γ0 (by omega) h
def PBw {Γ Δ ρ σ τ : Type} (n0 id : Nat) (F : Γ → σ → Fr) (T : Γ → σ → St) (Fb : Δ → τ → Fr) (Tb : Δ → τ → St) (Q : AQ) : Ctl ρ σ τ → AQ
 | .nxt s => fun ex fr st => ex = .normal ∧ ∃ γ, BkS n0 (F γ s) (T γ s) fr st
 | .brk s => fun ex fr st => ex = .exit id ∧ ∃ γ, BkS n0 (Fb γ s) (Tb γ s) fr st
 | .ret _ => fun ex fr st => ex ≠ .normal ∧ AQ.block id Q ex fr st
theorem O5 {Γ Δ ρ σ τ : Type} {body : σ → Option (Ctl ρ σ τ)} {n : Nat} {s0 : σ} {kk : τ → Option ρ} {e : ρ} (F : Γ → σ → Fr) (T : Γ → σ → St) (Fb : Δ → τ → Fr) (Tb : Δ → τ → St) (γ0 : Γ)
  (h : E0 (ct body n s0) kk = some e)
  (h0 : BkS n0 (F γ0 s0) (T γ0 s0) fr st)
  (hs : ∀ γ s b, body s = some b → (∀ x, b = .ret x → x = e) → AWp P gl N n0 keep c (PBw n0 id F T Fb Tb Q b) (F γ s) (T γ s))
  (hk : ∀ γ s fr st, kk s = some e → BkS n0 (Fb γ s) (Tb γ s) fr st → Q .normal fr st) :
  AWp P gl N n0 keep (.block id (.loop c)) Q fr st := by
 refine U8 (L6 h0 ?_)
 have key : ∀ m s γ, E0 (ct body m s) kk = some e → AWp P gl N n0 keep (.loop c) (AQ.block id Q) (F γ s) (T γ s) := by
  intro m
  induction m with
  | zero => intro s γ h; cases h
  | succ m ih =>
   intro s γ h
   simp only [ct] at h
   cases hb : body s with
   | none => rw [hb] at h; cases h
   | some b =>
    rw [hb] at h
    refine rP (rQ (hs γ s b hb ?_) fun ex fr st hq => ?_)
    ·intro x hx
     subst hx
     cases h; rfl
    ·cases b with
     | nxt s' =>
      obtain ⟨rfl, γ', hb'⟩ := hq
      exact L6 hb' (ih s' γ' h)
     | brk s' =>
      obtain ⟨rfl, γ', hb'⟩ := hq
      show AQ.block id Q (.exit id) fr st
      simp only [AQ.block, if_true]
      exact hk γ' s' fr st h hb'
     | ret x =>
      obtain ⟨h1, h2⟩ := hq
      cases ex with
      | normal => exact absurd rfl h1
      | _ => exact h2
 exact key n s0 γ0 h
section
variable {Γ Δ ρ σ τ : Type} {F : Γ → σ → Fr} {T : Γ → σ → St} {Fb : Δ → τ → Fr} {Tb : Δ → τ → St} {Fk : Γ → Nat → σ → Fr} {Tk : Γ → Nat → σ → St} {Fc : Γ → σ → Fr} {Tc : Γ → σ → St} {k : Nat} {ex : BK}
theorem bK {s : σ} (γ : Γ) (h : BkS n0 (Fk γ (k + 1) s) (Tk γ (k + 1) s) fr st) : PBr (ρ := ρ) n0 id Fk Tk Fc Tc Q k (.nxt s) .normal fr st := ⟨rfl, γ, h⟩
theorem F9 {x : ρ} (h : AQ.block id Q .ret fr st) : PBr n0 id Fk Tk Fc Tc Q k (.ret x) .ret fr st := ⟨BK.noConfusion, h⟩
theorem U4 {s : σ} (γ : Γ) (h : BkS n0 (F γ s) (T γ s) fr st) : PBw (ρ := ρ) n0 id F T Fb Tb Q (.nxt s) .normal fr st := ⟨rfl, γ, h⟩
theorem bL {s : τ} (γ : Δ) (h : BkS n0 (Fb γ s) (Tb γ s) fr st) : PBw (ρ := ρ) n0 id F T Fb Tb Q (.brk s) (.exit id) fr st := ⟨rfl, γ, h⟩
theorem jy {x : ρ} (h : AQ.block id Q .ret fr st) : PBw n0 id F T Fb Tb Q (.ret x) .ret fr st := ⟨BK.noConfusion, h⟩
end
end
attribute [simp] Ih ScL Ob.sc D.sc D.scs Fr.sc Hg
attribute [go_sem] or_true Int.cast_ofNat_Int HW HX HY Jh Hi HZ Ji Int.reduceEq Int.reduceNe Nat.zero_le true_or List.length_replicate Option.mem_def Option.map_some Option.map_none false_implies forall_eq' Option.isSome_none Option.some.injEq FC Int.le_refl decide_true decide_false Ig FB DH CS DI Fy Fz Ch Ii IntKind.bits Option.isSome_map List.drop_zero Int.toNat_zero Int.reduceToNat Int.reduceNeg Int.reduceLT Int.reduceLE Nat.reducePow Ho FD Hl Option.isSome_some eF FA Ia Ib Ic Jj Hj Ie Jk Int.toNat_natCast Nat.zero_add Nat.sub_zero Nat.le_refl Int.natCast_nonneg Int.ofNat_lt reduceCtorEq
 Nat.reduceAdd Nat.reduceEqDiff Nat.reduceLT Nat.reduceLeDiff Nat.reduceMul Nat.reduceSub Nat.reduceBEq Nat.reduceBNe reduceIte
end Go.Am
namespace Go.Am
open Go
def gu (st : St) : List (Nat × Ob) → St
 | [] => st
 | (o, x) :: m => (gu st m).set o (some x)
def Aj : List (Nat × Ob) → Nat → Option Ob → Option Ob
 | [], _, d => d
 | (a, x) :: m, o, d => if o = a then some x else Aj m o d
def FE : List (Nat × Ob) → Nat → Ob → List (Nat × Ob)
 | [], o, x => [(o, x)]
 | (a, y) :: m, o, x => if o = a then (a, x) :: m else (a, y) :: FE m o x
theorem fj (st : St) : ∀ m : List (Nat × Ob), (gu st m).length = st.length
 | [] => rfl
 | (o, x) :: m => by simp [gu, fj st m]
theorem C2 {st l : St} {o : Nat} (ho : o < st.length) : ∀ m : List (Nat × Ob), look (gu st m ++ l) o = Aj m o (look st o)
 | [] => by
  simp only [gu, Aj]
  unfold look
  rw [List.getElem?_append_left ho]
 | (a, x) :: m => by
  have ih := C2 (l := l) ho m
  have hl := fj st m
  simp only [gu, Aj]
  unfold look at ih ⊢
  rw [List.getElem?_append_left (by simp [hl]; exact ho)]
  rw [List.getElem?_append_left (by rw [hl]; exact ho)] at ih
  rw [List.getElem?_set]
  by_cases e : o = a
  ·subst e; rw [if_pos rfl, if_pos (by rw [hl]; exact ho), if_pos rfl]; rfl
  ·rw [if_neg (fun h => e h.symm), if_neg e]; exact ih
theorem x6 {st : St} {o : Nat} (ho : o < st.length) (m : List (Nat × Ob)) : look (gu st m) o = Aj m o (look st o) := by
 have := C2 (l := []) ho m
 rwa [List.append_nil] at this
theorem S9 {st l : St} {m : List (Nat × Ob)} {k : Nat} : look (gu st m ++ l) (st.length + k) = look l k := by
 rw [← fj st m]; exact Y0
theorem DJ {st l : St} {m : List (Nat × Ob)} : look (gu st m ++ l) st.length = look l 0 := S9 (k := 0)
theorem C4 {st l : St} {o : Nat} {x : Ob} (ho : o < st.length) : ∀ m : List (Nat × Ob), (gu st m ++ l).set o (some x) = gu st (FE m o x) ++ l
 | [] => by simp only [FE, gu]; rw [List.set_append_left _ _ ho]
 | (a, y) :: m => by
  have ih := C4 (l := l) (x := x) ho m
  have hl := fj st m
  simp only [gu, FE]
  rw [List.set_append_left _ _ (by simp [hl]; exact ho)]
  rw [List.set_append_left _ _ (by rw [hl]; exact ho)] at ih
  have ih' := List.append_cancel_right ih
  split
  ·rename_i e; subst e
   simp [gu, List.set_set]
  ·rename_i e
   simp only [gu]
   rw [List.set_comm _ _ (fun h => e h.symm), ih']
theorem x7 {st : St} {o : Nat} {x : Ob} (ho : o < st.length) (m : List (Nat × Ob)) : (gu st m).set o (some x) = gu st (FE m o x) := by
 have := C4 (l := []) (x := x) ho m
 rwa [List.append_nil, List.append_nil] at this
theorem Ak {st l : St} {m : List (Nat × Ob)} {k : Nat} {x : Option Ob} : (gu st m ++ l).set (st.length + k) x = gu st m ++ l.set k x := by
 rw [← fj st m]; exact zK
theorem Ez {st l : St} {m : List (Nat × Ob)} {x : Option Ob} : (gu st m ++ l).set st.length x = gu st m ++ l.set 0 x := Ak (k := 0)
theorem tM {st l : St} {m : List (Nat × Ob)} {k : Nat} : (gu st m ++ l)[st.length + k]? = l[k]? := by
 rw [← fj st m]; exact dH
theorem ko {st l : St} {m : List (Nat × Ob)} : (gu st m ++ l)[st.length]? = l[0]? := tM (k := 0)
theorem FG {st l : St} {m : List (Nat × Ob)} : (gu st m ++ l).length = st.length + l.length := by rw [List.length_append, fj]
theorem L7 {st : St} : ∀ {m : List (Nat × Ob)}, (∀ p ∈ m, look st p.1 = some p.2) → gu st m = st
 | [], _ => rfl
 | (o, x) :: m, h => by
  simp only [gu]
  rw [L7 (fun p hp => h p (List.mem_cons_of_mem _ hp))]
  have := K3 (h (o, x) (List.mem_cons_self ..))
  apply List.ext_getElem?
  intro i
  rw [List.getElem?_set]
  split
  ·rename_i e; subst e
   have hl := (List.getElem?_eq_some_iff.1 this).1
   rw [if_pos hl, this]
  ·rfl
theorem fP {st : St} {o : Nat} {x : Ob} (h : look st o = some x) : o < st.length := (List.getElem?_eq_some_iff.1 (K3 h)).1
def scM (n : Nat) : List (Nat × Ob) → Prop
 | [] => True
 | (_, x) :: m => x.sc n ∧ scM n m
theorem G2 {st : St} (h : pF st.length st) : ∀ {m : List (Nat × Ob)}, scM st.length m → pF (gu st m).length (gu st m)
 | [], _ => h
 | (o, x) :: m, hm => by
  have ih := G2 h hm.2
  intro o' ob e
  simp only [gu] at e ⊢
  rw [List.length_set]
  rw [List.getElem?_set] at e
  split at e
  ·split at e
   ·cases e; rw [fj]; exact hm.1
   ·cases e
  ·exact ih o' ob e
section
variable {P : Program} {gl : Gl} {N n0 : Nat} {keep : List Nat} {Q : AQ} {fr : Fr} {st : St} {c : Code}
theorem pO {s s' : St} (e : s' = s) (h : AWp P gl N n0 keep c Q fr s') : AWp P gl N n0 keep c Q fr s := e ▸ h
theorem nN {s l l' : St} {F : Fr} (hn : n0 ≤ s.length) (hsc : pF s.length s) (hu : UpL (s ++ l) (s ++ l') l l') (hl : ScL (s ++ l').length l') (hf : Af (s ++ l) (s ++ l') fr F) (hs : Fr.sc (s ++ l').length F) :
  BkS n0 F (s ++ l') fr (s ++ l) := .one ⟨by simp; omega, DG hsc hu hl, hf, hs⟩
theorem Al {s l : St} {F : Fr} (hn : n0 ≤ s.length) (hsc : pF s.length s) (hf : Af (s ++ l) s fr F) (hs : Fr.sc s.length F) : BkS n0 F s fr (s ++ l) := .one ⟨hn, tK hsc, hf, hs⟩
theorem Cj {s : St} {F : Fr} (hn : n0 ≤ s.length) (hsc : pF s.length s) (hf : Af s s fr F) (hs : Fr.sc s.length F) : BkS n0 F s fr s := .one ⟨hn, rY hsc, hf, hs⟩
theorem J2 {s l : St} {d d' : D} {R : D → St → Prop} (hn : n0 ≤ s.length) (hsc : pF s.length s) (hu : Up (s ++ l) s d d') (hd : D.sc s.length d') (h : R d' s) : fin n0 R d (s ++ l) :=
 ⟨s, d', hn, tK hsc, hu, hd, h⟩
theorem Ao {s : St} {d d' : D} {R : D → St → Prop} (hn : n0 ≤ s.length) (hsc : pF s.length s) (hu : Up s s d d') (hd : D.sc s.length d') (h : R d' s) : fin n0 R d s :=
 ⟨s, d', hn, rY hsc, hu, hd, h⟩
mutual
def D.flat : D → Bool
 | .bool _ => true
 | .int _ _ => true
 | .str _ => true
 | .agg cs => D.yI cs
 | .tup cs => D.yI cs
 | _ => false
def D.yI : List D → Bool
 | [] => true
 | d :: l => d.flat && D.yI l
end
theorem pP : ∀ {l : List D}, D.yI l = true → ∀ j (h : j < l.length), (l[j]).flat = true
 | d :: l, h, 0, _ => by simp only [D.yI, Bool.and_eq_true] at h; exact h.1
 | d :: l, h, j + 1, hj => by
  simp only [D.yI, Bool.and_eq_true] at h
  exact pP (l := l) h.2 j (by simpa using hj)
theorem VR.flat {w w' : World} {μ μ' : Mu} {s s' : St} {v : Value} {d : D} (h : VR w μ s v d) (hf : d.flat = true) : VR w' μ' s' v d := by
 induction h with
 | any => cases hf
 | tr h =>
  cases h with
  | bool b => exact .tr (.bool b)
  | int k n => exact .tr (.int k n)
  | str x => exact .tr (.str x)
  | _ => cases hf
 | agg vs cs hs hc ih => exact .agg vs cs hs fun j hj => ih j hj (pP hf j hj)
 | tup vs cs hs hc ih => exact .tup vs cs hs fun j hj => ih j hj (pP hf j hj)
 | fn => cases hf
 | ref => cases hf
 | ptr => cases hf
 | mp => cases hf
 | it => cases hf
 | cond => cases hf
def dead (st : St) : St := List.replicate st.length none
theorem lT {st : St} {o : Nat} {ob : Ob} : ¬ (dead st)[o]? = some (some ob) := by
 unfold dead
 rw [List.getElem?_replicate]
 split <;> simp
theorem Ap {st : St} {o : Nat} : look (dead st) o = none := by
 cases h : look (dead st) o with
 | none => rfl
 | some x => exact absurd (K3 h) lT
theorem xH {μ : Mu} {st : St} {blk : Nat} : ¬ own μ (dead st) blk := fun ⟨_, _, _, h, _⟩ => lT h
theorem Aq {st : St} : za st (dead st) := ⟨by simp [dead], fun _ _ h => absurd h lT⟩
theorem Pure.borrow {f : FuncId} {args args' : List D} {r : D} (h : Pure P gl f args' r) (hu : Ups st (dead st) args args') (hsc : D.scs (dead st).length args') (hr : r.flat = true) {R : D → St → Prop} (hR : R r st) : Spec P gl f args st R := by
 refine ⟨(h st).1, fun w μ vs hs hg hsz hvs => ?_⟩
 have hs0 : Sim w μ (dead st) := ⟨fun o ob e => absurd e lT, fun o _ _ _ _ _ _ e => absurd e lT⟩
 have hg0 : Glob gl w μ (dead st) := vW hg (fun blk hb => absurd hb xH)
 have hv0 : ∀ j (hj : j < args'.length), VR w μ (dead st) (vs.getD j undef) (args'[j]) := fun j hj => by
  have hj' : j < args.length := by rw [← hu.len]; exact hj
  exact VR.up hs Aq (hu.get j hj' hj) (hvs j hj') (bJ hsc j hj)
 refine ((h (dead st)).2 w μ vs hs0 hg0 (by rw [hsz, hu.len]) hv0).mono fun e w' ⟨v, d, st', μ', he, ⟨hd, hst⟩, hs', hstep, hv⟩ => ?_
 subst hd; subst hst
 have nH : ∀ blk, blk < w.heap.size → w'.heap[blk]? = w.heap[blk]? := fun blk hb => hstep.imm blk hb xH
 have hlt : ∀ {blk : Nat}, (w.heap[blk]?).isSome = true → blk < w.heap.size := fun {blk} e => by
  rcases Nat.lt_or_ge blk w.heap.size with h | h
  ·exact h
  ·rw [Array.getElem?_eq_none h] at e; cases e
 have step : Step w μ st w' μ st := {
  size := hstep.size, os := hstep.os, output := hstep.output, tape := hstep.tape
  imm := fun blk hb _ => nH blk hb
  own := fun blk hb => .inl hb
  len := Nat.le_refl _
  keep := fun o ob ho e => ⟨ob, e, by
   cases ob with
   | arr g n b es => exact ⟨Nat.le_refl _, fun _ => ⟨rfl, rfl, rfl, rfl, fun blk base c ty _ hh => ⟨c, by rw [nH blk (hlt (by rw [hh]; rfl))]; exact hh, rfl⟩⟩⟩
   | mps => exact ⟨rfl, rfl⟩
   | mpi => exact ⟨rfl, rfl, rfl⟩
   | sit => exact rfl
   | resv => exact trivial⟩ }
 refine ⟨v, d, st, μ, he, hR, ⟨fun o ob e => ?_, hs.inj⟩, step, hv.flat hr⟩
 have hob := hs.obj o ob e
 refine hob.step step fun blk base em => ?_
 cases ob with
 | arr g n b es =>
  obtain ⟨_, _, h3⟩ := (hob : mL w μ st (μ o) n b es)
  rcases h3 with ⟨h3, _⟩ | ⟨oq, base', c, ty, em', hh, _⟩
  ·rw [em] at h3; cases h3
  ·rw [em] at em'; cases em'; exact nH _ (hlt (by rw [hh]; rfl))
 | mps ag es =>
  obtain ⟨oq, ents, clock, em', hh, _⟩ := (hob : lC _ ag w μ _ (μ o) es).loc
  rw [em] at em'; cases em'; exact nH _ (hlt (by rw [hh]; rfl))
 | mpi ag k es =>
  obtain ⟨oq, ents, clock, em', hh, _⟩ := (hob : lC _ ag w μ _ (μ o) es).loc
  rw [em] at em'; cases em'; exact nH _ (hlt (by rw [hh]; rfl))
 | sit s p =>
  obtain ⟨oq, em', hh⟩ := hob
  rw [em] at em'; cases em'; exact nH _ (hlt (by rw [hh]; rfl))
 | resv =>
  have : μ o = none := hob
  rw [em] at this; cases this
end
section
variable {P : Program} {gl : Gl} {st : St}
end
attribute [simp] scM fj
attribute [go_sem] Aj FE S9 DJ Ak Ez FG fj
end Go.Am
namespace Go.Am
open Go
theorem tN {st : St} {m : List (Nat × Ob)} {k : Nat} : look (gu st m) (st.length + k) = none := by rw [← fj st m]; exact oD
theorem qZ {st : St} {m : List (Nat × Ob)} : look (gu st m) st.length = none := tN (k := 0)
attribute [go_sem] GK ED
end Go.Am
namespace Go.Am
open Go
section
variable {P : Program} {gl : Gl} {N b : Nat} {fr : Fr} {st : St} {dst : Option Nat} {f : FuncId} {args : List D} {r : D} {lg : Log} {tr G : Bool} {kk : Log → Fr → St → Prop} {k : Fr → St → Prop}
theorem rj (rd : List Nat) {ups : List (Nat × Ob)} (h : ∀ st2, (∀ o ∈ rd, look st2 o = look st o) → Spec P gl f args st2 fun d st' => d = r ∧ st' = puts st2 ups) (hu : ∀ p ∈ ups, p.1 ∈ rd)
  (hrd : ∀ o ∈ rd, o < b ∧ ∃ ob, look st o = some ob ∧ ob ≠ .resv) (ht : tr = false → rd = []) (hk : kk (jw tr lg ⟨r, True, rd, none, none⟩ ups) (fr.hH dst r) (puts st ups)) :
  yC P gl b tr dst lg fr st kk f args :=
 ⟨r, rd, ups, h, hu, hrd, ht, hk⟩
end
end Go.Am
namespace Go.Am
open Go
def Evt {α : Type} (x : Nat → Option α) (P : α → Prop) : Prop := ∃ r, P r ∧ ∃ N, ∀ n, N ≤ n → x n = some r
section
variable {α β ρ σ τ : Type} {P : α → Prop} {Q : β → Prop}
theorem Evt.mono {x : Nat → Option α} {P' : α → Prop} (h : Evt x P) (hp : ∀ r, P r → P' r) : Evt x P' := by
 obtain ⟨r, hr, N, hN⟩ := h
 exact ⟨r, hp r hr, N, hN⟩
theorem Evt.pure {r : α} (h : P r) : Evt (fun _ => some r) P := ⟨r, h, 0, fun _ _ => rfl⟩
theorem Evt.of {x : Option α} {r : α} (e : x = some r) (h : P r) : Evt (fun _ => x) P := ⟨r, h, 0, fun _ _ => e⟩
theorem Evt.congr {x y : Nat → Option α} (h : Evt x P) (e : ∀ n, y n = x n) : Evt y P := by
 obtain ⟨r, hr, N, hN⟩ := h
 exact ⟨r, hr, N, fun n hn => (e n).trans (hN n hn)⟩
theorem Evt.succ {x : Nat → Option α} (h : Evt (fun n => x (n + 1)) P) : Evt x P := by
 obtain ⟨r, hr, N, hN⟩ := h
 refine ⟨r, hr, N + 1, fun n hn => ?_⟩
 obtain ⟨m, rfl⟩ : ∃ m, n = m + 1 := ⟨n - 1, by omega⟩
 exact hN m (by omega)
theorem Evt.bind {x : Nat → Option α} {f : Nat → α → Option β} (h : Evt x P) (hf : ∀ r, P r → Evt (fun n => f n r) Q) : Evt (fun n => (x n).bind (f n)) Q := by
 obtain ⟨r, hr, N, hN⟩ := h
 obtain ⟨s, hs, M, hM⟩ := hf r hr
 exact ⟨s, hs, max N M, fun n hn => by show (x n).bind (f n) = _; rw [hN n (by omega)]; exact hM n (by omega)⟩
theorem Evt.chk {p : Prop} [Decidable p] {x : Nat → Option α} (hp : p) (h : Evt x P) : Evt (fun n => chk p (x n)) P := by
 obtain ⟨r, hr, N, hN⟩ := h
 exact ⟨r, hr, N, fun n hn => by show Am.chk p (x n) = _; unfold Am.chk; rw [if_pos hp]; exact hN n hn⟩
theorem Evt.eV {a : α} {f : Nat → α → Option β} (h : Evt (fun n => f n a) Q) : Evt (fun n => eV a (f n)) Q := h
theorem Evt.cond {b : Bool} {x y : Nat → Option α} (h1 : b = true → Evt x P) (h2 : b = false → Evt y P) : Evt (fun n => bif b then x n else y n) P := by
 cases b
 ·exact h2 rfl
 ·exact h1 rfl
theorem Evt.gd {G : Bool} {x : Nat → Option α} {d : α} (h1 : G = true → Evt x P) (h2 : G = false → P d) : Evt (fun n => gd G (x n) d) P := by
 cases G
 ·exact Evt.pure (h2 rfl)
 ·exact h1 rfl
theorem Evt.E0 {x : Nat → Option (Ex ρ τ)} {k : Nat → τ → Option ρ} {P : Ex ρ τ → Prop} {Q : ρ → Prop} (h : Evt x P) (hn : ∀ t, P (.nxt t) → Evt (fun n => k n t) Q) (hr : ∀ r, P (.ret r) → Q r) :
  Evt (fun n => E0 (x n) (k n)) Q := by
 obtain ⟨e, he, N, hN⟩ := h
 cases e with
 | nxt t =>
  obtain ⟨s, hs, M, hM⟩ := hn t he
  exact ⟨s, hs, max N M, fun n hn => by simp only [hN n (by omega), Am.E0]; exact hM n (by omega)⟩
 | ret r => exact ⟨r, hr r he, N, fun n hn => by simp only [hN n hn, Am.E0]⟩
def vo (I : σ → Prop) (B : τ → Prop) (R : ρ → Prop) : Ctl ρ σ τ → Prop
 | .nxt s => I s
 | .brk t => B t
 | .ret x => R x
def ExP (B : τ → Prop) (R : ρ → Prop) : Ex ρ τ → Prop
 | .nxt t => B t
 | .ret x => R x
theorem Evt.range {body : Nat → Nat → σ → Option (Ctl ρ σ σ)} {m : Nat} {s0 : σ} (I : Nat → σ → Prop) (B : σ → Prop) (R : ρ → Prop) (h0 : I 0 s0)
  (hs : ∀ k s, k < m → I k s → Evt (fun n => body n k s) (vo (I (k + 1)) B R)) :
  Evt (fun n => F0 (body n) m s0) (ExP (fun s => I m s ∨ B s) R) := by
 unfold F0
 have key : ∀ j k s, k + j = m → I k s → Evt (fun n => iM (body n) j k s) (ExP (fun s => I m s ∨ B s) R) := by
  intro j
  induction j with
  | zero =>
   intro k s e hi
   have : k = m := by omega
   subst this
   exact Evt.pure (.inl hi)
  | succ j ih =>
   intro k s e hi
   obtain ⟨c, hc, N, hN⟩ := hs k s (by omega) hi
   cases c with
   | nxt s' =>
    obtain ⟨r, hr, M, hM⟩ := ih (k + 1) s' (by omega) hc
    exact ⟨r, hr, max N M, fun n hn => by simp only [iM, hN n (by omega)]; exact hM n (by omega)⟩
   | brk t => exact ⟨.nxt t, .inr hc, N, fun n hn => by simp only [iM, hN n hn]⟩
   | ret x => exact ⟨.ret x, hc, N, fun n hn => by simp only [iM, hN n hn]⟩
 exact key m 0 s0 (by omega) h0
theorem Evt.loop {body : Nat → σ → Option (Ctl ρ σ τ)} {s0 : σ} (mu : σ → Nat) (I : σ → Prop) (B : τ → Prop) (R : ρ → Prop) (h0 : I s0)
  (hs : ∀ s, I s → Evt (fun n => body n s) (vo (fun s' => I s' ∧ mu s' < mu s) B R)) :
  Evt (fun n => ct (body n) n s0) (ExP B R) := by
 have key : ∀ d s, mu s ≤ d → I s → ∃ e, ExP B R e ∧ ∃ N, ∀ n, N ≤ n → ∀ f, d < f → ct (body n) f s = some e := by
  intro d
  induction d with
  | zero =>
   intro s hd hi
   obtain ⟨c, hc, N, hN⟩ := hs s hi
   cases c with
   | nxt s' => exact absurd hc.2 (by omega)
   | brk t => refine ⟨.nxt t, hc, N, fun n hn f hf => ?_⟩; obtain ⟨g, rfl⟩ : ∃ g, f = g + 1 := ⟨f - 1, by omega⟩; simp only [ct, hN n hn]
   | ret x => refine ⟨.ret x, hc, N, fun n hn f hf => ?_⟩; obtain ⟨g, rfl⟩ : ∃ g, f = g + 1 := ⟨f - 1, by omega⟩; simp only [ct, hN n hn]
  | succ d ih =>
   intro s hd hi
   obtain ⟨c, hc, N, hN⟩ := hs s hi
   cases c with
   | nxt s' =>
    obtain ⟨e, he, M, hM⟩ := ih s' (by have := hc.2; omega) hc.1
    refine ⟨e, he, max N M, fun n hn f hf => ?_⟩
    obtain ⟨g, rfl⟩ : ∃ g, f = g + 1 := ⟨f - 1, by omega⟩
    simp only [ct, hN n (by omega)]
    exact hM n (by omega) g (by omega)
   | brk t => refine ⟨.nxt t, hc, N, fun n hn f hf => ?_⟩; obtain ⟨g, rfl⟩ : ∃ g, f = g + 1 := ⟨f - 1, by omega⟩; simp only [ct, hN n hn]
   | ret x => refine ⟨.ret x, hc, N, fun n hn f hf => ?_⟩; obtain ⟨g, rfl⟩ : ∃ g, f = g + 1 := ⟨f - 1, by omega⟩; simp only [ct, hN n hn]
 obtain ⟨e, he, N, hN⟩ := key (mu s0) s0 (Nat.le_refl _) h0
 exact ⟨e, he, max N (mu s0 + 1), fun n hn => hN n (by omega) n (by omega)⟩
end
end Go.Am
namespace Go.Am
open Go
def fq (q m n k : Nat) : List (List D) := ((List.range k).map fun i => [.ref true (q + (i + 1)) 0 0 m]) ++ List.replicate (n - k) [.B4]
def inn (r : List Int) : Option Ob := some (.arr 0 1 8 (rows O1 r))
section
variable {q m n k i : Nat} {M : List (List Int)} {R : List Int}
theorem gE (h : k ≤ n) : (fq q m n k).length = n := by simp [fq]; omega
theorem tO : fq q m n 0 = List.replicate n [.B4] := by simp [fq]
theorem xI (h : k < n) : (fq q m n k).set k [.ref true (q + (k + 1)) 0 0 m] = fq q m n (k + 1) := by
 unfold fq
 rw [List.set_append_right _ _ (by simp), List.length_map, List.length_range, Nat.sub_self, show n - k = (n - (k + 1)) + 1 by omega, List.replicate_succ, List.set_cons_zero, List.range_succ, List.map_append]
 simp
theorem lU (h : i < k) {d : List D} : (fq q m n k).getD i d = [.ref true (q + (i + 1)) 0 0 m] := by
 unfold fq
 rw [List.getD_eq_getElem?_getD, List.getElem?_append_left (by simpa using h)]
 simp [h]
theorem xJ (h : k ≤ i) (hn : i < n) {d : List D} : (fq q m n k).getD i d = [.B4] := by
 unfold fq
 rw [List.getD_eq_getElem?_getD, List.getElem?_append_right (by simpa using h)]
 simp only [List.length_map, List.length_range, List.getElem?_replicate]
 rw [if_pos (by omega)]; rfl
theorem Ck (h : i < M.length) : look (M.map inn) i = some (.arr 0 1 8 (rows O1 (get M i))) := by
 unfold look
 rw [List.getElem?_map, List.getElem?_eq_getElem h]
 simp [inn, get, h]
theorem DK : (M.map inn).set i (some (.arr 0 1 8 (rows O1 R))) = (M.set i R).map inn := by rw [List.map_set]; rfl
theorem Ar : M.map inn ++ [some (.arr 0 1 8 (rows O1 R))] = (M ++ [R]).map inn := by rw [List.map_append]; rfl
theorem DL {v : Int} : (rows O1 R).set i [.int .i64 v] = rows O1 (R.set i v) := Ey (E := O1) _ _ _
theorem sk {st T : St} : ∀ l : St, UpL st T l l
 | [] => .nil _
 | none :: l => .dead _ _ _ (sk l)
 | some _ :: l => .live _ _ _ _ (.same _) (sk l)
theorem Au {x : Nat} : ∀ M : List (List Int), ScL x (M.map inn)
 | [] => trivial
 | r :: M => ⟨by intro e he; exact Imm.sc (kB (E := O1) r) x e he, Au M⟩
theorem FH {s : St} (h : k ≤ M.length) : ScL (s ++ (some (.arr 0 1 24 (fq s.length m n k)) :: M.map inn)).length (some (.arr 0 1 24 (fq s.length m n k)) :: M.map inn) := by
 refine ⟨?_, Au M⟩
 intro e he
 simp only [List.length_append, List.length_cons, List.length_map]
 rcases List.mem_append.1 he with he | he
 ·obtain ⟨i, hi, rfl⟩ := List.mem_map.1 he
  have := List.mem_range.1 hi
  exact ⟨(by show s.length + (i + 1) < _; omega), trivial⟩
 ·rw [List.eq_of_mem_replicate he]; exact ⟨trivial, trivial⟩
theorem cI {s : St} {F fr : Fr} (hsc : pF s.length s) (h : k ≤ M.length) (hf : Af (s ++ (some (.arr 0 1 24 (fq s.length m n k)) :: M.map inn)) (s ++ (some (.arr 0 1 24 (fq s.length m n k)) :: M.map inn)) fr F)
  (hs : Fr.sc (s ++ (some (.arr 0 1 24 (fq s.length m n k)) :: M.map inn)).length F) :
  BkS s.length F (s ++ (some (.arr 0 1 24 (fq s.length m n k)) :: M.map inn)) fr (s ++ (some (.arr 0 1 24 (fq s.length m n k)) :: M.map inn)) :=
 G0 hsc (sk _) (FH h) hf hs
theorem tP {st T : St} : ∀ (l l' : List (List D)) (_ : l'.length = l.length) (_ : ∀ (j : Nat) (h : j < l.length) (h' : j < l'.length), Ups st T (l[j]) (l'[j])), je st T l l'
 | [], [], _, _ => .nil
 | e :: l, e' :: l', hl, h => .cons _ _ _ _ (h 0 (by simp) (by simp)) (tP l l' (by simpa using hl) fun j h1 h2 => h (j + 1) (by simpa using h1) (by simpa using h2))
theorem xK {s : St} {A B C : D} (hsc : pF s.length s) (hm : ∀ r ∈ M, r.length = m) (hn : M.length = n) (hA : D.sc s.length A) (hB : D.sc s.length B) (hC : D.sc s.length C) :
  BkS s.length [(0, A), (1, B), (2, C), (7, .sl false 1 24 (rows (slc 1 8 O1) M))] s [(0, A), (1, B), (2, C), (7, .ref true s.length 0 0 n)] (s ++ (some (.arr 0 1 24 (fq s.length m n n)) :: M.map inn)) := by
 have hle : s.length ≤ (s ++ [some (Ob.arr 0 1 24 (rows (slc 1 8 O1) M))]).length := by simp
 have h1 : BkS s.length [(0, A), (1, B), (2, C), (7, .ref true s.length 0 0 n)] (s ++ [some (.arr 0 1 24 (rows (slc 1 8 O1) M))]) [(0, A), (1, B), (2, C), (7, .ref true s.length 0 0 n)] (s ++ (some (.arr 0 1 24 (fq s.length m n n)) :: M.map inn)) := by
  refine G0 hsc (.live _ _ _ _ (Br.arr _ _ _ _ _ (tP _ _ (by rw [eF, gE (Nat.le_refl _)]; exact hn) fun j h h' => ?_)) (.nil _)) ⟨?_, trivial⟩ ⟨.same _, .same _, .same _, .same _, trivial⟩ ⟨D.wq hle _ hA, D.wq hle _ hB, D.wq hle _ hC, (by show s.length < _; simp), trivial⟩
  ·rw [gE (Nat.le_refl _)] at h
   have hj : j < M.length := by omega
   have e1 : (fq s.length m n n)[j]'(by rw [gE (Nat.le_refl _)]; exact h) = [.ref true (s.length + (j + 1)) 0 0 m] := by
    have := lU (q := s.length) (m := m) (n := n) h (d := [])
    rw [List.getD_eq_getElem?_getD, List.getElem?_eq_getElem (by rw [gE (Nat.le_refl _)]; exact h)] at this
    exact this
   have e2 : (rows (slc 1 8 O1) M)[j] = [.sl false 1 8 (rows O1 M[j])] := by simp [rows, slc]
   rw [e1, e2]
   refine .cons _ _ _ _ (.ref _ _ _ _ _ 1 8 (rows O1 M[j]) _ ?_ (bT (by simp)) (by decide) (kB _) ?_) .nil
   ·rw [List.getElem?_append_right (by omega), show s.length + (j + 1) - s.length = j + 1 by omega, List.getElem?_cons_succ, List.getElem?_map, List.getElem?_eq_getElem hj]
    rfl
   ·rw [List.drop_zero, List.take_of_length_le]
    rw [eF, hm _ (List.getElem_mem hj)]; exact Nat.le_refl _
  ·intro e he
   exact Imm.sc (kB (E := slc 1 8 O1) M) _ e he
 refine h1.trans (aO hsc ⟨.same _, .same _, .same _, .ref _ _ _ _ _ 1 24 (rows (slc 1 8 O1) M) _ (lS.trans rfl) pL (by decide) (kB _) ?_, trivial⟩ ⟨hA, hB, hC, trivial, trivial⟩)
 rw [List.drop_zero, List.take_of_length_le]
 rw [eF]; omega
def zs (k : Nat) (r : List Int) : List (List Int) := List.replicate k r
theorem nO {r : List Int} : (zs k r).length = k := List.length_replicate
theorem Av {r : List Int} : zs k r ++ [r] = zs (k + 1) r := List.replicate_succ'.symm
def jz (m : Nat) (f : Nat → Nat → Int) (i : Nat) : List Int := (List.range (m + 1)).map (f i)
def yJ (f : Nat → Nat → Int) (i k : Nat) (v : Int) : Nat → Nat → Int := fun i' k' => if i' = i ∧ k' = k then v else f i' k'
theorem Aw {f : Nat → Nat → Int} {v : Int} : yJ f i k v i k = v := by simp [yJ]
theorem xL {f : Nat → Nat → Int} {v : Int} {j : Nat} : yJ f i k v (i + 1) j = f (i + 1) j := by simp [yJ]
theorem su {f : Nat → Nat → Int} (h : i ≤ n) : look ((Lcs.tb n m f).map inn) i = some (.arr 0 1 8 (rows O1 (jz m f i))) := by
 rw [Ck (by rw [Lcs.cV]; omega), get, Lcs.tQ h]; rfl
theorem lV {f : Nat → Nat → Int} : (rows O1 (jz m f i)).length = m + 1 := by simp [eF, jz]
theorem oE {f : Nat → Nat → Int} (h : k ≤ m) : (rows O1 (jz m f i)).getD k [] = [.int .i64 (f i k)] := by
 rw [vn (by simp [jz]; omega)]
 simp [jz, get, O1, List.getD_eq_getElem?_getD, List.getElem?_map, List.getElem?_range (show k < m + 1 by omega)]
theorem tR {f : Nat → Nat → Int} {v : Int} (h : i ≤ n) : ((Lcs.tb n m f).map inn).set i (some (.arr 0 1 8 ((rows O1 (jz m f i)).set k [.int .i64 v]))) = (Lcs.tb n m (yJ f i k v)).map inn := by
 rw [DL, DK]
 have := Lcs.FI (n := n) (m := m) (f := f) (k := k) (v := v) h (d := [])
 rw [Lcs.tQ h] at this
 exact congrArg (List.map inn) this
section
variable {α : Type} {same : α → α → Bool} {a b : List α}
theorem oF {v : Int} (hi : i < a.length) (hv : v = Lcs.lc same a b i k) : Lcs.tb a.length b.length (yJ (Lcs.pf same a b i (k + 1)) i k v) = Lcs.tb a.length b.length (Lcs.pf same a b i k) :=
 Lcs.Cl same a b hi (Lcs.lW fun i' k' _ _ => by
  unfold yJ Lcs.pf
  by_cases h : i < i' ∨ (i' = i ∧ k + 1 ≤ k')
  ·rw [if_neg (by omega), if_pos h, if_pos h]
  ·rw [if_neg h, if_neg h]) hv
theorem tS {f : Nat → Nat → Int} {v w : Int} : yJ (yJ f i k w) i k v = yJ f i k v := by
 funext i' k'; unfold yJ; split <;> rfl
end
theorem iw {σ : Type} (n : Nat) (s : σ) : E0 (ρ := σ) (F0 (fun _ s => some (.nxt s)) n s) (fun s => some s) = some s := by
 unfold F0
 generalize 0 = k
 induction n generalizing k with
 | zero => rfl
 | succ n ih => simp only [iM]; exact ih _
end
end Go.Am
