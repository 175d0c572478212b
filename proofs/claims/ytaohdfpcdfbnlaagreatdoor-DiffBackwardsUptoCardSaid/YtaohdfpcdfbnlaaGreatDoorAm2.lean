/-
 AM, part 20: code.
-/
import Derived.Orders
import Derived.Test.YtaohdfpcdfbnlaaGreatDoorAm1
set_option linter.unusedVariables false
set_option linter.unusedSimpArgs false
namespace Go.Am
open Go
section
variable {P : Program} {gl : Gl} {N : Nat} {ops : Array Oper} {w0 : World} {μ0 : Mu} {st0 : St}
theorem kY {w : World} {μ : Mu} {st : St} {tmps : Array Value} {fr : Fr} {o : Oper} (hf : FR w μ st tmps fr) (hok : dG ops fr o) : Region.wanted o (yielded ops tmps) = guardOf ops fr o := by
 unfold dG at hok
 unfold guardOf Region.wanted
 cases hg : o.guard with
 | none => rfl
 | some p =>
  obtain ⟨j, want⟩ := p
  rw [hg] at hok
  simp only at hok ⊢
  cases hd : (ops[j]?).bind (·.dst) with
  | none => rw [hd] at hok; exact hok.elim
  | some t =>
   rw [hd] at hok
   simp only at hok ⊢
   have ht := hf t
   have yes : ∀ b, VR w μ st (tmps.getD t undef) (.bool b) → yielded ops tmps j = some b := fun b h => by
    have := eI h
    unfold yielded
    rw [hd]
    simp only [Option.bind_some]
    cases hq : tmps[t]? with
    | none => simp [Array.getD_eq_getD_getElem?, hq, undef] at this
    | some u => simp [Array.getD_eq_getD_getElem?, hq] at this; subst this; rfl
   have no : tmps.getD t undef = undef → yielded ops tmps j = none := fun h => by
    unfold yielded
    rw [hd]
    simp only [Option.bind_some]
    cases hq : tmps[t]? with
    | none => rfl
    | some u => simp [Array.getD_eq_getD_getElem?, hq] at h; subst h; rfl
   split at hok
   ·rename_i b hb
    rw [hb] at ht
    rw [yes b ht]; cases b <;> cases want <;> rfl
   ·rename_i c b hb
    rw [hb] at ht
    generalize tmps.getD t undef = u at ht yes no
    cases ht with
    | tr h => cases h
    | cond _ _ _ h h0 =>
     cases c with
     | true => rw [yes b (h rfl)]; cases b <;> cases want <;> rfl
     | false => rw [no (h0 rfl)]; simp
   ·exact hok.elim
theorem CG {K : Fr → St → Prop} : ∀ (l : List Oper) (s : S), Run P gl N ops l s K → s.ok
 | [], s, h => h.1
 | o :: l, s, h => by
  simp only [Run] at h
  split at h
  ·exact (CG l _ h).1
  ·exact h.1
theorem pG {fr : Fr} {st : St} {a : Act} {w : World} {μ : Mu} {o : Oper} (h : mK gl N w0 μ0 st0 fr st a w μ) (hd : kX N o) (d : D) :
  mK gl N w0 μ0 st0 (fr.hH o.dst (.cond false d)) st (a.put o.dst undef) w μ := by
 refine ⟨h.sim, h.glob, ?_, ?_, ?_, h.step⟩
 ·cases nL : o.dst with
  | none => exact h.fr
  | some t =>
   have ht : t < N := by simpa [kX, nL] using hd
   exact h.fr.put (.cond _ _ _ (fun e => by cases e) (fun _ => rfl)) (by rw [h.size]; exact ht)
 ·cases nL : o.dst with
  | none => exact h.size
  | some t => simp [Act.put, h.size]
 ·cases nL : o.dst with
  | none => exact h.defers
  | some t => simp [Act.put, h.defers]
theorem pH {fr : Fr} {st : St} {a : Act} {w : World} {μ : Mu} {o : Oper} {d : D} {v : Value} (h : mK gl N w0 μ0 st0 (fr.hH o.dst d) st (a.put o.dst v) w μ) (G : Bool) (hG : G = true) : mK gl N w0 μ0 st0 (yZ o G fr d) st (a.put o.dst v) w μ := by
 unfold yZ
 split
 ·exact h
 ·refine ⟨h.sim, h.glob, fun t => ?_, h.size, h.defers, h.step⟩
  have := h.fr t
  cases nL : o.dst with
  | none => rw [nL] at this; exact this
  | some t' =>
   rw [nL] at this
   simp only [Fr.hH, Fr.pq] at this ⊢
   split
   ·rename_i e
    rw [if_pos e] at this
    exact .cond _ _ _ (fun _ => this) (fun e => by rw [hG] at e; cases e)
   ·rename_i e; rw [if_neg e] at this; exact this
theorem rO {o : Oper} {a : Act} {w : World} {μ : Mu} {st : St} {fr : Fr} {f : Operand} {xs : List Operand} {g : Nat} {first cap : List D} (hc : cH o.op = some (f, xs)) (hf : FR w μ st a.tmps fr) (hg : Glob gl w μ st)
  (JI : eok gl true fr f) (JJ : ∀ x ∈ xs, eok gl true fr x) (hev : ev1 gl fr f = .fn g first cap)
  (hb : (match P.funcs[g]? with | some fn => fn.body.isSome && fn.name != "runtime.NumGoroutine" | none => false) = true) :
  ∃ vs : Array Value, (execOp a.eval o).run P w = .ok (.enter g vs) w ∧ vs.size = (first ++ xs.map (ev1 gl fr) ++ cap).length ∧
   ∀ j (h : j < (first ++ xs.map (ev1 gl fr) ++ cap).length), VR w μ st (vs.getD j undef) ((first ++ xs.map (ev1 gl fr) ++ cap)[j]) := by
 obtain ⟨dst, op, type, pos, after, guard⟩ := o
 cases op <;> simp only [cH] at hc <;> first | (cases hc; done) | skip
 rename_i c
 obtain ⟨callee, args, argTypes⟩ := c
 cases callee <;> simp only at hc <;> first | (cases hc; done) | skip
 rename_i f'
 cases hc
 have hv := ig hf hg JI
 rw [hev] at hv
 have hargs : ∀ j (h : j < args.size), VR w μ st (a.eval args[j]) (ev1 gl fr args[j]) := fun j h => ig hf hg (JJ _ (by simp))
 have key : ∃ vf vc : Array Value, a.eval f = .func (.func g) vf vc ∧ vf.size = first.length ∧ vc.size = cap.length ∧ (∀ j (h : j < first.length), VR w μ st (vf.getD j undef) (first[j])) ∧ ∀ j (h : j < cap.length), VR w μ st (vc.getD j undef) (cap[j]) := by
  generalize a.eval f = vv at hv
  cases hv with
  | tr h => cases h
  | fn _ vf vc _ _ h1 h2 h3 h4 => exact ⟨vf, vc, rfl, h1, h2, h3, h4⟩
 obtain ⟨vf, vc, e, h1, h2, h3, h4⟩ := key
 refine ⟨vf ++ args.map a.eval ++ vc, ?_, by simp [h1, h2], fun j hj => ?_⟩
 ·cases hfn : P.funcs[g]? with
  | none => rw [hfn] at hb; cases hb
  | some fn =>
   rw [hfn] at hb
   simp only [Bool.and_eq_true, bne_iff_ne] at hb
   obtain ⟨hb1, hb2⟩ := hb
   obtain ⟨code, hb3⟩ : ∃ c, fn.body = some c := by
    cases hbb : fn.body with
    | none => rw [hbb] at hb1; cases hb1
    | some c => exact ⟨c, rfl⟩
   simp [execOp, resolve, e, Deferred.ofValue, invoke, callFunc, hfn, hb2, hb3]
 ·simp only [List.length_append, List.length_map, Array.length_toList] at hj
  rw [Array.getD_eq_getD_getElem?]
  by_cases c1 : j < first.length
  ·rw [Array.getElem?_append_left (by simp [h1]; omega), Array.getElem?_append_left (by omega)]
   simp only [List.append_assoc, List.getElem_append_left c1]
   have := h3 j c1
   rwa [Array.getD_eq_getD_getElem?] at this
  ·by_cases c2 : j < first.length + args.size
   ·rw [Array.getElem?_append_left (by simp [h1]; omega), Array.getElem?_append_right (by omega)]
    have hj2 : j - first.length < args.size := by omega
    have hg1 : (first ++ args.toList.map (ev1 gl fr) ++ cap)[j]'(by simp; omega) = ev1 gl fr args[j - first.length] := by
     rw [List.getElem_append_left (by simp; omega), List.getElem_append_right (by omega)]
     simp
    rw [hg1, h1]
    simpa [hj2] using hargs (j - first.length) hj2
   ·rw [Array.getElem?_append_right (by simp [h1]; omega)]
    have hj2 : j - (first.length + args.size) < cap.length := by omega
    have hg1 : (first ++ args.toList.map (ev1 gl fr) ++ cap)[j]'(by simp; omega) = cap[j - (first.length + args.size)] := by
     rw [List.getElem_append_right (by simp; omega)]
     simp
    rw [hg1]
    have := h4 _ hj2
    rw [Array.getD_eq_getD_getElem?] at this
    simpa [h1] using this
theorem iq {K : Fr → St → Prop} {Q : Exit → Act → World → Prop} (hQ : ∀ fr st a w μ, K fr st → mK gl N w0 μ0 st0 fr st a w μ → Q .normal a w) :
  ∀ (l : List Oper) (i : Nat), ops.toList.drop i = l → ∀ (s : S) (a : Act) (w : World) (μ : Mu), mK gl N w0 μ0 st0 s.fr s.st a w μ → Run P gl N ops l s K → wpOps P ops Q (List.range' i l.length) a w
 | [], i, hl, s, a, w, μ, hc, h => hQ _ _ _ _ _ h.2 hc
 | o :: l, i, hl, s, a, w, μ, hc, h => by
  have hlt : i < ops.size := by
   rcases Nat.lt_or_ge i ops.size with h' | h'
   ·exact h'
   ·rw [List.drop_eq_nil_of_le (by simpa using h')] at hl; cases hl
  have ho : ops[i]? = some o := by
   have : (ops.toList.drop i)[0]? = some o := by rw [hl]; rfl
   simpa [List.getElem?_drop] using this
  have hl' : ops.toList.drop (i + 1) = l := by
   have := congrArg List.tail hl
   simpa [List.tail_drop] using this
  simp only [List.length_cons, List.range'_succ]
  rw [wpOps_cons]
  simp only [wpOp, ho]
  simp only [Run] at h
  split at h
  ·rename_i iJ
   obtain ⟨hok, hd, hgo, hr⟩ := CG l _ h
   rw [kY hc.fr hgo]
   cases hG : guardOf ops s.fr o with
   | true =>
    simp only [if_true]
    left
    rw [hG] at hr
    obtain ⟨nx, v, w', μ', h1, h2, h3⟩ := Dk (P := P) (o := o) hc rfl (hr rfl) hd
    unfold Oper.wp
    rw [h1]
    have next : wpOps P ops Q (List.range' (i + 1) l.length) (a.put o.dst v) w' := by
     refine iq hQ l (i + 1) hl' _ _ _ μ' ?_ h
     simp only [yt, hG, cond_true]
     exact pH h3 true rfl
    rcases h2 with rfl | ⟨rfl, rfl⟩ <;> exact next
   | false =>
    simp only [Bool.false_eq_true, if_false]
    have hgs : ∃ p, o.guard = some p := by
     cases hgd : o.guard with
     | none => simp [guardOf, hgd] at hG
     | some p => exact ⟨p, rfl⟩
    obtain ⟨p, hgs⟩ := hgs
    refine iq hQ l (i + 1) hl' _ _ _ μ ?_ h
    simp only [yt, hG, cond_false]
    have e : ∀ d, yZ o false s.fr d = s.fr.hH o.dst (.cond false d) := fun d => by simp [yZ, hgs]
    rw [e]
    exact pG hc hd _
  ·rename_i f xs iJ
   obtain ⟨hok, hd, hgo, hfo, hxo, hr⟩ := h
   rw [kY hc.fr hgo]
   cases hgd : o.guard with
   | none =>
    rw [hgd] at hr
    simp only at hr
    have hG : guardOf ops s.fr o = true := by simp [guardOf, hgd]
    rw [hG] at hfo hxo ⊢
    simp only [if_true]
    left
    split at hr
    ·rename_i g first cap hev
     obtain ⟨hb, hspec⟩ := hr
     obtain ⟨vs, h1, h2, h3⟩ := rO (P := P) iJ hc.fr hc.glob hfo hxo hev hb
     unfold Oper.wp
     rw [h1]
     refine (hspec w μ vs hc.sim hc.glob h2 h3).mono fun e w' ⟨v, d, st', μ', he, hR, hs', wS, hv⟩ => ?_
     subst he
     refine iq hQ l (i + 1) hl' ⟨s.fr.hH o.dst d, st', True⟩ _ _ μ' ?_ hR
     refine ⟨hs', hc.glob.step wS, ?_, ?_, ?_, hc.step.trans wS⟩
     ·cases nL : o.dst with
      | none => exact hc.fr.step wS
      | some t =>
       have ht : t < N := by simpa [kX, nL] using hd
       exact (hc.fr.step wS).put hv (by rw [hc.size]; exact ht)
     ·cases nL : o.dst with
      | none => exact hc.size
      | some t => simp [Act.put, hc.size]
     ·cases nL : o.dst with
      | none => exact hc.defers
      | some t => simp [Act.put, hc.defers]
    ·exact hr.elim
   | some p =>
    rw [hgd] at hr
    simp only at hr
    cases hG : guardOf ops s.fr o with
    | false =>
     simp only [Bool.false_eq_true, if_false]
     split at hr
     ·obtain ⟨r, ups, _, hst, hR⟩ := hr
      rw [hst (by assumption)] at hR
      refine iq hQ l (i + 1) hl' _ _ _ μ ?_ hR
      have e : ∀ d, yZ o (guardOf ops s.fr o) s.fr d = s.fr.hH o.dst (.cond false d) := fun d => by simp [yZ, hgd, hG]
      rw [e]
      exact pG hc hd _
     ·exact hr.elim
    | true =>
     rw [hG] at hfo hxo hr
     simp only [if_true]
     left
     split at hr
     ·rename_i g first cap hev
      obtain ⟨r, ups, hp, _, hR⟩ := hr
      obtain ⟨hb, hspec⟩ := hp rfl
      obtain ⟨vs, h1, h2, h3⟩ := rO (P := P) iJ hc.fr hc.glob hfo hxo hev hb
      unfold Oper.wp
      rw [h1]
      refine (hspec w μ vs hc.sim hc.glob h2 h3).mono fun e w' ⟨v, d, st', μ', he, ⟨hd1, hd2⟩, hs', wS, hv⟩ => ?_
      subst he; subst hd1; subst hd2
      refine iq hQ l (i + 1) hl' _ _ _ μ' ?_ hR
      refine pH ?_ true rfl
      refine ⟨hs', hc.glob.step wS, ?_, ?_, ?_, hc.step.trans wS⟩
      ·cases nL : o.dst with
       | none => exact hc.fr.step wS
       | some t =>
        have ht : t < N := by simpa [kX, nL] using hd
        exact (hc.fr.step wS).put hv (by rw [hc.size]; exact ht)
      ·cases nL : o.dst with
       | none => exact hc.size
       | some t => simp [Act.put, hc.size]
      ·cases nL : o.dst with
       | none => exact hc.defers
       | some t => simp [Act.put, hc.defers]
     ·exact hr.elim
end
end Go.Am
namespace Go.Am
open Go
theorem VR.sc {w : World} {μ : Mu} {st : St} {v : Value} {d : D} (h : VR w μ st v d) : D.sc st.length d := by
 induction h with
 | any v => trivial
 | tr h => exact h.sc _
 | agg vs cs hs hc ih => exact lN ih
 | tup vs cs hs hc ih => exact lN ih
 | fn f vf vc first cap hf hc hfc hcc ih1 ih2 => exact ⟨lN ih1, lN ih2⟩
 | ref v full o g off len hv ho => exact ho
 | ptr v o g i c hv ho => exact ho
 | mp v o hv ho => exact ho
 | it v o hv ho => exact ho
 | cond v g d h h0 ih => exact ih
theorem Sim.sc {w : World} {μ : Mu} {st : St} (h : Sim w μ st) : pF st.length st := fun o ob ho => by
 have := h.obj o ob ho
 cases ob with
 | arr g n b es =>
  obtain ⟨_, _, h3⟩ := (this : mL w μ st (μ o) n b es)
  intro e he
  rcases h3 with ⟨_, h3⟩ | ⟨blk, base, c, ty, em, hh, hsz, hc⟩
  ·rw [h3] at he; simp at he
  ·obtain ⟨i, hi, rfl⟩ := List.getElem_of_mem he
   exact lN fun j hj => by obtain ⟨v, _, hv, _⟩ := hc i j hi hj; exact hv.sc
 | mps ag es =>
  obtain ⟨blk, ents, clock, em, hh, hsz, hc⟩ := (this : lC _ ag w μ _ (μ o) es).loc
  intro e he
  obtain ⟨i, hi, rfl⟩ := List.getElem_of_mem he
  obtain ⟨e, _, _, e3⟩ := hc i hi
  cases ag with
  | true => exact VR.sc e3
  | false => obtain ⟨d, a, b⟩ := e3; rw [a]; exact ⟨b.sc, trivial⟩
 | mpi ag k es =>
  obtain ⟨blk, ents, clock, em, hh, hsz, hc⟩ := (this : lC _ ag w μ _ (μ o) es).loc
  intro e he
  obtain ⟨i, hi, rfl⟩ := List.getElem_of_mem he
  obtain ⟨e, _, _, e3⟩ := hc i hi
  cases ag with
  | true => exact VR.sc e3
  | false => obtain ⟨d, a, b⟩ := e3; rw [a]; exact ⟨b.sc, trivial⟩
 | sit => trivial
 | resv => trivial
theorem VR.vY {w : World} {μ : Mu} {s t : St} {v : Value} {d : D} (h : VR w μ (s ++ t) v d) (hd : D.sc s.length d) : VR w μ s v d := by
 have lk : ∀ o, o < s.length → (s ++ t)[o]? = s[o]? := fun o h => List.getElem?_append_left h
 have ow : ∀ blk, own μ s blk → own μ (s ++ t) blk := by
  rintro blk ⟨o, ob, base, h1, h2⟩
  exact ⟨o, ob, base, by rw [lk o (List.getElem?_eq_some_iff.1 h1).1]; exact h1, h2⟩
 induction h with
 | any v => exact .any v
 | tr h => exact .tr (h.mono (fun blk _ hn => ⟨rfl, fun h => hn (ow blk h)⟩) (Nat.le_refl _))
 | agg vs cs hs hc ih => exact .agg vs cs hs (fun j hj => ih j hj (bJ hd j hj))
 | tup vs cs hs hc ih => exact .tup vs cs hs (fun j hj => ih j hj (bJ hd j hj))
 | fn f vf vc first cap hf hc hfc hcc ih1 ih2 => exact .fn f vf vc first cap hf hc (fun j hj => ih1 j hj (bJ hd.1 j hj)) (fun j hj => ih2 j hj (bJ hd.2 j hj))
 | ref v full o g off len hv ho hr hg h =>
  rw [lk o hd] at hr
  exact .ref v full o g off len hv hd hr (fun g' n b es e => hg g' n b es (by rw [lk o hd]; exact e)) (fun n b es e => h n b es (by rw [lk o hd]; exact e))
 | ptr v o g i c hv ho hr hg h =>
  rw [lk o hd] at hr
  exact .ptr v o g i c hv hd hr (fun g' n b es e => hg g' n b es (by rw [lk o hd]; exact e)) (fun n b es e => h n b es (by rw [lk o hd]; exact e))
 | mp v o hv ho hr h1 h2 =>
  rw [lk o hd] at hr
  exact .mp v o hv hd hr (fun ag es e => h1 ag es (by rw [lk o hd]; exact e)) (fun ag k es e => h2 ag k es (by rw [lk o hd]; exact e))
 | it v o hv ho hr h =>
  rw [lk o hd] at hr
  exact .it v o hv hd hr (fun s p e => h s p (by rw [lk o hd]; exact e))
 | cond v g d h h0 ih => exact .cond v g d (fun e => ih e (hd e)) h0
theorem Sim.vY {w : World} {μ : Mu} {s t : St} (hs : Sim w μ (s ++ t)) (hsc : pF s.length s) : Sim w μ s := by
 have lk : ∀ o ob, s[o]? = some (some ob) → (s ++ t)[o]? = some (some ob) := fun o ob h => by
  rw [List.getElem?_append_left (List.getElem?_eq_some_iff.1 h).1]; exact h
 refine ⟨fun o ob h => ?_, fun o1 o2 ob1 ob2 blk b1 b2 h1 h2 m1 m2 => hs.inj o1 o2 ob1 ob2 blk b1 b2 (lk _ _ h1) (lk _ _ h2) m1 m2⟩
 have := hs.obj o ob (lk o ob h)
 have hob := hsc o ob h
 cases ob with
 | arr g n b es =>
  obtain ⟨h1, h2, h3⟩ := (this : mL w μ (s ++ t) (μ o) n b es)
  refine (⟨h1, h2, ?_⟩ : mL w μ s (μ o) n b es)
  rcases h3 with h3 | ⟨blk, base, c, ty, em, hh, hsz, hc⟩
  ·exact .inl h3
  ·exact .inr ⟨blk, base, c, ty, em, hh, hsz, fun i j hi hj => let ⟨v, e, hv, h1⟩ := hc i j hi hj; ⟨v, e, hv.vY (bJ (hob _ (List.getElem_mem hi)) j hj), h1⟩⟩
 | mps ag es =>
  obtain ⟨blk, ents, clock, em, hh, hsz, hc⟩ := (this : lC _ ag w μ _ (μ o) es).loc
  refine (⟨⟨blk, ents, clock, em, hh, hsz, fun i hi => ?_⟩⟩ : lC _ ag w μ s (μ o) es)
  obtain ⟨e, e1, e2, e3⟩ := hc i hi
  refine ⟨e, e1, e2, ?_⟩
  have vZ := hob _ (List.getElem_mem hi)
  cases ag with
  | true => exact VR.vY e3 vZ
  | false => obtain ⟨d, a, b⟩ := e3; rw [a] at vZ; exact ⟨d, a, b.vY vZ.1⟩
 | mpi ag k es =>
  obtain ⟨blk, ents, clock, em, hh, hsz, hc⟩ := (this : lC _ ag w μ _ (μ o) es).loc
  refine (⟨⟨blk, ents, clock, em, hh, hsz, fun i hi => ?_⟩⟩ : lC _ ag w μ s (μ o) es)
  obtain ⟨e, e1, e2, e3⟩ := hc i hi
  refine ⟨e, e1, e2, ?_⟩
  have vZ := hob _ (List.getElem_mem hi)
  cases ag with
  | true => exact VR.vY e3 vZ
  | false => obtain ⟨d, a, b⟩ := e3; rw [a] at vZ; exact ⟨d, a, b.vY vZ.1⟩
 | sit => exact this
 | resv => exact this
theorem Step.vY {w w' : World} {μ μ' : Mu} {st s t : St} (hl : st.length ≤ s.length) (h : Step w μ st w' μ' (s ++ t)) : Step w μ st w' μ' s where
 size := h.size
 os := h.os
 output := h.output
 tape := h.tape
 imm := h.imm
 own := fun blk ⟨o, ob, base, h1, h2⟩ => h.own blk ⟨o, ob, base, by rw [List.getElem?_append_left (List.getElem?_eq_some_iff.1 h1).1]; exact h1, h2⟩
 len := hl
 keep := fun o ob' ho h1 => h.keep o ob' ho (by rw [List.getElem?_append_left (List.getElem?_eq_some_iff.1 h1).1]; exact h1)
inductive BK where
 | normal
 | exit (id : Nat)
 | ret
abbrev AQ := BK → Fr → St → Prop
def AQ.then (next : Fr → St → Prop) (Q : AQ) : AQ
 | .normal, fr, st => next fr st
 | e, fr, st => Q e fr st
def AQ.block (id : Nat) (Q : AQ) : AQ
 | .exit i, fr, st => if i = id then Q .normal fr st else Q (.exit i) fr st
 | e, fr, st => Q e fr st
def cq (gl : Gl) (N : Nat) (w0 : World) (μ0 : Mu) (st0 : St) (Q : AQ) : Exit → Act → World → Prop
 | .normal, a, w => ∃ fr st, Q .normal fr st ∧ tv gl N w0 μ0 st0 fr st a w
 | .exit id, a, w => ∃ fr st, Q (.exit id) fr st ∧ tv gl N w0 μ0 st0 fr st a w
 | .ret, a, w => ∃ fr st, Q .ret fr st ∧ tv gl N w0 μ0 st0 fr st a w
 | _, _, _ => False
def AWp (P : Program) (gl : Gl) (N n0 : Nat) (keep : List Nat) (c : Code) (Q : AQ) (fr : Fr) (st : St) : Prop :=
 ∀ (w0 : World) (μ0 : Mu) (st0 : St), st0.length = n0 → ∀ (a : Act) (w : World), tv gl N w0 μ0 st0 fr st a w → c.wp P (cq gl N w0 μ0 st0 Q) a w
section
variable {P : Program} {gl : Gl} {N n0 : Nat} {keep : List Nat} {Q : AQ} {fr : Fr} {st : St}
theorem zB {w0 : World} {μ0 : Mu} {st0 : St} {b : Code} (hl : st0.length = n0) {e : Exit} {a : Act} {w : World} (h : cq gl N w0 μ0 st0 (AQ.then (AWp P gl N n0 keep b Q) Q) e a w) :
  Exit.then (b.wp P (cq gl N w0 μ0 st0 Q)) (cq gl N w0 μ0 st0 Q) e a w := by
 cases e with
 | normal => obtain ⟨fr, st, h1, h2⟩ := h; exact h1 w0 μ0 st0 hl a w h2
 | exit id => exact h
 | ret => exact h
 | goto => exact h
 | panic => exact h
 | outgrown => exact h
theorem sq_ {x y : Code} (h : AWp P gl N n0 keep x (AQ.then (AWp P gl N n0 keep y Q) Q) fr st) : AWp P gl N n0 keep (.seq x y) Q fr st :=
 fun w0 μ0 st0 hl a w hc => wp_seq (wp_mono (h w0 μ0 st0 hl a w hc) fun _ _ _ => zB hl)
theorem tw : ∀ (k k' : List Item) (id : Nat), exitTo id k = some k' → k'.length < k.length
 | [], _, _, h => by simp [exitTo] at h
 | x :: k, k', id, h => by
  by_cases hx : x = .inBlock id
  ·subst hx
   simp [exitTo] at h
   subst h; simp
  ·have : exitTo id k = some k' := by
    cases x <;> simp [exitTo] at h <;> first | exact h | skip
    rename_i id'
    split at h
    ·rename_i e; exact absurd (by rw [e]) hx
    ·exact h
   have := tw k k' id this
   simp; omega
theorem tA {b : Frame} {a a' : Act} {k k' : List Item} {cs : List Frame} {w w' : World} (h : lone (b.at a k) cs w = lone (b.at a' k') cs w') : k = k' := by
 simp only [lone, Machine.mk.injEq] at h
 have := h.2.1
 simp [Frame.at] at this
 exact this.2.1
theorem rP {c : Code} (h : AWp P gl N n0 keep c (AQ.then (AWp P gl N n0 keep (.loop c) Q) Q) fr st) : AWp P gl N n0 keep (.loop c) Q fr st := by
 intro w0 μ0 st0 hl a w hc b k cs
 obtain ⟨e, a', w', hq0, harr⟩ := h w0 μ0 st0 hl a w hc b (.inLoop c :: k) cs
 have hq := zB (P := P) (gl := gl) (N := N) (keep := keep) hl hq0
 have pass : ∀ e', e' ≠ Exit.normal → cq gl N w0 μ0 st0 Q e' a' w' → Arrives P (lone (b.at a (.code c :: .inLoop c :: k)) cs w) b (.inLoop c :: k) cs e' a' w' →
   ∃ e a'' w'', cq gl N w0 μ0 st0 Q e a'' w'' ∧ Arrives P (lone (b.at a (.code (.loop c) :: k)) cs w) b k cs e a'' w'' := fun e' hne hq' Hz =>
  ⟨e', a', w', hq', .of_steps (.one step_loop) (.pass (x := .inLoop c) rfl (fun _ _ => .inl hne) Hz)⟩
 cases e with
 | normal =>
  obtain ⟨e2, a2, w2, hq2, Dl⟩ := hq b k cs
  have hs2 : step P (lone (b.at a' (.code (.loop c) :: k)) cs w') = .next (lone (b.at a' (.code c :: .inLoop c :: k)) cs w') := step_loop
  have hs3 : step P (lone (b.at a' (.inLoop c :: k)) cs w') = .next (lone (b.at a' (.code c :: .inLoop c :: k)) cs w') := step_inLoop
  have same : ∀ m, Steps P (lone (b.at a' (.code (.loop c) :: k)) cs w') m → m ≠ lone (b.at a' (.code (.loop c) :: k)) cs w' → Steps P (lone (b.at a' (.inLoop c :: k)) cs w') m := by
   intro m ⟨n, hn⟩ hne
   cases n with
   | zero => simp [runN] at hn; exact absurd hn.symm hne
   | succ n =>
    simp only [runN, hs2] at hn
    exact ⟨n + 1, by simp only [runN, hs3]; exact hn⟩
  refine ⟨e2, a2, w2, hq2, .of_steps (.head step_loop harr) ?_⟩
  cases e2 with
  | normal => exact same _ Dl (fun e => by have := congrArg List.length (tA e); simp at this)
  | exit id => exact fun k' hk => same _ (Dl k' hk) (fun e => by have := congrArg List.length (tA e); have := tw k k' id hk; simp at *; omega)
  | ret =>
   obtain ⟨todo, hs⟩ := Dl
   refine ⟨todo, same _ hs (fun e => ?_)⟩
   simp only [lone, Machine.mk.injEq] at e
   have := e.2.1
   simp [Frame.at] at this
  | goto => exact hq2.elim
  | panic => exact hq2.elim
  | outgrown => exact hq2.elim
 | exit id => exact pass (.exit id) (by simp) hq harr
 | ret => exact pass .ret (by simp) hq harr
 | goto l => exact pass (.goto l) (by simp) hq harr
 | panic ch => exact pass (.panic ch) (by simp) hq harr
 | outgrown => exact pass .outgrown (by simp) hq harr
theorem E6 (h : Q .normal fr st) : AWp P gl N n0 keep .skip Q fr st := fun _ _ _ _ _ _ hc => wp_skip ⟨fr, st, h, hc⟩
theorem E3 (h : Q .ret fr st) : AWp P gl N n0 keep .ret Q fr st := fun _ _ _ _ _ _ hc => wp_ret ⟨fr, st, h, hc⟩
theorem Y2 {id : Nat} (h : Q (.exit id) fr st) : AWp P gl N n0 keep (.exit id) Q fr st := fun _ _ _ _ _ _ hc => wp_exit ⟨fr, st, h, hc⟩
theorem U8 {id : Nat} {c : Code} (h : AWp P gl N n0 keep c (AQ.block id Q) fr st) : AWp P gl N n0 keep (.block id c) Q fr st :=
 fun w0 μ0 st0 hl a w hc => wp_block (wp_mono (h w0 μ0 st0 hl a w hc) fun e a' w' hq => by
  cases e with
  | normal => exact hq
  | exit i =>
   obtain ⟨fr', st', h1, h2⟩ := hq
   simp only [AQ.block] at h1
   simp only [Exit.inBlock]
   split
   ·rename_i e; rw [if_pos e] at h1; exact ⟨fr', st', h1, h2⟩
   ·rename_i e; rw [if_neg e] at h1; exact ⟨fr', st', h1, h2⟩
  | ret => exact hq
  | goto => exact hq
  | panic => exact hq
  | outgrown => exact hq)
theorem D4 {c : Operand} {x y : Code} {t : Bool} (hc : ev gl fr c = .bool t) (hx : t = true → AWp P gl N n0 keep x Q fr st) (hy : t = false → AWp P gl N n0 keep y Q fr st) : AWp P gl N n0 keep (.cond c x y) Q fr st := by
 intro w0 μ0 st0 hl a w hcc
 obtain ⟨μ, hcn⟩ := hcc
 have hv := wR hcn.fr hcn.glob c
 rw [hc] at hv
 exact wp_cond_split (eI hv) (fun e => hx e w0 μ0 st0 hl a w ⟨μ, hcn⟩) (fun e => hy e w0 μ0 st0 hl a w ⟨μ, hcn⟩)
theorem yw {id : Nat} {l : List Oper} (h : Run P gl N l.toArray l ⟨fr, st, True⟩ (fun fr st => Q .normal (Fr.only keep fr) st)) : AWp P gl N n0 keep (.region id l.toArray false) Q fr st := by
 intro w0 μ0 st0 hl a w ⟨μ, hc⟩
 refine wp_region ?_
 have := iq (P := P) (gl := gl) (N := N) (ops := l.toArray) (w0 := w0) (μ0 := μ0) (st0 := st0) (Q := cq gl N w0 μ0 st0 Q) (fun fr st a w μ hk hc => ⟨_, _, hk, μ, hc.sim, hc.glob, hc.fr.only keep, hc.size, hc.defers, hc.step⟩) l 0 rfl ⟨fr, st, True⟩ a w μ hc h
 rw [List.range_eq_range']
 simpa using this
theorem rQ {c : Code} {Q' : AQ} (h : AWp P gl N n0 keep c Q fr st) (hq : ∀ e fr st, Q e fr st → Q' e fr st) : AWp P gl N n0 keep c Q' fr st :=
 fun w0 μ0 st0 hl a w hc => wp_mono (h w0 μ0 st0 hl a w hc) fun e a' w' hq' => by
  cases e with
  | normal => obtain ⟨f, s, h1, h2⟩ := hq'; exact ⟨f, s, hq _ _ _ h1, h2⟩
  | exit i => obtain ⟨f, s, h1, h2⟩ := hq'; exact ⟨f, s, hq _ _ _ h1, h2⟩
  | ret => obtain ⟨f, s, h1, h2⟩ := hq'; exact ⟨f, s, hq _ _ _ h1, h2⟩
  | goto => exact hq'
  | panic => exact hq'
  | outgrown => exact hq'
theorem Dm {c : Code} {p : Prop} (hp : ∀ (w : World) (μ : Mu) (tmps : Array Value), Sim w μ st → FR w μ st tmps fr → p) (h : p → AWp P gl N n0 keep c Q fr st) : AWp P gl N n0 keep c Q fr st :=
 fun w0 μ0 st0 hl a w ⟨μ, hc⟩ => h (hp w μ a.tmps hc.sim hc.fr) w0 μ0 st0 hl a w ⟨μ, hc⟩
def Fr.leq : Fr → Fr → Prop
 | [], _ => True
 | (k, d) :: r, fr => fr.get k = d ∧ Fr.leq r fr
def Fr.sc (n : Nat) : Fr → Prop
 | [] => True
 | (_, d) :: r => D.sc n d ∧ Fr.sc n r
theorem Fr.zC {n : Nat} : ∀ (fr : Fr), Fr.sc n fr → ∀ t, D.sc n (fr.get t)
 | [], _, _ => trivial
 | (k, d) :: r, h, t => by
  simp only [Fr.get]
  split
  ·exact h.1
  ·exact Fr.zC r h.2 t
def fN (P : Program) (st : St) (fr : Fr) : ResultVar → LR
 | .tmp t => { d := fr.get t, ok := True }
 | .cell a t => (qu (w6 P t) (look st) (fr.get a)).and ((w6 P t).k ≠ .none)
def IJ (P : Program) (fn : Func) (fr : Fr) (st : St) : D :=
 match fn.results.toList with
 | [r] => (fN P st fr r).d
 | rs => .tup (rs.map fun r => (fN P st fr r).d)
def HA (P : Program) (fn : Func) (fr : Fr) (st : St) : Prop := ∀ r ∈ fn.results.toList, (fN P st fr r).ok
def tB : Nat → List D → Fr
 | _, [] => []
 | i, d :: r => (i, d) :: tB (i + 1) r
theorem tC : ∀ (l : List D) (i t : Nat), (tB i l).get t = if h : i ≤ t ∧ t - i < l.length then l[t - i] else .any
 | [], i, t => by simp [tB, Fr.get]
 | d :: r, i, t => by
  simp only [tB, Fr.get]
  by_cases h : i = t
  ·subst h; simp
  ·rw [if_neg h, tC r (i + 1) t]
   by_cases h2 : i + 1 ≤ t ∧ t - (i + 1) < r.length
   ·rw [dif_pos h2, dif_pos ⟨by omega, by simp; omega⟩]
    have : t - i = (t - (i + 1)) + 1 := by omega
    simp [this]
   ·rw [dif_neg h2, dif_neg (by simp; omega)]
def wT (tmps : Array Value) : ResultVar → Sem Value
 | .tmp t => pure (tmps.getD t undef)
 | .cell a t => do loadVar t (← asAddr (tmps.getD a undef))
theorem zD {fn : Func} {w : World} {μ : Mu} {tmps : Array Value} (hs : Sim w μ st) (hf : FR w μ st tmps fr) (hok : HA P fn fr st) :
  ∃ v, (results fn tmps).run P w = .ok v w ∧ VR w μ st v (IJ P fn fr st) := by
 have one : ∀ r : ResultVar, (fN P st fr r).ok → ∃ v, (wT tmps r).run P w = .ok v w ∧ VR w μ st v (fN P st fr r).d := by
  intro r hr
  cases r with
  | tmp t => exact ⟨_, rfl, hf t⟩
  | cell a t =>
   obtain ⟨hk, hok⟩ := hr
   obtain ⟨v, h1, h2⟩ := qO (P := P) (t := t) hs (hf a) hok hk
   refine ⟨v, ?_, h2⟩
   have : ∃ ad, tmps.getD a undef = .pointer (some ad) := by
    cases hd : fr.get a <;> rw [hd] at hok <;> first | (exact hok.elim) | skip
    ·have := hf a; rw [hd] at this; obtain ⟨ad, e, _⟩ := qN this; exact ⟨ad, e⟩
    ·have := hf a; rw [hd] at this
     generalize tmps.getD a undef = u at this
     cases this with
     | tr h => cases h
     | ptr _ _ _ _ _ hv => exact hv
   obtain ⟨ad, e⟩ := this
   simp only [wT]
   rw [e] at h1 ⊢
   simpa [Instr.loadAt, Instr.sureAddr, asAddr] using h1
 have many : ∀ rs : List ResultVar, (∀ r ∈ rs, (fN P st fr r).ok) → ∃ vs : List Value, (rs.mapM (wT tmps)).run P w = .ok vs w ∧
   vs.length = rs.length ∧ ∀ j (h : j < rs.length) (h2 : j < vs.length), VR w μ st (vs[j]) (fN P st fr rs[j]).d := by
  intro rs
  induction rs with
  | nil => exact fun _ => ⟨[], rfl, rfl, fun j h => absurd h (Nat.not_lt_zero _)⟩
  | cons r rs ih =>
   intro h
   obtain ⟨v, h1, h2⟩ := one r (h r (by simp))
   obtain ⟨vs, h3, h4, h5⟩ := ih (fun r hr => h r (by simp [hr]))
   refine ⟨v :: vs, by simp only [List.mapM_cons, Sem.run_bind, h1, h3, Result.andThen_ok]; rfl, by simp [h4], fun j hj hj2 => ?_⟩
   cases j with
   | zero => exact h2
   | succ j => exact h5 j (by simpa using hj) (by simpa using hj2)
 obtain ⟨vs, h1, h2, h3⟩ := many fn.results.toList hok
 have JK : results fn tmps = (fn.results.mapM (wT tmps) >>= fun vs => pure (if h : vs.size = 1 then vs[0] else .tuple vs)) := by
  unfold results
  congr 2
 have hrun : (results fn tmps).run P w = .ok (if h : vs.toArray.size = 1 then vs.toArray[0] else .tuple vs.toArray) w := by
  rw [JK, Array.mapM_eq_mapM_toList]
  simp only [Sem.run_bind, Sem.run_map, h1, Result.andThen_ok, Sem.run_pure]
 refine ⟨_, hrun, ?_⟩
 unfold IJ
 by_cases hl : vs.length = 1
 ·rw [dif_pos (by simpa using hl)]
  obtain ⟨r, hr⟩ := List.length_eq_one_iff.1 (h2.symm.trans hl)
  rw [hr] at h3
  simp only [hr]
  exact h3 0 (by simp) (by omega)
 ·rw [dif_neg (by simpa using hl)]
  have hm : ∀ rs : List ResultVar, rs.length ≠ 1 → (match rs with | [r] => (fN P st fr r).d | rs => .tup (rs.map fun r => (fN P st fr r).d)) = .tup (rs.map fun r => (fN P st fr r).d) := by
   intro rs hn
   match rs, hn with
   | [], _ => rfl
   | [r], hn => simp at hn
   | _ :: _ :: _, _ => rfl
  rw [hm _ (by rw [← h2]; exact hl)]
  refine .tup _ _ (fun j hj _ => by simpa [h2] using hj) (fun j hj => ?_)
  simp at hj
  have hj2 : j < vs.length := by rw [h2]; simpa using hj
  rw [gQ (v := vs[j]) (by simp [hj2])]
  have h4 := h3 j (by simpa using hj) hj2
  simpa using h4
end
end Go.Am
namespace Go.Am
open Go
def opk : Op → Nat
 | .call { callee := .value _, .. } => 2
 | .alloc _ | .box _ _ | .buildSlice _ _ _ | .makeMap _ _ | .makeSlice _ _ _ | .range _ _ | .call { callee := .builtin .append, .. } => 1
 | _ => 0
section
variable {P : Program} {gl : Gl} {N n0 : Nat} {ops : Array Oper} {keep : List Nat} {Q : AQ} {fr : Fr} {st : St}
theorem kj (op : Op) : (opk op = 0 → cH op = none ∧ needs op = false) ∧ (opk op = 1 → cH op = none ∧ needs op = true) := by
 cases op <;> first | exact ⟨fun _ => ⟨rfl, rfl⟩, fun h => by cases h⟩ | exact ⟨fun h => (by cases h), fun _ => ⟨rfl, rfl⟩⟩ | skip
 rename_i c
 obtain ⟨callee, args, argTypes⟩ := c
 cases callee with
 | builtin b => cases b <;> first | exact ⟨fun _ => ⟨rfl, rfl⟩, fun h => by cases h⟩ | exact ⟨fun h => (by cases h), fun _ => ⟨rfl, rfl⟩⟩
 | value f => exact ⟨fun h => (by cases h), fun h => by cases h⟩
 | invoke r m => exact ⟨fun _ => ⟨rfl, rfl⟩, fun h => by cases h⟩
def EM (want : Bool) : D → Option Bool
 | .bool b => some (b == want)
 | .cond c (.bool b) => some (c && (b == want))
 | _ => none
def dlt (N : Nat) : Option Nat → Prop
 | some t => t < N
 | none => True
def gslot (ops : Array Oper) (j : Nat) : Option Nat := (ops[j]?).bind (·.dst)
def EvR (N : Nat) (dst : Option Nat) (fr : Fr) (st : St) (k : Fr → St → Prop) (r : LR) : Prop := r.ok ∧ dlt N dst ∧ k (fr.hH dst r.d) (r.vU st)
def EvC (P : Program) (gl : Gl) (N : Nat) (dst : Option Nat) (fr : Fr) (st : St) (k : Fr → St → Prop) (ok : Prop) (f : D) (args : List D) : Prop :=
 match f with
 | .fn g first cap => dlt N dst ∧ ok ∧ Spec P gl g (first ++ args ++ cap) st fun d st' => k (fr.hH dst d) st'
 | _ => False
def aN (G : Bool) (p : Prop) : Prop := G = true → p
def EN (N : Nat) (G : Bool) (dst : Option Nat) (fr : Fr) (st : St) (k : Fr → St → Prop) (r : LR) : Prop :=
 aN G r.ok ∧ dlt N dst ∧ k (fr.hH dst (.cond G r.d)) (bif G then r.vU st else st)
def zE (P : Program) (gl : Gl) (G : Bool) (dst : Option Nat) (fr : Fr) (st : St) (k : Fr → St → Prop) (g : FuncId) (args : List D) : Prop :=
 ∃ r ups, (G = true → Spec P gl g args st fun d st' => d = r ∧ st' = puts st ups) ∧ (G = false → puts st ups = st) ∧ k (fr.hH dst (.cond G r)) (puts st ups)
def Ej (P : Program) (gl : Gl) (N : Nat) (G : Bool) (dst : Option Nat) (fr : Fr) (st : St) (k : Fr → St → Prop) (ok : Prop) (f : D) (args : List D) : Prop :=
 match f with
 | .fn g first cap => dlt N dst ∧ ok ∧ zE P gl G dst fr st k g (first ++ args ++ cap)
 | _ => False
def Ev0 (P : Program) (gl : Gl) (N : Nat) (k : Fr → St → Prop) (dst : Option Nat) (op : Op) (fr : Fr) (st : St) : Nat → Prop
 | 0 => EvR N dst fr st k (aop P gl true op fr (look st) 0)
 | 1 => EvR N dst fr st k (aop P gl true op fr (look (st ++ [some .resv])) st.length)
 | _ => match op with
  | .call ⟨.value f, args, _⟩ => EvC P gl N dst fr st k (eok gl true fr f ∧ (∀ x ∈ args.toList, eok gl true fr x)) (ev1 gl fr f) (args.toList.map (ev1 gl fr))
  | _ => False
def EvG (P : Program) (gl : Gl) (N : Nat) (k : Fr → St → Prop) (dst : Option Nat) (op : Op) (fr : Fr) (st : St) : Nat → Option Bool → Prop
 | 0, some G => EN N G dst fr st k (aop P gl G op fr (look st) 0)
 | 2, some G => match op with
  | .call ⟨.value f, args, _⟩ => Ej P gl N G dst fr st k (eok gl G fr f ∧ (∀ x ∈ args.toList, eok gl G fr x)) (ev1 gl fr f) (args.toList.map (ev1 gl fr))
  | _ => False
 | _, _ => False
def BL (fr : Fr) (want : Bool) : Option Nat → Option Bool
 | some t => EM want (fr.get t)
 | none => none
def Ev (P : Program) (gl : Gl) (N : Nat) (ops : Array Oper) (K : Fr → St → Prop) : List Oper → Fr → St → Prop
 | [], fr, st => K fr st
 | ⟨dst, op, _, _, _, none⟩ :: l, fr, st => Ev0 P gl N (Ev P gl N ops K l) dst op fr st (opk op)
 | ⟨dst, op, _, _, _, some (j, want)⟩ :: l, fr, st => EvG P gl N (Ev P gl N ops K l) dst op fr st (opk op) (BL fr want (gslot ops j))
theorem zF {fr : Fr} {dst : Option Nat} {op : Op} {ty : TypeId} {pos : String} {af : Array Edge} {j : Nat} {want G : Bool} (hg : BL fr want (gslot ops j) = some G) :
  guardOf ops fr ⟨dst, op, ty, pos, af, some (j, want)⟩ = G ∧ dG ops fr ⟨dst, op, ty, pos, af, some (j, want)⟩ = True := by
 unfold gslot at hg
 cases hj : (ops[j]?).bind (·.dst) with
 | none => rw [hj] at hg; cases hg
 | some t =>
  rw [hj] at hg
  simp only [guardOf, dG, hj]
  simp only [BL] at hg
  cases hd : fr.get t <;> rw [hd] at hg <;> simp only [EM] at hg <;> first | (cases hg; done) | skip
  ·cases hg; exact ⟨rfl, rfl⟩
  ·rename_i c d
   cases d <;> simp only at hg <;> first | (cases hg; done) | skip
   cases hg; exact ⟨rfl, rfl⟩
theorem iK {op : Op} (h : opk op ≠ 0) (h1 : opk op ≠ 1) : ∃ f args ats, op = .call ⟨.value f, args, ats⟩ := by
 cases op <;> first | exact absurd rfl h | exact absurd rfl h1 | skip
 rename_i c
 obtain ⟨callee, args, argTypes⟩ := c
 cases callee with
 | builtin b => cases b <;> first | exact absurd rfl h | exact absurd rfl h1
 | value f => exact ⟨f, args, argTypes, rfl⟩
 | invoke r m => exact absurd rfl h
theorem qU {K : Fr → St → Prop} : ∀ (l : List Oper) (fr : Fr) (st : St) (ok : Prop), ok → Ev P gl N ops K l fr st → Run P gl N ops l ⟨fr, st, ok⟩ K
 | [], fr, st, ok, hok, h => ⟨hok, h⟩
 | ⟨dst, op, ty, pos, af, none⟩ :: l, fr, st, ok, hok, h => by
  simp only [Ev] at h
  by_cases h0 : opk op = 0
  ·rw [h0] at h
   obtain ⟨a, b, c⟩ := h
   obtain ⟨h1, h2⟩ := (kj op).1 h0
   simp only [Run, h1]
   have := qU l _ _ (ok ∧ kX N ⟨dst, op, ty, pos, af, none⟩ ∧ True ∧ (true = true → (aop P gl true op fr (look st) 0).ok)) ⟨hok, b, trivial, fun _ => a⟩ c
   simpa only [yt, h2, guardOf, dG, yZ, cond_true, Bool.false_eq_true, if_false] using this
  ·by_cases h1 : opk op = 1
   ·rw [h1] at h
    obtain ⟨a, b, c⟩ := h
    obtain ⟨h1, h2⟩ := (kj op).2 h1
    simp only [Run, h1]
    have := qU l _ _ (ok ∧ kX N ⟨dst, op, ty, pos, af, none⟩ ∧ True ∧ (true = true → (aop P gl true op fr (look (st ++ [some .resv])) st.length).ok)) ⟨hok, b, trivial, fun _ => a⟩ c
    simpa only [yt, h2, guardOf, dG, yZ, cond_true, if_true] using this
   ·obtain ⟨f, args, ats, rfl⟩ := iK h0 h1
    simp only [opk, Ev0, EvC] at h
    simp only [Run, cH, guardOf, dG]
    cases hf : ev1 gl fr f <;> rw [hf] at h <;> first | exact h.elim | skip
    obtain ⟨a, ⟨b, c⟩, d⟩ := h
    exact ⟨hok, a, trivial, b, c, d.mono fun d st' h => qU l _ _ True trivial h⟩
 | ⟨dst, op, ty, pos, af, some (j, want)⟩ :: l, fr, st, ok, hok, h => by
  simp only [Ev] at h
  cases hg : BL fr want (gslot ops j) with
  | none => rw [hg] at h; unfold EvG at h; split at h <;> first | exact h.elim | (rename_i e; cases e)
  | some G =>
   rw [hg] at h
   obtain ⟨g1, g2⟩ := zF (dst := dst) (op := op) (ty := ty) (pos := pos) (af := af) hg
   by_cases h0 : opk op = 0
   ·rw [h0] at h
    obtain ⟨a, b, c⟩ := h
    obtain ⟨h1, h2⟩ := (kj op).1 h0
    simp only [Run, h1]
    have := qU l _ _ (ok ∧ kX N ⟨dst, op, ty, pos, af, some (j, want)⟩ ∧ True ∧ (G = true → (aop P gl G op fr (look st) 0).ok)) ⟨hok, b, trivial, a⟩ c
    simpa only [yt, h2, g1, g2, yZ, Bool.false_eq_true, if_false] using this
   ·by_cases h1 : opk op = 1
    ·rw [h1] at h; exact h.elim
    ·obtain ⟨f, args, ats, rfl⟩ := iK h0 h1
     simp only [opk, EvG, Ej] at h
     simp only [Run, cH, g1, g2]
     cases hf : ev1 gl fr f <;> rw [hf] at h <;> first | exact h.elim | skip
     obtain ⟨a, ⟨b, c⟩, r, ups, d, d2, e⟩ := h
     exact ⟨hok, a, trivial, b, c, r, ups, d, d2, qU l _ _ True trivial e⟩
theorem er_ {id : Nat} {l : List Oper} (h : Ev P gl N l.toArray (fun fr st => Q .normal (Fr.only keep fr) st) l fr st) : AWp P gl N n0 keep (.region id l.toArray false) Q fr st :=
 yw (qU _ _ _ _ trivial h)
def Then (P : Program) (gl : Gl) (N n0 : Nat) (keep : List Nat) (c : Code) (Q : AQ) (fr : Fr) (st : St) : Prop := AWp P gl N n0 keep c Q (Fr.only keep fr) st
theorem then_eq {c : Code} : Then P gl N n0 keep c Q fr st = AWp P gl N n0 keep c Q (Fr.only keep fr) st := rfl
@[congr] theorem GO {l : List Oper} {K : Fr → St → Prop} {fr fr' : Fr} {st st' : St} (h : fr = fr') (h2 : st = st') : Ev P gl N ops K l fr st = Ev P gl N ops K l fr' st' := by rw [h, h2]
@[congr] theorem EO {dst : Option Nat} {k : Fr → St → Prop} {r r' : LR} (h : r = r') : EvR N dst fr st k r = EvR N dst fr st k r' := by rw [h]
@[congr] theorem Ek {G : Bool} {dst : Option Nat} {k : Fr → St → Prop} {r r' : LR} (h : r = r') : EN N G dst fr st k r = EN N G dst fr st k r' := by rw [h]
@[congr] theorem EP {dst : Option Nat} {op : Op} {k : Fr → St → Prop} {n n' : Nat} (h : n = n') : Ev0 P gl N k dst op fr st n = Ev0 P gl N k dst op fr st n' := by rw [h]
@[congr] theorem ER {dst : Option Nat} {op : Op} {k : Fr → St → Prop} {n n' : Nat} {g g' : Option Bool} (h : n = n') (h2 : g = g') : EvG P gl N k dst op fr st n g = EvG P gl N k dst op fr st n' g' := by rw [h, h2]
@[congr] theorem ES {dst : Option Nat} {k : Fr → St → Prop} {a a' : Prop} {f f' : D} {args args' : List D} (h : a = a') (h2 : f = f') (h3 : args = args') : EvC P gl N dst fr st k a f args = EvC P gl N dst fr st k a' f' args' := by rw [h, h2, h3]
@[congr] theorem El {G : Bool} {dst : Option Nat} {k : Fr → St → Prop} {a a' : Prop} {f f' : D} {args args' : List D} (h : a = a') (h2 : f = f') (h3 : args = args') : Ej P gl N G dst fr st k a f args = Ej P gl N G dst fr st k a' f' args' := by rw [h, h2, h3]
@[congr] theorem ET {c : Code} {fr fr' : Fr} {st st' : St} (h : fr = fr') (h2 : st = st') : AWp P gl N n0 keep c Q fr st = AWp P gl N n0 keep c Q fr' st' := by rw [h, h2]
@[congr] theorem Em {f : FuncId} {args args' : List D} {st st' : St} {R : D → St → Prop} (h : args = args') (h2 : st = st') : Spec P gl f args st R = Spec P gl f args' st' R := by rw [h, h2]
def rsD (P : Program) (fr : Fr) (st : St) : List ResultVar → D
 | [r] => (fN P st fr r).d
 | rs => .tup (rs.map fun r => (fN P st fr r).d)
def En (P : Program) (fr : Fr) (st : St) : List ResultVar → Prop
 | [] => True
 | r :: l => (fN P st fr r).ok ∧ En P fr st l
def ends (n0 : Nat) (R : D → St → Prop) (d : D) (st : St) : Prop := ∃ s t, st = s ++ t ∧ n0 ≤ s.length ∧ D.sc s.length d ∧ pF s.length s ∧ R d s
def HB (P : Program) (rs : List ResultVar) (n0 : Nat) (R : D → St → Prop) : AQ
 | .exit _, _, _ => False
 | _, fr, st => En P fr st rs ∧ ends n0 R (rsD P fr st rs) st
theorem wU {fr : Fr} {st : St} : ∀ (rs : List ResultVar), En P fr st rs → ∀ r ∈ rs, (fN P st fr r).ok
 | r :: l, h, x, hx => by
  rcases List.mem_cons.1 hx with e | e
  ·subst e; exact h.1
  ·exact wU l h.2 x e
@[congr] theorem Eo {n : Nat} {st st' : St} {R : D → St → Prop} {d d' : D} (h : d = d') (h2 : st = st') : ends n R d st = ends n R d' st' := by rw [h, h2]
variable {dst : Option Nat} {k : Fr → St → Prop} {p : Prop} {d : D} {rd : List Nat} {o : Nat} {ob : Ob} {G : Bool} {K : Fr → St → Prop} {op : Op} {l : List Oper}
@[congr] theorem Dn {f : FuncId} {args args' : List D} (h : args = args') : zE P gl G dst fr st k f args = zE P gl G dst fr st k f args' := by rw [h]
theorem IK : Ev P gl N ops K [] fr st = K fr st := rfl
theorem IL {o : Oper} {l' : List Oper} : Ev P gl N ops K (List.append (o :: l) l') fr st = Ev P gl N ops K (o :: List.append l l') fr st := rfl
theorem HD {l' : List Oper} : Ev P gl N ops K (List.append [] l') fr st = Ev P gl N ops K l' fr st := rfl
theorem HE {ty : TypeId} {pos : String} {af : Array Edge} : Ev P gl N ops K (⟨dst, op, ty, pos, af, none⟩ :: l) fr st = Ev0 P gl N (Ev P gl N ops K l) dst op fr st (opk op) := rfl
theorem GP {ty : TypeId} {pos : String} {af : Array Edge} {j : Nat} {want : Bool} : Ev P gl N ops K (⟨dst, op, ty, pos, af, some (j, want)⟩ :: l) fr st = EvG P gl N (Ev P gl N ops K l) dst op fr st (opk op) (BL fr want (gslot ops j)) := rfl
theorem JL : Ev0 P gl N k dst op fr st 0 = EvR N dst fr st k (aop P gl true op fr (look st) 0) := rfl
theorem JM : Ev0 P gl N k dst op fr st 1 = EvR N dst fr st k (aop P gl true op fr (look (st ++ [some .resv])) st.length) := rfl
theorem JN {f : Operand} {args : Array Operand} {ats : Array TypeId} : Ev0 P gl N k dst (.call ⟨.value f, args, ats⟩) fr st 2 = EvC P gl N dst fr st k (eok gl true fr f ∧ (∀ x ∈ args.toList, eok gl true fr x)) (ev1 gl fr f) (args.toList.map (ev1 gl fr)) := rfl
theorem JO : EvG P gl N k dst op fr st 0 (some G) = EN N G dst fr st k (aop P gl G op fr (look st) 0) := rfl
theorem JQ {f : Operand} {args : Array Operand} {ats : Array TypeId} : EvG P gl N k dst (.call ⟨.value f, args, ats⟩) fr st 2 (some G) = Ej P gl N G dst fr st k (eok gl G fr f ∧ (∀ x ∈ args.toList, eok gl G fr x)) (ev1 gl fr f) (args.toList.map (ev1 gl fr)) := rfl
theorem EU {t : Nat} {want : Bool} : BL fr want (some t) = EM want (fr.get t) := rfl
theorem EV {b want : Bool} : EM want (.bool b) = some (b == want) := rfl
theorem EW {c b want : Bool} : EM want (.cond c (.bool b)) = some (c && (b == want)) := rfl
theorem JR : EvR N dst fr st k ⟨d, p, rd, none, none⟩ = (p ∧ dlt N dst ∧ k (fr.hH dst d) st) := rfl
theorem JT : EvR N dst fr st k ⟨d, p, rd, some (o, ob), none⟩ = (p ∧ dlt N dst ∧ k (fr.hH dst d) (st.set o (some ob))) := rfl
theorem JU : EvR N dst fr st k ⟨d, p, rd, none, some ob⟩ = (p ∧ dlt N dst ∧ k (fr.hH dst d) (st ++ [some ob])) := rfl
theorem IQ : EN N G dst fr st k ⟨d, p, rd, none, none⟩ = (aN G p ∧ dlt N dst ∧ k (fr.hH dst (.cond G d)) st) := by cases G <;> rfl
theorem IU {g : FuncId} {first cap args : List D} : EvC P gl N dst fr st k p (.fn g first cap) args = (dlt N dst ∧ p ∧ Spec P gl g (first ++ args ++ cap) st fun d st' => k (fr.hH dst d) st') := rfl
theorem HF {g : FuncId} {first cap args : List D} : Ej P gl N G dst fr st k p (.fn g first cap) args = (dlt N dst ∧ p ∧ zE P gl G dst fr st k g (first ++ args ++ cap)) := rfl
theorem M6 {f : FuncId} {args : List D} {r : D} (h : G = true → Pure P gl f args r) (hk : k (fr.hH dst (.cond G r)) st) :
  zE P gl G dst fr st k f args :=
 ⟨r, [], fun e => h e st, fun _ => rfl, hk⟩
theorem GQ {t : Nat} : dlt N (some t) = (t < N) := rfl
theorem GR : dlt N none = True := rfl
theorem IV {up : Option (Nat × Ob)} {nw : Option Ob} {q : Prop} : (LR.mk d p rd up nw).and q = ⟨d, q ∧ p, rd, up, nw⟩ := rfl
variable {keep : List Nat}
theorem get_nil {t : Nat} : Fr.get [] t = .any := rfl
theorem BM {t k' : Nat} {fr : Fr} : Fr.get ((k', d) :: fr) t = if k' = t then d else Fr.get fr t := rfl
theorem Dp {t : Nat} : Fr.put [] t d = [(t, d)] := rfl
theorem BN {t k' : Nat} {e : D} {fr : Fr} : Fr.put ((k', e) :: fr) t d = if k' = t then (k', d) :: fr else (k', e) :: Fr.put fr t d := rfl
theorem zG {t : Nat} : Fr.hH fr (some t) d = fr.put t d := rfl
theorem zH : Fr.hH fr none d = fr := rfl
theorem BO : Fr.only keep [] = [] := rfl
theorem zI {t : Nat} {fr : Fr} : Fr.only keep ((t, d) :: fr) = if keep.contains t then (t, d) :: Fr.only keep fr else Fr.only keep fr := rfl
theorem Y0 {s t : St} {k' : Nat} : look (s ++ t) (s.length + k') = look t k' := by
 unfold look; rw [List.getElem?_append_right (by omega)]; congr 2; omega
theorem zJ {s t : St} : look (s ++ t) s.length = look t 0 := by
 unfold look; rw [List.getElem?_append_right (by omega)]; simp
theorem yx {x : Option Ob} {t : St} : look (x :: t) 0 = x := by cases x <;> rfl
theorem yA {x : Option Ob} {t : St} {k' : Nat} : look (x :: t) (k' + 1) = look t k' := rfl
theorem zK {s t : St} {k' : Nat} {x : Option Ob} : (s ++ t).set (s.length + k') x = s ++ t.set k' x := by
 rw [List.set_append_right _ _ (by omega)]; congr 2; omega
theorem BP {s t : St} {x : Option Ob} : (s ++ t).set s.length x = s ++ t.set 0 x := by
 rw [List.set_append_right _ _ (by omega)]; simp
theorem BQ {b : Bool} : D.one (.bool b) = true := rfl
theorem Dq {k : IntKind} {n : Int} : D.one (.int k n) = true := rfl
theorem Dr {s : Bs} : D.one (.str s) = true := rfl
theorem BR : D.one .dD = true := rfl
theorem BS : D.one .B4 = true := rfl
theorem BT : D.one .D2 = true := rfl
theorem BU : D.one .wM = true := rfl
theorem EX {f : Bool} {n b : Nat} {es : List (List D)} : D.one (.sl f n b es) = true := rfl
theorem EY {f : Nat} {a b : List D} : D.one (.fn f a b) = true := rfl
theorem BW {cs : List D} : D.one (.mJ cs) = true := rfl
theorem Ds {f : Bool} {o g a b : Nat} : D.one (.ref f o g a b) = true := rfl
theorem Dt {o g i c : Nat} : D.one (.ptr o g i c) = true := rfl
theorem EZ {o : Nat} : D.one (.mp o) = true := rfl
theorem Fa {o : Nat} : D.one (.it o) = true := rfl
theorem BX {cs : List D} : D.one (.agg cs) = false := rfl
theorem HG {cs : List D} : mkv true cs = .agg cs := rfl
theorem HI {x : D} {cs : List D} : mkv false (x :: cs) = x := rfl
end
attribute [go_sem] IL HD IK HE GP JL JM JN JO JQ EU EV EW JR JT JU IQ IU HF GQ GR IV
 then_eq opk aop ev1 ev eok strip rN get_nil BM Dp BN zG zH BO zI Y0 zJ yx yA zK BP
 tB qL qu kI EF aj lE L3 gC jc lH lJ fK P8 bY kM nX fL S8 mO aEq aUn eY eZ M5 zi Bv Bw lK
 D.plain cellsOf eH splice hU sY fJ cQ gO jd Bu xOk yg mN assoc K1 kU qQ gP K2 sX HG HI BQ Dq Dr BR BS BT BU EX EY BW Ds Dt EZ Fa BX pe elemOf keyOf TK.agg
 AQ.then AQ.block HB fN rsD En IntKind.signed
 eq_self true_and and_true and_self implies_true forall_const List.map_cons List.map_nil List.length_cons List.length_nil List.take_succ_cons List.take_zero List.drop_succ_cons List.drop_zero yd List.cons_append List.nil_append List.append_nil List.all_cons List.all_nil Bool.and_self Bool.and_true Bool.true_and Bool.and_false Bool.false_and
 List.getD_cons_zero List.getD_cons_succ List.getD_nil List.set_cons_zero List.set_cons_succ List.getElem?_cons_zero List.getElem?_cons_succ ne_eq not_false_eq_true Bool.false_eq_true if_true if_false cond_true cond_false List.mem_cons List.not_mem_nil or_false forall_eq forall_eq_or_imp List.append_assoc List.length_append List.replicate_zero List.replicate_succ not_true_eq_false beq_self_eq_true Bool.not_true Bool.not_false List.contains_cons List.contains_nil Bool.or_true Bool.true_or Bool.or_false Bool.false_or
end Go.Am
namespace Go.Am
open Go
section
variable {P : Program} {gl : Gl} {fr fr' : Fr} {lk lk' : Look} {q : Nat} {g : Bool} {op : Op}
theorem Fe (H : ∀ x ∈ op.operands, ev gl fr x = ev gl fr' x) : aop P gl g op fr lk q = aop P gl g op fr' lk q := by
 have H1 : ∀ x ∈ op.operands, ev1 gl fr x = ev1 gl fr' x := fun x h => by simp only [ev1, H x h]
 have H2 : ∀ g x, x ∈ op.operands → eok gl g fr x = eok gl g fr' x := fun g x h => by simp only [eok, H x h]
 cases op with
 | pick c a b =>
  have k1 := H1 c (by simp [Op.operands])
  have k2 := H1 a (by simp [Op.operands])
  have k3 := H1 b (by simp [Op.operands])
  simp only [aop, k1, k2, k3, fun g => H2 g c (by simp [Op.operands]), fun g => H2 g a (by simp [Op.operands]), fun g => H2 g b (by simp [Op.operands])]
 | build t ps =>
  have h1 : (ps.toList.map fun p => (p.1, ev1 gl fr p.2)) = ps.toList.map fun p => (p.1, ev1 gl fr' p.2) := List.map_congr_left fun p hp => by rw [H1 p.2 (by simp only [Op.operands, List.mem_toArray, List.mem_map]; exact ⟨p, hp, rfl⟩)]
  have h2 : (∀ p ∈ ps.toList, eok gl g fr p.2) = ∀ p ∈ ps.toList, eok gl g fr' p.2 := forall_congr fun p => propext ⟨fun h hp => by rw [← H2 g p.2 (by simp only [Op.operands, List.mem_toArray, List.mem_map]; exact ⟨p, hp, rfl⟩)]; exact h hp, fun h hp => by rw [H2 g p.2 (by simp only [Op.operands, List.mem_toArray, List.mem_map]; exact ⟨p, hp, rfl⟩)]; exact h hp⟩
  simp only [aop, h1, h2]
 | buildSlice t len ps =>
  have h1 : (ps.toList.map fun p => (p.1, ev1 gl fr p.2)) = ps.toList.map fun p => (p.1, ev1 gl fr' p.2) := List.map_congr_left fun p hp => by rw [H1 p.2 (by simp only [Op.operands, List.mem_toArray, List.mem_map]; exact ⟨p, hp, rfl⟩)]
  have h2 : (∀ p ∈ ps.toList, eok gl g fr p.2) = ∀ p ∈ ps.toList, eok gl g fr' p.2 := forall_congr fun p => propext ⟨fun h hp => by rw [← H2 g p.2 (by simp only [Op.operands, List.mem_toArray, List.mem_map]; exact ⟨p, hp, rfl⟩)]; exact h hp, fun h hp => by rw [H2 g p.2 (by simp only [Op.operands, List.mem_toArray, List.mem_map]; exact ⟨p, hp, rfl⟩)]; exact h hp⟩
  simp only [aop, h1, h2]
 | makeFunc f a b =>
  cases f with
  | func f =>
   have h1 : ∀ c : Array Operand, (∀ x ∈ c.toList, x ∈ (Op.makeFunc (.func f) a b).operands) → c.toList.map (ev1 gl fr) = c.toList.map (ev1 gl fr') := fun c hc => List.map_congr_left fun x hx => H1 x (hc x hx)
   have h2 : ∀ c : Array Operand, (∀ x ∈ c.toList, x ∈ (Op.makeFunc (.func f) a b).operands) → (∀ x ∈ c.toList, eok gl g fr x) = ∀ x ∈ c.toList, eok gl g fr' x := fun c hc =>
    forall_congr fun x => propext ⟨fun h hx => by rw [← H2 g x (hc x hx)]; exact h hx, fun h hx => by rw [H2 g x (hc x hx)]; exact h hx⟩
   have ha : ∀ x ∈ a.toList, x ∈ (Op.makeFunc (.func f) a b).operands := fun x hx => by simp only [Op.operands, Array.mem_append]; exact .inl (by simpa using hx)
   have hb : ∀ x ∈ b.toList, x ∈ (Op.makeFunc (.func f) a b).operands := fun x hx => by simp only [Op.operands, Array.mem_append]; exact .inr (by simpa using hx)
   simp only [aop, h1 a ha, h1 b hb, h2 a ha, h2 b hb]
  | _ => rfl
 | makeMap t r => cases r <;> rfl
 | slice t x lo hi mx =>
  have hx := H1 x (by simp [Op.operands])
  have hx2 := H2 g x (by simp [Op.operands])
  have key : ∀ z : Option Operand, (∀ y ∈ z, y ∈ (Op.slice t x lo hi mx).operands) → z.map (ev1 gl fr) = z.map (ev1 gl fr') ∧ (∀ y ∈ z, eok gl g fr y) = ∀ y ∈ z, eok gl g fr' y := fun z hz => by
   cases z with
   | none => simp
   | some y => have := hz y rfl; simp [H1 y this, H2 g y this]
  obtain ⟨a1, a2⟩ := key lo (fun y hy => by cases hy; simp [Op.operands])
  obtain ⟨b1, b2⟩ := key hi (fun y hy => by cases hy; simp [Op.operands])
  obtain ⟨c1, c2⟩ := key mx (fun y hy => by cases hy; simp [Op.operands])
  simp only [aop, hx, hx2, a1, a2, b1, b2, c1, c2]
 | call c =>
  obtain ⟨callee, args, ats⟩ := c
  cases callee with
  | value f => rfl
  | invoke r m => rfl
  | builtin b =>
   have h1 : ∀ x ∈ args.toList, ev1 gl fr x = ev1 gl fr' x := fun x hx => H1 x (by simp only [Op.operands, Call.operands]; simpa using hx)
   have h2 : ∀ x ∈ args.toList, eok gl g fr x = eok gl g fr' x := fun x hx => H2 g x (by simp only [Op.operands, Call.operands]; simpa using hx)
   simp only [aop]
   generalize args.toList = l at h1 h2
   split
   ·simp only [List.mem_cons, List.not_mem_nil, or_false, forall_eq] at h1 h2; rw [h1, h2]
   ·simp only [List.mem_cons, List.not_mem_nil, or_false, forall_eq_or_imp, forall_eq] at h1 h2; rw [h1.1, h1.2, h2.1, h2.2]
   ·simp only [List.mem_cons, List.not_mem_nil, or_false, forall_eq_or_imp, forall_eq] at h1 h2; rw [h1.1, h1.2, h2.1, h2.2]
   ·simp only [List.mem_cons, List.not_mem_nil, or_false, forall_eq_or_imp, forall_eq] at h1 h2; rw [h1.1, h1.2, h2.1, h2.2]
   ·rfl
 | _ => first | rfl | (simp only [Op.operands, List.mem_toArray, List.mem_cons, List.not_mem_nil, or_false, forall_eq_or_imp, forall_eq] at H1 H2; simp only [aop, H1, H2 g, true_or, or_true])
end
def D.top : D → Option Nat
 | .ref _ o _ _ _ => some o
 | .ptr o _ _ _ => some o
 | .mp o => some o
 | .it o => some o
 | _ => none
def Loc (f : Look → LR) (ds : List D) : Prop :=
 ∀ lk, (f lk).ok → (∀ o ∈ (f lk).rd, (∃ d ∈ ds, d.top = some o) ∧ ∃ ob, lk o = some ob ∧ ob ≠ .resv) ∧ ∀ lk', (∀ o ∈ (f lk).rd, lk' o = lk o) → f lk' = f lk
theorem J6 {r : LR} {ds : List D} (h : r.rd = []) : Loc (fun _ => r) ds := fun _ _ => ⟨fun o ho => (by simp only at ho; rw [h] at ho; cases ho), fun _ _ => rfl⟩
theorem Loc.and {f : Look → LR} {ds : List D} (h : Loc f ds) (p : Prop) : Loc (fun lk => (f lk).and p) ds := fun lk hok =>
 ⟨(h lk hok.2).1, fun lk' h' => by show (f lk').and p = (f lk).and p; rw [(h lk hok.2).2 lk' h']⟩
theorem Loc.sub {f : Look → LR} {ds ds' : List D} (h : Loc f ds) (hd : ∀ d ∈ ds, d ∈ ds') : Loc f ds' := fun lk hok =>
 ⟨fun o ho => by obtain ⟨⟨d, h1, h2⟩, h3⟩ := (h lk hok).1 o ho; exact ⟨⟨d, hd d h1, h2⟩, h3⟩, (h lk hok).2⟩
section
variable {i e : TI} {d x key : D} {n q : Nat}
theorem wV : Loc (fun lk => qu i lk d) [d] := fun lk hok => by
 cases d with
 | ptr o g k c =>
  simp only [qu] at hok ⊢
  cases h : lk o with
  | none => rw [h] at hok; exact hok.elim
  | some ob =>
   rw [h] at hok
   cases ob with
   | arr g' n' b es =>
    simp only [List.mem_singleton, forall_eq]
    exact ⟨⟨⟨_, rfl, rfl⟩, _, h, Ob.noConfusion⟩, fun lk' h' => by rw [h', h]⟩
   | _ => exact hok.elim
 | mJ cs => exact ⟨fun o ho => (by cases ho), fun _ _ => rfl⟩
 | _ => exact hok.elim
theorem tD : Loc (fun lk => kI i lk x d) [d] := fun lk hok => by
 cases d with
 | ptr o g k c =>
  simp only [kI] at hok ⊢
  cases h : lk o with
  | none => rw [h] at hok; exact hok.elim
  | some ob =>
   rw [h] at hok
   cases ob with
   | arr g' n' b es =>
    simp only [List.mem_singleton, forall_eq]
    exact ⟨⟨⟨_, rfl, rfl⟩, _, h, Ob.noConfusion⟩, fun lk' h' => by rw [h', h]⟩
   | _ => exact hok.elim
 | _ => exact hok.elim
theorem lO {y : D} : Loc (fun lk => L3 i e lk x y) [x] := fun lk hok => by
 cases y with
 | int kk m =>
  simp only [L3] at hok ⊢
  generalize i.k = ik at hok ⊢
  cases ik with
  | slice e =>
   cases x with
   | ref full o g off len =>
    simp only at hok ⊢
    cases h : lk o with
    | none => rw [h] at hok; exact hok.elim
    | some ob =>
     rw [h] at hok
     cases ob with
     | arr g' n' b es =>
      simp only [List.mem_singleton, forall_eq]
      exact ⟨⟨⟨_, rfl, rfl⟩, _, h, Ob.noConfusion⟩, fun lk' h' => by rw [h', h]⟩
     | _ => exact hok.elim
   | sl full n' b es => exact ⟨fun o ho => (by cases ho), fun _ _ => rfl⟩
   | _ => exact hok.elim
  | arr len e =>
   cases x with
   | ptr o g k c => exact ⟨fun o ho => (by cases ho), fun _ _ => rfl⟩
   | mJ cs => exact ⟨fun o ho => (by cases ho), fun _ _ => rfl⟩
   | _ => exact hok.elim
  | _ => exact hok.elim
 | _ => exact hok.elim
theorem tE {lo hi mx : Option D} : Loc (fun lk => jc i n lk x lo hi mx) [x] := fun lk hok => by
 cases x with
 | ref full o g off len =>
  simp only [jc] at hok ⊢
  cases h : lk o with
  | none => rw [h] at hok; exact hok.elim
  | some ob =>
   rw [h] at hok
   cases ob with
   | arr g' n' b es =>
    simp only [List.mem_singleton, forall_eq]
    exact ⟨⟨⟨_, rfl, rfl⟩, _, h, Ob.noConfusion⟩, fun lk' h' => by rw [h', h]⟩
   | _ => exact hok.elim
 | str s => exact ⟨fun o ho => (by cases ho), fun _ _ => rfl⟩
 | sl full n' b es => exact ⟨fun o ho => (by cases ho), fun _ _ => rfl⟩
 | B4 => exact ⟨fun o ho => (by cases ho), fun _ _ => rfl⟩
 | _ => exact hok.elim
theorem qV {ki vi : TI} {c : Bool} : Loc (fun lk => fL i ki vi lk c key d) [d] := fun lk hok => by
 cases d with
 | mp o =>
  simp only [fL] at hok ⊢
  cases h : lk o with
  | none => rw [h] at hok; exact hok.elim
  | some ob =>
   rw [h] at hok
   cases ob <;> first | (exact hok.elim) | skip
   all_goals
    cases key <;> first | (exact hok.elim) | skip
    simp only [List.mem_singleton, forall_eq]
    exact ⟨⟨⟨_, rfl, rfl⟩, _, h, Ob.noConfusion⟩, fun lk' h' => by rw [h', h]⟩
 | _ => exact hok.elim
theorem wW {b : Bool} : Loc (fun lk => nX lk b d) [d] := fun lk hok => by
 cases b with
 | false => exact hok.elim
 | true =>
  cases d with
  | it o =>
   simp only [nX] at hok ⊢
   cases h : lk o with
   | none => rw [h] at hok; exact hok.elim
   | some ob =>
    rw [h] at hok
    cases ob <;> first | (exact hok.elim) | skip
    all_goals
     simp only [List.mem_singleton, forall_eq]
     exact ⟨⟨⟨_, rfl, rfl⟩, _, h, Ob.noConfusion⟩, fun lk' h' => by rw [h', h]⟩
  | _ => exact hok.elim
theorem lP {ki vi : TI} : Loc (fun lk => S8 i ki vi lk key x d) [d] := fun lk hok => by
 cases d with
 | mp o =>
  simp only [S8] at hok ⊢
  cases h : lk o with
  | none => rw [h] at hok; exact hok.elim
  | some ob =>
   rw [h] at hok
   cases ob <;> first | (exact hok.elim) | skip
   all_goals
    cases key <;> first | (exact hok.elim) | skip
    simp only [List.mem_singleton, forall_eq]
    exact ⟨⟨⟨_, rfl, rfl⟩, _, h, Ob.noConfusion⟩, fun lk' h' => by rw [h', h]⟩
 | _ => exact hok.elim
theorem zL : Loc (fun lk => zi i lk d) [d] := fun lk hok => by
 cases d with
 | ref full o g off len =>
  simp only [zi] at hok ⊢
  cases h : lk o with
  | none => rw [h] at hok; exact hok.elim
  | some ob =>
   rw [h] at hok
   cases ob with
   | arr g' n' b es =>
    simp only [List.mem_singleton, forall_eq]
    exact ⟨⟨⟨_, rfl, rfl⟩, _, h, Ob.noConfusion⟩, fun lk' h' => by rw [h', h]⟩
   | _ => exact hok.elim
 | mp o =>
  simp only [zi] at hok ⊢
  cases h : lk o with
  | none => rw [h] at hok; exact hok.elim
  | some ob =>
   rw [h] at hok
   cases ob <;> first | (exact hok.elim) | skip
   all_goals
    simp only [List.mem_singleton, forall_eq]
    exact ⟨⟨⟨_, rfl, rfl⟩, _, h, Ob.noConfusion⟩, fun lk' h' => by rw [h', h]⟩
 | str s => exact ⟨fun o ho => (by cases ho), fun _ _ => rfl⟩
 | sl full n' b es => exact ⟨fun o ho => (by cases ho), fun _ _ => rfl⟩
 | B4 => exact ⟨fun o ho => (by cases ho), fun _ _ => rfl⟩
 | wM => exact ⟨fun o ho => (by cases ho), fun _ _ => rfl⟩
 | _ => exact hok.elim
theorem BZ {lk : Look} {news : List (List D)} (h : jd lk e x = some news) : (∀ o ∈ Bu x, x.top = some o ∧ ∃ ob, lk o = some ob ∧ ob ≠ .resv) ∧ ∀ lk', (∀ o ∈ Bu x, lk' o = lk o) → jd lk' e x = some news := by
 cases x with
 | ref full o g off len =>
  simp only [jd] at h
  simp only [Bu, List.mem_singleton, forall_eq]
  cases hl : lk o with
  | none => rw [hl] at h; cases h
  | some ob =>
   rw [hl] at h
   cases ob with
   | arr g' n' b es => exact ⟨⟨rfl, _, rfl, Ob.noConfusion⟩, fun lk' h' => by simp only [jd, h']; exact h⟩
   | _ => cases h
 | _ => exact ⟨fun o ho => (by cases ho), fun _ _ => h⟩
theorem qW {xk : TK} {s : D} : Loc (fun lk => M5 i e xk lk s x q) [s, x] := fun lk hok => by
 simp only [M5] at hok ⊢
 cases hn : jd lk e x with
 | none => rw [hn] at hok; exact hok.elim
 | some news =>
  rw [hn] at hok
  obtain ⟨n1, n2⟩ := BZ hn
  have hx : ∀ o ∈ Bu x, (∃ d ∈ [s, x], d.top = some o) ∧ ∃ ob, lk o = some ob ∧ ob ≠ .resv := fun o ho => ⟨⟨x, by simp, (n1 o ho).1⟩, (n1 o ho).2⟩
  cases s with
  | B4 => exact ⟨hx, fun lk' h' => by simp only [n2 lk' h']⟩
  | sl full n' b es =>
   cases full with
   | true => exact ⟨hx, fun lk' h' => by simp only [n2 lk' h']⟩
   | false => exact hok.elim
  | ref full o g off len =>
   cases full <;>
   ·simp only at hok ⊢
    cases hl : lk o with
    | none => rw [hl] at hok; exact hok.elim
    | some ob =>
     rw [hl] at hok
     cases ob with
     | arr g' n' b es =>
      simp only [List.mem_cons, forall_eq_or_imp]
      exact ⟨⟨⟨⟨_, .inl rfl, rfl⟩, _, hl, Ob.noConfusion⟩, fun o ho => by simpa using hx o ho⟩, fun lk' h' => by simp only [n2 lk' h'.2, h'.1, hl]⟩
     | _ => exact hok.elim
  | _ => exact hok.elim
theorem rR {parts : List (Nat × D)} : (lH i e parts).rd = [] := by unfold lH; split <;> rfl
theorem rS {f : Nat} : (lE i f x).rd = [] := by unfold lE; (repeat' split) <;> rfl
theorem jr {f : Nat} : (aj i f x).rd = [] := by unfold aj; (repeat' split) <;> rfl
theorem rT {y : D} : (gC i e x y).rd = [] := by unfold gC; (repeat' split) <;> rfl
theorem zM {o : BinOp} {y : D} : (mO o x y).rd = [] := by
 unfold mO
 split
 ·split <;> first | rfl | skip
  split <;> first | rfl | skip
  split <;> first | rfl
 ·split <;> rfl
 ·rfl
theorem Du {fl : Option (List Nat)} {b : Bool} {y : D} : (aEq i fl b x y).rd = [] := by unfold aEq; (repeat' split) <;> rfl
theorem Dv {o : UnOp} : (aUn o x).rd = [] := by
 unfold aUn; split
 ·rfl
 ·rfl
 ·rfl
theorem mU : (eY i e x).rd = [] := by unfold eY; (repeat' split) <;> rfl
theorem mV {ix : Nat} : (eZ ix x).rd = [] := by unfold eZ; (repeat' split) <;> rfl
theorem zN {y : D} : (Bv x y).rd = [] := by unfold Bv; split <;> rfl
theorem zO {y : D} : (Bw x y).rd = [] := by unfold Bw; split <;> rfl
theorem wg {y z : D} : (lK x y z).rd = [] := by unfold lK; split <;> rfl
theorem rU : (kM i q x).rd = [] := by unfold kM; split <;> rfl
theorem mW {b : Bool} : (bY i e b q).rd = [] := by unfold bY; (repeat' split) <;> rfl
theorem jt {y : D} : (P8 i e x y q).rd = [] := by unfold P8; split <;> rfl
end
theorem zP {P : Program} {gl : Gl} {fr : Fr} {q : Nat} {g : Bool} {op : Op} : Loc (fun lk => aop P gl g op fr lk q) (op.operands.toList.map (ev1 gl fr)) := by
 have mem : ∀ x, x ∈ op.operands.toList → ev1 gl fr x ∈ op.operands.toList.map (ev1 gl fr) := fun x hx => List.mem_map.2 ⟨x, hx, rfl⟩
 have one : ∀ {f : Look → LR} {x : Operand}, x ∈ op.operands.toList → Loc f [ev1 gl fr x] → Loc f (op.operands.toList.map (ev1 gl fr)) := fun hx h => h.sub fun d hd => by
  rw [List.mem_singleton] at hd; subst hd; exact mem _ hx
 cases op with
 | load t a => exact one (by simp [Op.operands]) (wV.and _)
 | store t a x => exact one (x := a) (by simp [Op.operands]) (tD.and _)
 | indexAddr t x y => exact one (x := x) (by simp [Op.operands]) (lO.and _)
 | slice t x lo hi mx => exact one (x := x) (by simp [Op.operands]) (tE.and _)
 | lookup t m k c => exact one (x := m) (by simp [Op.operands]) (qV.and _)
 | mapUpdate t m k x => exact one (x := m) (by simp [Op.operands]) (lP.and _)
 | call c =>
  obtain ⟨callee, args, ats⟩ := c
  cases callee with
  | value f => exact J6 rfl
  | invoke r m => exact J6 rfl
  | builtin b =>
   have hmem : ∀ x, x ∈ args.toList → x ∈ (Op.call ⟨.builtin b, args, ats⟩).operands.toList := fun x hx => by simp only [Op.operands, Call.operands]; simpa using hx
   simp only [aop]
   generalize hl : args.toList = l at hmem
   split
   ·exact one (hmem _ (by simp)) (zL.and _)
   ·rename_i s x t u _
    exact (qW.and _).sub fun d hd => by
     simp only [List.mem_cons, List.not_mem_nil, or_false] at hd
     rcases hd with rfl | rfl
     ·exact mem _ (hmem _ (by simp))
     ·exact mem _ (hmem _ (by simp))
   ·exact (J6 zN).and _
   ·exact (J6 zO).and _
   ·exact J6 rfl
 | pick c a b => exact (J6 wg).and _
 | box t x => exact (J6 rfl).and _
 | build t ps => exact (J6 rR).and _
 | buildSlice t len ps =>
  simp only [aop]
  cases gl.imm t <;> exact (J6 rfl).and _
 | binOp o t x y u =>
  simp only [aop]
  split <;> first | exact (J6 Du).and _ | exact (J6 zM).and _
 | unOp o t x => exact (J6 Dv).and _
 | convert s t x => exact (J6 mU).and _
 | makeFunc f a b => cases f <;> exact J6 rfl
 | makeMap t r => cases r with
  | none => exact J6 mW
  | some r => exact J6 rfl
 | makeSlice t l c => exact (J6 jt).and _
 | range t x => exact (J6 rU).and _
 | next x b => exact one (x := x) (by simp [Op.operands]) (wW.and _)
 | fieldAddr t x f => exact (J6 jr).and _
 | field t x f => exact (J6 rS).and _
 | index t x y => exact (J6 rT).and _
 | extract x j => exact (J6 mV).and _
 | _ => exact J6 rfl
end Go.Am
namespace Go.Am
open Go
section
variable {P : Program} {gl : Gl} {fr fr' : Fr} {q : Nat} {g : Bool} {op : Op} {lk : Look}
theorem ju {f : Look → LR} {d : D} (h : Loc f [d]) {o : Nat} (hok : (f lk).ok) (ho : o ∈ (f lk).rd) : d.top = some o := by
 obtain ⟨⟨e, h1, h2⟩, _⟩ := (h lk hok).1 o ho
 rw [List.mem_singleton] at h1; subst h1; exact h2
theorem Dw {o : Nat} (hok : (aop P gl g op fr lk q).ok) (ho : o ∈ (aop P gl g op fr lk q).rd) : ∃ x ∈ op.operands.toList, eok gl g fr x ∧ (ev1 gl fr x).top = some o := by
 have none : ∀ {r : LR}, r.rd = [] → o ∈ r.rd → ∃ x ∈ op.operands.toList, eok gl g fr x ∧ (ev1 gl fr x).top = some o := fun h ho => by rw [h] at ho; cases ho
 cases op with
 | load t a => exact ⟨a, by simp [Op.operands], hok.1.1, ju wV hok.2 ho⟩
 | store t a x => exact ⟨a, by simp [Op.operands], hok.1.1, ju (tD) hok.2 ho⟩
 | indexAddr t x y => exact ⟨x, by simp [Op.operands], hok.1.1, ju (lO) hok.2 ho⟩
 | slice t x lo hi mx => exact ⟨x, by simp [Op.operands], hok.1.1, ju (tE) hok.2 ho⟩
 | lookup t m k c => exact ⟨m, by simp [Op.operands], hok.1.1, ju (qV) hok.2 ho⟩
 | mapUpdate t m k x => exact ⟨m, by simp [Op.operands], hok.1.1, ju (lP) hok.2 ho⟩
 | next x b => exact ⟨x, by simp [Op.operands], hok.1, ju (wW) hok.2 ho⟩
 | range t x => exact none rU ho
 | call c =>
  obtain ⟨callee, args, ats⟩ := c
  cases callee with
  | value f => cases ho
  | invoke r m => cases ho
  | builtin b =>
   have hmem : ∀ x, x ∈ args.toList → x ∈ (Op.call ⟨.builtin b, args, ats⟩).operands.toList := fun x hx => by simp only [Op.operands, Call.operands]; simpa using hx
   simp only [aop] at hok ho
   generalize args.toList = l at hmem hok ho
   revert hok ho
   split <;> intro hok ho
   ·exact ⟨_, hmem _ (by simp), hok.1, ju zL hok.2 ho⟩
   ·obtain ⟨⟨d, h1, h2⟩, _⟩ := (qW _ hok.2).1 o ho
    simp only [List.mem_cons, List.not_mem_nil, or_false] at h1
    rcases h1 with rfl | rfl
    ·exact ⟨_, hmem _ (by simp), hok.1.1, h2⟩
    ·exact ⟨_, hmem _ (by simp), hok.1.2, h2⟩
   ·exact none zN ho
   ·exact none zO ho
   ·cases ho
 | pick c a b => exact none wg ho
 | box t x => cases ho
 | build t ps => exact none rR ho
 | buildSlice t len ps => revert ho; simp only [aop]; cases gl.imm t <;> (intro ho; cases ho)
 | binOp o' t x y u =>
  simp only [aop] at ho
  split at ho <;> first | exact none Du ho | exact none zM ho
 | unOp o t x => exact none Dv ho
 | convert s t x => exact none mU ho
 | makeFunc f a b => cases f <;> cases ho
 | makeMap t r => cases r with
  | none => exact none mW ho
  | some r => cases ho
 | makeSlice t l c => exact none jt ho
 | fieldAddr t x f => exact none jr ho
 | field t x f => exact none rS ho
 | index t x y => exact none rT ho
 | extract x j => exact none mV ho
 | _ => cases ho
theorem VR.Ca {w : World} {μ : Mu} {st : St} {v : Value} {d : D} {o : Nat} (h : VR w μ st v d) (ht : d.top = some o) : st[o]? ≠ some (some .resv) := by
 cases h with
 | tr h => cases h <;> cases ht
 | ref => cases ht; assumption
 | ptr => cases ht; assumption
 | mp => cases ht; assumption
 | it => cases ht; assumption
 | _ => cases ht
def wX (r : LR) : Prop := ∀ o ob, r.up = some (o, ob) → o ∈ r.rd
theorem M7 {r : LR} (h : r.up = none) : wX r := fun o ob e => by rw [h] at e; cases e
theorem N3 {r : LR} {p : Prop} (h : r.still) : wX (r.and p) := M7 (by simp only [LR.and]; exact h.1)
theorem rV : wX (aop P gl g op fr lk q) := by
 cases op with
 | store t a x =>
  refine fun o ob e => ?_
  simp only [aop, LR.and, kI] at e ⊢
  revert e
  cases ev1 gl fr a <;> try (intro e; cases e; done)
  rename_i o' g' k c
  simp only
  cases lk o' with
  | none => intro e; cases e
  | some ob' => cases ob' <;> (intro e; cases e) <;> simp
 | mapUpdate t m k x =>
  refine fun o ob e => ?_
  simp only [aop, LR.and, S8] at e ⊢
  revert e
  cases ev1 gl fr m <;> try (intro e; cases e; done)
  rename_i o'
  simp only
  cases lk o' with
  | none => intro e; cases e
  | some ob' => cases ob' <;> try (intro e; cases e; done)
                all_goals (cases ev1 gl fr k <;> (intro e; cases e) <;> simp)
 | next x b =>
  refine fun o ob e => ?_
  simp only [aop, LR.and] at e ⊢
  cases b with
  | false => cases e
  | true =>
   revert e
   cases ev1 gl fr x <;> try (intro e; cases e; done)
   simp only [nX]
   rename_i o'
   cases lk o' with
   | none => intro e; cases e
   | some ob' => cases ob' <;> (intro e; cases e) <;> simp
 | range t x => exact M7 (pC _ _ _)
 | call c =>
  obtain ⟨callee, args, ats⟩ := c
  cases callee with
  | value f => exact M7 rfl
  | invoke r m => exact M7 rfl
  | builtin b =>
   simp only [aop]
   generalize args.toList = l
   split
   ·refine M7 ?_
    simp only [LR.and]
    exact (ij _ _ _).1
   ·refine fun o ob e => ?_
    rename_i s x t u _
    simp only [LR.and, M5] at e ⊢
    revert e
    cases jd lk (w6 P (elemOf (w6 P t))) (ev1 gl fr x) with
    | none => intro e; cases e
    | some news =>
     simp only
     cases ev1 gl fr s <;> try (intro e; cases e; done)
     ·rename_i full _ _ _; cases full <;> (intro e; cases e)
     ·rename_i full o' _ _ _
      cases full <;> simp only
      ·cases lk o' with
       | none => intro e; cases e
       | some ob' => cases ob' <;> (intro e; cases e) <;> simp
      ·cases lk o' with
       | none => intro e; cases e
       | some ob' => cases ob' <;> (intro e; cases e)
   ·refine M7 ?_
    simp only [LR.and]; exact (kf _ _).1
   ·refine M7 ?_
    simp only [LR.and]; exact (kg _ _).1
   ·exact M7 rfl
 | pick c a b => exact N3 (jq _ _ _)
 | box t x => exact M7 rfl
 | build t ps => exact N3 (jo _ _ _)
 | buildSlice t len ps => simp only [aop]; cases gl.imm t <;> exact M7 rfl
 | load t a => exact N3 (iI _ _ _)
 | binOp o t x y u =>
  simp only [aop]
  split <;> first | exact N3 (pA _ _ _ _ _) | exact N3 (mS _ _ _)
 | unOp o t x => exact N3 (pB _ _)
 | convert s t x => exact N3 (gR _ _ _)
 | makeFunc f a b => cases f <;> exact M7 rfl
 | makeMap t r => cases r with
  | none => simp only [aop, bY]; (repeat' split) <;> exact M7 rfl
  | some r => exact M7 rfl
 | makeSlice t l c => simp only [aop, P8]; split <;> exact M7 rfl
 | slice t x lo hi mx => exact N3 (gD _ _ _ _ _ _ _)
 | fieldAddr t x f => exact N3 (eL _ _ _)
 | field t x f => exact N3 (jl _ _ _)
 | indexAddr t x y => exact N3 (bZ _ _ _ _ _)
 | index t x y => exact N3 (jm _ _ _ _)
 | lookup t m k c => exact N3 (fh _ _ _ _ _ _ _)
 | extract x j => exact N3 (gS _ _)
 | _ => exact M7 rfl
end
end Go.Am
namespace Go.Am
open Go
theorem wY {o : Nat} : ∀ {m : List (Nat × Ob)} {s : St}, o ∉ m.map (·.1) → (puts s m)[o]? = s[o]?
 | [], _, _ => rfl
 | (a, x) :: m, s, h => by
  simp only [List.map_cons, List.mem_cons, not_or] at h
  simp only [puts]
  rw [List.getElem?_set, if_neg (fun e => h.1 e.symm), wY h.2]
theorem qX {o : Nat} : ∀ {m : List (Nat × Ob)} {s s' : St}, s[o]? = s'[o]? → (puts s m)[o]? = (puts s' m)[o]?
 | [], _, _, h => h
 | (a, x) :: m, s, s', h => by
  have ih := qX (m := m) h
  simp only [puts]
  have sg : ∀ (l : St) (v : Option Ob), (l.set a v)[o]? = if a = o then (l[o]?).map (fun _ => v) else l[o]? := fun l v => by
   rw [List.getElem?_set]
   by_cases h : a = o
   ·subst h
    rw [if_pos rfl, if_pos rfl]
    by_cases hl : a < l.length
    ·rw [if_pos hl, List.getElem?_eq_getElem hl]; rfl
    ·rw [if_neg hl, List.getElem?_eq_none (by simpa using hl)]; rfl
   ·rw [if_neg h, if_neg h]
  rw [sg, sg, ih]
def rW (P : Program) (G : Gl) (f : FuncId) (args : List D) (rd : List Nat) (st0 : St) (r : D) (ups : List (Nat × Ob)) : Prop :=
 ∀ st, (∀ o ∈ rd, look st o = look st0 o) → Spec P G f args st fun d st' => d = r ∧ st' = puts st ups
theorem Pure.loc {P : Program} {G : Gl} {f : FuncId} {args : List D} {st0 : St} {r : D} (h : Pure P G f args r) : rW P G f args [] st0 r [] := fun st _ => h st
structure Row where
 o : Oper
 q : Nat
 G : Bool
 r : LR
 ups : List (Nat × Ob)
def Row.d (x : Row) : D := match x.o.guard with
 | none => x.r.d
 | some _ => .cond x.G x.r.d
def Row.fr (x : Row) (fr : Fr) : Fr := fr.hH x.o.dst x.d
def Row.st (x : Row) (st : St) : St := bif x.G then puts (x.r.app x.q st) x.ups else st
def Row.rd (x : Row) : List Nat := bif x.G then x.r.rd else []
def Row.wr (x : Row) : List Nat := bif x.G then (match x.r.up with | some (o, _) => [o] | none => []) ++ x.ups.map (·.1) else []
structure Fits (P : Program) (gl : Gl) (N : Nat) (ops : Array Oper) (b : Nat) (x : Row) (fr : Fr) (st : St) : Prop where
 dst : kX N x.o
 gok : dG ops fr x.o
 hG : x.G = guardOf ops fr x.o
 wX : wX x.r ∧ ∀ p ∈ x.ups, p.1 ∈ x.r.rd
 does : x.G = true → (cH x.o.op = none ∧ x.r = aop P gl true x.o.op fr (look st) x.q ∧ x.r.ok ∧ (needs x.o.op = true → st[x.q]? = some (some .resv)) ∧ x.ups = []) ∨
  ∃ f xs g first cap d rd, cH x.o.op = some (f, xs) ∧ eok gl true fr f ∧ (∀ y ∈ xs, eok gl true fr y) ∧ ev1 gl fr f = .fn g first cap ∧ rW P gl g (first ++ xs.map (ev1 gl fr) ++ cap) rd st d x.ups ∧
   x.r = ⟨d, True, rd, none, none⟩ ∧ ∀ o ∈ rd, o < b ∧ ∃ ob, st[o]? = some (some ob) ∧ ob ≠ .resv
 makes : x.r.new ≠ none → needs x.o.op = true
section
variable {P : Program} {gl : Gl} {N : Nat} {ops : Array Oper} {w0 : World} {μ0 : Mu} {st0 : St} {x : Row} {b : Nat} {fr fr' : Fr} {st st' : St} {Q : Exit → Act → World → Prop}
theorem kl {o : Nat} {ob : Ob} : look st o = some ob ↔ st[o]? = some (some ob) := by
 unfold look
 cases h : st[o]? with
 | none => simp
 | some y => cases y <;> simp
theorem wZ {a : Act} {w : World} {μ : Mu} {o : Oper} {q : Nat} (h : mK gl N w0 μ0 st0 fr st a w μ) (hok : (aop P gl true o.op fr (look st) q).ok) (hd : kX N o) (hq : needs o.op = true → st[q]? = some (some .resv)) :
  ∃ nx v w' μ', (execOp a.eval o).run P w = .ok nx w' ∧ (nx = .value v ∨ (nx = .skip ∧ v = undef)) ∧
   mK gl N w0 μ0 st0 (fr.hH o.dst (aop P gl true o.op fr (look st) q).d) ((aop P gl true o.op fr (look st) q).app q st) (a.put o.dst v) w' μ' := by
 obtain ⟨nx, v, w', μ', h1, h2, h3, h4, h5⟩ := pE (P := P) (G := gl) (q := q) h.sim h.fr h.glob hq hok
 refine ⟨nx, v, w', μ', h1, h2, h3, h.glob.step h4, ?_, ?_, ?_, h.step.trans h4⟩
 ·cases nL : o.dst with
  | none => exact h.fr.step h4
  | some t =>
   have ht : t < N := by simpa [kX, nL] using hd
   exact (h.fr.step h4).put h5 (by rw [h.size]; exact ht)
 ·cases nL : o.dst with
  | none => exact h.size
  | some t => simp [Act.put, h.size]
 ·cases nL : o.dst with
  | none => exact h.defers
  | some t => simp [Act.put, h.defers]
theorem Cb {a : Act} {w : World} {μ : Mu} {K : Act → World → Prop} (hc : mK gl N w0 μ0 st0 fr st a w μ) (h : Fits P gl N ops b x fr st)
  (hK : ∀ a' w' μ', mK gl N w0 μ0 st0 (x.fr fr) (x.st st) a' w' μ' → K a' w') :
  if Region.wanted x.o (yielded ops a.tmps) then x.o.wp P a w K Q ∨ (x.o.asks P a w ∧ LetsOut Q) else K (a.put x.o.dst undef) w := by
 rw [kY hc.fr h.gok, ← h.hG]
 cases hG : x.G with
 | false =>
  simp only [Bool.false_eq_true, if_false]
  have hgs : ∃ p, x.o.guard = some p := by
   cases hgd : x.o.guard with
   | none => have := h.hG; simp [guardOf, hgd, hG] at this
   | some p => exact ⟨p, rfl⟩
  obtain ⟨p, hgs⟩ := hgs
  refine hK _ _ μ ?_
  simp only [Row.fr, Row.st, Row.d, hgs, hG, cond_false]
  exact pG hc h.dst _
 | true =>
  simp only [if_true]
  left
  have wrap : ∀ {d : D} {a' w' μ' st'} {v : Value}, mK gl N w0 μ0 st0 (fr.hH x.o.dst d) st' (a.put x.o.dst v) w' μ' → x.r.d = d → a' = a.put x.o.dst v → mK gl N w0 μ0 st0 (x.fr fr) st' a' w' μ' := by
   intro d a' w' μ' st' v hc' hd ha
   subst ha; subst hd
   have := pH hc' true rfl
   unfold yZ at this
   simp only [Row.fr, Row.d]
   split at this
   ·rename_i e; rw [e]; exact this
   ·rename_i e; rw [e]; simp only [hG]; exact this
  rcases h.does hG with ⟨iJ, hr, hok, hq, Dx⟩ | ⟨f, xs, g, first, cap, d, rd, iJ, hf, hx, hev, hp, hr, hrd⟩
  ·rw [hr] at hok
   obtain ⟨nx, v, w', μ', h1, h2, h3⟩ := wZ (P := P) (o := x.o) hc hok h.dst hq
   unfold Oper.wp
   rw [h1]
   have next : K (a.put x.o.dst v) w' := by
    refine hK _ _ μ' ?_
    simp only [Row.st, hG, cond_true, Dx, puts]
    rw [← hr] at h3
    exact wrap h3 rfl rfl
   rcases h2 with rfl | ⟨rfl, rfl⟩ <;> exact next
  ·obtain ⟨hb, hspec⟩ := hp st fun _ _ => rfl
   obtain ⟨vs, h1, h2, h3⟩ := rO (P := P) iJ hc.fr hc.glob hf hx hev hb
   unfold Oper.wp
   rw [h1]
   refine (hspec w μ vs hc.sim hc.glob h2 h3).mono fun e w' ⟨v, d', st', μ', he, ⟨hd1, hd2⟩, hs', wS, hv⟩ => ?_
   subst he; subst hd1; subst hd2
   refine hK _ _ μ' ?_
   have hst : x.st st = puts st x.ups := by simp [Row.st, hG, hr, LR.app]
   rw [hst]
   refine wrap (d := d') ?_ (by rw [hr]) rfl
   refine ⟨hs', hc.glob.step wS, ?_, ?_, ?_, hc.step.trans wS⟩
   ·cases nL : x.o.dst with
    | none => exact hc.fr.step wS
    | some t =>
     have ht : t < N := by simpa [kX, nL] using h.dst
     exact (hc.fr.step wS).put hv (by rw [hc.size]; exact ht)
   ·cases nL : x.o.dst with
    | none => exact hc.size
    | some t => simp [Act.put, hc.size]
   ·cases nL : x.o.dst with
    | none => exact hc.defers
    | some t => simp [Act.put, hc.defers]
theorem xg (hs : ∀ t ∈ x.o.looksAt ops, fr'.get t = fr.get t) : ∀ y ∈ x.o.op.operands, ev gl fr y = ev gl fr' y := by
 intro y hy
 cases y with
 | tmp t => exact (hs t (by simp only [Oper.looksAt, List.mem_append, List.mem_filterMap]; exact .inl ⟨.tmp t, by simpa using hy, rfl⟩)).symm
 | _ => rfl
theorem wh (hs : ∀ t ∈ x.o.looksAt ops, fr'.get t = fr.get t) : guardOf ops fr' x.o = guardOf ops fr x.o ∧ (dG ops fr' x.o ↔ dG ops fr x.o) := by
 unfold guardOf dG
 cases hg : x.o.guard with
 | none => exact ⟨rfl, Iff.rfl⟩
 | some p =>
  obtain ⟨j, want⟩ := p
  simp only
  cases hd : (ops[j]?).bind (·.dst) with
  | none => exact ⟨rfl, Iff.rfl⟩
  | some t =>
   have := hs t (by simp only [Oper.looksAt, hg, hd, List.mem_append]; exact .inr (by simp))
   simp only [this]
   exact ⟨trivial, trivial⟩
theorem rX {o : Op} {f : Operand} {xs : List Operand} (h : cH o = some (f, xs)) : f ∈ o.operands ∧ ∀ y ∈ xs, y ∈ o.operands := by
 cases o <;> simp only [cH] at h <;> first | (cases h; done) | skip
 rename_i c
 obtain ⟨callee, args, ats⟩ := c
 cases callee <;> simp only at h <;> first | (cases h; done) | skip
 cases h
 exact ⟨by simp [Op.operands, Call.operands], fun y hy => by simp only [Op.operands, Call.operands, Array.mem_append]; exact .inr (by simpa using hy)⟩
theorem zQ {a : Act} {w : World} {μ : Mu} (hc : mK gl N w0 μ0 st0 fr' st' a w μ) (h : Fits P gl N ops b x fr st) (hs : ∀ t ∈ x.o.looksAt ops, fr'.get t = fr.get t) :
  ∀ o ∈ x.rd, st'[o]? ≠ some (some .resv) ∨ o < b := by
 intro o ho
 unfold Row.rd at ho
 cases hG : x.G with
 | false => rw [hG] at ho; cases ho
 | true =>
  rw [hG] at ho
  rcases h.does hG with ⟨iJ, hr, hok, hq, Dx⟩ | ⟨f, xs, g, first, cap, d, rd, iJ, hf, hx, hev, hp, hr, hrd⟩
  ·rw [hr] at hok
   simp only [cond_true, hr] at ho
   obtain ⟨y, h1, h2, h3⟩ := Dw hok ho
   have e := xg (gl := gl) hs y (by simpa using h1)
   have h2' : eok gl true fr' y := by unfold eok at h2 ⊢; rw [← e]; exact h2
   have h3' : (ev1 gl fr' y).top = some o := by unfold ev1 at h3 ⊢; rw [← e]; exact h3
   exact .inl ((ig hc.fr hc.glob h2').Ca h3')
  ·simp only [hr, cond_true] at ho
   exact .inr (hrd o ho).1
theorem mX (h : Fits P gl N ops b x fr st) : ∀ o ∈ x.rd, ∃ ob, st[o]? = some (some ob) ∧ ob ≠ .resv := by
 intro o ho
 unfold Row.rd at ho
 cases hG : x.G with
 | false => rw [hG] at ho; cases ho
 | true =>
  rw [hG] at ho
  rcases h.does hG with ⟨iJ, hr, hok, hq, Dx⟩ | ⟨f, xs, g, first, cap, d, rd, iJ, hf, hx, hev, hp, hr, hrd⟩
  ·rw [hr] at hok
   simp only [cond_true, hr] at ho
   obtain ⟨_, ob, h1, h2⟩ := (zP (look st) hok).1 o ho
   exact ⟨ob, kl.1 h1, h2⟩
  ·simp only [hr, cond_true] at ho
   exact (hrd o ho).2
theorem yB (h : Fits P gl N ops b x fr st) (hs : ∀ t ∈ x.o.looksAt ops, fr'.get t = fr.get t) (hm : ∀ o ∈ x.rd, look st' o = look st o)
  (hq : needs x.o.op = true → st'[x.q]? = some (some .resv)) : Fits P gl N ops b x fr' st' := by
 obtain ⟨g1, g2⟩ := wh hs
 refine ⟨h.dst, g2.2 h.gok, by rw [g1]; exact h.hG, h.wX, fun hG => ?_, h.makes⟩
 have hev := xg (gl := gl) hs
 rcases h.does hG with ⟨iJ, hr, hok, _, Dx⟩ | ⟨f, xs, g, first, cap, d, rd, iJ, hf, hx, he, hp, hr, hrd⟩
 ·refine .inl ⟨iJ, ?_, hok, hq, Dx⟩
  rw [hr] at hok
  have : x.rd = (aop P gl true x.o.op fr (look st) x.q).rd := by simp [Row.rd, hG, ← hr]
  rw [this] at hm
  have k := (zP (look st) hok).2 (look st') hm
  rw [hr]
  exact k.symm.trans (Fe hev)
 ·obtain ⟨m1, m2⟩ := rX iJ
  have e1 : ∀ y ∈ x.o.op.operands, ev1 gl fr' y = ev1 gl fr y := fun y hy => by unfold ev1; rw [hev y hy]
  have e2 : ∀ y ∈ x.o.op.operands, eok gl true fr y → eok gl true fr' y := fun y hy => by unfold eok; rw [hev y hy]; exact id
  have hm' : ∀ o ∈ rd, look st' o = look st o := fun o ho => hm o (by simp [Row.rd, hG, hr]; exact ho)
  refine .inr ⟨f, xs, g, first, cap, d, rd, iJ, e2 f m1 hf, fun y hy => e2 y (m2 y hy) (hx y hy), by rw [e1 f m1]; exact he, ?_, hr, fun o ho => ⟨(hrd o ho).1, ?_⟩⟩
  ·rw [List.map_congr_left fun y hy => e1 y (m2 y hy)]
   exact fun st2 h2 => hp st2 fun o ho => (h2 o ho).trans (hm' o ho)
  ·obtain ⟨ob, h1, h2⟩ := (hrd o ho).2
   exact ⟨ob, kl.1 ((hm' o ho).trans (kl.2 h1)), h2⟩
end
end Go.Am
namespace Go.Am
open Go
def Row.ap (x : Row) (s : Fr × St) : Fr × St := (x.fr s.1, x.st s.2)
def Row.tch (x : Row) : List Nat := x.wr ++ (bif x.G && x.r.new.isSome then [x.q] else [])
theorem mY {α : Type} (l : List α) (i o : Nat) (v : α) : (l.set i v)[o]? = if i = o then (l[o]?).map (fun _ => v) else l[o]? := by
 rw [List.getElem?_set]
 by_cases h : i = o
 ·subst h
  rw [if_pos rfl, if_pos rfl]
  by_cases hl : i < l.length
  ·rw [if_pos hl, List.getElem?_eq_getElem hl]; rfl
  ·rw [if_neg hl, List.getElem?_eq_none (by simpa using hl)]; rfl
 ·rw [if_neg h, if_neg h]
theorem oA {x : Row} {st st' : St} {o : Nat} (h : st[o]? = st'[o]?) : (x.st st)[o]? = (x.st st')[o]? := by
 unfold Row.st
 cases x.G with
 | false => exact h
 | true =>
  simp only [cond_true, LR.app]
  refine qX ?_
  cases x.r.up with
  | none => cases x.r.new with
   | none => exact h
   | some ob => simp only [mY, h]
  | some p => cases x.r.new with
   | none => simp only [mY, h]
   | some ob => simp only [mY, h]
theorem jv {x : Row} {st : St} {o : Nat} (h : o ∉ x.tch) : (x.st st)[o]? = st[o]? := by
 unfold Row.st
 unfold Row.tch Row.wr at h
 cases hG : x.G with
 | false => rfl
 | true =>
  rw [hG] at h
  simp only [cond_true, LR.app, List.mem_append, not_or] at h ⊢
  obtain ⟨⟨h, Dx⟩, h'⟩ := h
  rw [wY Dx]
  have h : o ∉ (match x.r.up with | some (o, _) => [o] | none => []) ++ (bif true && x.r.new.isSome then [x.q] else []) := by
   simp only [List.mem_append, not_or]; exact ⟨h, h'⟩
  cases hu : x.r.up with
  | none => cases hn : x.r.new with
   | none => rfl
   | some ob =>
    simp [hu, hn] at h
    simp only [mY, if_neg (Ne.symm h)]
  | some p => cases hn : x.r.new with
   | none =>
    simp [hu, hn] at h
    simp only [mY, if_neg (Ne.symm h)]
   | some ob =>
    simp [hu, hn] at h
    simp only [mY, if_neg (Ne.symm h.1), if_neg (Ne.symm h.2)]
theorem mZ {x : Row} {fr : Fr} {t : Nat} (h : x.o.dst ≠ some t) : (x.fr fr).get t = fr.get t := by
 unfold Row.fr
 cases hd : x.o.dst with
 | none => rfl
 | some u =>
  simp only [Fr.hH, Fr.pq]
  rw [if_neg]
  intro e; exact h (by rw [hd, e])
theorem oB {x : Row} {fr fr' : Fr} {t : Nat} (h : fr.get t = fr'.get t) : (x.fr fr).get t = (x.fr fr').get t := by
 unfold Row.fr
 cases hd : x.o.dst with
 | none => exact h
 | some u => simp only [Fr.hH, Fr.pq, h]
def Eqv (s s' : Fr × St) : Prop := (∀ t, s.1.get t = s'.1.get t) ∧ ∀ o : Nat, s.2[o]? = s'.2[o]?
theorem Eqv.refl (s : Fr × St) : Eqv s s := ⟨fun _ => rfl, fun _ => rfl⟩
theorem Eqv.trans {a b c : Fr × St} (h : Eqv a b) (h' : Eqv b c) : Eqv a c := ⟨fun t => (h.1 t).trans (h'.1 t), fun o => (h.2 o).trans (h'.2 o)⟩
theorem Eqv.symm {a b : Fr × St} (h : Eqv a b) : Eqv b a := ⟨fun t => (h.1 t).symm, fun o => (h.2 o).symm⟩
theorem Eqv.ap {s s' : Fr × St} (h : Eqv s s') (x : Row) : Eqv (x.ap s) (x.ap s') := ⟨fun t => oB (h.1 t), fun o => oA (h.2 o)⟩
theorem Dy {x y : Row} (hd : ∀ t, x.o.dst = some t → y.o.dst ≠ some t) (hm : ∀ o ∈ x.tch, o ∉ y.tch) (s : Fr × St) : Eqv (x.ap (y.ap s)) (y.ap (x.ap s)) := by
 refine ⟨fun t => ?_, fun o => ?_⟩
 ·simp only [Row.ap]
  by_cases h : x.o.dst = some t
  ·rw [mZ (x := y) (hd t h)]
   exact oB (mZ (hd t h))
  ·rw [mZ (x := x) h]
   exact oB (mZ h).symm
 ·simp only [Row.ap]
  by_cases h : o ∈ x.tch
  ·rw [jv (x := y) (hm o h)]
   exact oA (jv (hm o h))
  ·rw [jv (x := x) h]
   exact oA (jv h).symm
def full : List Row → Fr × St → Fr × St
 | [], s => s
 | x :: l, s => full l (x.ap s)
def sel (L : Nat → Bool) : Nat → List Row → Fr × St → Fr × St
 | _, [], s => s
 | i, x :: l, s => sel L (i + 1) l (bif L i then x.ap s else s)
theorem wj {L : Nat → Bool} : ∀ (l : List Row) (i : Nat) (s s' : Fr × St), Eqv s s' → Eqv (sel L i l s) (sel L i l s')
 | [], _, _, _, h => h
 | x :: l, i, s, s', h => by
  simp only [sel]
  cases L i with
  | true => exact wj l _ _ _ (h.ap x)
  | false => exact wj l _ _ _ h
theorem ng {L : Nat → Bool} : ∀ (l1 l2 : List Row) (i : Nat) (s : Fr × St), sel L i (l1 ++ l2) s = sel L (i + l1.length) l2 (sel L i l1 s)
 | [], _, _, _ => rfl
 | x :: l1, l2, i, s => by
  simp only [List.cons_append, sel, List.length_cons]
  rw [ng l1 l2 (i + 1)]
  congr 1
  omega
theorem pI {L L' : Nat → Bool} : ∀ (l : List Row) (i : Nat) (s : Fr × St), (∀ k, i ≤ k → k < i + l.length → L k = L' k) → sel L i l s = sel L' i l s
 | [], _, _, _ => rfl
 | x :: l, i, s, h => by
  simp only [sel]
  rw [h i (Nat.le_refl _) (by simp)]
  exact pI l _ _ fun k h1 h2 => h k (by omega) (by simp at h2 ⊢; omega)
theorem zR {L : Nat → Bool} : ∀ (l : List Row) (i : Nat) (s : Fr × St), (∀ k, i ≤ k → k < i + l.length → L k = true) → sel L i l s = full l s
 | [], _, _, _ => rfl
 | x :: l, i, s, h => by
  simp only [sel, full]
  rw [h i (Nat.le_refl _) (by simp), cond_true]
  exact zR l _ _ fun k h1 h2 => h k (by omega) (by simp at h2 ⊢; omega)
theorem xq {L : Nat → Bool} : ∀ (l : List Row) (i : Nat) (s : Fr × St), (∀ k, i ≤ k → k < i + l.length → L k = false) → sel L i l s = s
 | [], _, _, _ => rfl
 | x :: l, i, s, h => by
  simp only [sel]
  rw [h i (Nat.le_refl _) (by simp), cond_false]
  exact xq l _ _ fun k h1 h2 => h k (by omega) (by simp at h2 ⊢; omega)
theorem xr {L : Nat → Bool} {x : Row} : ∀ (l : List Row) (i : Nat) (s : Fr × St),
  (∀ k (h : k < l.length), L (i + k) = true → (∀ t, x.o.dst = some t → (l[k]).o.dst ≠ some t) ∧ ∀ o ∈ x.tch, o ∉ (l[k]).tch) → Eqv (sel L i l (x.ap s)) (x.ap (sel L i l s))
 | [], _, s, _ => Eqv.refl _
 | y :: l, i, s, h => by
  have hl : ∀ s, Eqv (sel L (i + 1) l (x.ap s)) (x.ap (sel L (i + 1) l s)) := fun s => xr l (i + 1) s fun k hk hL => by
   have := h (k + 1) (by simpa using hk) (by rw [← hL]; congr 1; omega)
   simpa using this
  simp only [sel]
  cases hL : L i with
  | false => exact hl s
  | true =>
   simp only [cond_true]
   obtain ⟨h1, h2⟩ := h 0 (by simp) hL
   exact (wj l (i + 1) _ _ (Dy h1 h2 s).symm).trans (hl (y.ap s))
theorem xt {L : Nat → Bool} {t : Nat} : ∀ (l : List Row) (i : Nat) (s : Fr × St), (∀ k (h : k < l.length), L (i + k) = true → (l[k]).o.dst ≠ some t) → (sel L i l s).1.get t = s.1.get t
 | [], _, _, _ => rfl
 | y :: l, i, s, h => by
  have hl : ∀ s, (sel L (i + 1) l s).1.get t = s.1.get t := fun s => xt l (i + 1) s fun k hk hL => by
   have := h (k + 1) (by simpa using hk) (by rw [← hL]; congr 1; omega)
   simpa using this
  simp only [sel]
  rw [hl]
  cases hL : L i with
  | false => rfl
  | true => exact mZ (h 0 (by simp) hL)
theorem wm {L : Nat → Bool} {o : Nat} : ∀ (l : List Row) (i : Nat) (s : Fr × St), (∀ k (h : k < l.length), L (i + k) = true → o ∉ (l[k]).tch) → (sel L i l s).2[o]? = s.2[o]?
 | [], _, _, _ => rfl
 | y :: l, i, s, h => by
  have hl : ∀ s, (sel L (i + 1) l s).2[o]? = s.2[o]? := fun s => wm l (i + 1) s fun k hk hL => by
   have := h (k + 1) (by simpa using hk) (by rw [← hL]; congr 1; omega)
   simpa using this
  simp only [sel]
  rw [hl]
  cases hL : L i with
  | false => rfl
  | true => exact jv (h 0 (by simp) hL)
theorem tF {L : Nat → Bool} {t : Nat} : ∀ (l : List Row) (i : Nat) (s s' : Fr × St), s.1.get t = s'.1.get t → (∀ k (h : k < l.length), L (i + k) = false → (l[k]).o.dst ≠ some t) → (sel L i l s).1.get t = (full l s').1.get t
 | [], _, _, _, h, _ => h
 | y :: l, i, s, s', he, h => by
  simp only [sel, full]
  refine tF l (i + 1) _ _ ?_ fun k hk hL => by
   have := h (k + 1) (by simpa using hk) (by rw [← hL]; congr 1; omega)
   simpa using this
  cases hL : L i with
  | true => exact oB he
  | false => exact he.trans (mZ (h 0 (by simp) hL)).symm
theorem xu {L : Nat → Bool} {o : Nat} : ∀ (l : List Row) (i : Nat) (s s' : Fr × St), s.2[o]? = s'.2[o]? → (∀ k (h : k < l.length), L (i + k) = false → o ∉ (l[k]).tch) → (sel L i l s).2[o]? = (full l s').2[o]?
 | [], _, _, _, h, _ => h
 | y :: l, i, s, s', he, h => by
  simp only [sel, full]
  refine xu l (i + 1) _ _ ?_ fun k hk hL => by
   have := h (k + 1) (by simpa using hk) (by rw [← hL]; congr 1; omega)
   simpa using this
  cases hL : L i with
  | true => exact oA he
  | false => exact he.trans (jv (h 0 (by simp) hL)).symm
end Go.Am
namespace Go.Am
open Go
def Trace (P : Program) (gl : Gl) (N : Nat) (ops : Array Oper) (b : Nat) : List Row → Fr × St → Prop
 | [], _ => True
 | x :: l, s => Fits P gl N ops b x s.1 s.2 ∧ Trace P gl N ops b l (x.ap s)
def Ord (ops : Array Oper) (i j : Nat) : Prop :=
 ∀ L : Nat → Bool, (∀ k o, L k = true → ops[k]? = some o → ∀ e ∈ o.after, Region.binds .any e = true → L e.on = true) →
  (∀ o, ops[j]? = some o → ∀ e ∈ o.after, Region.binds .any e = true → L e.on = true) → L i = true
def Ind (ops : Array Oper) (x y : Row) : Prop := Oper.apart ops x.o y.o = true ∧ (∀ o ∈ x.wr, o ∉ y.rd) ∧ ∀ o ∈ y.wr, o ∉ x.rd
structure Good (P : Program) (gl : Gl) (N : Nat) (ops : Array Oper) (b : Nat) (rows : List Row) (s0 : Fr × St) : Prop where
 hO : ops.toList = rows.map (·.o)
 tr : Trace P gl N ops b rows s0
 qs : ∀ i j (hi : i < rows.length) (hj : j < rows.length), i ≠ j → needs (rows[i]).o.op = true → needs (rows[j]).o.op = true → (rows[i]).q ≠ (rows[j]).q
 kept : ∀ x ∈ rows, needs x.o.op = true → s0.2[x.q]? = some (some .resv) ∧ b ≤ x.q
 fwd : ∀ i o, ops[i]? = some o → ∀ e ∈ o.after, Region.binds .any e = true → e.on < i
 ind : ∀ i j (hi : i < rows.length) (hj : j < rows.length), i < j → Ord ops i j ∨ Ind ops (rows[i]) (rows[j])
section
variable {P : Program} {gl : Gl} {N b : Nat} {ops : Array Oper} {w0 : World} {μ0 : Mu} {st0 : St} {rows : List Row} {s0 : Fr × St} {Q : Exit → Act → World → Prop}
theorem wo {x : Row} (h : wX x.r ∧ ∀ p ∈ x.ups, p.1 ∈ x.r.rd) {o : Nat} (ho : o ∈ x.wr) : o ∈ x.rd := by
 unfold Row.wr at ho
 unfold Row.rd
 cases hG : x.G with
 | false => rw [hG] at ho; cases ho
 | true =>
  rw [hG] at ho
  simp only [cond_true, List.mem_append] at ho ⊢
  rcases ho with ho | ho
  ·cases hu : x.r.up with
   | none => rw [hu] at ho; cases ho
   | some p =>
    rw [hu] at ho
    simp only [List.mem_singleton] at ho
    exact h.1 o p.2 (by rw [hu, ho])
  ·obtain ⟨p, hp, e⟩ := List.mem_map.1 ho
   rw [← e]; exact h.2 p hp
theorem fO {x : Row} {o : Nat} (h : o ∈ x.tch) : o ∈ x.wr ∨ (o = x.q ∧ x.r.new ≠ none) := by
 unfold Row.tch at h
 rcases List.mem_append.1 h with h | h
 ·exact .inl h
 ·right
  cases hG : x.G <;> cases hn : x.r.new <;> simp [hG, hn] at h ⊢
  exact h
theorem lQ : ∀ (l1 : List Row) {x : Row} {l2 : List Row} {s : Fr × St}, Trace P gl N ops b (l1 ++ x :: l2) s → Fits P gl N ops b x (full l1 s).1 (full l1 s).2
 | [], _, _, _, h => h.1
 | _ :: l1, _, _, _, h => lQ l1 h.2
theorem tG : ∀ (l1 l2 : List Row) (s : Fr × St), Trace P gl N ops b (l1 ++ l2) s → (∀ x ∈ l1, ∀ y ∈ l2, needs x.o.op = true → needs y.o.op = true → x.q ≠ y.q) →
  (∀ y ∈ l2, needs y.o.op = true → s.2[y.q]? = some (some .resv)) → ∀ y ∈ l2, needs y.o.op = true → (full l1 s).2[y.q]? = some (some .resv)
 | [], _, _, _, _, h => h
 | x :: l1, l2, s, ht, hq, h => by
  refine tG l1 l2 (x.ap s) ht.2 (fun z hz => hq z (by simp [hz])) fun y hy hn => ?_
  have : y.q ∉ x.tch := fun hm => by
   rcases fO hm with hm | ⟨e, hm⟩
   ·obtain ⟨ob, h1, h2⟩ := mX ht.1 _ (wo ht.1.wX hm)
    rw [h y hy hn] at h1
    cases h1; exact h2 rfl
   ·exact hq x (by simp) y hy (ht.1.makes hm) hn e.symm
  simp only [Row.ap]
  rw [jv this]
  exact h y hy hn
def cnt (L : Nat → Bool) : Nat → Nat
 | 0 => 0
 | n + 1 => cnt L n + (bif L n then 0 else 1)
theorem xw {L : Nat → Bool} : ∀ {n : Nat}, cnt L n = 0 → ∀ k, k < n → L k = true
 | n + 1, h, k, hk => by
  simp only [cnt] at h
  cases hL : L n with
  | false => simp [hL] at h
  | true =>
   rcases Nat.lt_or_ge k n with hk' | hk'
   ·exact xw (by simp [hL] at h; exact h) k hk'
   ·have : k = n := by omega
    rw [this]; exact hL
theorem xA {L L' : Nat → Bool} : ∀ {n : Nat}, (∀ k, k < n → L k = L' k) → cnt L n = cnt L' n
 | 0, _ => rfl
 | n + 1, h => by simp only [cnt]; rw [xA fun k hk => h k (by omega), h n (by omega)]
theorem xB {L L' : Nat → Bool} {i : Nat} (hi : L i = false) (hi' : L' i = true) (hs : ∀ k, k ≠ i → L k = L' k) : ∀ {n : Nat}, i < n → cnt L' n + 1 = cnt L n
 | n + 1, h => by
  simp only [cnt]
  rcases Nat.lt_or_ge i n with h1 | h1
  ·rw [← xB hi hi' hs h1, hs n (by omega)]; omega
  ·have : i = n := by omega
   subst this
   rw [hi, hi', xA (L := L') (L' := L) fun k hk => (hs k (by omega)).symm]
   simp
def lst (listed : Array Bool) (i : Nat) : Bool := listed.getD i false
theorem Cc {s s' : Fr × St} {a : Act} {w : World} {μ : Mu} (h : Eqv s s') (hc : mK gl N w0 μ0 st0 s.1 s.2 a w μ) : mK gl N w0 μ0 st0 s'.1 s'.2 a w μ := by
 have e : s.2 = s'.2 := List.ext_getElem? h.2
 rw [e] at hc
 exact ⟨hc.sim, hc.glob, fun t => by rw [← h.1 t]; exact hc.fr t, hc.size, hc.defers, hc.step⟩
set_option maxHeartbeats 1000000 in
theorem zS (hg : Good P gl N ops b rows s0) (hQ : ∀ a w μ, mK gl N w0 μ0 st0 (full rows s0).1 (full rows s0).2 a w μ → Q .normal a w) :
  ∀ (fuel : Nat) (listed : Array Bool) (a : Act) (w : World) (μ : Mu), listed.size = rows.length → cnt (lst listed) rows.length ≤ fuel →
   (∀ k o, lst listed k = true → ops[k]? = some o → ∀ e ∈ o.after, Region.binds .any e = true → lst listed e.on = true) →
   (∀ i j (hi : i < rows.length) (hj : j < rows.length), lst listed j = true → lst listed i = false → needs (rows[i]).o.op = true → (rows[i]).q ∉ (rows[j]).rd) →
   mK gl N w0 μ0 st0 (sel (lst listed) 0 rows s0).1 (sel (lst listed) 0 rows s0).2 a w μ → wpAny P .any ops Q fuel listed a w := by
 have hsz : ops.size = rows.length := by have := congrArg List.length hg.hO; simpa using this
 have hop : ∀ i (h : i < rows.length), ops[i]? = some (rows[i]).o := fun i h => by
  have : ops.toList[i]? = (rows.map (·.o))[i]? := by rw [hg.hO]
  simpa [h] using this
 have hall : ∀ (listed : Array Bool) (a : Act) (w : World) (μ : Mu), (∀ k, k < rows.length → lst listed k = true) →
   mK gl N w0 μ0 st0 (sel (lst listed) 0 rows s0).1 (sel (lst listed) 0 rows s0).2 a w μ → Q .normal a w := fun listed a w μ h hc => by
  rw [zR rows 0 s0 fun k _ hk => h k (by omega)] at hc
  exact hQ a w μ hc
 have zT : ∀ (listed : Array Bool) (i : Nat), listed.size = rows.length → (i ∈ Region.ready .any ops listed ↔ i < rows.length ∧ lst listed i = false ∧ ∀ o, ops[i]? = some o → ∀ e ∈ o.after, Region.binds .any e = true → lst listed e.on = true) := by
  intro listed i hls
  unfold Region.ready
  simp only [List.mem_filter, List.mem_range, hsz]
  constructor
  ·rintro ⟨h1, h2⟩
   rw [hop i h1] at h2 ⊢
   simp only [Option.map_some, Option.getD_some, Bool.and_eq_true, Bool.not_eq_true', Array.all_eq_true_iff_forall_mem] at h2
   refine ⟨h1, ?_, fun o ho e he hb => ?_⟩
   ·have := h2.1
    unfold lst
    simp [Array.getD_eq_getD_getElem?, hls, h1] at this ⊢
    exact this
   ·cases ho
    have := h2.2 e he
    simp only [Bool.or_eq_true, Bool.not_eq_true', hb, Bool.true_eq_false, false_or] at this
    exact this
  ·rintro ⟨h1, h2, h3⟩
   refine ⟨h1, ?_⟩
   rw [hop i h1] at h3 ⊢
   simp only [Option.map_some, Option.getD_some, Bool.and_eq_true, Bool.not_eq_true', Array.all_eq_true_iff_forall_mem]
   refine ⟨?_, fun e he => ?_⟩
   ·unfold lst at h2
    simp [Array.getD_eq_getD_getElem?, hls, h1] at h2 ⊢
    exact h2
   ·cases hb : Region.binds .any e with
    | false => simp
    | true =>
     have := h3 _ rfl e he hb
     unfold lst at this
     rw [this]; rfl
 have hnone : ∀ (listed : Array Bool), listed.size = rows.length → Region.ready .any ops listed = [] → ∀ k, k < rows.length → lst listed k = true := by
  intro listed hls hr k
  induction k using Nat.strongRecOn with
  | _ k ih =>
   intro hk
   cases hL : lst listed k with
   | true => rfl
   | false =>
    exfalso
    have : k ∈ Region.ready .any ops listed := (zT listed k hls).2 ⟨hk, hL, fun o ho e he hb => by
     have := hg.fwd k o ho e he hb
     exact ih e.on this (by omega)⟩
    rw [hr] at this; cases this
 intro fuel
 induction fuel with
 | zero =>
  intro listed a w μ hls hc hcl hh hcc
  have ha := xw (Nat.le_zero.1 hc)
  refine ⟨?_, hall listed a w μ ha hcc⟩
  rw [List.eq_nil_iff_forall_not_mem]
  intro i hi
  obtain ⟨h1, h2, _⟩ := (zT listed i hls).1 hi
  rw [ha i h1] at h2; cases h2
 | succ fuel ih =>
  intro listed a w μ hls hc hcl hh hcc
  refine ⟨fun hr => hall listed a w μ (hnone listed hls hr) hcc, fun i hi => ?_⟩
  obtain ⟨hil, hLi, haf⟩ := (zT listed i hls).1 hi
  generalize hx : rows[i] = x
  have kV : rows = rows.take i ++ x :: rows.drop (i + 1) := by rw [← hx, List.getElem_cons_drop, List.take_append_drop]
  have Fg : (rows.take i).length = i := by simp; omega
  -- how the others stand to it
  have zU : ∀ k (hk : k < i), lst listed k = false → Ind ops (rows[k]'(by omega)) x := fun k hk hL => by
   rcases hg.ind k i (by omega) hil hk with h | h
   ·have := h (lst listed) hcl haf
    rw [this] at hL; cases hL
   ·rw [hx] at h; exact h
  have zV : ∀ k (hk : i < k) (hkl : k < rows.length), lst listed k = true → Ind ops x (rows[k]) := fun k hk hkl hL => by
   rcases hg.ind i k hil hkl hk with h | h
   ·have := h (lst listed) hcl (fun o ho => hcl k o hL ho)
    rw [this] at hLi; cases hLi
   ·rw [hx] at h; exact h
  have zW : Fits P gl N ops b x (full (rows.take i) s0).1 (full (rows.take i) s0).2 := by
   have ht := hg.tr
   rw [kV] at ht
   exact lQ _ ht
  have Fh : ∀ k (hk : i ≤ k) (hkl : k < rows.length), needs (rows[k]).o.op = true → (full (rows.take i) s0).2[(rows[k]).q]? = some (some .resv) := fun k hk hkl hn => by
   refine tG (P := P) (gl := gl) (N := N) (ops := ops) (rows.take i) (rows.drop i) s0 (by rw [List.take_append_drop]; exact hg.tr) (fun z hz y hy h1 h2 => ?_) (fun y hy hn => (hg.kept y (List.mem_of_mem_drop hy) hn).1) _ ?_ hn
   ·obtain ⟨a', ha', e1⟩ := List.getElem_of_mem hz
    obtain ⟨b', hb', e2⟩ := List.getElem_of_mem hy
    simp only [List.getElem_take] at e1
    simp only [List.getElem_drop] at e2
    simp only [List.length_take] at ha'
    simp only [List.length_drop] at hb'
    have := hg.qs a' (i + b') (by omega) (by omega) (by omega)
    rw [e1, e2] at this
    exact this h1 h2
   ·have : rows[k] = (rows.drop i)[k - i]'(by simp; omega) := by
     rw [List.getElem_drop]; congr 1; omega
    rw [this]; exact List.getElem_mem _
  have IW : ∀ j (h : j < rows.length), wX (rows[j]).r ∧ ∀ p ∈ (rows[j]).ups, p.1 ∈ (rows[j]).r.rd := fun j h => by
   have ht := hg.tr
   have e : rows = rows.take j ++ rows[j] :: rows.drop (j + 1) := by rw [List.getElem_cons_drop, List.take_append_drop]
   rw [e] at ht
   exact (lQ _ ht).wX
  have hmk : ∀ j (h : j < rows.length), (rows[j]).r.new ≠ none → needs (rows[j]).o.op = true := fun j h => by
   have ht := hg.tr
   have e : rows = rows.take j ++ rows[j] :: rows.drop (j + 1) := by rw [List.getElem_cons_drop, List.take_append_drop]
   rw [e] at ht
   exact (lQ _ ht).makes
  -- places that are still kept
  have hR : ∀ k (hk : k < rows.length), lst listed k = false → needs (rows[k]).o.op = true → (sel (lst listed) 0 rows s0).2[(rows[k]).q]? = some (some .resv) := fun k hk hL hn => by
   rw [wm rows 0 s0]
   ·exact (hg.kept _ (List.getElem_mem _) hn).1
   ·intro j hj hLj hm
    rw [Nat.zero_add] at hLj
    rcases fO hm with hm | ⟨e, hm⟩
    ·exact hh k j hk hj hLj hL hn (wo (IW j hj) hm)
    ·have hne : k ≠ j := fun e => by subst e; rw [hL] at hLj; cases hLj
     exact hg.qs k j hk hj hne hn (hmk j hj hm) e
  -- the state now, in two parts
  have hsel : sel (lst listed) 0 rows s0 = sel (lst listed) (i + 1) (rows.drop (i + 1)) (sel (lst listed) 0 (rows.take i) s0) := by
   conv => lhs; rw [kV]
   rw [ng, Fg]
   simp only [sel, Nat.zero_add, hLi, cond_false]
  have CH : ∀ t ∈ x.o.looksAt ops, (sel (lst listed) 0 rows s0).1.get t = (full (rows.take i) s0).1.get t := fun t ht => by
   rw [hsel, xt]
   ·refine tF _ _ _ _ rfl fun k hk hL hd => ?_
    simp only [List.length_take] at hk
    rw [Nat.zero_add] at hL
    simp only [List.getElem_take] at hd
    exact (Oper.apart_spec (zU k (by omega) hL).1).1 t hd ht
   ·intro k hk hL hd
    simp only [List.length_drop] at hk
    simp only [List.getElem_drop] at hd
    exact (Oper.apart_spec (zV (i + 1 + k) (by omega) (by omega) hL).1).2.2 t hd ht
  have Fi : ∀ o ∈ x.rd, ∀ k (hk : k < rows.length), lst listed k = false → needs (rows[k]).o.op = true → o ≠ (rows[k]).q := fun o ho k hk hL hn e => by
   rcases zQ hcc zW CH o ho with h | h
   ·rw [e] at h; exact h (hR k hk hL hn)
   ·have := (hg.kept _ (List.getElem_mem hk) hn).2
    omega
  have Fj := mX zW
  have xC : ∀ o ∈ x.rd, ∀ k (hk : i < k) (hkl : k < rows.length), lst listed k = true → o ∉ (rows[k]).tch := fun o ho k hk hkl hL hm => by
   rcases fO hm with hm | ⟨e, hm⟩
   ·exact (zV k hk hkl hL).2.2 o hm ho
   ·obtain ⟨ob, h1, h2⟩ := Fj o ho
    rw [e, Fh k (by omega) hkl (hmk k hkl hm)] at h1
    cases h1; exact h2 rfl
  have HJ : ∀ o ∈ x.rd, (sel (lst listed) 0 rows s0).2[o]? = (full (rows.take i) s0).2[o]? := fun o ho => by
   rw [hsel]
   have e2 : (sel (lst listed) (i + 1) (rows.drop (i + 1)) (sel (lst listed) 0 (rows.take i) s0)).2[o]? = (sel (lst listed) 0 (rows.take i) s0).2[o]? := wm _ _ _ fun k hk hL => by
    simp only [List.length_drop] at hk
    simp only [List.getElem_drop]
    exact xC o ho (i + 1 + k) (by omega) (by omega) hL
   rw [e2]
   refine xu _ _ _ _ rfl fun k hk hL hm => ?_
   simp only [List.length_take] at hk
   rw [Nat.zero_add] at hL
   simp only [List.getElem_take] at hm
   rcases fO hm with hm | ⟨e, hm⟩
   ·exact (zU k (by omega) hL).2.1 o hm ho
   ·exact Fi o ho k (by omega) hL (hmk k (by omega) hm) e
  have Fl : Fits P gl N ops b x (sel (lst listed) 0 rows s0).1 (sel (lst listed) 0 rows s0).2 :=
   yB zW CH (fun o ho => by unfold look; rw [HJ o ho]) (fun hn => by have := hR i hil hLi (by rw [hx]; exact hn); rw [hx] at this; exact this)
  -- the step
  have hL' : ∀ k, lst (listed.setIfInBounds i true) k = if k = i then true else lst listed k := fun k => by
   unfold lst
   by_cases e : k = i
   ·subst e; rw [if_pos rfl]; simp [Array.getD_eq_getD_getElem?, hls, hil]
   ·rw [if_neg e]; simp [Array.getD_eq_getD_getElem?, Array.getElem?_setIfInBounds_ne (Ne.symm e)]
  unfold wpOp
  rw [hop i hil, hx]
  refine Cb hcc Fl fun a' w' μ' hc' => ?_
  refine ih _ a' w' μ' (by simpa using hls) ?_ ?_ ?_ ?_
  ·have := xB (L := lst listed) (L' := lst (listed.setIfInBounds i true)) hLi (by rw [hL', if_pos rfl]) (fun k hk => by rw [hL', if_neg hk]) hil
   omega
  ·intro k o hk ho e he hb
   rw [hL'] at hk ⊢
   split
   ·rfl
   ·by_cases hki : k = i
    ·subst hki; exact haf o ho e he hb
    ·rw [if_neg hki] at hk; exact hcl k o hk ho e he hb
  ·intro k j hk hj hLj hLk hn
   rw [hL'] at hLj hLk
   have hki : k ≠ i := fun e => by rw [if_pos e] at hLk; cases hLk
   rw [if_neg hki] at hLk
   by_cases hji : j = i
   ·subst hji
    rw [hx]
    intro hm
    exact Fi _ hm k hk hLk hn rfl
   ·rw [if_neg hji] at hLj
    exact hh k j hk hj hLj hLk hn
  ·refine Cc (s := x.ap (sel (lst listed) 0 rows s0)) ?_ hc'
   have e1 : sel (lst (listed.setIfInBounds i true)) 0 rows s0 = sel (lst listed) (i + 1) (rows.drop (i + 1)) (x.ap (sel (lst listed) 0 (rows.take i) s0)) := by
    conv => lhs; rw [kV]
    rw [ng, Fg]
    simp only [sel, Nat.zero_add]
    rw [hL', if_pos rfl, cond_true]
    rw [pI (L' := lst listed) (rows.take i) 0 s0 fun k _ hk => by
     simp only [List.length_take] at hk
     rw [hL', if_neg (by omega)]]
    exact pI _ _ _ fun k hk _ => by rw [hL', if_neg (by omega)]
   rw [e1, hsel]
   refine (xr _ _ _ fun k hk hL => ?_).symm
   simp only [List.length_drop] at hk
   simp only [List.getElem_drop]
   have hI := zV (i + 1 + k) (by omega) (by omega) hL
   refine ⟨(Oper.apart_spec hI.1).2.1, fun o ho hm => ?_⟩
   rcases fO ho with ho | ⟨e, ho⟩
   ·exact xC o (wo zW.wX ho) (i + 1 + k) (by omega) (by omega) hL hm
   ·have hn := zW.makes ho
    rcases fO hm with hm | ⟨e', hm⟩
    ·have := hh i (i + 1 + k) hil (by omega) hL hLi (by rw [hx]; exact hn)
     rw [hx, ← e] at this
     exact this (wo (IW _ (by omega)) hm)
    ·have := hg.qs i (i + 1 + k) hil (by omega) (by omega) (by rw [hx]; exact hn) (hmk _ (by omega) hm)
     rw [hx] at this
     exact this (e.symm.trans e')
end
end Go.Am
namespace Go.Am
open Go
abbrev Log := List (List Nat × List Nat)
def HK (rd up : List Nat) : Log → Prop
 | [] => True
 | (rd', up') :: l => (∀ o ∈ up, o ∉ rd') ∧ (∀ o ∈ up', o ∉ rd) ∧ HK rd up l
def CJ : Log → Prop
 | [] => True
 | (rd, up) :: l => HK rd up l ∧ CJ l
def upL (r : LR) : List Nat := match r.up with | some (o, _) => [o] | none => []
def jw (tr : Bool) (lg : Log) (r : LR) (ups : List (Nat × Ob)) : Log := bif tr then lg ++ [(r.rd, upL r ++ ups.map (·.1))] else lg
def Cd (N q : Nat) (tr : Bool) (dst : Option Nat) (lg : Log) (fr : Fr) (st : St) (k : Log → Fr → St → Prop) (r : LR) : Prop :=
 r.ok ∧ dlt N dst ∧ k (jw tr lg r []) (fr.hH dst r.d) (r.app q st)
def yC (P : Program) (gl : Gl) (b : Nat) (tr : Bool) (dst : Option Nat) (lg : Log) (fr : Fr) (st : St) (k : Log → Fr → St → Prop) (g : FuncId) (args : List D) : Prop :=
 ∃ r rd ups, rW P gl g args rd st r ups ∧ (∀ p ∈ ups, p.1 ∈ rd) ∧ (∀ o ∈ rd, o < b ∧ ∃ ob, look st o = some ob ∧ ob ≠ .resv) ∧ (tr = false → rd = []) ∧ k (jw tr lg ⟨r, True, rd, none, none⟩ ups) (fr.hH dst r) (puts st ups)
def tH (P : Program) (gl : Gl) (b : Nat) (G tr : Bool) (dst : Option Nat) (lg : Log) (fr : Fr) (st : St) (k : Log → Fr → St → Prop) (g : FuncId) (args : List D) : Prop :=
 ∃ r rd ups, (G = true → rW P gl g args rd st r ups) ∧ (∀ p ∈ ups, p.1 ∈ rd) ∧ (∀ o ∈ rd, o < b ∧ ∃ ob, look st o = some ob ∧ ob ≠ .resv) ∧ (tr = false → rd = []) ∧ (G = false → puts st ups = st) ∧ k (jw tr lg ⟨r, True, rd, none, none⟩ ups) (fr.hH dst (.cond G r)) (puts st ups)
def Ep (P : Program) (gl : Gl) (N b : Nat) (tr : Bool) (dst : Option Nat) (lg : Log) (fr : Fr) (st : St) (k : Log → Fr → St → Prop) (ok : Prop) (f : D) (args : List D) : Prop :=
 match f with
 | .fn g first cap => dlt N dst ∧ ok ∧ yC P gl b tr dst lg fr st k g (first ++ args ++ cap)
 | _ => False
def zX (N q : Nat) (G : Bool) (tr : Bool) (dst : Option Nat) (lg : Log) (fr : Fr) (st : St) (k : Log → Fr → St → Prop) (r : LR) : Prop :=
 aN G r.ok ∧ dlt N dst ∧ k (jw tr lg r []) (fr.hH dst (.cond G r.d)) (bif G then r.app q st else st)
def yD (P : Program) (gl : Gl) (N b : Nat) (G : Bool) (tr : Bool) (dst : Option Nat) (lg : Log) (fr : Fr) (st : St) (k : Log → Fr → St → Prop) (ok : Prop) (f : D) (args : List D) : Prop :=
 match f with
 | .fn g first cap => dlt N dst ∧ ok ∧ tH P gl b G tr dst lg fr st k g (first ++ args ++ cap)
 | _ => False
def CK (P : Program) (gl : Gl) (N b q : Nat) (tr : Bool) (k k1 : Log → Fr → St → Prop) (dst : Option Nat) (op : Op) (lg : Log) (fr : Fr) (st : St) : Nat → Prop
 | 0 => Cd N q tr dst lg fr st k (aop P gl true op fr (look st) q)
 | 1 => Cd N q tr dst lg fr st k1 (aop P gl true op fr (look st) q)
 | _ => match op with
  | .call ⟨.value f, args, _⟩ => Ep P gl N b tr dst lg fr st k (eok gl true fr f ∧ (∀ x ∈ args.toList, eok gl true fr x)) (ev1 gl fr f) (args.toList.map (ev1 gl fr))
  | _ => False
def CM (P : Program) (gl : Gl) (N b q : Nat) (tr : Bool) (k : Log → Fr → St → Prop) (dst : Option Nat) (op : Op) (lg : Log) (fr : Fr) (st : St) : Nat → Option Bool → Prop
 | 0, some G => zX N q G tr dst lg fr st k (aop P gl G op fr (look st) q)
 | 2, some G => match op with
  | .call ⟨.value f, args, _⟩ => yD P gl N b G tr dst lg fr st k (eok gl G fr f ∧ (∀ x ∈ args.toList, eok gl G fr x)) (ev1 gl fr f) (args.toList.map (ev1 gl fr))
  | _ => False
 | _, _ => False
def EvD (P : Program) (gl : Gl) (N : Nat) (ops : Array Oper) (b : Nat) (trk : List Nat) (K : Fr → St → Prop) : List Oper → Nat → Nat → Log → Fr → St → Prop
 | [], _, _, lg, fr, st => CJ lg ∧ K fr st
 | ⟨dst, op, _, _, _, none⟩ :: l, i, k, lg, fr, st => CK P gl N b (b + k) (trk.contains i) (EvD P gl N ops b trk K l (i + 1) k) (EvD P gl N ops b trk K l (i + 1) (k + 1)) dst op lg fr st (opk op)
 | ⟨dst, op, _, _, _, some (j, want)⟩ :: l, i, k, lg, fr, st => CM P gl N b (b + k) (trk.contains i) (EvD P gl N ops b trk K l (i + 1) k) dst op lg fr st (opk op) (BL fr want (gslot ops j))
def rds : Op → Bool
 | .load _ _ | .store _ _ _ | .indexAddr _ _ _ | .slice _ _ _ _ _ | .lookup _ _ _ _ | .mapUpdate _ _ _ _ | .next _ _ | .call { callee := .builtin .len, .. } | .call { callee := .builtin .append, .. } => true
 | _ => false
def wrs : Op → Bool
 | .store _ _ _ | .mapUpdate _ _ _ _ | .next _ _ | .call { callee := .builtin .append, .. } => true
 | _ => false
def qz (trk : List Nat) (i : Nat) (o : Op) : Bool := (cH o).isSome && trk.contains i
def zY (tbl : List Nat) (o : Oper) : Nat := o.after.toList.foldl (fun s e => bif Region.binds .any e then s ||| 2 ^ e.on ||| tbl.getD e.on 0 else s) 0
def masks : List Oper → List Nat → List Nat
 | [], tbl => tbl
 | o :: l, tbl => masks l (tbl ++ [zY tbl o])
def CN (ops : Array Oper) (trk : List Nat) (m i j : Nat) : Bool :=
 Nat.testBit m i || (match ops[i]?, ops[j]? with
  | some x, some y => Oper.apart ops x y && ((!((wrs x.op || qz trk i x.op) && (rds y.op || qz trk j y.op)) && !((wrs y.op || qz trk j y.op) && (rds x.op || qz trk i x.op))) || (trk.contains i && trk.contains j))
  | _, _ => false)
def zZ (ops : Array Oper) (trk : List Nat) : Bool :=
 let tbl := masks ops.toList []
 (List.range ops.size).all fun j =>
  (match ops[j]? with | some o => o.after.toList.all fun e => !Region.binds .any e || Nat.blt e.on j | none => true) &&
  (List.range j).all fun i => CN ops trk (tbl.getD j 0) i j
theorem yE {tbl : List Nat} {o : Oper} {j : Nat} (h : Nat.testBit (zY tbl o) j = true) : ∃ e ∈ o.after, Region.binds .any e = true ∧ (e.on = j ∨ Nat.testBit (tbl.getD e.on 0) j = true) := by
 have key : ∀ (l : List Edge) (s : Nat), Nat.testBit (l.foldl (fun s e => bif Region.binds .any e then s ||| 2 ^ e.on ||| tbl.getD e.on 0 else s) s) j = true →
   Nat.testBit s j = true ∨ ∃ e ∈ l, Region.binds .any e = true ∧ (e.on = j ∨ Nat.testBit (tbl.getD e.on 0) j = true) := by
  intro l
  induction l with
  | nil => intro s h; exact .inl h
  | cons e l ih =>
   intro s h
   simp only [List.foldl_cons] at h
   rcases ih _ h with h | ⟨e', h1, h2⟩
   ·cases hb : Region.binds .any e with
    | false => rw [hb] at h; exact .inl h
    | true =>
     rw [hb] at h
     simp only [cond_true, Nat.testBit_or, Bool.or_eq_true, Nat.testBit_two_pow, decide_eq_true_eq] at h
     rcases h with (h | h) | h
     ·exact .inl h
     ·exact .inr ⟨e, by simp, hb, .inl h⟩
     ·exact .inr ⟨e, by simp, hb, .inr h⟩
   ·exact .inr ⟨e', by simp [h1], h2⟩
 rcases key _ 0 h with h | ⟨e, h1, h2⟩
 ·simp at h
 ·exact ⟨e, by simpa using h1, h2⟩
theorem tI {ops : Array Oper} : ∀ (l : List Oper) (tbl : List Nat), ops.toList.drop tbl.length = l →
  (∀ j, j < tbl.length → ∀ i, Nat.testBit (tbl.getD j 0) i = true → Ord ops i j) → ∀ j i, Nat.testBit ((masks l tbl).getD j 0) i = true → Ord ops i j
 | [], tbl, _, h, j, i, hb => by
  rcases Nat.lt_or_ge j tbl.length with hj | hj
  ·exact h j hj i hb
  ·simp only [masks] at hb
   rw [List.getD_eq_getElem?_getD, List.getElem?_eq_none hj] at hb
   simp at hb
 | o :: l, tbl, hl, h, j, i, hb => by
  simp only [masks] at hb
  have ho : ops[tbl.length]? = some o := by
   have : (ops.toList.drop tbl.length)[0]? = some o := by rw [hl]; rfl
   simpa [List.getElem?_drop] using this
  refine tI l (tbl ++ [zY tbl o]) ?_ ?_ j i hb
  ·have := congrArg List.tail hl
   simpa [List.tail_drop] using this
  ·intro j hj i hb
   rcases Nat.lt_or_ge j tbl.length with hj' | hj'
   ·rw [List.getD_eq_getElem?_getD, List.getElem?_append_left hj', ← List.getD_eq_getElem?_getD] at hb
    exact h j hj' i hb
   ·have : j = tbl.length := by simp at hj; omega
    subst this
    rw [List.getD_eq_getElem?_getD, List.getElem?_append_right (Nat.le_refl _)] at hb
    simp only [Nat.sub_self, List.getElem?_cons_zero, Option.getD_some] at hb
    obtain ⟨e, h1, h2, h3⟩ := yE hb
    intro L hcl haf
    have hon := haf o ho e h1 h2
    rcases h3 with rfl | h3
    ·exact hon
    ·rcases Nat.lt_or_ge e.on tbl.length with hlt | hge
     ·exact h e.on hlt i h3 L hcl fun o' ho' e' he' hb' => hcl e.on o' hon ho' e' he' hb'
     ·rw [List.getD_eq_getElem?_getD, List.getElem?_eq_none hge] at h3
      simp at h3
section
variable {P : Program} {gl : Gl} {N : Nat} {ops : Array Oper} {fr : Fr} {st : St} {q : Nat} {g : Bool} {op : Op} {lk : Look}
theorem Ce (h : rds op = false) : (aop P gl g op fr lk q).rd = [] := by
 cases op with
 | load | store | indexAddr | slice | lookup | mapUpdate | next => cases h
 | range t x => exact rU
 | call c =>
  obtain ⟨callee, args, ats⟩ := c
  cases callee with
  | value f => rfl
  | invoke r m => rfl
  | builtin b =>
   cases b <;> first | (cases h; done) | skip
   all_goals
    simp only [aop]
    generalize args.toList = l
    generalize ats.toList = l'
    first | rfl | (split <;> first | contradiction | rfl | exact zN | exact zO)
 | pick c a b => exact wg
 | build t ps => exact rR
 | buildSlice t len ps => simp only [aop]; cases gl.imm t <;> rfl
 | binOp o t x y u =>
  simp only [aop]
  split <;> first | exact Du | exact zM
 | unOp o t x => exact Dv
 | convert s t x => exact mU
 | makeFunc f a b => cases f <;> rfl
 | makeMap t r => cases r with
  | none => exact mW
  | some r => rfl
 | makeSlice t l c => exact jt
 | fieldAddr t x f => exact jr
 | field t x f => exact rS
 | index t x y => exact rT
 | extract x j => exact mV
 | _ => rfl
theorem Dz (h : wrs op = false) (hr : rds op = true) : (aop P gl g op fr lk q).up = none := by
 cases op <;> first | (cases h; done) | (cases hr; done) | skip
 case load => exact (iI _ _ _).1
 case indexAddr => exact (bZ _ _ _ _ _).1
 case slice => exact (gD _ _ _ _ _ _ _).1
 case lookup => exact (fh _ _ _ _ _ _ _).1
 case call c =>
  obtain ⟨callee, args, ats⟩ := c
  cases callee with
  | value f => rfl
  | invoke r m => rfl
  | builtin b =>
   cases b <;> first | (cases h; done) | (cases hr; done) | skip
   simp only [aop]
   generalize args.toList = l
   generalize ats.toList = l'
   first | rfl | (split <;> first | contradiction | rfl | exact (ij _ _ _).1)
theorem oC {b : Nat} {x : Row} (h : Fits P gl N ops b x fr st) (hr : rds x.o.op = false) (hc : cH x.o.op ≠ none → x.r.rd = []) : x.rd = [] := by
 unfold Row.rd
 cases hG : x.G with
 | false => rfl
 | true =>
  rcases h.does hG with ⟨_, e, _⟩ | ⟨_, _, _, _, _, _, _, e, _⟩
  ·rw [e]; exact Ce hr
  ·exact hc (by rw [e]; simp)
theorem xD {b : Nat} {x : Row} (h : Fits P gl N ops b x fr st) (hw : wrs x.o.op = false) (hc : cH x.o.op ≠ none → x.r.rd = []) : x.wr = [] := by
 cases hr : rds x.o.op with
 | false =>
  have := oC h hr hc
  rw [List.eq_nil_iff_forall_not_mem]
  intro o ho
  have := wo h.wX ho
  rw [oC h hr hc] at this; cases this
 | true =>
  unfold Row.wr
  cases hG : x.G with
  | false => rfl
  | true =>
   rcases h.does hG with ⟨_, e, _, _, hu⟩ | ⟨_, _, _, _, _, _, _, e, _⟩
   ·rw [e, Dz hw hr, hu]; rfl
   ·rw [List.eq_nil_iff_forall_not_mem]
    intro o ho
    have h1 : o ∈ x.wr := by unfold Row.wr; rw [hG]; exact ho
    have h2 := wo h.wX h1
    unfold Row.rd at h2
    rw [hG, hc (by rw [e]; simp)] at h2
    cases h2
end
end Go.Am
