/-
  AM, part 13: arithmetic, comparison, conversion, lengths.
-/
import Derived.MapKept
import Derived.Test.YtaohdfpcdfbnlaaDoorAm0
set_option linter.unusedVariables false
set_option linter.unusedSimpArgs false
namespace Go.Am
open Go

theorem i64_wrap {k : IntKind} {n : Int} (h : InK k n) (hs : k.signed = true) : k.wrap n = n := by
  unfold InK IntKind.min IntKind.max at h
  rw [hs] at h
  simp only [if_true] at h
  unfold IntKind.wrap
  simp only [hs, Bool.true_and]
  cases k <;> simp [IntKind.signed] at hs <;> simp only [IntKind.bits] at h ⊢ <;> simp at h ⊢ <;> split <;> omega

theorem wrap_in {k : IntKind} {n : Int} (h : InK k n) : k.wrap n = n := by
  cases hs : k.signed with
  | true => exact i64_wrap h hs
  | false =>
    unfold InK IntKind.min IntKind.max at h
    rw [hs] at h
    unfold IntKind.wrap
    rw [hs]
    simp only [Bool.false_and, Bool.false_eq_true, if_false] at h ⊢
    cases k <;> simp [IntKind.signed] at hs <;> simp only [IntKind.bits] at h ⊢ <;> simp at h ⊢ <;> omega

theorem arith_sound {w : World} {μ : Mu} {st : St} {k : IntKind} {n : Int} (hok : (arith k n).ok) : VR w μ st (.int k (k.wrap n)) (arith k n).d := by
  exact mk_int _ _ _ _ _

theorem eqGuard_int (P : Program) (w : World) (op : BinOp) (t : TypeId) (x y : Operand) (k k' : IntKind) (a b : Int) : (eqGuard op t x y (.int k a) (.int k' b)).run P w = .ok () w := by
  unfold eqGuard; simp
theorem eqGuard_str (P : Program) (w : World) (op : BinOp) (t : TypeId) (x y : Operand) (a b : ByteArray) : (eqGuard op t x y (.string a) (.string b)).run P w = .ok () w := by
  unfold eqGuard; simp
theorem eqGuard_bool (P : Program) (w : World) (op : BinOp) (t : TypeId) (x y : Operand) (a b : Bool) : (eqGuard op t x y (.bool a) (.bool b)).run P w = .ok () w := by
  unfold eqGuard; simp

theorem bs_toList (s : Bs) : (bs s).toList = s := by simp [bs]

theorem beq_dec {α : Type} [BEq α] [LawfulBEq α] [DecidableEq α] (a b : α) : (a == b) = decide (a = b) := by
  by_cases h : a = b
  · subst h; simp
  · simp [h]

theorem bin_sound {P : Program} {t : TypeId} {w : World} {μ : Mu} {st : St} {vx vy : Value} {x y : D} {op : BinOp} (hx : VR w μ st vx x) (hy : VR w μ st vy y)
    (hok : (aBin op x y).ok) : ∃ v, (binOp op t vx vy).run P w = .ok v w ∧ VR w μ st v (aBin op x y).d ∧ ((∃ k a k' b, vx = .int k a ∧ vy = .int k' b) ∨ ∃ a b, vx = .string a ∧ vy = .string b) := by
  unfold aBin at hok
  split at hok
  · rename_i k a k' b
    have := vr_int hx; subst this
    have := vr_int hy; subst this
    have both : (∃ k1 a1 k2 b1, Value.int k a = .int k1 a1 ∧ Value.int k' b = .int k2 b1) ∨ ∃ a1 b1, Value.int k a = .string a1 ∧ Value.int k' b = .string b1 := .inl ⟨_, _, _, _, rfl, rfl⟩
    have bo : ∀ r, (∃ v, (binOp op t (.int k a) (.int k' b)).run P w = .ok v w ∧ VR w μ st v r) → ∃ v, (binOp op t (.int k a) (.int k' b)).run P w = .ok v w ∧ VR w μ st v r ∧
      ((∃ k1 a1 k2 b1, Value.int k a = .int k1 a1 ∧ Value.int k' b = .int k2 b1) ∨ ∃ a1 b1, Value.int k a = .string a1 ∧ Value.int k' b = .string b1) := fun r ⟨v, h1, h2⟩ => ⟨v, h1, h2, both⟩
    apply bo
    split at hok
    · -- shl
      have hb : ¬ b < 0 := by have h : 0 ≤ b := hok; omega
      refine ⟨.int k (k.wrap (a * 2 ^ (min b.toNat k.bits))), ?_, mk_int _ _ _ _ _⟩
      simp [binOp, Op.shift, hb]
    · have hb : ¬ b < 0 := by have h : 0 ≤ b := hok; omega
      refine ⟨.int k (a.fdiv (2 ^ (min b.toNat k.bits))), ?_, mk_int _ _ _ _ _⟩
      simp [binOp, Op.shift, hb]
    · rename_i h1 h2
      split at hok
      · rename_i hkk
        subst hkk
        split at hok
        · exact ⟨.int k (k.wrap (a + b)), by simp [binOp, Op.intArith], by simp only [aBin, if_true]; exact arith_sound hok⟩
        · exact ⟨.int k (k.wrap (a - b)), by simp [binOp, Op.intArith], by simp only [aBin, if_true]; exact arith_sound hok⟩
        · exact ⟨.int k (k.wrap (a * b)), by simp [binOp, Op.intArith], by simp only [aBin, if_true]; exact arith_sound hok⟩
        · obtain ⟨h0, h3⟩ := hok
          refine ⟨.int k (a.tdiv b), ?_, by simp only [aBin, if_true]; exact mk_int _ _ _ _ _⟩
          simp [binOp, Op.intDiv, h0, wrap_in h3]
        · have h0 : b ≠ 0 := hok
          refine ⟨.int k (a.tmod b), by simp [binOp, Op.intDiv, h0], by simp only [aBin, if_true]; exact mk_int _ _ _ _ _⟩
        · exact ⟨.bool (decide (a = b)), by simp [binOp, Op.intCmp, beq_dec], by simp only [aBin, if_true]; exact mk_bool _ _ _ _⟩
        · exact ⟨.bool (!decide (a = b)), by simp [binOp, Op.intCmp, bne, beq_dec], by simp only [aBin, if_true]; exact mk_bool _ _ _ _⟩
        · exact ⟨.bool (decide (a < b)), by simp [binOp, Op.intCmp], by simp only [aBin, if_true]; exact mk_bool _ _ _ _⟩
        · exact ⟨.bool (decide (a ≤ b)), by simp [binOp, Op.intCmp], by simp only [aBin, if_true]; exact mk_bool _ _ _ _⟩
        · exact ⟨.bool (decide (b < a)), by simp [binOp, Op.intCmp], by simp only [aBin, if_true]; exact mk_bool _ _ _ _⟩
        · exact ⟨.bool (decide (b ≤ a)), by simp [binOp, Op.intCmp], by simp only [aBin, if_true]; exact mk_bool _ _ _ _⟩
        · cases op <;> first | contradiction | skip
          · exact ⟨.int k (bitop .and k a b), by simp only [binOp, ne_eq, not_true_eq_false, if_false]; rfl, by simp only [aBin, if_true]; exact mk_int _ _ _ _ _⟩
          · exact ⟨.int k (bitop .or k a b), by simp only [binOp, ne_eq, not_true_eq_false, if_false]; rfl, by simp only [aBin, if_true]; exact mk_int _ _ _ _ _⟩
          · exact ⟨.int k (bitop .xor k a b), by simp only [binOp, ne_eq, not_true_eq_false, if_false]; rfl, by simp only [aBin, if_true]; exact mk_int _ _ _ _ _⟩
          · exact ⟨.int k (bitop .andNot k a b), by simp only [binOp, ne_eq, not_true_eq_false, if_false]; rfl, by simp only [aBin, if_true]; exact mk_int _ _ _ _ _⟩
      · exact hok.elim
  · rename_i a b
    have := vr_str hx; subst this
    have := vr_str hy; subst this
    have both : (∃ k1 a1 k2 b1, Value.string (bs a) = .int k1 a1 ∧ Value.string (bs b) = .int k2 b1) ∨ ∃ a1 b1, Value.string (bs a) = .string a1 ∧ Value.string (bs b) = .string b1 := .inr ⟨_, _, rfl, rfl⟩
    split at hok
    · refine ⟨.string (bs (a ++ b)), ?_, mk_str _ _ _ _, both⟩
      have hle : a.length + b.length ≤ 9223372036854775807 := hok
      have : ¬ (((bs a).size + (bs b).size : Nat) : Int) > IntKind.i64.max := by rw [bs_size, bs_size]; simp [IntKind.max, IntKind.signed, IntKind.bits]; omega
      have e : bs a ++ bs b = bs (a ++ b) := by apply ByteArray.ext; simp [bs]
      simp only [binOp, Op.stringOp]
      rw [if_neg this, e]; rfl
    · exact ⟨.bool (decide (a = b)), by simp [binOp, Op.stringOp, bs_toList, beq_dec], mk_bool _ _ _ _, both⟩
    · exact ⟨.bool (!decide (a = b)), by simp [binOp, Op.stringOp, bs_toList, beq_dec], mk_bool _ _ _ _, both⟩
    · exact ⟨.bool (Op.bytesLess a b), by simp [binOp, Op.stringOp, bs_toList], mk_bool _ _ _ _, both⟩
    · exact ⟨.bool (!(Op.bytesLess a b || decide (a = b))), by simp [binOp, Op.stringOp, bs_toList, beq_dec], mk_bool _ _ _ _, both⟩
    · exact ⟨.bool (Op.bytesLess a b || decide (a = b)), by simp [binOp, Op.stringOp, bs_toList, beq_dec], mk_bool _ _ _ _, both⟩
    · exact ⟨.bool (!Op.bytesLess a b), by simp [binOp, Op.stringOp, bs_toList], mk_bool _ _ _ _, both⟩
    · exact hok.elim
  · exact hok.elim

end Go.Am

/-
  AM, part 14: maps; equality of aggregates; small operations.
-/
namespace Go.Am
open Go Go.MapKept

section maps
variable {K : Type} [DecidableEq K] {key : K → Value} {d : TypeDesc}

theorem assoc_spec (hsame : ∀ a b : K, Instr.sameNow d (key a) (key b) = some (decide (a = b))) (k : K) : ∀ (l : List MapEntry) (es : List (K × List D)) (i : Nat), l.length = es.length →
    (∀ j (hj : j < es.length), ∃ e, l[j]? = some e ∧ e.key = key (es[j]).1) →
    (assoc k es = none ∧ Instr.findNow d (key k) l i = some none ∧ ∀ v, assocSet k v es = es ++ [(k, v)]) ∨
      ∃ j cs e, assoc k es = some cs ∧ Instr.findNow d (key k) l i = some (some (i + j, e.val)) ∧ l[j]? = some e ∧ es[j]? = some (k, cs) ∧ ∀ v, assocSet k v es = es.set j (k, v)
  | [], [], _, _, _ => .inl ⟨rfl, rfl, fun _ => rfl⟩
  | e :: l, (a, cs) :: es, i, hl, h => by
    obtain ⟨e', he, hk⟩ := h 0 (by simp)
    simp at he hk
    subst he
    by_cases hka : k = a
    · subst hka
      exact .inr ⟨0, cs, e, by simp [assoc], by simp [Instr.findNow, hk, hsame], rfl, rfl, fun v => by simp [assocSet]⟩
    · have hn : Instr.sameNow d (key k) e.key = some false := by rw [hk, hsame]; simp [hka]
      rcases assoc_spec hsame k l es (i + 1) (by simpa using hl) (fun j hj => by
        obtain ⟨e2, h1, h2⟩ := h (j + 1) (by simp; omega)
        exact ⟨e2, by simpa using h1, by simpa using h2⟩) with ⟨h1, h2, h3⟩ | ⟨j, cs', e2, h1, h2, h3, h4, h5⟩
      · exact .inl ⟨by simp [assoc, hka, h1], by simp [Instr.findNow, hn, h2], fun v => by simp [assocSet, hka, h3]⟩
      · exact .inr ⟨j + 1, cs', e2, by simp [assoc, hka, h1], by simp [Instr.findNow, hn, h2]; omega, by simpa using h3, by simpa using h4, fun v => by simp [assocSet, hka, h5]⟩
  | [], _ :: _, _, h, _ => by simp at h
  | _ :: _, [], _, h, _ => by simp at h

end maps

theorem same_str (a b : Bs) : Instr.sameNow .string (.string (bs a)) (.string (bs b)) = some (decide (a = b)) := by
  simp only [Instr.sameNow]
  congr 1
  by_cases h : a = b
  · subst h; simp [bytes_beq]
  · have hn : bs a ≠ bs b := fun e => h (by have := congrArg (fun x => x.data.toList) e; simpa [bs] using this)
    have : ¬ ((bs a == bs b) = true) := fun e => hn ((bytes_beq _ _).1 e)
    simp [h, this]
theorem same_int (k : IntKind) (a b : Int) : Instr.sameNow (.int k) (.int k a) (.int k b) = some (decide (a = b)) := by
  simp [Instr.sameNow, beq_dec]

theorem zv_sound {P : Program} {t : TypeId} {w : World} {μ : Mu} {st : St} (h : (tinfo P t).zv.isSome = true) : ∃ z, (zeroValue t).run P w = .ok z w ∧ VR w μ st z ((tinfo P t).zv.getD .any) := by
  cases hi : P.info? t with
  | none => simp [tinfo, hi] at h
  | some inf =>
    cases hz : inf.zero with
    | none => simp [tinfo, hi, hz] at h
    | some z => exact ⟨z, by simp [zeroValue, typeInfo, hi, hz], by simp [tinfo, hi, hz]; exact ofVal_sound _ _ _ _⟩

theorem EntR.val {ag : Bool} {w : World} {μ : Mu} {st : St} {v : Value} {cs : List D} (h : EntR ag w μ st v cs) : VR w μ st v (mkv ag cs) := by
  cases ag with
  | true => exact h
  | false => obtain ⟨d, rfl, h⟩ := h; exact h

theorem lookup_core {P : Program} {t kt et : TypeId} {w : World} {μ : Mu} {st : St} {K : Type} [DecidableEq K] {key : K → Value} {d : TypeDesc} {es : List (K × List D)} {m : Option (Nat × Nat)} {k : K} {ok : Bool} {ag : Bool}
    (hu : P.underlying t = some (.map kt et)) (hkt : P.underlying kt = some d) (hkey : ∀ k, IsKey d (key k)) (hsame : ∀ a b : K, Instr.sameNow d (key a) (key b) = some (decide (a = b)))
    (hm : MapR key ag w μ st m es) (hag : ag = (tinfo P et).k.agg) (hz : (tinfo P et).zv.isSome = true) :
    ∃ blk v, m = some (blk, 0) ∧ (Instr.lookup t (.map (some blk)) (key k) ok).run P w = .ok v w ∧ VR w μ st v (lookRes (tinfo P et) ok (assoc k es)) := by
  obtain ⟨blk, ents, clock, em, hh, hsz, hc⟩ := hm.loc
  obtain ⟨z, hz1, hz2⟩ := zv_sound (w := w) (μ := μ) (st := st) hz
  have hck := fun e => run_checkKey (P := P) (w := w) hkt (hkey k) e 9999
  have fin : ∀ (u : Value) (b : Bool) (r : Option (List D)), VR w μ st u (lookVal (tinfo P et) r) → b = r.isSome → VR w μ st (if ok then .tuple #[u, .bool b] else u) (lookRes (tinfo P et) ok r) := by
    intro u b r h1 h2
    subst h2
    cases ok with
    | false => exact h1
    | true =>
      refine .tup _ _ (fun j hj _ => by simpa [lookRes] using hj) (fun j hj => ?_)
      match j, hj with
      | 0, _ => exact h1
      | 1, _ => exact mk_bool _ _ _ _
      | j + 2, hj => simp at hj; omega
  refine ⟨blk, ?_⟩
  rcases assoc_spec hsame k ents.toList es 0 (by simpa using hsz) (fun j hj => by
    obtain ⟨e, h1, h2, _⟩ := hc j hj
    exact ⟨e, by simpa using h1, h2⟩) with ⟨h1, h2, _⟩ | ⟨j, cs, e, h1, h2, h3, h4, _⟩
  · have hf := run_findKey (P := P) (w := w) hkt h2
    refine ⟨_, em, ?_, fin z false none hz2 rfl |> (h1 ▸ ·)⟩
    simp [Instr.lookup, run_underlying hu, MapKept.run_getObj_map hh, hck, hf, hz1]
  · have hf := run_findKey (P := P) (w := w) hkt h2
    have hj : j < es.length := by
      rcases Nat.lt_or_ge j es.length with h | h
      · exact h
      · rw [List.getElem?_eq_none h] at h4; cases h4
    obtain ⟨e', a1, a2, a3⟩ := hc j hj
    have : e' = e := by
      have : ents.toList[j]? = some e' := by simpa using a1
      rw [this] at h3; exact Option.some.inj h3
    subst this
    have hes : es[j] = (k, cs) := by rw [List.getElem?_eq_getElem hj] at h4; exact Option.some.inj h4
    rw [hes, hag] at a3
    refine ⟨_, em, ?_, fin e'.val true (some cs) a3.val rfl |> (h1 ▸ ·)⟩
    simp [Instr.lookup, run_underlying hu, MapKept.run_getObj_map hh, hck, hf]

theorem vr_mp {w : World} {μ : Mu} {st : St} {v : Value} {o : Nat} (h : VR w μ st v (.mp o)) :
    (∀ ag es, st[o]? = some (some (.mps ag es)) → ∃ blk, μ o = some (blk, 0) ∧ v = .map (some blk)) ∧ (∀ ag k es, st[o]? = some (some (.mpi ag k es)) → ∃ blk, μ o = some (blk, 0) ∧ v = .map (some blk)) := by
  cases h with
  | tr h => cases h
  | mp _ _ _ _ _ h1 h2 => exact ⟨h1, h2⟩

theorem lookup_sound {P : Program} {t kt et : TypeId} {w : World} {μ : Mu} {st : St} {vm vk : Value} {m k : D} {ok : Bool} (hs : Sim w μ st) (hm : VR w μ st vm m) (hk : VR w μ st vk k)
    (hu : (tinfo P t).k = .map kt et) (hok : (aLookup (tinfo P t) (tinfo P kt) (tinfo P et) (look st) ok k m).ok) :
    ∃ v, (Instr.lookup t vm vk ok).run P w = .ok v w ∧ VR w μ st v (aLookup (tinfo P t) (tinfo P kt) (tinfo P et) (look st) ok k m).d := by
  have hu' := k_map hu
  cases m with
  | mp o =>
    simp only [aLookup] at *
    split at hok
    · rename_i ag es k hl
      obtain ⟨_, hks, hag, hz⟩ := hok
      have ho := look_some hl
      have := vr_str hk; subst this
      obtain ⟨blk, em, ev⟩ := (vr_mp hm).1 ag es ho
      subst ev
      obtain ⟨blk', v, em', h1, h2⟩ := lookup_core (P := P) (k := k) (ok := ok) (key := fun k => .string (bs k)) hu' (k_str hks) (fun _ => trivial) same_str (hs.obj o _ ho : MapR _ ag w μ st (μ o) es) hag hz
      rw [em] at em'; cases em'
      exact ⟨v, h1, h2⟩
    · rename_i ag kk es kk' k hl
      obtain ⟨_, hks, rfl, hag, hz⟩ := hok
      have ho := look_some hl
      have := vr_int hk; subst this
      obtain ⟨blk, em, ev⟩ := (vr_mp hm).2 ag _ es ho
      subst ev
      obtain ⟨blk', v, em', h1, h2⟩ := lookup_core (P := P) (k := k) (ok := ok) (key := fun n => .int kk' n) hu' (k_int hks) (fun _ => rfl) (same_int kk') (hs.obj o _ ho : MapR _ ag w μ st (μ o) es) hag hz
      rw [em] at em'; cases em'
      exact ⟨v, h1, h2⟩
    · exact hok.elim
  | _ => exact hok.elim

theorem ent_of {w : World} {μ : Mu} {st : St} {v : Value} {i : TI} {x : D} (h : VR w μ st v x) (hok : cellsOk i x) : EntR i.k.agg w μ st v (cellsOf i x) := by
  unfold cellsOk at hok
  unfold cellsOf EntR
  split at hok
  · rename_i hag
    cases x with
    | agg cs => simp only [hag, if_true]; exact h
    | _ => exact hok.elim
  · rename_i hag
    simp only [hag]
    exact ⟨x, rfl, h⟩

theorem sameBits_key {d : TypeDesc} {k : Value} (hk : IsKey d k) : Instr.sameBits 10000 k k = true := by
  cases d <;> cases k <;> simp_all [IsKey, Instr.sameBits, bytes_beq]

theorem update_core {P : Program} {t kt et : TypeId} {w : World} {μ : Mu} {st : St} {K : Type} [DecidableEq K] {key : K → Value} {d : TypeDesc} {es : List (K × List D)} {o : Nat} {k : K} {ag : Bool} {mk : List (K × List D) → Ob}
    (hs : Sim w μ st) (ho : st[o]? = some (some (mk es)))
    (hu : P.underlying t = some (.map kt et)) (hkt : P.underlying kt = some d) (hkey : ∀ k, IsKey d (key k)) (hsame : ∀ a b : K, Instr.sameNow d (key a) (key b) = some (decide (a = b)))
    (hmk : ∀ w μ st es, ObR w μ st (μ o) (mk es) ↔ MapR key ag w μ st (μ o) es) (hst : ∀ w w' m es es', ObStep w w' m m (mk es) (mk es'))
    {v : Value} {cs : List D} (hv : EntR ag w μ st v cs) :
    ∃ blk w', μ o = some (blk, 0) ∧ (Instr.mapUpdate t (.map (some blk)) (key k) v).run P w = .ok () w' ∧ Sim w' μ (st.set o (some (mk (assocSet k cs es)))) ∧ Step w μ st w' μ (st.set o (some (mk (assocSet k cs es)))) := by
  obtain ⟨blk, ents, clock, em, hh, hsz, hc⟩ := ((hmk w μ st es).1 (hs.obj o _ ho)).loc
  have hck := fun e => run_checkKey (P := P) (w := w) hkt (hkey k) e 9999
  have hlt : blk < w.heap.size := (Array.getElem?_eq_some_iff.1 hh).1
  have main : ∀ ents' clock', ents'.size = (assocSet k cs es).length → (∀ i (hi : i < (assocSet k cs es).length), ∃ e, ents'[i]? = some e ∧ e.key = key ((assocSet k cs es)[i]).1 ∧ EntR ag w μ st e.val ((assocSet k cs es)[i]).2) →
      Sim { w with heap := w.heap.setIfInBounds blk (.map ents' clock') } μ (st.set o (some (mk (assocSet k cs es)))) ∧ Step w μ st { w with heap := w.heap.setIfInBounds blk (.map ents' clock') } μ (st.set o (some (mk (assocSet k cs es)))) := by
    intro ents' clock' g1 g2
    obtain ⟨hs1, hs2⟩ := heap_set (w := w) (o' := .map ents' clock') hh
    refine sim_set hs ho (fun _ _ => rfl) (fun b hb hne => hs2 b (fun e => hne 0 (e ▸ em))) (by simp) rfl rfl rfl (fun b base e => .inl ⟨base, e⟩) (hst _ _ _ _ _) (fun s => ?_)
    rw [hmk]
    exact ⟨⟨blk, ents', clock', em, hs1, g1, fun i hi => let ⟨e, h1, h2, h3⟩ := g2 i hi; ⟨e, h1, h2, h3.step s⟩⟩⟩
  rcases assoc_spec hsame k ents.toList es 0 (by simpa using hsz) (fun j hj => by
    obtain ⟨e, h1, h2, _⟩ := hc j hj
    exact ⟨e, by simpa using h1, h2⟩) with ⟨h1, h2, h3⟩ | ⟨j, cs0, e, h1, h2, h3, h4, h5⟩
  · have hf := run_findKey (P := P) (w := w) hkt h2
    obtain ⟨m1, m2⟩ := main (ents.push { key := key k, val := v, born := clock }) (clock + 1) (by rw [h3]; simp [hsz]) (fun i hi => by
      simp only [h3] at hi ⊢
      simp at hi
      by_cases hil : i < es.length
      · obtain ⟨e, a1, a2, a3⟩ := hc i hil
        have hi2 : i < ents.size := by omega
        refine ⟨e, by rw [Array.getElem?_push, if_neg (by omega)]; exact a1, ?_, ?_⟩
        · simp only [List.getElem_append_left hil]; exact a2
        · simp only [List.getElem_append_left hil]; exact a3
      · have : i = es.length := by omega
        subst this
        refine ⟨{ key := key k, val := v, born := clock }, by rw [Array.getElem?_push, if_pos (by omega)], by simp, by simpa using hv⟩)
    refine ⟨blk, _, em, ?_, m1, m2⟩
    simp [Instr.mapUpdate, run_underlying hu, MapKept.run_getObj_map hh, hck, hf, run_setObj_map _ hh]
  · have hf := run_findKey (P := P) (w := w) hkt h2
    have hj : j < es.length := by
      rcases Nat.lt_or_ge j es.length with h | h
      · exact h
      · rw [List.getElem?_eq_none h] at h4; cases h4
    have hjs : j < ents.size := by omega
    have hej : ents[j]? = some e := by simpa using h3
    have hkj : e.key = key k := by
      obtain ⟨e', a1, a2, a3⟩ := hc j hj
      rw [hej] at a1; cases a1
      have hes : es[j] = (k, cs0) := by rw [List.getElem?_eq_getElem hj] at h4; exact Option.some.inj h4
      rw [hes] at a2; exact a2
    obtain ⟨m1, m2⟩ := main (ents.modify j fun e => { e with key := key k, val := v }) clock (by rw [h5]; simp [hsz]) (fun i hi => by
      simp only [h5] at hi ⊢
      simp at hi
      obtain ⟨e0, a1, a2, a3⟩ := hc i hi
      by_cases hij : i = j
      · subst hij
        refine ⟨{ e0 with key := key k, val := v }, by rw [Array.getElem?_modify]; simp [a1], by simp, by simpa using hv⟩
      · refine ⟨e0, by rw [Array.getElem?_modify]; simp [Ne.symm hij, a1], ?_, ?_⟩
        · simp only [List.getElem_set, Ne.symm hij, if_false]; exact a2
        · simp only [List.getElem_set, Ne.symm hij, if_false]; exact a3)
    refine ⟨blk, _, em, ?_, m1, m2⟩
    have hsb := sameBits_key (hkey k)
    simp [Instr.mapUpdate, run_underlying hu, MapKept.run_getObj_map hh, hck, hf, hej, hkj, Instr.keyThatStays, hsb, run_setObj_map _ hh]

theorem mapUpdate_sound {P : Program} {t kt et : TypeId} {w : World} {μ : Mu} {st : St} {vm vk vx : Value} {m k x : D} {r : LR} (hs : Sim w μ st) (hm : VR w μ st vm m) (hk : VR w μ st vk k) (hx : VR w μ st vx x)
    (hu : (tinfo P t).k = .map kt et) (hr : r = aMapUpdate (tinfo P t) (tinfo P kt) (tinfo P et) (look st) k x m) (hok : r.ok) :
    ∃ w' o ob, (Instr.mapUpdate t vm vk vx).run P w = .ok () w' ∧ r.up = some (o, ob) ∧ Sim w' μ (st.set o (some ob)) ∧ Step w μ st w' μ (st.set o (some ob)) := by
  subst hr
  have hu' := k_map hu
  cases m with
  | mp o =>
    simp only [aMapUpdate] at *
    split at hok
    · rename_i ag es k hl
      obtain ⟨_, hks, hag, hc⟩ := hok
      have ho := look_some hl
      have := vr_str hk; subst this
      obtain ⟨blk, em, ev⟩ := (vr_mp hm).1 ag es ho
      subst ev
      obtain ⟨blk', w', em', h1, h2, h3⟩ := update_core (P := P) (k := k) (ag := ag) (key := fun k => .string (bs k)) (mk := fun es => .mps ag es) hs ho hu' (k_str hks) (fun _ => trivial) same_str (fun _ _ _ _ => Iff.rfl) (fun _ _ _ _ _ => ⟨rfl, rfl⟩) (hag ▸ ent_of hx hc)
      rw [em] at em'; cases em'
      exact ⟨w', o, _, h1, rfl, h2, h3⟩
    · rename_i ag kk es kk' k hl
      obtain ⟨_, hks, rfl, hag, hc⟩ := hok
      have ho := look_some hl
      have := vr_int hk; subst this
      obtain ⟨blk, em, ev⟩ := (vr_mp hm).2 ag _ es ho
      subst ev
      obtain ⟨blk', w', em', h1, h2, h3⟩ := update_core (P := P) (k := k) (ag := ag) (key := fun n => .int kk' n) (mk := fun es => .mpi ag kk' es) hs ho hu' (k_int hks) (fun _ => rfl) (same_int kk') (fun _ _ _ _ => Iff.rfl) (fun _ _ _ _ _ => ⟨rfl, rfl, rfl⟩) (hag ▸ ent_of hx hc)
      rw [em] at em'; cases em'
      exact ⟨w', o, _, h1, rfl, h2, h3⟩
    · exact hok.elim
  | _ => exact hok.elim

end Go.Am

/-
  AM, part 15: equality by types; small operations.
-/
namespace Go.Am
open Go

theorem plain_inv {P : Program} {t : TypeId} : (plainKind P t = 1 → ∃ k, P.underlying t = some (.int k)) ∧ (plainKind P t = 2 → P.underlying t = some .string) ∧ (plainKind P t = 3 → P.underlying t = some .bool) := by
  unfold plainKind
  cases P.underlying t with
  | none => simp
  | some d => cases d <;> simp

theorem cellEq_run {P : Program} {w : World} {μ : Mu} {st : St} {a b : D} {va vb : Value} {r : Bool} {t : TypeId} {dep : Nat} (ha : VR w μ st va a) (hb : VR w μ st vb b)
    (h : cellEq (plainKind P t) a b = some r) : (Op.equalIn (dep + 1) t va vb).run P w = .ok r w := by
  unfold cellEq at h
  split at h
  · rename_i hk
    obtain ⟨k, hu⟩ := plain_inv.1 hk
    split at h
    · rename_i hkk; subst hkk
      cases h
      have := vr_int ha; subst this
      have := vr_int hb; subst this
      rw [run_equalIn_int w dep t _ k _ _ hu, beq_dec]
    · cases h
  · rename_i hk
    cases h
    have := vr_str ha; subst this
    have := vr_str hb; subst this
    rw [run_equalIn_string w dep t _ _ (plain_inv.2.1 hk), bs_toList, bs_toList, beq_dec]
  · rename_i hk
    cases h
    have := vr_bool ha; subst this
    have := vr_bool hb; subst this
    rw [run_equalIn_bool' w dep t _ _ (plain_inv.2.2 hk), beq_dec]
  · cases h

theorem plain_desc {P : Program} {t : TypeId} (h : plainKind P t ≠ 0) : ∃ u, P.underlying t = some u ∧ descAgg (some u) = false := by
  unfold plainKind at h
  cases hu : P.underlying t with
  | none => rw [hu] at h; exact absurd rfl h
  | some d => rw [hu] at h; refine ⟨d, rfl, ?_⟩; cases d <;> first | rfl | exact absurd rfl h

theorem eqFields_run {P : Program} {w : World} {μ : Mu} {st : St} {xs ys : Array Value} {dep : Nat} : ∀ (fs : List Field) (a b : List D) (k0 : Nat) (r : Bool),
    (∀ p ∈ fs.zipIdx k0, p.1.offset = p.2 ∧ p.1.name ≠ "_") → cellsEq (fs.map fun f => plainKind P f.type) a b = some r →
    (∀ j (h : j < a.length), k0 + j < xs.size ∧ VR w μ st (xs.getD (k0 + j) undef) (a[j])) → (∀ j (h : j < b.length), k0 + j < ys.size ∧ VR w μ st (ys.getD (k0 + j) undef) (b[j])) →
    (Op.eqFields (dep + 1) xs ys fs).run P w = .ok r w
  | [], [], [], _, r, _, h, _, _ => by cases h; rfl
  | [], _ :: _, _, _, r, _, h, _, _ => by simp [cellsEq] at h
  | [], [], _ :: _, _, r, _, h, _, _ => by simp [cellsEq] at h
  | f :: fs, [], b, _, r, _, h, _, _ => by cases b <;> simp [cellsEq] at h
  | f :: fs, a :: as, [], _, r, _, h, _, _ => by simp [cellsEq] at h
  | f :: fs, a :: as, b :: bs, k0, r, hf, h, hx, hy => by
    simp only [List.map_cons, cellsEq] at h
    cases h1 : cellEq (plainKind P f.type) a b with
    | none => rw [h1] at h; cases h
    | some p =>
      cases h2 : cellsEq (fs.map fun f => plainKind P f.type) as bs with
      | none => rw [h1, h2] at h; cases h
      | some q =>
        rw [h1, h2] at h
        cases h
        obtain ⟨ho, hn⟩ := hf (f, k0) (by simp)
        simp only at ho hn
        obtain ⟨hx0, hx1⟩ := hx 0 (by simp)
        obtain ⟨hy0, hy1⟩ := hy 0 (by simp)
        simp only [Nat.add_zero, List.getElem_cons_zero] at hx0 hx1 hy0 hy1
        have hk0 : plainKind P f.type ≠ 0 := fun e => by rw [e] at h1; simp [cellEq] at h1
        obtain ⟨u, hu, hag⟩ := plain_desc hk0
        have hpx : (part f.type xs f.offset).run P w = .ok (xs.getD k0 undef) w := by
          simp [part, run_isAgg' hu, hag, ho, hx0]
        have hpy : (part f.type ys f.offset).run P w = .ok (ys.getD k0 undef) w := by
          simp [part, run_isAgg' hu, hag, ho, hy0]
        have he := cellEq_run (dep := dep) hx1 hy1 h1
        have ih := eqFields_run (P := P) (w := w) (μ := μ) (st := st) (xs := xs) (ys := ys) (dep := dep) fs as bs (k0 + 1) q (fun p hp => hf p (by simp [List.zipIdx_cons, hp])) h2 (fun j hj => by
          have := hx (j + 1) (by simpa using hj)
          simpa [Nat.add_assoc, Nat.add_comm 1 j] using this) (fun j hj => by
          have := hy (j + 1) (by simpa using hj)
          simpa [Nat.add_assoc, Nat.add_comm 1 j] using this)
        simp only [Op.eqFields, if_pos hn, Sem.run_bind, hpx, hpy, he, Result.andThen_ok, Sem.run_ite]
        cases p with
        | true => simpa using ih
        | false => simp

theorem nil_eq {P : Program} {t e : TypeId} (w : World) (dep : Nat) (hu : P.underlying t = some (.slice e)) : (Op.equalIn (dep + 1) t (.slice none 0 0) (.slice none 0 0)).run P w = .ok true w := by
  simp [Op.equalIn, run_underlying hu]

theorem eqGuard_nil (P : Program) (w : World) (op : BinOp) (t : TypeId) (x y : Operand) : (eqGuard op t x y (.slice none 0 0) (.slice none 0 0)).run P w = .ok () w := by
  unfold eqGuard; simp

theorem eq_sound {P : Program} {t : TypeId} {w : World} {μ : Mu} {st : St} {vx vy : Value} {x y : D} {neg : Bool} {ox oy : Operand} (hx : VR w μ st vx x) (hy : VR w μ st vy y)
    (hok : (aEq (tinfo P t) (flatKinds P t) neg x y).ok) :
    ∃ v, (do eqGuard (if neg then .neq else .eql) t ox oy vx vy; binOp (if neg then .neq else .eql) t vx vy : Sem Value).run P w = .ok v w ∧ VR w μ st v (aEq (tinfo P t) (flatKinds P t) neg x y).d := by
  unfold aEq at hok
  split at hok
  · rename_i a b
    have := vr_bool hx; subst this
    have := vr_bool hy; subst this
    have hu := k_bool hok
    refine ⟨.bool (if neg then !decide (a = b) else decide (a = b)), ?_, by simp only [aEq]; exact mk_bool _ _ _ _⟩
    cases neg
    · simp only [Bool.false_eq_true, if_false, Sem.run_bind, eqGuard_bool, Result.andThen_ok, binOp, Op.equal, Op.maxDepth]
      rw [run_equalIn_bool' w 9999 t _ _ hu, beq_dec]; rfl
    · simp only [if_true, Sem.run_bind, eqGuard_bool, Result.andThen_ok, binOp, Op.equal, Op.maxDepth]
      rw [run_equalIn_bool' w 9999 t _ _ hu, beq_dec]; rfl
  · rename_i a b
    split at hok
    · rename_i ks hfk
      split at hok
      · rename_i r hce
        obtain ⟨xs, rfl, hxs, hxc⟩ := vr_agg hx
        obtain ⟨ys, rfl, hys, hyc⟩ := vr_agg hy
        unfold flatKinds at hfk
        cases hu : P.underlying t with
        | none => rw [hu] at hfk; cases hfk
        | some u =>
          rw [hu] at hfk
          cases u with
          | struct fields =>
            simp only at hfk
            split at hfk
            · rename_i hc
              cases hfk
              simp only [Bool.and_eq_true, Bool.not_eq_true'] at hc
              obtain ⟨⟨c1, c2⟩, c3⟩ := hc
              have hfo : P.fieldsOf t = fields := by simp [Program.fieldsOf, hu]
              have hrun := eqFields_run (P := P) (w := w) (μ := μ) (st := st) (xs := xs) (ys := ys) (dep := 9998) fields.toList a b 0 r (fun p hp => by
                have := List.all_eq_true.1 c3 p hp
                simpa using this) hce (fun j hj => ⟨by rw [hxs]; simpa using hj, by simpa using hxc j hj⟩) (fun j hj => ⟨by rw [hys]; simpa using hj, by simpa using hyc j hj⟩)
              have hse := run_equalIn_struct (P := P) w 9999 t xs ys (by rw [hfo]; exact hu) c1
              rw [hfo] at hse
              have hd : (aEq (tinfo P t) (flatKinds P t) neg (.agg a) (.agg b)).d = .bool (if neg then !r else r) := by
                simp only [aEq]
                rw [show flatKinds P t = some (fields.toList.map fun f => plainKind P f.type) by simp only [flatKinds, hu]; rw [if_pos (by simp [c1, c2, c3])]]
                simp only [hce]
              refine ⟨.bool (if neg then !r else r), ?_, by rw [hd]; exact mk_bool _ _ _ _⟩
              cases neg
              · simp only [Bool.false_eq_true, if_false, Sem.run_bind, run_eqGuard_agg w _ t ox oy xs ys c2, Result.andThen_ok]
                rw [run_eql_struct w t xs ys, hse, hrun]; rfl
              · simp only [if_true, Sem.run_bind, run_eqGuard_agg w _ t ox oy xs ys c2, Result.andThen_ok]
                rw [run_neq_struct w t xs ys, hse, hrun]; rfl
            · cases hfk
          | _ => cases hfk
      · exact hok.elim
    · exact hok.elim
  · have := vr_nils hx; subst this
    have := vr_nils hy; subst this
    obtain ⟨el, hk⟩ := hok
    have hu := k_slice hk
    refine ⟨.bool (!neg), ?_, by simp only [aEq]; exact mk_bool _ _ _ _⟩
    cases neg
    · simp only [Bool.false_eq_true, if_false, Sem.run_bind, eqGuard_nil, Result.andThen_ok, binOp, Op.equal, Op.maxDepth]
      rw [nil_eq w 9999 hu]; rfl
    · simp only [if_true, Sem.run_bind, eqGuard_nil, Result.andThen_ok, binOp, Op.equal, Op.maxDepth]
      rw [nil_eq w 9999 hu]; rfl
  · exact hok.elim

theorem un_sound {P : Program} {w : World} {μ : Mu} {st : St} {vx : Value} {x : D} {op : UnOp} (hx : VR w μ st vx x) (hok : (aUn op x).ok) :
    ∃ v, (Op.unary op vx).run P w = .ok v w ∧ VR w μ st v (aUn op x).d := by
  unfold aUn at hok
  split at hok
  · rename_i b
    have := vr_bool hx; subst this
    exact ⟨.bool (!b), rfl, mk_bool _ _ _ _⟩
  · rename_i k n
    have := vr_int hx; subst this
    exact ⟨.int k (k.wrap (0 - n)), by simp [Op.unary, Op.intArith], arith_sound hok⟩
  · exact hok.elim

theorem convert_sound {P : Program} {s t : TypeId} {w : World} {μ : Mu} {st : St} {vx : Value} {x : D} (hx : VR w μ st vx x) (hok : (aConvert (tinfo P s) (tinfo P t) x).ok) :
    ∃ v, (convert s t vx).run P w = .ok v w ∧ VR w μ st v (aConvert (tinfo P s) (tinfo P t) x).d := by
  unfold aConvert at hok ⊢
  split at hok
  · rename_i k0 n k1 k hs ht
    have := vr_int hx; subst this
    exact ⟨.int k (k.wrap n), by simp [convert, run_underlying (k_int hs), run_underlying (k_int ht), Conv.intToInt], mk_int _ _ _ _ _⟩
  · rename_i a hs ht
    have := vr_str hx; subst this
    exact ⟨.string (bs a), by simp [convert, run_underlying (k_str hs), run_underlying (k_str ht)], mk_str _ _ _ _⟩
  · rename_i k0 n k1 hs ht
    have := vr_int hx; subst this
    have e : bs (runeStr n) = Utf8.encode n := by simp [bs, runeStr]
    exact ⟨.string (bs (runeStr n)), by rw [e]; simp [convert, run_underlying (k_int hs), run_underlying (k_str ht), Conv.intToString], mk_str _ _ _ _⟩
  · exact hok.elim

theorem extract_sound {P : Program} {w : World} {μ : Mu} {st : St} {vx : Value} {x : D} {ix : Nat} (hx : VR w μ st vx x) (hok : (aExtract ix x).ok) :
    ∃ v, (Instr.extract vx ix).run P w = .ok v w ∧ VR w μ st v (aExtract ix x).d := by
  unfold aExtract at hok ⊢
  split at hok
  · rename_i cs
    cases hx with
    | tr h => cases h
    | tup vs _ hs hc =>
      split at hok
      · rename_i g d hd
        have hj : ix < cs.length := by
          rcases Nat.lt_or_ge ix cs.length with h | h
          · exact h
          · rw [List.getElem?_eq_none h] at hd; cases hd
        have hcd : cs[ix] = .cond g d := by rw [List.getElem?_eq_getElem hj] at hd; exact Option.some.inj hd
        have hlt := hs ix hj (by rw [hcd]; exact hok)
        have hv := hc ix hj
        rw [hcd, getD_of (v := vs[ix]) (by simp [hlt])] at hv
        refine ⟨vs[ix], by simp [Instr.extract, hlt], ?_⟩
        generalize vs[ix] = u at hv
        cases hv with
        | tr h => cases h
        | cond _ _ _ h _ => exact h hok
      · rename_i d hnc hd
        have hj : ix < cs.length := by
          rcases Nat.lt_or_ge ix cs.length with h | h
          · exact h
          · rw [List.getElem?_eq_none h] at hd; cases hd
        have hcd : cs[ix] = d := by rw [List.getElem?_eq_getElem hj] at hd; exact Option.some.inj hd
        have hlt := hs ix hj (by rw [hcd]; cases d <;> first | rfl | exact (hnc _ _ rfl).elim)
        have hv := hc ix hj
        rw [hcd, getD_of (v := vs[ix]) (by simp [hlt])] at hv
        exact ⟨vs[ix], by simp [Instr.extract, hlt], hv⟩
      · exact hok.elim
  · exact hok.elim

theorem len_sound {P : Program} {t ty : TypeId} {w : World} {μ : Mu} {st : St} {vx : Value} {x : D} (hs : Sim w μ st) (hx : VR w μ st vx x) (hok : (aLen (tinfo P t) (look st) x).ok) :
    ∃ v, (Builtin.len_ #[t] ty #[vx]).run P w = .ok v w ∧ VR w μ st v (aLen (tinfo P t) (look st) x).d := by
  cases x with
  | str s =>
    have := vr_str hx; subst this
    refine ⟨.int .i64 s.length, ?_, mk_int _ _ _ _ _⟩
    simp [Builtin.len_, run_underlying (k_str hok), goInt, bs_size]
  | nils =>
    have := vr_nils hx; subst this
    obtain ⟨e, hk⟩ := hok
    exact ⟨.int .i64 0, by simp [Builtin.len_, run_underlying (k_slice hk), goInt], mk_int _ _ _ _ _⟩
  | sl full n b es =>
    obtain ⟨e, hk⟩ := hok
    cases hx with
    | tr h =>
      cases h with
      | sl _ _ _ _ a len cap cv hlen =>
        refine ⟨.int .i64 es.length, ?_, mk_int _ _ _ _ _⟩
        simp [Builtin.len_, run_underlying (k_slice hk), goInt, hlen]
  | ref full o g off len =>
    simp only [aLen] at *
    split at hok
    · rename_i g' n b es hl
      obtain ⟨⟨e, hk⟩, rfl⟩ := hok
      cases hx with
      | tr h => cases h
      | ref _ _ _ _ _ _ hvv hol hr hg h =>
        obtain ⟨a, cap, ev, _⟩ := h _ _ _ (look_some hl)
        subst ev
        refine ⟨.int .i64 len, ?_, mk_int _ _ _ _ _⟩
        simp [Builtin.len_, run_underlying (k_slice hk), goInt]
    · exact hok.elim
  | nilm =>
    obtain ⟨a, b, hk⟩ := hok
    cases hx with
    | tr h =>
      cases h
      exact ⟨.int .i64 0, by simp [Builtin.len_, run_underlying (k_map hk), goInt], mk_int _ _ _ _ _⟩
  | mp o =>
    simp only [aLen] at *
    split at hok
    · rename_i ag es hl
      obtain ⟨a, b, hk⟩ := hok
      obtain ⟨blk, em, ev⟩ := (vr_mp hx).1 _ _ (look_some hl)
      subst ev
      obtain ⟨blk', ents, clock, em', hh, hsz, _⟩ := (hs.obj o _ (look_some hl) : MapR _ ag w μ st (μ o) es).loc
      rw [em] at em'; cases em'
      refine ⟨.int .i64 es.length, ?_, mk_int _ _ _ _ _⟩
      simp [Builtin.len_, run_underlying (k_map hk), MapKept.run_getObj_map hh, goInt, hsz]
    · rename_i ag kk es hl
      obtain ⟨a, b, hk⟩ := hok
      obtain ⟨blk, em, ev⟩ := (vr_mp hx).2 _ _ _ (look_some hl)
      subst ev
      obtain ⟨blk', ents, clock, em', hh, hsz, _⟩ := (hs.obj o _ (look_some hl) : MapR _ ag w μ st (μ o) es).loc
      rw [em] at em'; cases em'
      refine ⟨.int .i64 es.length, ?_, mk_int _ _ _ _ _⟩
      simp [Builtin.len_, run_underlying (k_map hk), MapKept.run_getObj_map hh, goInt, hsz]
    · exact hok.elim
  | _ => exact hok.elim

theorem max_sound {P : Program} {ts : Array TypeId} {ty : TypeId} {w : World} {μ : Mu} {st : St} {vx vy : Value} {x y : D} (hx : VR w μ st vx x) (hy : VR w μ st vy y) (hok : (aMax x y).ok) :
    ∃ v, (Builtin.max_ ts ty #[vx, vy]).run P w = .ok v w ∧ VR w μ st v (aMax x y).d := by
  unfold aMax at hok ⊢
  split at hok
  · rename_i k a k' b
    have := vr_int hx; subst this
    have := vr_int hy; subst this
    refine ⟨.int k (max a b), ?_, mk_int _ _ _ _ _⟩
    simp [Builtin.max_, Builtin.max2]
    split <;> omega
  · exact hok.elim
theorem min_sound {P : Program} {ts : Array TypeId} {ty : TypeId} {w : World} {μ : Mu} {st : St} {vx vy : Value} {x y : D} (hx : VR w μ st vx x) (hy : VR w μ st vy y) (hok : (aMin x y).ok) :
    ∃ v, (Builtin.min_ ts ty #[vx, vy]).run P w = .ok v w ∧ VR w μ st v (aMin x y).d := by
  unfold aMin at hok ⊢
  split at hok
  · rename_i k a k' b
    have := vr_int hx; subst this
    have := vr_int hy; subst this
    refine ⟨.int k (min a b), ?_, mk_int _ _ _ _ _⟩
    simp [Builtin.min_, Builtin.min2]
    split <;> omega
  · exact hok.elim

theorem pick_sound {P : Program} {w : World} {μ : Mu} {st : St} {vc va vb : Value} {c a b : D} (hc : VR w μ st vc c) (ha : VR w μ st va a) (hb : VR w μ st vb b) (hok : (aPick c a b).ok) :
    ∃ v, (do pure (.value (if ← asBool vc then va else vb)) : Sem Next).run P w = .ok (.value v) w ∧ VR w μ st v (aPick c a b).d := by
  unfold aPick at hok ⊢
  split at hok
  · rename_i c a b
    have := vr_bool hc; subst this
    have := vr_bool ha; subst this
    have := vr_bool hb; subst this
    refine ⟨.bool (bif c then a else b), ?_, mk_bool _ _ _ _⟩
    cases c <;> simp [asBool]
  · rename_i c g a b
    have := vr_bool hc; subst this
    have := vr_bool hb; subst this
    cases ha with
    | tr h => cases h
    | cond _ _ _ h _ =>
      cases c
      · exact ⟨.bool b, by simp [asBool], mk_bool _ _ _ _⟩
      · have := vr_bool (h (hok rfl)); subst this
        exact ⟨.bool a, by simp [asBool], mk_bool _ _ _ _⟩
  · rename_i c a g b
    have := vr_bool hc; subst this
    have := vr_bool ha; subst this
    cases hb with
    | tr h => cases h
    | cond _ _ _ h _ =>
      cases c
      · have := vr_bool (h (hok rfl)); subst this
        exact ⟨.bool b, by simp [asBool], mk_bool _ _ _ _⟩
      · exact ⟨.bool a, by simp [asBool], mk_bool _ _ _ _⟩
  · exact hok.elim

end Go.Am

/-
  AM, part 16: append.
-/
namespace Go.Am
open Go

theorem run_append_new {P : Program} (w : World) (t u ty e : TypeId) (i : TypeInfo) (z : Value) (d : TypeDesc) (ht : P.underlying t = some (.slice e)) (hu : P.underlying u = some d) (hd : ∀ k, d ≠ .int k) (hi : P.info? e = some i) (hz : i.zero = some z)
    (base : Option Addr) (sLen sCap n : Nat) (x : Value) (olds xs : Array Value) (hlen : ∀ w, (Builtin.lenOf x).run P w = .ok n w)
    (hfo : (Builtin.firstCells i.size sLen (.slice base sLen sCap)).run P w.drew = .ok olds w.drew) (hf : (Builtin.firstCells i.size n x).run P w.drew = .ok xs w.drew)
    (hg : sCap < sLen + n) (h63 : sLen + n ≤ top) (hfit : (sLen + n) * i.bytes ≤ top) :
    (Builtin.append_ #[t, u] ty #[.slice base sLen sCap, x]).run P w =
      .ok (.slice (some ⟨w.heap.size, 0, none⟩) (sLen + n) (grownCap w (sLen + n) sCap e))
        (w.drew.alloc (.cells (olds ++ xs ++ Builtin.zeroCells z.cells (grownCap w (sLen + n) sCap e - (sLen + n))) e)) := by
  have hn : ¬ (sLen + n ≤ sCap) := by omega
  have t1 : top = 140737488355328 := rfl
  have h63' : ¬ (9223372036854775807 < ((sLen : Int) + (n : Int))) := by omega
  have h48' : ¬ (281474976710656 < Builtin.nextslicecap (sLen + n) sCap * i.bytes) := by
    have := growslice_fits (bytes := i.bytes) hg (by rw [← t1]; exact hfit)
    omega
  have hzb : (match d with | .int _ => true | _ => false) = false := by cases d <;> first | rfl | exact absurd rfl (hd _)
  simp [Builtin.append_, run_underlying ht, run_underlying hu, hzb, sizeOf, typeInfo, zeroValue, hi, hz, hlen, hn, h63', h48', Question.forced, hf, hfo, newRow, grownCap]

theorem run_append_place {P : Program} (w w' : World) (t u ty e : TypeId) (i : TypeInfo) (d : TypeDesc) (ht : P.underlying t = some (.slice e)) (hu : P.underlying u = some d) (hd : ∀ k, d ≠ .int k) (hi : P.info? e = some i)
    (base : Option Addr) (sLen sCap n : Nat) (x : Value) (xs : Array Value) (hlen : ∀ w, (Builtin.lenOf x).run P w = .ok n w)
    (hf : (Builtin.firstCells i.size n x).run P w = .ok xs w) (hg : sLen + n ≤ sCap)
    (hst : ∀ a, base = some a → (storeCells (a.add (sLen * i.size)) xs.toList).run P w = .ok () w') (hb : base = none → w' = w) :
    (Builtin.append_ #[t, u] ty #[.slice base sLen sCap, x]).run P w = .ok (.slice base (sLen + n) sCap) w' := by
  have hzb : (match d with | .int _ => true | _ => false) = false := by cases d <;> first | rfl | exact absurd rfl (hd _)
  cases base with
  | none =>
    have := hb rfl; subst this
    simp [Builtin.append_, run_underlying ht, run_underlying hu, hzb, sizeOf, typeInfo, hi, hlen, hg, hf]
  | some a =>
    have h := hst a rfl
    simp [Builtin.append_, run_underlying ht, run_underlying hu, hzb, sizeOf, typeInfo, hi, hlen, hg, hf, h]

/-- what is appended, cell by cell -/
structure NewsR (P : Program) (w : World) (μ : Mu) (st : St) (size : Nat) (x : Value) (news : List (List D)) : Prop where
  len : ∀ w, (Builtin.lenOf x).run P w = .ok news.length w
  cells : ∃ xs : Array Value, (∀ w2 : World, (∀ a, w2.cell? a = w.cell? a) → (Builtin.firstCells size news.length x).run P w2 = .ok xs w2) ∧ RowsR w μ st size xs news

theorem TR.oneCell {w : World} {own : Nat → Prop} {v : Value} {d : D} (h : TR w own v d) : v.oneCell' = true := by
  cases h <;> first | rfl | assumption

/-- a slice of whole rows, as firstCells reads it -/
theorem first_rows {P : Program} {w : World} {μ : Mu} {st : St} {n : Nat} {a : Option Addr} {len cap : Nat} {es : List (List D)} {cv : Nat → Nat → Value} (hn : ∀ e ∈ es, e.length = n) (hlen : len = es.length)
    (ha : es = [] ∨ ∃ blk off, a = some ⟨blk, off, none⟩ ∧ ∀ i j, i < es.length → j < n → w.cell? ⟨blk, off + (i * n + j), none⟩ = some (cv i j))
    (hv : ∀ i j (hi : i < es.length) (hj : j < (es[i]).length), VR w μ st (cv i j) ((es[i])[j]) ∧ (cv i j).oneCell' = true) :
    NewsR P w μ st n (.slice a len cap) es := by
  subst hlen
  refine ⟨fun _ => rfl, ?_⟩
  by_cases hne : es = []
  · subst hne
    refine ⟨#[], fun w2 _ => ?_, by simp, fun _ h => absurd h (by simp), fun i j hi => absurd hi (by simp)⟩
    cases a with
    | none => rfl
    | some a => simp [Builtin.firstCells, loadCells, loadCellsFrom]
  · rcases ha with ha | ⟨blk, off, rfl, hc⟩
    · exact absurd ha hne
    · by_cases hn0 : n = 0
      · subst hn0
        refine ⟨#[], fun w2 _ => by simp [Builtin.firstCells, loadCells, loadCellsFrom], by simp [RowsR], hn, fun i j hi hj => ?_⟩
        rw [hn _ (List.getElem_mem hi)] at hj; omega
      · have hdm : ∀ q, q < es.length * n → q / n < es.length ∧ q % n < n := fun q hq => ⟨(Nat.div_lt_iff_lt_mul (by omega)).2 hq, Nat.mod_lt _ (by omega)⟩
        refine ⟨((List.range (es.length * n)).map fun q => cv (q / n) (q % n)).toArray, fun w2 h2 => ?_, by simp, hn, fun i j hi hj => ?_⟩
        · simp only [Builtin.firstCells]
          refine run_loadCells (P := P) w2 ⟨blk, off, none⟩ (es.length * n) (fun q => cv (q / n) (q % n)) (fun q hq => ?_)
          rw [add_at, h2]
          obtain ⟨d1, d2⟩ := hdm q hq
          have := hc _ _ d1 d2
          rwa [Nat.div_add_mod' q n] at this
        · have hjn : j < n := by rw [← hn _ (List.getElem_mem hi)]; exact hj
          have hlt : i * n + j < es.length * n := by
            have : (i + 1) * n ≤ es.length * n := Nat.mul_le_mul_right n hi
            rw [Nat.add_mul] at this; omega
          obtain ⟨v1, v2⟩ := hv i j hi hj
          refine ⟨cv i j, ?_, v1, v2⟩
          have e1 : (i * n + j) / n = i := by rw [Nat.add_comm, Nat.add_mul_div_right _ _ (by omega)]; simp [Nat.div_eq_of_lt hjn]
          have e2 : (i * n + j) % n = j := by rw [Nat.add_comm, Nat.add_mul_mod_self_right]; exact Nat.mod_eq_of_lt hjn
          simp [hlt, e1, e2]

/-- a slice that looks into an array object, as rows -/
theorem ref_rows {P : Program} {w : World} {μ : Mu} {st : St} {full : Bool} {o g off len n b : Nat} {es : List (List D)} {v : Value} (hs : Sim w μ st) (hv : VR w μ st v (.ref full o g off len))
    (hl : look st o = some (.arr g n b es)) (hle : off + len ≤ es.length) :
    ∃ a cap, v = .slice a len cap ∧ len ≤ cap ∧ (full = true → cap = len) ∧ NewsR P w μ st n v ((es.drop off).take len) ∧
      (cap = 0 ∨ ∃ blk base c ty, μ o = some (blk, base) ∧ a = some ⟨blk, base + off * n, none⟩ ∧ w.heap[blk]? = some (.cells c ty (0, 0)) ∧ base + (off + cap) * n ≤ c.size) := by
  have ho := look_some hl
  obtain ⟨hb, hn, hloc⟩ := (hs.obj o _ ho : ArrR w μ st (μ o) n b es)
  cases hv with
  | tr h => cases h
  | ref _ _ _ _ _ _ hvv hol hr hg h =>
    obtain ⟨a, cap, ev, c1, c2, c3, c4⟩ := h _ _ _ ho
    subst ev
    refine ⟨a, cap, rfl, c1, c3, ?_, ?_⟩
    · have hlen2 : ((es.drop off).take len).length = len := by simp; omega
      by_cases hz : len = 0
      · have : (es.drop off).take len = [] := by rw [hz]; simp
        rw [this]
        exact first_rows (n := n) (cv := fun _ _ => undef) (by simp) (by simp [hz]) (.inl rfl) (fun i j hi => absurd hi (by simp))
      · rcases c4 with c4 | ⟨blk, base, em, ea, c, ty, hh, hsz⟩
        · omega
        · rcases hloc with ⟨e, _⟩ | ⟨blk', base', c', ty', em', hh', hsz', hc'⟩
          · rw [em] at e; cases e
          · rw [em] at em'; cases em'
            rw [hh] at hh'; cases hh'
            have hex : ∀ i j, ∃ v, ∀ (hi : i < es.length) (hj : j < (es[i]).length), c[base + (i * n + j)]? = some v ∧ VR w μ st v ((es[i])[j]) ∧ v.oneCell' = true := fun i j => by
              by_cases h : ∃ hi : i < es.length, j < (es[i]).length
              · obtain ⟨hi, hj⟩ := h
                obtain ⟨v, h⟩ := hc' i j hi hj
                exact ⟨v, fun _ _ => h⟩
              · exact ⟨undef, fun hi hj => absurd ⟨hi, hj⟩ h⟩
            obtain ⟨cv, hcv⟩ := Classical.axiomOfChoice (fun i => Classical.axiomOfChoice (hex i))
            refine first_rows (n := n) (cv := fun i j => cv (off + i) j) (fun e he => hn e (List.mem_of_mem_drop (List.mem_of_mem_take he))) hlen2.symm (.inr ⟨blk, _, ea, fun i j hi hj => ?_⟩) (fun i j hi hj => ?_)
            · rw [hlen2] at hi
              have hil : off + i < es.length := by omega
              have := (hcv (off + i) j hil (by rw [hn _ (List.getElem_mem hil)]; exact hj)).1
              simp only [World.cell?, hh]
              rw [show base + off * n + (i * n + j) = base + ((off + i) * n + j) by rw [Nat.add_mul]; omega]
              simpa using this
            · rw [hlen2] at hi
              have hil : off + i < es.length := by omega
              simp only [List.getElem_take, List.getElem_drop] at hj ⊢
              exact (hcv (off + i) j hil hj).2
    · rcases c4 with c4 | ⟨blk, base, em, ea, c, ty, hh, hsz⟩
      · exact .inl c4
      · exact .inr ⟨blk, base, c, ty, em, ea, hh, hsz⟩

theorem news_sound {P : Program} {w : World} {μ : Mu} {st : St} {x : D} {vx : Value} {e : TI} {news : List (List D)} (hs : Sim w μ st) (hx : VR w μ st vx x) (hn : newsOf (look st) e x = some news) (h1 : ∀ s, x = .str s → e.size = 1) : NewsR P w μ st e.size vx news := by
  cases x with
  | sl full n b es =>
    simp only [newsOf] at hn
    split at hn
    · rename_i he
      cases hn
      cases hx with
      | tr h =>
        cases h with
        | sl _ _ _ _ a len cap cv hlen hcap hfull hb hb1 hnn ha hc =>
          rw [← he]
          refine first_rows (cv := cv) hnn hlen ?_ (fun i j hi hj => ⟨.tr (hc i j hi hj), (hc i j hi hj).oneCell⟩)
          rcases ha with ha | ⟨blk, off, ea, _, _, hcell⟩
          · exact .inl ha
          · exact .inr ⟨blk, off, ea, hcell⟩
    · cases hn
  | nils =>
    cases hn
    have := vr_nils hx; subst this
    exact first_rows (cv := fun _ _ => undef) (by simp) rfl (.inl rfl) (fun i j hi => absurd hi (by simp))
  | ref full o g off len =>
    simp only [newsOf] at hn
    split at hn
    · rename_i g' n b es hl
      split at hn
      · rename_i hc
        obtain ⟨rfl, rfl, hle⟩ := hc
        cases hn
        obtain ⟨a, cap, ev, _, _, hnr, _⟩ := ref_rows (P := P) hs hx hl hle
        exact hnr
      · cases hn
    · cases hn
  | str s =>
    cases hn
    have := vr_str hx; subst this
    rw [h1 s rfl]
    refine ⟨fun _ => by simp [Builtin.lenOf, bs_size], ((s.map fun c => Value.int .u8 (c.toNat : Int))).toArray, fun w2 _ => ?_, by simp, by simp, fun i j hi hj => ?_⟩
    · simp only [Builtin.firstCells, bs_extract, List.length_map]
      simp [bs]
    · simp at hi
      simp at hj
      subst hj
      refine ⟨.int .u8 ((s[i]).toNat : Int), by simp [hi], by simpa using mk_int _ _ _ _ _, rfl⟩
  | _ => cases hn

theorem RowsR.append {w : World} {μ : Mu} {st : St} {n : Nat} {a b : Array Value} {x y : List (List D)} (h1 : RowsR w μ st n a x) (h2 : RowsR w μ st n b y) : RowsR w μ st n (a ++ b) (x ++ y) := by
  refine ⟨by rw [Array.size_append, h1.1, h2.1, List.length_append, Nat.add_mul], fun e he => ?_, fun i j hi hj => ?_⟩
  · rcases List.mem_append.1 he with h | h
    · exact h1.2.1 e h
    · exact h2.2.1 e h
  · by_cases hil : i < x.length
    · simp only [List.getElem_append_left hil] at hj ⊢
      obtain ⟨v, e, r⟩ := h1.2.2 i j hil hj
      have hlt : i * n + j < a.size := (Array.getElem?_eq_some_iff.1 e).1
      exact ⟨v, by rw [Array.getElem?_append_left hlt]; exact e, r⟩
    · have hir : x.length ≤ i := by omega
      simp only [List.getElem_append_right hir] at hj ⊢
      have hi2 : i - x.length < y.length := by simp at hi; omega
      obtain ⟨v, e, r⟩ := h2.2.2 (i - x.length) j hi2 hj
      have e1 : i * n + j - a.size = (i - x.length) * n + j := by
        rw [h1.1, Nat.sub_mul]
        have : x.length * n ≤ i * n := Nat.mul_le_mul_right n hir
        omega
      refine ⟨v, ?_, r⟩
      rw [Array.getElem?_append_right (by rw [h1.1]; have : x.length * n ≤ i * n := Nat.mul_le_mul_right n hir; omega), e1]
      exact e

/-- the store behind an operation: what it changed, what it made -/
def LR.app (r : LR) (q : Nat) (st : St) : St :=
  let s1 := match r.up with | some (o, ob) => st.set o (some ob) | none => st
  match r.new with | some ob => s1.set q (some ob) | none => s1

theorem cell_drew (w : World) (a : Addr) : w.drew.cell? a = w.cell? a := rfl

/-- append that makes a new array object -/
theorem append_new {P : Program} {t u ty el : TypeId} {i : TypeInfo} {z : Value} {d : TypeDesc} {w : World} {μ : Mu} {st : St} {q sLen sCap : Nat} {base : Option Addr} {vx : Value} {es news : List (List D)} (hs : Sim w μ st) (hq : st[q]? = some (some .resv))
    (ht : P.underlying t = some (.slice el)) (hu : P.underlying u = some d) (hd : ∀ k, d ≠ .int k) (hi : P.info? el = some i) (hz : i.zero = some z) (hzl : z.cells.size = i.size)
    (hb : NewsR P w μ st i.size (.slice base sLen sCap) es) (hx : NewsR P w μ st i.size vx news) (hl : sLen = es.length) (hg : sCap < sLen + news.length)
    (h63 : sLen + news.length ≤ top) (hfit : (sLen + news.length) * i.bytes ≤ top) :
    ∃ v w' μ', (Builtin.append_ #[t, u] ty #[.slice base sLen sCap, vx]).run P w = .ok v w' ∧ Sim w' μ' (st.set q (some (.arr 0 i.size i.bytes (es ++ news)))) ∧
      Step w μ st w' μ' (st.set q (some (.arr 0 i.size i.bytes (es ++ news)))) ∧ VR w' μ' (st.set q (some (.arr 0 i.size i.bytes (es ++ news)))) v (.ref false q 0 0 (sLen + news.length)) := by
  obtain ⟨olds, ho1, ho2⟩ := hb.cells
  obtain ⟨xs, hx1, hx2⟩ := hx.cells
  subst hl
  have hrun := run_append_new (P := P) w t u ty el i z d ht hu hd hi hz base es.length sCap news.length vx olds xs hx.len (ho1 w.drew (fun _ => rfl)) (hx1 w.drew (fun _ => rfl)) hg h63 hfit
  have hrows := ho2.append hx2
  have hlt : q < st.length := (List.getElem?_eq_some_iff.1 hq).1
  have hcap : es.length + news.length ≤ grownCap w (es.length + news.length) sCap el := by simp [grownCap, Question.cut]
  have hd0 : Sim w.drew μ st ∧ Step w μ st w.drew μ st := by
    have step : Step w μ st w.drew μ st := ⟨Nat.le_refl _, rfl, rfl, rfl, fun _ _ _ => rfl, fun _ h => .inl h, Nat.le_refl _, fun _ ob' _ h => ⟨ob', h, by
      cases ob' with
      | arr g n b es => exact ⟨Nat.le_refl _, fun _ => ⟨rfl, rfl, rfl, rfl, fun blk base c ty _ hh => ⟨c, hh, rfl⟩⟩⟩
      | mps => exact ⟨rfl, rfl⟩
      | mpi => exact ⟨rfl, rfl, rfl⟩
      | sit => rfl
      | resv => trivial⟩⟩
    exact ⟨⟨fun o ob h => (hs.obj o ob h).step step (fun _ _ _ => rfl), hs.inj⟩, step⟩
  have h := sim_fill (w := w.drew) (x := .cells (olds ++ xs ++ Builtin.zeroCells z.cells (grownCap w (es.length + news.length) sCap el - (es.length + news.length))) el) (ob := .arr 0 i.size i.bytes (es ++ news)) hd0.1 hq
    (fun s => arr_new (fun a b ha hb' => by
      obtain ⟨v, e, h1, h2⟩ := hrows.2.2 a b ha hb'
      have hlt2 : a * i.size + b < (olds ++ xs).size := (Array.getElem?_eq_some_iff.1 e).1
      exact ⟨v, by rw [Array.getElem?_append_left hlt2]; exact e, h1.step hd0.2, h2⟩) (by rw [Array.size_append]; have := hrows.1; omega) hrows.2.1 (by simpa using hfit) s)
  refine ⟨_, _, _, hrun, h.1, hd0.2.trans h.2, ?_⟩
  refine .ref _ false q 0 0 _ ⟨_, _, _, rfl⟩ (by simpa using hlt) (by simp [hlt]) (fun g' n b es e => Nat.zero_le _) (fun n b es' e => ?_)
  rw [List.getElem?_set_self hlt] at e
  cases e
  refine ⟨_, _, rfl, hcap, by simp, fun hf => (by cases hf), .inr ⟨w.heap.size, 0, by rw [upd_same]; rfl, by simp, _, el, heap_alloc_new _ _, ?_⟩⟩
  have hzs : ∀ m, (Builtin.zeroCells z.cells m).size = m * z.cells.size := fun m => by simp [Builtin.zeroCells]
  rw [Array.size_append, hzs, hrows.1, hzl, List.length_append, ← Nat.add_mul]
  refine Nat.le_of_eq ?_
  rw [Nat.zero_add, Nat.zero_add]
  congr 1
  omega

theorem xk_ok {P : Program} {u : TypeId} (h : (tinfo P u).k = .str ∨ ∃ t, (tinfo P u).k = .slice t) : ∃ d, P.underlying u = some d ∧ ∀ k, d ≠ .int k := by
  rcases h with h | ⟨t, h⟩
  · exact ⟨_, k_str h, fun k e => by cases e⟩
  · exact ⟨_, k_slice h, fun k e => by cases e⟩

theorem append_sound {P : Program} {t u ty el : TypeId} {w : World} {μ : Mu} {st : St} {vs vx : Value} {src x : D} {q : Nat} {r : LR} (hs : Sim w μ st) (hsrc : VR w μ st vs src) (hx : VR w μ st vx x)
    (hel : (tinfo P t).k = .slice el) (hr : r = aAppend (tinfo P t) (tinfo P el) (tinfo P u).k (look st) src x q) (hok : r.ok) (hq : st[q]? = some (some .resv)) :
    ∃ v w' μ', (Builtin.append_ #[t, u] ty #[vs, vx]).run P w = .ok v w' ∧ Sim w' μ' (r.app q st) ∧ Step w μ st w' μ' (r.app q st) ∧ VR w' μ' (r.app q st) v r.d := by
  have ht := k_slice hel
  have hlt : q < st.length := (List.getElem?_eq_some_iff.1 hq).1
  cases hn : newsOf (look st) (tinfo P el) x with
  | none => rw [hr] at hok; simp only [aAppend, hn] at hok; exact hok.elim
  | some news =>
    have fine : ∀ n, aFine (tinfo P t) (tinfo P el) (tinfo P u).k x n →
        ∃ i z d, P.info? el = some i ∧ i.zero = some z ∧ z.cells.size = i.size ∧ P.underlying u = some d ∧ (∀ k, d ≠ .int k) ∧ (tinfo P el).size = i.size ∧ (tinfo P el).bytes = i.bytes ∧ i.size ≠ 0 ∧ n * i.bytes ≤ top ∧ n ≤ top ∧ NewsR P w μ st i.size vx news := by
      intro n ⟨_, h1, h2, h3, h4, h5, h6⟩
      obtain ⟨i, z, hi, hz, hc⟩ := zero_cells (w := w) (μ := μ) (st := st) h1 h2
      have hsz : (tinfo P el).size = i.size := by simp [tinfo, hi]
      have hby : (tinfo P el).bytes = i.bytes := by simp [tinfo, hi]
      have hxk : (tinfo P u).k = .str ∨ ∃ t, (tinfo P u).k = .slice t := by
        cases x <;> first | exact .inl h6.1 | exact .inr h6
      obtain ⟨d, hu, hd⟩ := xk_ok hxk
      have hnr := news_sound (P := P) hs hx hn (fun s e => by subst e; exact h6.2)
      rw [hsz] at hnr h2
      refine ⟨i, z, d, hi, hz, by rw [hc.1, h1, hsz], hu, hd, hsz, hby, h2, by rw [← hby]; exact h4, h5, hnr⟩
    -- a new object at q that stands for an empty slice
    have empty : ∀ (a : Option Addr) (d : TypeDesc) (i : TypeInfo), P.underlying u = some d → (∀ k, d ≠ .int k) → P.info? el = some i → NewsR P w μ st i.size vx [] → news = [] →
        ∃ v w' μ', (Builtin.append_ #[t, u] ty #[.slice a 0 0, vx]).run P w = .ok v w' ∧ Sim w' μ' (st.set q (some (.arr 0 i.size i.bytes []))) ∧
          Step w μ st w' μ' (st.set q (some (.arr 0 i.size i.bytes []))) ∧ VR w' μ' (st.set q (some (.arr 0 i.size i.bytes []))) v (.ref false q 0 0 0) := by
      intro a d i hu hd hi hnr _
      obtain ⟨xs, hx1, hx2⟩ := hnr.cells
      have hxs : xs = #[] := by
        have := hx2.1
        simp at this
        exact this
      have hrun := run_append_place (P := P) w w t u ty el i d ht hu hd hi a 0 0 0 vx xs hnr.len (hx1 w (fun _ => rfl)) (by simp) (fun a _ => by rw [hxs]; rfl) (fun _ => rfl)
      have h := sim_set (w := w) (w' := w) (μ' := upd μ q none) (ob' := .arr 0 i.size i.bytes []) hs hq (fun o' h => upd_other _ _ _ h) (fun _ _ _ => rfl) (Nat.le_refl _) rfl rfl rfl (fun blk base e => by rw [upd_same] at e; cases e) trivial
        (fun s => (⟨by simp, by simp, .inl ⟨upd_same _ _ _, rfl⟩⟩ : ArrR _ _ _ _ _ _ _))
      refine ⟨_, w, _, hrun, h.1, h.2, .ref _ false q 0 0 0 ⟨_, _, _, rfl⟩ (by simpa using hlt) (by simp [hlt]) (fun g' n b es e => Nat.zero_le _) (fun n b es' e => ?_)⟩
      rw [List.getElem?_set_self hlt] at e
      cases e
      exact ⟨_, _, rfl, Nat.le_refl _, by simp, fun hf => (by cases hf), .inl rfl⟩
    cases src with
    | nils =>
      have := vr_nils hsrc; subst this
      have hr' : r = aAppend (tinfo P t) (tinfo P el) (tinfo P u).k (look st) .nils x q := hr
      simp only [aAppend, hn] at hr'
      subst hr'
      obtain ⟨i, z, d, hi, hz, hzl, hu, hd, hsz, hby, h0, h4, h5, hnr⟩ := fine _ hok
      simp only [LR.app]
      rw [hsz, hby]
      by_cases hne : news = []
      · subst hne
        exact empty none d i hu hd hi hnr rfl
      · have hpos : 0 < news.length := List.length_pos_iff.2 hne
        have h := append_new (P := P) (ty := ty) (q := q) (sLen := 0) (sCap := 0) (base := none) (es := []) hs hq ht hu hd hi hz hzl (first_rows (cv := fun _ _ => undef) (by simp) rfl (.inl rfl) (fun i j hi => absurd hi (by simp))) hnr rfl (by simpa using hpos) (by simpa using h5) (by simpa using h4)
        simpa using h
    | sl full n b es =>
      cases full with
      | false => rw [hr] at hok; simp only [aAppend, hn] at hok; exact hok.elim
      | true =>
        have hr' : r = aAppend (tinfo P t) (tinfo P el) (tinfo P u).k (look st) (.sl true n b es) x q := hr
        simp only [aAppend, hn] at hr'
        subst hr'
        obtain ⟨hok, hne, hor⟩ := hok
        obtain ⟨i, z, d, hi, hz, hzl, hu, hd, hsz, hby, h0, h4, h5, hnr⟩ := fine _ hok
        simp only [LR.app]
        rw [hsz, hby]
        cases hsrc with
        | tr h =>
          cases h with
          | sl _ _ _ _ a len cap cv hlen hcap hfull hb hb1 hnn ha hc =>
            subst hlen
            have hcl : cap = es.length := hfull rfl
            subst hcl
            have hbr : NewsR P w μ st i.size (.slice a es.length es.length) es := by
              rw [← hsz, ← hne]
              refine first_rows (cv := cv) hnn rfl ?_ (fun i j hi hj => ⟨.tr (hc i j hi hj), (hc i j hi hj).oneCell⟩)
              rcases ha with ha | ⟨blk, off, ea, _, _, hcell⟩
              · exact .inl ha
              · exact .inr ⟨blk, off, ea, hcell⟩
            by_cases hne2 : news = []
            · rcases hor with h | h
              · subst h; subst hne2
                exact empty a d i hu hd hi hnr rfl
              · exact absurd hne2 h
            · have hpos : 0 < news.length := List.length_pos_iff.2 hne2
              exact append_new (P := P) (ty := ty) (q := q) hs hq ht hu hd hi hz hzl hbr hnr rfl (by omega) h5 h4
    | ref full o g off len =>
      cases hl : look st o with
      | none => rw [hr] at hok; cases full <;> (simp only [aAppend, hn, hl] at hok; exact hok.elim)
      | some ob =>
        cases ob with
        | arr g' n b es =>
          cases full with
          | true =>
            have hr' : r = aAppend (tinfo P t) (tinfo P el) (tinfo P u).k (look st) (.ref true o g off len) x q := hr
            simp only [aAppend, hn, hl] at hr'
            subst hr'
            obtain ⟨hok, rfl, hne, hle, hnn⟩ := hok
            obtain ⟨i, z, d, hi, hz, hzl, hu, hd, hsz, hby, h0, h4, h5, hnr⟩ := fine _ hok
            simp only [LR.app]
            rw [hsz, hby]
            obtain ⟨a, cap, ev, c1, c2, hbr, _⟩ := ref_rows (P := P) hs hsrc hl hle
            subst ev
            rw [hne, hsz] at hbr
            have hcl := c2 rfl
            by_cases hn0 : news = []
            · have h0l : len = 0 := hnn.elim id (fun h => absurd hn0 h)
              subst hn0; subst h0l
              have : cap = 0 := by omega
              subst this
              simpa using empty a d i hu hd hi hnr rfl
            have hpos : 0 < news.length := List.length_pos_iff.2 hn0
            exact append_new (P := P) (ty := ty) (q := q) hs hq ht hu hd hi hz hzl hbr hnr (by simp; omega) (by omega) h5 h4
          | false =>
            have hr' : r = aAppend (tinfo P t) (tinfo P el) (tinfo P u).k (look st) (.ref false o g off len) x q := hr
            simp only [aAppend, hn, hl] at hr'
            subst hr'
            obtain ⟨hok, rfl, hne, hbe, hle⟩ := hok
            obtain ⟨i, z, d, hi, hz, hzl, hu, hd, hsz, hby, h0, h4, h5, hnr⟩ := fine _ hok
            simp only [LR.app]
            have ho := look_some hl
            have hol : o < st.length := (List.getElem?_eq_some_iff.1 ho).1
            obtain ⟨a, cap, ev, c1, c2, hbr, hplace⟩ := ref_rows (P := P) hs hsrc hl hle
            subst ev
            have hnz : n = i.size := by rw [hne, hsz]
            subst hnz
            have hl2 : ((es.drop off).take len).length = len := by simp; omega
            obtain ⟨olds, ho1, ho2⟩ := hbr.cells
            obtain ⟨xs, hx1, hx2⟩ := hnr.cells
            rw [hl2] at ho1
            have hrows := ho2.append hx2
            have hbb : ((es.drop off).take len ++ news).length * b ≤ top := by rw [List.length_append, hl2, hbe, hby]; exact h4
            have hnew : ∀ e ∈ (es.drop off).take len ++ news, e.length = i.size := hrows.2.1
            by_cases hfit : len + news.length ≤ cap
            · by_cases hz0 : cap = 0
              · have hlz : len = 0 := by omega
                have hnw : news = [] := List.length_eq_zero_iff.1 (by omega)
                subst hlz; subst hnw
                have hxs : xs = #[] := by have := hx2.1; simp at this; exact this
                have hrun := run_append_place (P := P) w w t u ty el i d ht hu hd hi a 0 cap 0 vx xs hnr.len (hx1 w (fun _ => rfl)) (by omega) (fun a _ => by rw [hxs]; rfl) (fun _ => rfl)
                have h := sim_set (w := w) (w' := w) (μ' := upd μ o none) (ob' := .arr (g' + 1) i.size b ((es.drop off).take 0 ++ [])) hs ho (fun o' h => upd_other _ _ _ h) (fun _ _ _ => rfl) (Nat.le_refl _) rfl rfl rfl
                  (fun blk base e => by rw [upd_same] at e; cases e) ⟨by omega, fun e => by omega⟩ (fun s => (⟨by simp, by simp, .inl ⟨upd_same _ _ _, by simp⟩⟩ : ArrR _ _ _ _ _ _ _))
                refine ⟨_, w, _, hrun, h.1, h.2, .ref _ false o (g' + 1) 0 0 ⟨_, _, _, rfl⟩ (by simpa using hol) (by simp [hol]) (fun g2 n2 b2 es2 e => ?_) (fun n b es' e => ?_)⟩
                · rw [List.getElem?_set_self hol] at e; cases e; exact Nat.le_refl _
                · rw [List.getElem?_set_self hol] at e; cases e
                  exact ⟨_, _, rfl, by omega, by simp, fun hf => (by cases hf), .inl hz0⟩
              · rcases hplace with h0 | ⟨blk, base, c, ty', em, ea, hh, hsz2⟩
                · omega
                · subst ea
                  have hxsz : xs.size = news.length * i.size := hx2.1
                  have hcapn : (off + len + news.length) * i.size ≤ (off + cap) * i.size := Nat.mul_le_mul_right _ (by omega)
                  rw [Nat.add_mul, Nat.add_mul] at hcapn
                  have hone : ∀ v ∈ xs.toList, v.oneCell' = true := fun v hv => by
                    obtain ⟨q', hq', e⟩ := List.getElem_of_mem hv
                    have hq2 : q' < news.length * i.size := by rw [← hxsz]; simpa using hq'
                    have h1 : q' / i.size < news.length := (Nat.div_lt_iff_lt_mul (by omega)).2 hq2
                    have h2 : q' % i.size < i.size := Nat.mod_lt _ (by omega)
                    obtain ⟨u', eu, _, hu1⟩ := hx2.2.2 (q' / i.size) (q' % i.size) h1 (by rw [hx2.2.1 _ (List.getElem_mem h1)]; exact h2)
                    rw [Nat.div_add_mod' q' i.size] at eu
                    have : xs[q']? = some v := by rw [← e]; simp at hq'; simp [hq']
                    rw [this] at eu; cases eu; exact hu1
                  have hst := run_storeCells_at (P := P) blk (base + off * i.size + len * i.size) ty' xs.toList 0 c w hh (by simp; omega) hone
                  have hrun := run_append_place (P := P) w _ t u ty el i d ht hu hd hi (some ⟨blk, base + off * i.size, none⟩) len cap news.length vx xs hnr.len (hx1 w (fun _ => rfl)) hfit (fun a ea => by cases ea; rw [add_at]; exact hst) (fun e => by cases e)
                  let c' : Array Value := (c.toList.take (base + off * i.size + len * i.size + 0) ++ xs.toList ++ c.toList.drop (base + off * i.size + len * i.size + 0 + xs.toList.length)).toArray
                  have hsize' : c'.size = c.size := by simp [c']; omega
                  have hh' : (w.setRow blk c').heap[blk]? = some (.cells c' ty' (0, 0)) := setRow_heap w blk c c' ty' (0, 0) hh
                  have hget : ∀ q, c'[q]? = if base + off * i.size + len * i.size ≤ q ∧ q < base + off * i.size + len * i.size + xs.size then xs[q - (base + off * i.size + len * i.size)]? else c[q]? := fun q => by
                    have := seg_get c.toList xs.toList (base + off * i.size + len * i.size) q (by simp; omega)
                    simp only [c', List.getElem?_toArray, Nat.add_zero]
                    rw [this]; simp
                  obtain ⟨hb0, hn0, hloc⟩ := (hs.obj o _ ho : ArrR w μ st (μ o) i.size b es)
                  have h := sim_set (w := w) (w' := w.setRow blk c') (μ' := upd μ o (some (blk, base + off * i.size))) (ob' := .arr (g' + 1) i.size b ((es.drop off).take len ++ news)) hs ho (fun o' h => upd_other _ _ _ h)
                    (fun blk' hb' hne => setRow_other w _ _ _ (fun e => hne base (by rw [e]; exact em))) (by rw [setRow_size]; exact Nat.le_refl _) rfl rfl rfl
                    (fun blk' base' e => by rw [upd_same] at e; cases e; exact .inl ⟨base, em⟩) ⟨by omega, fun e => by omega⟩ (fun s => by
                      change ArrR _ _ _ _ _ _ _
                      refine ⟨hbb, hnew, .inr ⟨blk, base + off * i.size, c', ty', upd_same _ _ _, hh', by rw [hsize', List.length_append, hl2, Nat.add_mul]; omega, fun k j hk hj => ?_⟩⟩
                      rw [hget]
                      by_cases hkl : k < len
                      · have hko : k < ((es.drop off).take len).length := by rw [hl2]; exact hkl
                        simp only [List.getElem_append_left hko, List.getElem_take, List.getElem_drop] at hj ⊢
                        have hjn : j < i.size := by have := hn0 _ (List.getElem_mem (show off + k < es.length by omega)); omega
                        have hklt : k * i.size + i.size ≤ len * i.size := by
                          have : (k + 1) * i.size ≤ len * i.size := Nat.mul_le_mul_right _ hkl
                          rw [Nat.add_mul] at this; omega
                        rw [if_neg (by omega)]
                        rcases hloc with ⟨e, _⟩ | ⟨blk2, base2, c2, ty2, em2, hh2, _, hc2⟩
                        · rw [em] at e; cases e
                        · rw [em] at em2; cases em2
                          rw [hh] at hh2; cases hh2
                          obtain ⟨u', eu, hu', hu1⟩ := hc2 (off + k) j (by omega) hj
                          refine ⟨u', ?_, hu'.step s, hu1⟩
                          rw [← eu, Nat.add_mul]; congr 1; omega
                      · have hko : ((es.drop off).take len).length ≤ k := by rw [hl2]; omega
                        have hk2 : k - ((es.drop off).take len).length < news.length := by simp at hk; omega
                        simp only [List.getElem_append_right hko] at hj ⊢
                        obtain ⟨u', eu, hu', hu1⟩ := hx2.2.2 _ j hk2 hj
                        rw [hl2] at eu
                        have hlt2 : (k - len) * i.size + j < xs.size := (Array.getElem?_eq_some_iff.1 eu).1
                        have e1 : len * i.size + (k - len) * i.size = k * i.size := by rw [← Nat.add_mul]; congr 1; omega
                        refine ⟨u', ?_, hu'.step s, hu1⟩
                        rw [if_pos (by omega), ← eu]; congr 1; omega)
                  refine ⟨_, _, _, hrun, h.1, h.2, .ref _ false o (g' + 1) 0 _ ⟨_, _, _, rfl⟩ (by simpa using hol) (by simp [hol]) (fun g2 n2 b2 es2 e => ?_) (fun n b es' e => ?_)⟩
                  · rw [List.getElem?_set_self hol] at e; cases e; exact Nat.le_refl _
                  · rw [List.getElem?_set_self hol] at e; cases e
                    refine ⟨_, _, rfl, hfit, by rw [List.length_append, hl2]; omega, fun hf => (by cases hf), .inr ⟨blk, base + off * i.size, upd_same _ _ _, by simp, c', ty', hh', ?_⟩⟩
                    rw [hsize', Nat.zero_add]
                    rw [Nat.add_mul] at hsz2; omega
            · have hrun := run_append_new (P := P) w t u ty el i z d ht hu hd hi hz a len cap news.length vx olds xs hnr.len (ho1 w.drew (fun _ => rfl)) (hx1 w.drew (fun _ => rfl)) (by omega) h5 h4
              have hcap : len + news.length ≤ grownCap w (len + news.length) cap el := by simp [grownCap, Question.cut]
              have hcells : ∀ k j (hk : k < ((es.drop off).take len ++ news).length) (hj : j < (((es.drop off).take len ++ news)[k]).length), ∃ v,
                  (olds ++ xs ++ Builtin.zeroCells z.cells (grownCap w (len + news.length) cap el - (len + news.length)))[k * i.size + j]? = some v ∧ VR w μ st v ((((es.drop off).take len ++ news)[k])[j]) ∧ v.oneCell' = true := fun k j hk hj => by
                obtain ⟨v, e, h1, h2⟩ := hrows.2.2 k j hk hj
                have hlt2 : k * i.size + j < (olds ++ xs).size := (Array.getElem?_eq_some_iff.1 e).1
                exact ⟨v, by rw [Array.getElem?_append_left hlt2]; exact e, h1, h2⟩
              have h := sim_set (w := w) (w' := w.drew.alloc (.cells (olds ++ xs ++ Builtin.zeroCells z.cells (grownCap w (len + news.length) cap el - (len + news.length))) el)) (μ' := upd μ o (some (w.heap.size, 0))) (ob' := .arr (g' + 1) i.size b ((es.drop off).take len ++ news)) hs ho (fun o' h => upd_other _ _ _ h)
                (fun blk' hb' hne => heap_alloc_lt (w := w.drew) hb') (by simp) rfl rfl rfl
                (fun blk' base' e => by rw [upd_same] at e; cases e; exact .inr (Nat.le_refl _)) ⟨by omega, fun e => by omega⟩ (fun s => by
                  change ArrR _ _ _ _ _ _ _
                  refine ⟨hbb, hnew, .inr ⟨w.heap.size, 0, _, el, upd_same _ _ _, heap_alloc_new w.drew _, ?_, fun k j hk hj => ?_⟩⟩
                  · rw [Array.size_append]; have := hrows.1; omega
                  · obtain ⟨v, e, h1, h2⟩ := hcells k j hk hj
                    exact ⟨v, by rw [Nat.zero_add]; exact e, h1.step s, h2⟩)
              refine ⟨_, _, _, hrun, h.1, h.2, .ref _ false o (g' + 1) 0 _ ⟨_, _, _, rfl⟩ (by simpa using hol) (by simp [hol]) (fun g2 n2 b2 es2 e => ?_) (fun n b es' e => ?_)⟩
              · rw [List.getElem?_set_self hol] at e; cases e; exact Nat.le_refl _
              · rw [List.getElem?_set_self hol] at e; cases e
                refine ⟨_, _, rfl, hcap, by rw [List.length_append, hl2]; omega, fun hf => (by cases hf), .inr ⟨w.heap.size, 0, upd_same _ _ _, by simp, _, el, heap_alloc_new w.drew _, ?_⟩⟩
                have hzs : ∀ m, (Builtin.zeroCells z.cells m).size = m * z.cells.size := fun m => by simp [Builtin.zeroCells]
                rw [Array.size_append, hzs, hrows.1, hzl, List.length_append, hl2, ← Nat.add_mul]
                refine Nat.le_of_eq ?_
                rw [Nat.zero_add, Nat.zero_add]
                congr 1
                omega
        | mps => rw [hr] at hok; cases full <;> (simp only [aAppend, hn, hl] at hok; exact hok.elim)
        | mpi => rw [hr] at hok; cases full <;> (simp only [aAppend, hn, hl] at hok; exact hok.elim)
        | sit => rw [hr] at hok; cases full <;> (simp only [aAppend, hn, hl] at hok; exact hok.elim)
        | resv => rw [hr] at hok; cases full <;> (simp only [aAppend, hn, hl] at hok; exact hok.elim)
    | _ => rw [hr] at hok; simp only [aAppend, hn] at hok; exact hok.elim

end Go.Am

/-
  AM, part 16b: ranging over a string.
-/
namespace Go.Am
open Go Go.MapKept

def rune (s : Bs) (p : Nat) : Int := ((Utf8.decode (bs s) p).1 : Nat)
def runeW (s : Bs) (p : Nat) : Nat := if p < s.length then (Utf8.decode (bs s) p).2 else 0

def aRange (i : TI) (q : Nat) (x : D) : LR :=
  match i.k, x with
  | .str, .str s => { d := .it q, ok := True, new := some (.sit s 0) }
  | _, _ => .bad

def aNext (lk : Look) (s : Bool) (x : D) : LR :=
  match s, x with
  | true, .it o => match lk o with
    | some (.sit s p) => { d := .tup [.bool (decide (p < s.length)), .cond (decide (p < s.length)) (.int .i64 (p : Nat)), .cond (decide (p < s.length)) (.int .i32 (rune s p))],
                           ok := True, rd := [o], up := some (o, .sit s (p + runeW s p)) }
    | _ => .bad
  | _, _ => .bad

theorem range_sound {P : Program} {t : TypeId} {w : World} {μ : Mu} {st : St} {vx : Value} {x : D} {q : Nat} (hs : Sim w μ st) (hx : VR w μ st vx x) (hok : (aRange (tinfo P t) q x).ok) (hq : st[q]? = some (some .resv)) :
    ∃ v w' μ' ob, (Instr.range t vx).run P w = .ok v w' ∧ (aRange (tinfo P t) q x).new = some ob ∧ Sim w' μ' (st.set q (some ob)) ∧ Step w μ st w' μ' (st.set q (some ob)) ∧
      VR w' μ' (st.set q (some ob)) v (aRange (tinfo P t) q x).d := by
  have hlt : q < st.length := (List.getElem?_eq_some_iff.1 hq).1
  unfold aRange at hok ⊢
  split at hok
  · rename_i s hk
    have := vr_str hx; subst this
    have hu := k_str hk
    have h := sim_fill (x := .stringIter (bs s) 0) (ob := .sit s 0) hs hq (fun _ => ⟨w.heap.size, rfl, heap_alloc_new _ _⟩)
    refine ⟨.pointer (some ⟨w.heap.size, 0, none⟩), _, _, _, ?_, rfl, h.1, h.2, ?_⟩
    · simp [Instr.range, run_underlying hu]
    · exact .it _ q ⟨_, rfl⟩ (by simpa using hlt) (by simp [hlt]) (fun s' p e => by
        refine ⟨w.heap.size, by rw [upd_same], rfl⟩)
  · exact hok.elim

theorem run_getObj_sit {P : Program} {w : World} {r p : Nat} {s : ByteArray} {ob : Obj} (hb : w.heap[r]? = some ob) (hn : ob = .stringIter s p) : (getObj r).run P w = .ok ob w := by
  subst hn
  simp [getObj, Sem.run, hb]
theorem run_setObj_sit {P : Program} {w : World} {r p : Nat} {s : ByteArray} (o : Obj) (hb : w.heap[r]? = some (.stringIter s p)) : (setObj r o).run P w = .ok () { w with heap := w.heap.setIfInBounds r o } := by
  simp [setObj, Sem.run, hb]

theorem next_sound {P : Program} {t : TypeId} {w : World} {μ : Mu} {st : St} {vx : Value} {x : D} {b : Bool} (hs : Sim w μ st) (hx : VR w μ st vx x) (hok : (aNext (look st) b x).ok) :
    ∃ v w' o ob, (Instr.next vx b t).run P w = .ok v w' ∧ (aNext (look st) b x).up = some (o, ob) ∧ Sim w' μ (st.set o (some ob)) ∧ Step w μ st w' μ (st.set o (some ob)) ∧
      VR w' μ (st.set o (some ob)) v (aNext (look st) b x).d := by
  unfold aNext at hok ⊢
  split at hok
  · rename_i o
    split at hok
    · rename_i s p hl
      have ho := look_some hl
      have hlt : o < st.length := (List.getElem?_eq_some_iff.1 ho).1
      obtain ⟨blk, em, ev⟩ : ∃ blk, μ o = some (blk, 0) ∧ vx = .pointer (some ⟨blk, 0, none⟩) := by
        cases hx with
        | tr h => cases h
        | it _ _ _ _ _ h => exact h s p ho
      subst ev
      have hh : w.heap[blk]? = some (.stringIter (bs s) p) := by
        obtain ⟨blk', e1, e2⟩ := hs.obj o _ ho
        rw [em] at e1; cases e1; exact e2
      by_cases hp : p < s.length
      · have hr : runeW s p = (Utf8.decode (bs s) p).2 := by simp [runeW, hp]
        obtain ⟨hs1, hs2⟩ := heap_set (w := w) (o' := .stringIter (bs s) (p + runeW s p)) hh
        have m := sim_set (w' := { w with heap := w.heap.setIfInBounds blk (.stringIter (bs s) (p + runeW s p)) }) (ob' := .sit s (p + runeW s p)) hs ho (fun _ _ => rfl) (fun b hb hne => hs2 b (fun e => hne 0 (e ▸ em))) (by simp) rfl rfl rfl
          (fun b base e => .inl ⟨base, e⟩) rfl (fun _ => ⟨blk, em, hs1⟩)
        refine ⟨.tuple #[.bool true, goInt p, .int .i32 (rune s p)], _, o, _, ?_, rfl, m.1, m.2, ?_⟩
        · simp [Instr.next, run_getObj_sit hh rfl, bs_size, hp, run_setObj_sit _ hh, hr, rune]
        · show VR _ _ _ _ (.tup _)
          refine .tup _ _ (fun j hj _ => by simpa using hj) (fun j hj => ?_)
          match j, hj with
          | 0, _ => simp [hp]; exact mk_bool _ _ _ _
          | 1, _ => exact .cond _ _ _ (fun _ => mk_int _ _ _ _ _) (fun e => by simp [hp] at e)
          | 2, _ => exact .cond _ _ _ (fun _ => mk_int _ _ _ _ _) (fun e => by simp [hp] at e)
      · have hr : runeW s p = 0 := by simp [runeW, hp]
        have m := sim_set (w' := w) (μ' := μ) (ob' := .sit s (p + runeW s p)) hs ho (fun _ _ => rfl) (fun b hb hne => rfl) (Nat.le_refl _) rfl rfl rfl
          (fun b base e => .inl ⟨base, e⟩) rfl (fun _ => ⟨blk, em, by rw [hr]; exact hh⟩)
        refine ⟨.tuple #[.bool false], _, o, _, ?_, rfl, m.1, m.2, ?_⟩
        · simp [Instr.next, run_getObj_sit hh rfl, bs_size, hp]
        · show VR _ _ _ _ (.tup _)
          refine .tup _ _ (fun j hj h => ?_) (fun j hj => ?_)
          · match j, hj with
            | 0, _ => simp
            | 1, _ => simp [D.live, hp] at h
            | 2, _ => simp [D.live, hp] at h
          · match j, hj with
            | 0, _ => simp [hp]; exact mk_bool _ _ _ _
            | 1, _ => exact .cond _ _ _ (fun e => by simp [hp] at e) (fun _ => rfl)
            | 2, _ => exact .cond _ _ _ (fun e => by simp [hp] at e) (fun _ => rfl)
    · exact hok.elim
  · exact hok.elim

end Go.Am

/-
  AM, part 16c: slices that are written out and never changed: values, not objects.
-/
namespace Go.Am
open Go

/-- a cell that needs no object -/
def D.plain : D → Bool
  | .any | .agg _ | .tup _ | .fn _ _ _ | .ref _ _ _ _ _ | .ptr _ _ _ _ | .mp _ | .it _ | .cond _ _ => false
  | _ => true

def aBuildImm (i : TI) (e : TI) (len : Nat) (parts : List (Nat × D)) : LR :=
  let rows := setRows (List.replicate len e.zero) (parts.map fun p => (p.1, cellsOf e p.2))
  { d := .sl false e.size e.bytes rows, ok := (∃ t, i.k = .slice t) ∧ e.zero.length = e.size ∧ e.size ≠ 0 ∧ e.zero.all D.one = true ∧ (∀ p ∈ parts, cellsOk e p.2 ∧ p.1 < len) ∧ len * e.size ≤ 2 ^ 24 ∧ len * e.bytes ≤ top ∧ 1 ≤ e.bytes ∧ (rows.all fun r => r.all D.plain) = true }

theorem plain_tr {w : World} {μ : Mu} {st : St} {v : Value} {d : D} (h : VR w μ st v d) (hi : d.plain = true) : TR w (own μ st) v d := by
  cases h <;> first | (cases hi; done) | assumption

theorem set_resv {st : St} {q : Nat} (hq : st[q]? = some (some .resv)) : st.set q (some .resv) = st := by
  apply List.ext_getElem?
  intro i
  by_cases h : q = i
  · subst h
    rw [List.getElem?_set_self (List.getElem?_eq_some_iff.1 hq).1, hq]
  · rw [List.getElem?_set_ne h]

theorem sim_alloc {w : World} {μ : Mu} {st : St} {q : Nat} (hs : Sim w μ st) (hq : st[q]? = some (some .resv)) (x : Obj) : Sim (w.alloc x) μ st ∧ Step w μ st (w.alloc x) μ st := by
  have h := sim_set (w' := w.alloc x) (μ' := μ) (ob' := .resv) hs hq (fun _ _ => rfl) (fun blk hb _ => heap_alloc_lt hb) (by simp) rfl rfl rfl (fun blk base e => .inl ⟨base, e⟩) trivial (fun _ => hs.obj q _ hq)
  rwa [set_resv hq] at h

theorem buildImm_sound {P : Program} {t el : TypeId} {w : World} {μ : Mu} {st : St} {ps : Array (Nat × Value)} {ds : List (Nat × D)} {len q : Nat} (hs : Sim w μ st) (hps : PartsR w μ st ps.toList ds)
    (hel : (tinfo P t).k = .slice el) (hok : (aBuildImm (tinfo P t) (tinfo P el) len ds).ok) (hq : st[q]? = some (some .resv)) :
    ∃ v w', (Instr.buildSlice t len ps).run P w = .ok v w' ∧ Sim w' μ st ∧ Step w μ st w' μ st ∧ VR w' μ st v (aBuildImm (tinfo P t) (tinfo P el) len ds).d := by
  obtain ⟨_, h1, h2, h3, h4, h5, h6, h7, h8⟩ := hok
  have hu := k_slice hel
  obtain ⟨inf, z, hi, hz, hc⟩ := zero_cells (w := w) (μ := μ) (st := st) h1 h2
  obtain ⟨inf', hi', hsz⟩ := info_of_size h2
  rw [hi] at hi'; cases hi'
  have hz0 := rows_zero (len := len) hc h3 (by rw [h1]; exact h2)
  rw [h1] at hz0
  obtain ⟨vs', e1, e2⟩ := fill_rows (len := len) ps.toList ds _ _ hps hz0 (by simp) h4
  have hlen : (setRows (List.replicate len (tinfo P el).zero) (ds.map fun p => (p.1, cellsOf (tinfo P el) p.2))).length = len := by rw [setRows_length]; simp
  have h := sim_alloc hs hq (.cells vs' el)
  refine ⟨.slice (some ⟨w.heap.size, 0, none⟩) len len, _, ?_, h.1, h.2, ?_⟩
  · have h5' : ¬ (2 ^ 24 < len * inf.size) := by rw [← hsz]; omega
    have hfill : Instr.fill (fun i => some (i * inf.size, inf.size)) ((Array.range (len * inf.size)).map (z.cells[· % z.cells.size]!)) ps.toList = some vs' := by
      rw [← hsz]; exact e1
    by_cases hl0 : len * inf.size = 0
    · have : len = 0 := by
        rcases Nat.mul_eq_zero.1 hl0 with h | h
        · exact h
        · rw [← hsz] at h; exact absurd h h2
      subst this
      have r0 : Array.range 0 = (#[] : Array Nat) := rfl
      simp [r0] at hfill
      simp [Instr.buildSlice, run_underlying hu, run_sizeOf' hi, newRow, r0, hfill]
    · simp only [Instr.buildSlice, run_underlying hu, Sem.run_bind, Result.andThen_ok, run_sizeOf' hi]
      simp [h5', hl0, zeroValue, typeInfo, hi, hz, newRow]
      rw [hfill]
      simp
  · refine .tr (.sl false (tinfo P el).size (tinfo P el).bytes _ _ len len (fun i j => vs'.getD (i * (tinfo P el).size + j) undef) hlen.symm (Nat.le_refl _) (fun e => by cases e) (by rw [hlen]; exact h6) h7 e2.2.1
      (.inr ⟨w.heap.size, 0, rfl, by simp, fun ho => ?_, fun i j hi hj => ?_⟩) (fun i j hi hj => ?_))
    · exact absurd (own_lt hs ho) (Nat.lt_irrefl _)
    · obtain ⟨v, hv, _, _⟩ := e2.2.2 i j hi (by rw [e2.2.1 _ (List.getElem_mem hi)]; exact hj)
      have e : (w.alloc (.cells vs' el)).heap[w.heap.size]? = some (.cells vs' el) := heap_alloc_new _ _
      simp only [World.cell?, e, Nat.zero_add, Array.getD_eq_getD_getElem?, hv, Option.getD_some]
      rfl
    · obtain ⟨v, hv, hr, _⟩ := e2.2.2 i j hi hj
      have hp := List.all_eq_true.1 h8 _ (List.getElem_mem hi)
      have := (plain_tr hr (List.all_eq_true.1 hp _ (List.getElem_mem hj))).step h.2
      simpa [Array.getD_eq_getD_getElem?, hv] using this

end Go.Am

/-
  AM, part 17: one operation of a region.
-/
namespace Go.Am
open Go

/-- under the guard 'g': a value that is there only where 'c' holds -/
def strip : D → D
  | .cond _ d => d
  | d => d
def stripOk (g : Bool) : D → Prop
  | .cond c _ => g = true → c = true
  | _ => True

theorem strip_sound {w : World} {μ : Mu} {st : St} {v : Value} {d : D} (h : VR w μ st v d) (hok : stripOk true d) : VR w μ st v (strip d) := by
  cases d with
  | cond c d =>
    cases h with
    | tr h => cases h
    | cond _ _ _ h _ => exact h (hok rfl)
  | _ => exact h

def ev1 (G : Gl) (fr : Fr) (x : Operand) : D := strip (ev G fr x)
def eok (G : Gl) (g : Bool) (fr : Fr) (x : Operand) : Prop := stripOk g (ev G fr x)
def LR.and (r : LR) (p : Prop) : LR := { r with ok := p ∧ r.ok }

def elemOf (i : TI) : Nat := match i.k with
  | .slice e => e
  | .arr _ e => e
  | .map _ e => e
  | .ptr e => e
  | _ => 0
def keyOf (i : TI) : Nat := match i.k with
  | .map k _ => k
  | _ => 0

def boolOf : D → Bool
  | .bool b => b
  | _ => false

def aPick2 (c a b : D) : LR :=
  match c, a, b with
  | .bool c, .bool a, .bool b => pureB (bif c then a else b)
  | _, _, _ => .bad

def isPlain : TK → Bool
  | .slice _ | .str | .map _ _ => true
  | _ => false

def aop (P : Program) (G : Gl) (g : Bool) (o : Op) (fr : Fr) (lk : Look) (q : Nat) : LR :=
  let E := ev1 G fr
  let K := eok G g fr
  match o with
  | .move x | .assign x => { d := E x, ok := K x }
  | .pick c a b => (aPick2 (E c) (E a) (E b)).and (K c ∧ eok G (g && boolOf (E c)) fr a ∧ eok G (g && !boolOf (E c)) fr b)
  | .alloc t => aAlloc (tinfo P t) q
  | .box t x => (aBox (tinfo P t) q (E x)).and (K x ∧ (tinfo P t).k ≠ .none)
  | .build t ps => (aBuild (tinfo P t) (tinfo P (elemOf (tinfo P t))) (ps.toList.map fun p => (p.1, E p.2))).and ((∀ p ∈ ps.toList, K p.2) ∧ (tinfo P t).k.agg = true ∧ (∀ n e, (tinfo P t).k ≠ .arr n e))
  | .buildSlice t len ps => (bif G.imm t then aBuildImm (tinfo P t) (tinfo P (elemOf (tinfo P t))) len (ps.toList.map fun p => (p.1, E p.2)) else aBuildSlice (tinfo P t) (tinfo P (elemOf (tinfo P t))) len (ps.toList.map fun p => (p.1, E p.2)) q).and (∀ p ∈ ps.toList, K p.2)
  | .load t a => (aLoad (tinfo P t) lk (E a)).and (K a ∧ (tinfo P t).k ≠ .none)
  | .store t a x => (aStore (tinfo P t) lk (E x) (E a)).and (K a ∧ K x ∧ (tinfo P t).k ≠ .none)
  | .binOp op t x y _ => match op, E x with
    | .eql, .bool _ | .eql, .agg _ | .eql, .nils => (aEq (tinfo P t) (flatKinds P t) false (E x) (E y)).and (K x ∧ K y)
    | .neq, .bool _ | .neq, .agg _ | .neq, .nils => (aEq (tinfo P t) (flatKinds P t) true (E x) (E y)).and (K x ∧ K y)
    | op, _ => (aBin op (E x) (E y)).and (K x ∧ K y)
  | .unOp op _ x => (aUn op (E x)).and (K x)
  | .convert s t x => (aConvert (tinfo P s) (tinfo P t) (E x)).and (K x)
  | .makeFunc (.func f) a b => { d := .fn f (a.toList.map E) (b.toList.map E), ok := (∀ x ∈ a.toList, K x) ∧ ∀ x ∈ b.toList, K x }
  | .makeMap t none => aMakeMap (tinfo P t) (tinfo P (keyOf (tinfo P t))) (tinfo P (elemOf (tinfo P t))).k.agg q
  | .makeSlice t l c => (aMakeSlice (tinfo P t) (tinfo P (elemOf (tinfo P t))) (E l) (E c) q).and (K l ∧ K c)
  | .slice t x lo hi mx => (aSlice (tinfo P t) (tinfo P (elemOf (tinfo P t))).size lk (E x) (lo.map E) (hi.map E) (mx.map E)).and (K x ∧ (∀ y ∈ lo, K y) ∧ (∀ y ∈ hi, K y) ∧ ∀ y ∈ mx, K y)
  | .fieldAddr t x f => (aFieldAddr (tinfo P t) f (E x)).and (K x)
  | .field t x f => (aField (tinfo P t) f (E x)).and (K x)
  | .indexAddr t x i => (aIndexAddr (tinfo P t) (tinfo P (elemOf (tinfo P t))) lk (E x) (E i)).and (K x ∧ K i)
  | .index t x i => (aIndex (tinfo P t) (tinfo P (elemOf (tinfo P t))) (E x) (E i)).and (K x ∧ K i)
  | .lookup t m k c => (aLookup (tinfo P t) (tinfo P (keyOf (tinfo P t))) (tinfo P (elemOf (tinfo P t))) lk c (E k) (E m)).and (K m ∧ K k)
  | .mapUpdate t m k x => (aMapUpdate (tinfo P t) (tinfo P (keyOf (tinfo P t))) (tinfo P (elemOf (tinfo P t))) lk (E k) (E x) (E m)).and (K m ∧ K k ∧ K x)
  | .range t x => (aRange (tinfo P t) q (E x)).and (K x)
  | .next x b => (aNext lk b (E x)).and (K x)
  | .extract x i => (aExtract i (E x)).and (K x)
  | .call { callee := .builtin b, args, argTypes } => match b, args.toList, argTypes.toList with
    | .len, [x], [t] => (aLen (tinfo P t) lk (E x)).and (K x)
    | .append, [s, x], [t, u] => (aAppend (tinfo P t) (tinfo P (elemOf (tinfo P t))) (tinfo P u).k lk (E s) (E x) q).and (K s ∧ K x)
    | .max, [x, y], _ => (aMax (E x) (E y)).and (K x ∧ K y)
    | .min, [x, y], _ => (aMin (E x) (E y)).and (K x ∧ K y)
    | _, _, _ => .bad
  | _ => .bad

def FR (w : World) (μ : Mu) (st : St) (tmps : Array Value) (fr : Fr) : Prop := ∀ t, VR w μ st (tmps.getD t undef) (fr.get t)
def Glob (G : Gl) (w : World) (μ : Mu) (st : St) : Prop := ∀ g cs, G g = some cs → TR w (own μ st) (.pointer (some ⟨g, 0, none⟩)) (.iptr cs)

theorem Fr.get_put (fr : Fr) (t t' : Nat) (d : D) : (fr.put t d).get t' = if t' = t then d else fr.get t' := by
  induction fr with
  | nil =>
    simp only [Fr.put, Fr.get]
    by_cases h : t = t'
    · simp [h]
    · simp [h, Ne.symm h]
  | cons p fr ih =>
    obtain ⟨k, e⟩ := p
    simp only [Fr.put]
    by_cases h : k = t
    · subst h
      simp only [if_true, Fr.get]
      by_cases h2 : k = t'
      · subst h2; simp
      · simp [h2, Ne.symm h2]
    · simp only [if_neg h, Fr.get, ih]
      by_cases h2 : k = t'
      · subst h2; simp [h]
      · simp [h2]

theorem Fr.get_only (keep : List Nat) (fr : Fr) (t : Nat) : (Fr.only keep fr).get t = fr.get t ∨ (Fr.only keep fr).get t = .any := by
  induction fr with
  | nil => exact .inl rfl
  | cons p fr ih =>
    obtain ⟨k, e⟩ := p
    simp only [Fr.only]
    split
    · simp only [Fr.get]
      split
      · exact .inl rfl
      · exact ih
    · rename_i hk
      simp only [Fr.get]
      split
      · rename_i h; subst h
        right
        have : ∀ fr : Fr, (Fr.only keep fr).get k = .any := fun fr => by
          induction fr with
          | nil => rfl
          | cons p fr ih =>
            obtain ⟨k', e'⟩ := p
            simp only [Fr.only]
            split
            · rename_i hk'
              simp only [Fr.get]
              rw [if_neg (fun h => hk (by rw [← h]; exact hk'))]
              exact ih
            · exact ih
        exact this fr
      · exact ih

theorem FR.put {w : World} {μ : Mu} {st : St} {tmps : Array Value} {fr : Fr} {t : Nat} {v : Value} {d : D} (h : FR w μ st tmps fr) (hv : VR w μ st v d) (ht : t < tmps.size) : FR w μ st (tmps.setIfInBounds t v) (fr.put t d) := fun t' => by
  rw [Fr.get_put]
  by_cases e : t' = t
  · subst e
    rw [if_pos rfl, getD_of (v := v) (by simp [ht])]
    exact hv
  · rw [if_neg e]
    have : (tmps.setIfInBounds t v).getD t' undef = tmps.getD t' undef := by simp [Array.getD_eq_getD_getElem?, Array.getElem?_setIfInBounds_ne (Ne.symm e)]
    rw [this]
    exact h t'

theorem FR.only {w : World} {μ : Mu} {st : St} {tmps : Array Value} {fr : Fr} (keep : List Nat) (h : FR w μ st tmps fr) : FR w μ st tmps (Fr.only keep fr) := fun t => by
  rcases Fr.get_only keep fr t with e | e
  · rw [e]; exact h t
  · rw [e]; exact .any _

theorem FR.step {w w' : World} {μ μ' : Mu} {st st' : St} {tmps : Array Value} {fr : Fr} (h : FR w μ st tmps fr) (s : Step w μ st w' μ' st') : FR w' μ' st' tmps fr := fun t => (h t).step s
theorem Glob.step {G : Gl} {w w' : World} {μ μ' : Mu} {st st' : St} (h : Glob G w μ st) (s : Step w μ st w' μ' st') : Glob G w' μ' st' := fun g cs e => (h g cs e).step s

theorem ev_sound {G : Gl} {w : World} {μ : Mu} {st : St} {a : Act} {fr : Fr} (hf : FR w μ st a.tmps fr) (hg : Glob G w μ st) (x : Operand) : VR w μ st (a.eval x) (ev G fr x) := by
  cases x with
  | tmp t => exact hf t
  | const v => exact ofVal_sound _ _ _ _
  | global g =>
    simp only [ev]
    cases h : G g with
    | none => exact .any _
    | some cs => exact .tr (hg g cs h)
  | func f => exact .fn f #[] #[] [] [] rfl rfl (fun j h => absurd h (Nat.not_lt_zero _)) (fun j h => absurd h (Nat.not_lt_zero _))

theorem ev1_sound {G : Gl} {w : World} {μ : Mu} {st : St} {a : Act} {fr : Fr} (hf : FR w μ st a.tmps fr) (hg : Glob G w μ st) {x : Operand} (hok : eok G true fr x) : VR w μ st (a.eval x) (ev1 G fr x) :=
  strip_sound (ev_sound hf hg x) hok

/-- the value that an operation leaves in its slot -/
def nextVal : Next → Option Value
  | .value v => some v
  | .skip => some undef
  | _ => none

theorem parts_of {G : Gl} {w : World} {μ : Mu} {st : St} {a : Act} {fr : Fr} (hf : FR w μ st a.tmps fr) (hg : Glob G w μ st) : ∀ (ps : List (Nat × Operand)), (∀ p ∈ ps, eok G true fr p.2) →
    PartsR w μ st (ps.map fun (i, x) => (i, a.eval x)) (ps.map fun p => (p.1, ev1 G fr p.2))
  | [], _ => trivial
  | (i, x) :: ps, h => ⟨rfl, ev1_sound hf hg (h (i, x) (by simp)), parts_of hf hg ps (fun p hp => h p (by simp [hp]))⟩

theorem opt_of {G : Gl} {w : World} {μ : Mu} {st : St} {a : Act} {fr : Fr} (hf : FR w μ st a.tmps fr) (hg : Glob G w μ st) (x : Option Operand) (h : ∀ y ∈ x, eok G true fr y) : OptR w μ st (x.map a.eval) (x.map (ev1 G fr)) := by
  cases x with
  | none => trivial
  | some x => exact ev1_sound hf hg (h x rfl)

theorem app_pure {r : LR} {q : Nat} {st : St} (h1 : r.up = none) (h2 : r.new = none) : r.app q st = st := by simp [LR.app, h1, h2]
theorem app_up {r : LR} {q o : Nat} {st : St} {ob : Ob} (h1 : r.up = some (o, ob)) (h2 : r.new = none) : r.app q st = st.set o (some ob) := by simp [LR.app, h1, h2]
theorem app_new {r : LR} {q : Nat} {st : St} {ob : Ob} (h1 : r.up = none) (h2 : r.new = some ob) : r.app q st = st.set q (some ob) := by simp [LR.app, h1, h2]

end Go.Am

/-
  AM, part 18: one operation: the model does what the evaluator says.
-/
namespace Go.Am
open Go

def LR.still (r : LR) : Prop := r.up = none ∧ r.new = none
theorem still_bad : LR.bad.still := ⟨rfl, rfl⟩
theorem still_and {r : LR} {p : Prop} (h : r.still) : (r.and p).still := h
theorem aLoad_still (i : TI) (lk : Look) (a : D) : (aLoad i lk a).still := by unfold aLoad; (repeat' split) <;> exact ⟨rfl, rfl⟩
theorem aFieldAddr_still (i : TI) (f : Nat) (a : D) : (aFieldAddr i f a).still := by unfold aFieldAddr; (repeat' split) <;> exact ⟨rfl, rfl⟩
theorem aField_still (i : TI) (f : Nat) (a : D) : (aField i f a).still := by unfold aField; (repeat' split) <;> exact ⟨rfl, rfl⟩
theorem aIndexAddr_still (i : TI) (e : TI) (lk : Look) (x y : D) : (aIndexAddr i e lk x y).still := by unfold aIndexAddr; (repeat' split) <;> exact ⟨rfl, rfl⟩
theorem aIndex_still (i e : TI) (x y : D) : (aIndex i e x y).still := by unfold aIndex; (repeat' split) <;> exact ⟨rfl, rfl⟩
theorem aSlice_still (i : TI) (e : Nat) (lk : Look) (x : D) (lo hi mx : Option D) : (aSlice i e lk x lo hi mx).still := by unfold aSlice; (repeat' split) <;> exact ⟨rfl, rfl⟩
theorem aBuild_still (i e : TI) (ps : List (Nat × D)) : (aBuild i e ps).still := by unfold aBuild; (repeat' split) <;> exact ⟨rfl, rfl⟩
theorem aLookup_still (i k e : TI) (lk : Look) (c : Bool) (x y : D) : (aLookup i k e lk c x y).still := by unfold aLookup; (repeat' split) <;> exact ⟨rfl, rfl⟩
theorem arith_still (k : IntKind) (n : Int) : (arith k n).still := ⟨rfl, rfl⟩
theorem aBin_still (op : BinOp) (x y : D) : (aBin op x y).still := by unfold aBin; (repeat' split) <;> first | exact ⟨rfl, rfl⟩ | exact arith_still _ _
theorem aEq_still (i : TI) (f : Option (List Nat)) (n : Bool) (x y : D) : (aEq i f n x y).still := by unfold aEq; (repeat' split) <;> exact ⟨rfl, rfl⟩
theorem aUn_still (op : UnOp) (x : D) : (aUn op x).still := by unfold aUn; (repeat' split) <;> first | exact ⟨rfl, rfl⟩ | exact arith_still _ _
theorem aConvert_still (s t : TI) (x : D) : (aConvert s t x).still := by unfold aConvert; (repeat' split) <;> exact ⟨rfl, rfl⟩
theorem aExtract_still (i : Nat) (x : D) : (aExtract i x).still := by unfold aExtract; (repeat' split) <;> exact ⟨rfl, rfl⟩
theorem aLen_still (i : TI) (lk : Look) (x : D) : (aLen i lk x).still := by unfold aLen; (repeat' split) <;> exact ⟨rfl, rfl⟩
theorem aMax_still (x y : D) : (aMax x y).still := by unfold aMax; (repeat' split) <;> exact ⟨rfl, rfl⟩
theorem aMin_still (x y : D) : (aMin x y).still := by unfold aMin; (repeat' split) <;> exact ⟨rfl, rfl⟩
theorem aPick2_still (x y z : D) : (aPick2 x y z).still := by unfold aPick2; (repeat' split) <;> exact ⟨rfl, rfl⟩

section
variable {P : Program} {G : Gl} {o : Oper} {a : Act} {w : World} {μ : Mu} {st : St} {fr : Fr} {q : Nat}

/-- the conclusion of an operation's soundness -/
def Does (P : Program) (s : Sem Next) (w : World) (μ : Mu) (st : St) (r : LR) (q : Nat) : Prop :=
  ∃ nx v w' μ', s.run P w = .ok nx w' ∧ (nx = .value v ∨ (nx = .skip ∧ v = undef)) ∧ Sim w' μ' (r.app q st) ∧ Step w μ st w' μ' (r.app q st) ∧ VR w' μ' (r.app q st) v r.d

theorem does_pure {s : Sem Value} {r : LR} {p : Prop} (hs : Sim w μ st) (hst : r.still) (h : ∃ v, s.run P w = .ok v w ∧ VR w μ st v r.d) : Does P (do pure (.value (← s))) w μ st (r.and p) q := by
  obtain ⟨v, h1, h2⟩ := h
  refine ⟨.value v, v, w, μ, by simp [h1], .inl rfl, ?_, ?_, ?_⟩ <;> rw [app_pure (st := st) (r := r.and p) hst.1 hst.2]
  · exact hs
  · exact Step.refl _ _ _
  · exact h2

theorem does_new {s : Sem Value} {r : LR} {p : Prop} (hu : r.up = none) (h : ∃ v w' μ' ob, s.run P w = .ok v w' ∧ r.new = some ob ∧ Sim w' μ' (st.set q (some ob)) ∧ Step w μ st w' μ' (st.set q (some ob)) ∧ VR w' μ' (st.set q (some ob)) v r.d) :
    Does P (do pure (.value (← s))) w μ st (r.and p) q := by
  obtain ⟨v, w', μ', ob, h1, h2, h3, h4, h5⟩ := h
  have e := app_new (r := r.and p) (q := q) (st := st) (ob := ob) hu h2
  exact ⟨.value v, v, w', μ', by simp [h1], .inl rfl, by rw [e]; exact h3, by rw [e]; exact h4, by rw [e]; exact h5⟩

theorem does_up {s : Sem Unit} {r : LR} {p : Prop} (hn : r.new = none) (hd : r.d = .any) (h : ∃ w' o ob, s.run P w = .ok () w' ∧ r.up = some (o, ob) ∧ Sim w' μ (st.set o (some ob)) ∧ Step w μ st w' μ (st.set o (some ob))) :
    Does P (do s; pure .skip) w μ st (r.and p) q := by
  obtain ⟨w', o, ob, h1, h2, h3, h4⟩ := h
  have e := app_up (r := r.and p) (q := q) (st := st) (ob := ob) h2 hn
  exact ⟨.skip, undef, w', μ, by simp [h1], .inr ⟨rfl, rfl⟩, by rw [e]; exact h3, by rw [e]; exact h4, by rw [e, show (r.and p).d = r.d from rfl, hd]; exact .any _⟩

theorem indexAddr_k {i : TI} {e : TI} {lk : Look} {x y : D} (h : (aIndexAddr i e lk x y).ok) : (∃ t, i.k = .slice t) ∨ ∃ n t, i.k = .arr n t := by
  unfold aIndexAddr at h
  (repeat' split at h) <;> first | exact h.elim | exact .inl ⟨_, by assumption⟩ | exact .inr ⟨_, _, by assumption⟩
theorem index_k {i e : TI} {x y : D} (h : (aIndex i e x y).ok) : i.k = .str ∨ ∃ n t, i.k = .arr n t := by
  unfold aIndex at h
  (repeat' split at h) <;> first | exact h.elim | exact .inl (by assumption) | exact .inr ⟨_, _, by assumption⟩
theorem lookup_k {i k e : TI} {lk : Look} {c : Bool} {x y : D} (h : (aLookup i k e lk c x y).ok) : ∃ a b, i.k = .map a b := by
  unfold aLookup at h
  (repeat' split at h) <;> first | exact h.elim | exact h.1
theorem mapUpdate_k {i k e : TI} {lk : Look} {x y z : D} (h : (aMapUpdate i k e lk x y z).ok) : ∃ a b, i.k = .map a b := by
  unfold aMapUpdate at h
  (repeat' split at h) <;> first | exact h.elim | exact h.1
theorem makeSlice_k {i e : TI} {l c : D} {q : Nat} (h : (aMakeSlice i e l c q).ok) : ∃ t, i.k = .slice t := by
  unfold aMakeSlice at h
  split at h
  · exact h.1
  · exact h.elim
theorem append_k {i e : TI} {xk : TK} {lk : Look} {s x : D} {q : Nat} (h : (aAppend i e xk lk s x q).ok) : ∃ t, i.k = .slice t := by
  unfold aAppend at h
  (repeat' split at h) <;> first | exact h.elim | exact h.1 | exact h.1.1

theorem aStore_new (i : TI) (lk : Look) (x a : D) : (aStore i lk x a).new = none ∧ (aStore i lk x a).d = .any := by unfold aStore; (repeat' split) <;> exact ⟨rfl, rfl⟩
theorem aMapUpdate_new (i k e : TI) (lk : Look) (x y z : D) : (aMapUpdate i k e lk x y z).new = none ∧ (aMapUpdate i k e lk x y z).d = .any := by unfold aMapUpdate; (repeat' split) <;> exact ⟨rfl, rfl⟩
theorem aMakeSlice_up (i e : TI) (l c : D) (q : Nat) : (aMakeSlice i e l c q).up = none := by unfold aMakeSlice; split <;> rfl
theorem aRange_up (i : TI) (q : Nat) (x : D) : (aRange i q x).up = none := by unfold aRange; split <;> rfl
theorem aNext_new (lk : Look) (b : Bool) (x : D) : (aNext lk b x).new = none := by unfold aNext; (repeat' split) <;> rfl
theorem aMakeMap_up (i k : TI) (ag : Bool) (q : Nat) : (aMakeMap i k ag q).up = none := by unfold aMakeMap; split <;> rfl

theorem pick2_sound {vc va vb : Value} {c a b : D} (hc : VR w μ st vc c) (ha : boolOf c = true → VR w μ st va a) (hb : boolOf c = false → VR w μ st vb b) (hok : (aPick2 c a b).ok) :
    ∃ v, (do pure (.value (if ← asBool vc then va else vb)) : Sem Next).run P w = .ok (.value v) w ∧ VR w μ st v (aPick2 c a b).d := by
  unfold aPick2 at hok ⊢
  split at hok
  · rename_i c a b
    have := vr_bool hc; subst this
    refine ⟨.bool (bif c then a else b), ?_, mk_bool _ _ _ _⟩
    cases c
    · have := vr_bool (hb rfl); subst this; simp [asBool]
    · have := vr_bool (ha rfl); subst this; simp [asBool]
  · exact hok.elim

theorem elemOf_slice {i : TI} {t : Nat} (h : i.k = .slice t) : elemOf i = t := by simp [elemOf, h]
theorem elemOf_arr {i : TI} {n t : Nat} (h : i.k = .arr n t) : elemOf i = t := by simp [elemOf, h]
theorem elemOf_map {i : TI} {n t : Nat} (h : i.k = .map n t) : elemOf i = t ∧ keyOf i = n := by simp [elemOf, keyOf, h]

theorem bin_ops {op : BinOp} {t : TypeId} {x y : Operand} {vx vy : Value} {v : Value} (h1 : (binOp op t vx vy).run P w = .ok v w) (h2 : (∃ k a k' b, vx = .int k a ∧ vy = .int k' b) ∨ ∃ a b, vx = .string a ∧ vy = .string b) :
    (do eqGuard op t x y vx vy; binOp op t vx vy : Sem Value).run P w = .ok v w := by
  rcases h2 with ⟨k, a, k', b, rfl, rfl⟩ | ⟨a, b, rfl, rfl⟩
  · simp only [Sem.run_bind, eqGuard_int, Result.andThen_ok]; exact h1
  · simp only [Sem.run_bind, eqGuard_str, Result.andThen_ok]; exact h1

theorem arr_map (f : Operand → Value) (l : Array Operand) : (l.map f).toList = l.toList.map f := by simp

/-- does the operation want a number for a new object? -/
def needs : Op → Bool
  | .alloc _ | .box _ _ | .buildSlice _ _ _ | .makeMap _ _ | .makeSlice _ _ _ | .range _ _ | .call { callee := .builtin .append, .. } => true
  | _ => false

set_option maxHeartbeats 1000000 in
theorem aop_sound (hs : Sim w μ st) (hf : FR w μ st a.tmps fr) (hg : Glob G w μ st) (hq0 : needs o.op = true → st[q]? = some (some .resv))
    (hok : (aop P G true o.op fr (look st) q).ok) : Does P (execOp a.eval o) w μ st (aop P G true o.op fr (look st) q) q := by
  have E : ∀ x, eok G true fr x → VR w μ st (a.eval x) (ev1 G fr x) := fun x h => ev1_sound hf hg h
  obtain ⟨dst, op, type, pos, after, guard⟩ := o
  cases op with
  | move x => exact ⟨.value (a.eval x), _, w, μ, rfl, .inl rfl, by rw [app_pure rfl rfl]; exact hs, by rw [app_pure rfl rfl]; exact Step.refl _ _ _, by rw [app_pure rfl rfl]; exact E x hok⟩
  | assign x => exact ⟨.value (a.eval x), _, w, μ, rfl, .inl rfl, by rw [app_pure rfl rfl]; exact hs, by rw [app_pure rfl rfl]; exact Step.refl _ _ _, by rw [app_pure rfl rfl]; exact E x hok⟩
  | pick c x y =>
    obtain ⟨⟨k1, k2, k3⟩, hok⟩ := hok
    have hx : boolOf (ev1 G fr c) = true → VR w μ st (a.eval x) (ev1 G fr x) := fun h => E x (by simpa [h] using k2)
    have hy : boolOf (ev1 G fr c) = false → VR w μ st (a.eval y) (ev1 G fr y) := fun h => E y (by simpa [h] using k3)
    obtain ⟨v, h1, h2⟩ := pick2_sound (P := P) (E c k1) hx hy hok
    have hst := aPick2_still (ev1 G fr c) (ev1 G fr x) (ev1 G fr y)
    refine ⟨.value v, v, w, μ, h1, .inl rfl, ?_, ?_, ?_⟩ <;> simp only [aop] <;> rw [app_pure (r := LR.and _ _) hst.1 hst.2]
    · exact hs
    · exact Step.refl _ _ _
    · exact h2
  | alloc t =>
    have hq := hq0 rfl
    obtain ⟨v, w', μ', ob, h1, h2, h3, h4, h5⟩ := alloc_sound (P := P) hs hok hq
    have e := app_new (r := aAlloc (tinfo P t) q) (q := q) (st := st) (ob := ob) rfl h2
    simp only [aop]
    exact ⟨.value v, v, w', μ', by simp [execOp, h1], .inl rfl, by rw [e]; exact h3, by rw [e]; exact h4, by rw [e]; exact h5⟩
  | box t x =>
    have hq := hq0 rfl
    obtain ⟨⟨k1, _⟩, hok⟩ := hok
    exact does_new rfl (box_sound (P := P) hs (E x k1) hok hq)
  | build t ps =>
    obtain ⟨⟨k1, k2, k3⟩, hok⟩ := hok
    have hk : ∃ fs, (tinfo P t).k = .struct fs := by
      cases hkk : (tinfo P t).k <;> rw [hkk] at k2 <;> simp [TK.agg] at k2
      · exact ⟨_, rfl⟩
      · exact absurd hkk (k3 _ _)
    exact does_pure hs (aBuild_still _ _ _) (build_sound (ps := ps.map fun (i, x) => (i, a.eval x)) (by simpa using parts_of hf hg ps.toList k1) (.inl hk) hok)
  | buildSlice t len ps =>
    have hq := hq0 rfl
    obtain ⟨k1, hok⟩ := hok
    cases hi : G.imm t with
    | true =>
    rw [hi] at hok
    obtain ⟨el, hel⟩ := hok.1
    simp only [cond_true] at hok
    rw [elemOf_slice hel] at hok
    obtain ⟨v, w', h1, h2, h3, h4⟩ := buildImm_sound (P := P) (t := t) (el := el) (len := len) (q := q) (ps := ps.map fun (i, x) => (i, a.eval x)) hs (by simpa using parts_of hf hg ps.toList k1) hel hok hq
    simp only [aop, hi, cond_true]
    rw [elemOf_slice hel]
    refine ⟨.value v, v, w', μ, by simp [execOp, h1], .inl rfl, ?_, ?_, ?_⟩ <;> rw [app_pure rfl rfl]
    · exact h2
    · exact h3
    · exact h4
    | false =>
    rw [hi] at hok
    simp only [cond_false] at hok
    obtain ⟨el, hel⟩ := hok.1
    rw [elemOf_slice hel] at hok
    have := buildSlice_sound (P := P) (t := t) (el := el) (len := len) (q := q) (ps := ps.map fun (i, x) => (i, a.eval x)) hs (by simpa using parts_of hf hg ps.toList k1) hel hok hq
    simp only [aop, hi, cond_false]
    rw [elemOf_slice hel]
    exact does_new rfl this
  | insert => exact hok.elim
  | load t x =>
    obtain ⟨⟨k1, k2⟩, hok⟩ := hok
    exact does_pure hs (aLoad_still _ _ _) (load_sound (P := P) hs (E x k1) hok k2)
  | store t x y =>
    obtain ⟨⟨k1, k2, k3⟩, hok⟩ := hok
    exact does_up (aStore_new _ _ _ _).1 (aStore_new _ _ _ _).2 (store_sound (P := P) hs (E x k1) (E y k2) rfl hok k3)
  | ready => exact hok.elim
  | waits => exact hok.elim
  | nilCheck => exact hok.elim
  | binOp op t x y ty =>
    have plain : ∀ (_ : eok G true fr x ∧ eok G true fr y) (_ : (aBin op (ev1 G fr x) (ev1 G fr y)).ok), Does P (execOp a.eval ⟨dst, .binOp op t x y ty, type, pos, after, guard⟩) w μ st ((aBin op (ev1 G fr x) (ev1 G fr y)).and (eok G true fr x ∧ eok G true fr y)) q := by
      intro ⟨k1, k2⟩ hok
      obtain ⟨v, h1, h2, h3⟩ := bin_sound (P := P) (t := t) (E x k1) (E y k2) hok
      exact does_pure hs (aBin_still _ _ _) ⟨v, bin_ops h1 h3, h2⟩
    have eqs : ∀ neg, (op = if neg then .neq else .eql) → ∀ (_ : eok G true fr x ∧ eok G true fr y) (_ : (aEq (tinfo P t) (flatKinds P t) neg (ev1 G fr x) (ev1 G fr y)).ok),
        Does P (execOp a.eval ⟨dst, .binOp op t x y ty, type, pos, after, guard⟩) w μ st ((aEq (tinfo P t) (flatKinds P t) neg (ev1 G fr x) (ev1 G fr y)).and (eok G true fr x ∧ eok G true fr y)) q := by
      intro neg hop ⟨k1, k2⟩ hok
      obtain ⟨v, h1, h2⟩ := eq_sound (P := P) (t := t) (ox := x) (oy := y) (E x k1) (E y k2) hok
      rw [← hop] at h1
      exact does_pure hs (aEq_still _ _ _ _ _) ⟨v, h1, h2⟩
    have key : (aop P G true (.binOp op t x y ty) fr (look st) q = (aBin op (ev1 G fr x) (ev1 G fr y)).and (eok G true fr x ∧ eok G true fr y)) ∨ ∃ neg, (op = if neg then .neq else .eql) ∧
        aop P G true (.binOp op t x y ty) fr (look st) q = (aEq (tinfo P t) (flatKinds P t) neg (ev1 G fr x) (ev1 G fr y)).and (eok G true fr x ∧ eok G true fr y) := by
      simp only [aop]
      split <;> first | exact .inl rfl | exact .inr ⟨false, rfl, rfl⟩ | exact .inr ⟨true, rfl, rfl⟩
    rcases key with key | ⟨neg, hop, key⟩
    · rw [key] at hok ⊢; exact plain hok.1 hok.2
    · rw [key] at hok ⊢; exact eqs neg hop hok.1 hok.2
  | unOp op t x =>
    obtain ⟨k1, hok⟩ := hok
    exact does_pure hs (aUn_still _ _) (un_sound (P := P) (E x k1) hok)
  | convert s t x =>
    obtain ⟨k1, hok⟩ := hok
    exact does_pure hs (aConvert_still _ _ _) (convert_sound (P := P) (E x k1) hok)
  | sliceToArrayPointer => exact hok.elim
  | makeInterface => exact hok.elim
  | makeFunc fn first cap =>
    cases fn with
    | func f =>
      obtain ⟨k1, k2⟩ := hok
      refine ⟨.value (.func (.func f) (first.map a.eval) (cap.map a.eval)), _, w, μ, rfl, .inl rfl, ?_, ?_, ?_⟩ <;> rw [app_pure rfl rfl]
      · exact hs
      · exact Step.refl _ _ _
      · refine .fn f _ _ _ _ (by simp) (by simp) (fun j hj => ?_) (fun j hj => ?_)
        · simp at hj
          rw [getD_of (v := a.eval first[j]) (by simp [hj])]
          simpa using E first[j] (k1 _ (by simp))
        · simp at hj
          rw [getD_of (v := a.eval cap[j]) (by simp [hj])]
          simpa using E cap[j] (k2 _ (by simp))
    | _ => exact hok.elim
  | makeMap t r =>
    have hq := hq0 rfl
    cases r with
    | none =>
      obtain ⟨v, w', μ', ob, h1, h2, h3, h4, h5⟩ := makeMap_sound (P := P) hs hok hq
      have e := app_new (r := aMakeMap (tinfo P t) (tinfo P (keyOf (tinfo P t))) (tinfo P (elemOf (tinfo P t))).k.agg q) (q := q) (st := st) (ob := ob) (aMakeMap_up _ _ _ _) h2
      simp only [aop]
      exact ⟨.value v, v, w', μ', by simp [execOp, h1], .inl rfl, by rw [e]; exact h3, by rw [e]; exact h4, by rw [e]; exact h5⟩
    | some _ => exact hok.elim
  | makeChan => exact hok.elim
  | makeSlice t l c =>
    have hq := hq0 rfl
    obtain ⟨⟨k1, k2⟩, hok⟩ := hok
    obtain ⟨el, hel⟩ := makeSlice_k hok
    rw [elemOf_slice hel] at hok
    simp only [aop]
    rw [elemOf_slice hel]
    exact does_new (aMakeSlice_up _ _ _ _ _) (makeSlice_sound (P := P) hs (E l k1) (E c k2) hel hok hq)
  | slice t x lo hi mx =>
    obtain ⟨⟨k1, k2, k3, k4⟩, hok⟩ := hok
    exact does_pure hs (aSlice_still _ _ _ _ _ _ _) (slice_sound (P := P) hs (E x k1) (opt_of hf hg lo k2) (opt_of hf hg hi k3) (opt_of hf hg mx k4) (fun el h => by rw [elemOf_slice h]) hok)
  | fieldAddr t x f =>
    obtain ⟨k1, hok⟩ := hok
    exact does_pure hs (aFieldAddr_still _ _ _) (fieldAddr_sound (P := P) (E x k1) hok)
  | field t x f =>
    obtain ⟨k1, hok⟩ := hok
    exact does_pure hs (aField_still _ _ _) (field_sound (P := P) (E x k1) hok)
  | indexAddr t x i =>
    obtain ⟨⟨k1, k2⟩, hok⟩ := hok
    have hel : (tinfo P t).k = .slice (elemOf (tinfo P t)) ∨ ∃ n, (tinfo P t).k = .arr n (elemOf (tinfo P t)) := by
      rcases indexAddr_k hok with ⟨e, h⟩ | ⟨n, e, h⟩
      · rw [elemOf_slice h]; exact .inl h
      · rw [elemOf_arr h]; exact .inr ⟨n, h⟩
    exact does_pure hs (aIndexAddr_still _ _ _ _ _) (indexAddr_sound (P := P) hs (E x k1) (E i k2) hel hok)
  | index t x i =>
    obtain ⟨⟨k1, k2⟩, hok⟩ := hok
    have hel : (tinfo P t).k = .str ∨ ∃ n, (tinfo P t).k = .arr n (elemOf (tinfo P t)) := by
      rcases index_k hok with h | ⟨n, e, h⟩
      · exact .inl h
      · rw [elemOf_arr h]; exact .inr ⟨n, h⟩
    exact does_pure hs (aIndex_still _ _ _ _) (index_sound (P := P) (E x k1) (E i k2) hel hok)
  | lookup t m k c =>
    obtain ⟨⟨k1, k2⟩, hok⟩ := hok
    obtain ⟨kt, et, h⟩ := lookup_k hok
    have e1 := (elemOf_map h).1
    have e2 := (elemOf_map h).2
    simp only [aop]
    rw [e1, e2] at hok ⊢
    exact does_pure hs (aLookup_still _ _ _ _ _ _ _) (lookup_sound (P := P) hs (E m k1) (E k k2) h hok)
  | mapUpdate t m k x =>
    obtain ⟨⟨k1, k2, k3⟩, hok⟩ := hok
    obtain ⟨kt, et, h⟩ := mapUpdate_k hok
    have e1 := (elemOf_map h).1
    have e2 := (elemOf_map h).2
    simp only [aop]
    rw [e1, e2] at hok ⊢
    exact does_up (aMapUpdate_new _ _ _ _ _ _ _).1 (aMapUpdate_new _ _ _ _ _ _ _).2 (mapUpdate_sound (P := P) hs (E m k1) (E k k2) (E x k3) h rfl hok)
  | mapEntry => exact hok.elim
  | entryStore => exact hok.elim
  | range t x =>
    have hq := hq0 rfl
    obtain ⟨k1, hok⟩ := hok
    exact does_new (aRange_up _ _ _) (range_sound (P := P) hs (E x k1) hok hq)
  | next x b =>
    obtain ⟨k1, hok⟩ := hok
    obtain ⟨v, w', o, ob, h1, h2, h3, h4, h5⟩ := next_sound (P := P) (t := type) hs (E x k1) hok
    have e := app_up (r := (aNext (look st) b (ev1 G fr x)).and (eok G true fr x)) (q := q) (st := st) (ob := ob) h2 (aNext_new _ _ _)
    exact ⟨.value v, v, w', μ, by simp [execOp, h1], .inl rfl, by simp only [aop]; rw [e]; exact h3, by simp only [aop]; rw [e]; exact h4, by simp only [aop]; rw [e]; exact h5⟩
  | entry => exact hok.elim
  | typeAssert => exact hok.elim
  | extract x i =>
    obtain ⟨k1, hok⟩ := hok
    exact does_pure hs (aExtract_still _ _) (extract_sound (P := P) (E x k1) hok)
  | call c =>
    obtain ⟨callee, args, argTypes⟩ := c
    cases callee with
    | builtin b =>
      simp only [aop] at hok ⊢
      split at hok
      · rename_i x t ha ht
        obtain ⟨k1, hok⟩ := hok
        obtain ⟨v, h1, h2⟩ := len_sound (P := P) (ty := type) hs (E x k1) hok
        have e1 : args = #[x] := by rw [← Array.toArray_toList (xs := args), ha]
        have e2 : argTypes = #[t] := by rw [← Array.toArray_toList (xs := argTypes), ht]
        subst e1; subst e2
        have := does_pure (q := q) (p := eok G true fr x) hs (aLen_still (tinfo P t) (look st) (ev1 G fr x)) ⟨v, h1, h2⟩
        simpa [execOp, resolve, invoke, builtin] using this
      · rename_i s x t u ha ht
        have hq := hq0 rfl
        obtain ⟨⟨k1, k2⟩, hok⟩ := hok
        obtain ⟨el, hel⟩ := append_k hok
        rw [elemOf_slice hel] at hok ⊢
        obtain ⟨v, w', μ', h1, h2, h3, h4⟩ := append_sound (P := P) (ty := type) hs (E s k1) (E x k2) hel rfl hok hq
        have e1 : args = #[s, x] := by rw [← Array.toArray_toList (xs := args), ha]
        have e2 : argTypes = #[t, u] := by rw [← Array.toArray_toList (xs := argTypes), ht]
        subst e1; subst e2
        exact ⟨.value v, v, w', μ', by simp [execOp, resolve, invoke, builtin, h1], .inl rfl, h2, h3, h4⟩
      · rename_i x y ha
        obtain ⟨⟨k1, k2⟩, hok⟩ := hok
        obtain ⟨v, h1, h2⟩ := max_sound (P := P) (ts := argTypes) (ty := type) (E x k1) (E y k2) hok
        have e1 : args = #[x, y] := by rw [← Array.toArray_toList (xs := args), ha]
        subst e1
        have := does_pure (q := q) (p := eok G true fr x ∧ eok G true fr y) hs (aMax_still (ev1 G fr x) (ev1 G fr y)) ⟨v, h1, h2⟩
        simpa [execOp, resolve, invoke, builtin] using this
      · rename_i x y ha
        obtain ⟨⟨k1, k2⟩, hok⟩ := hok
        obtain ⟨v, h1, h2⟩ := min_sound (P := P) (ts := argTypes) (ty := type) (E x k1) (E y k2) hok
        have e1 : args = #[x, y] := by rw [← Array.toArray_toList (xs := args), ha]
        subst e1
        have := does_pure (q := q) (p := eok G true fr x ∧ eok G true fr y) hs (aMin_still (ev1 G fr x) (ev1 G fr y)) ⟨v, h1, h2⟩
        simpa [execOp, resolve, invoke, builtin] using this
      · exact hok.elim
    | value f => exact hok.elim
    | invoke r m => exact hok.elim
  | go => exact hok.elim
  | defer => exact hok.elim
  | panic => exact hok.elim
  | send => exact hok.elim
  | recv => exact hok.elim
  | select => exact hok.elim

end
end Go.Am

/-
  AM, part 19: regions, calls, code.
-/
namespace Go.Am
open Go

/-! ### ids of a value: those of the store's objects -/
mutual
def D.sc (n : Nat) : D → Prop
  | .agg cs => D.scs n cs
  | .tup cs => D.scs n cs
  | .fn _ a b => D.scs n a ∧ D.scs n b
  | .ref _ o _ _ _ => o < n
  | .ptr o _ _ _ => o < n
  | .mp o => o < n
  | .it o => o < n
  | .cond g d => g = true → D.sc n d
  | _ => True
def D.scs (n : Nat) : List D → Prop
  | [] => True
  | d :: r => D.sc n d ∧ D.scs n r
end

theorem scs_get {n : Nat} : ∀ {cs : List D}, D.scs n cs → ∀ j (h : j < cs.length), D.sc n (cs[j])
  | d :: r, h, 0, _ => h.1
  | d :: r, h, j + 1, hj => scs_get (cs := r) h.2 j (by simpa using hj)
theorem scs_of {n : Nat} : ∀ {cs : List D}, (∀ j (h : j < cs.length), D.sc n (cs[j])) → D.scs n cs
  | [], _ => trivial
  | d :: r, h => ⟨h 0 (by simp), scs_of fun j hj => h (j + 1) (by simpa using hj)⟩

def Ob.sc (n : Nat) : Ob → Prop
  | .arr _ _ _ es => ∀ e ∈ es, D.scs n e
  | .mps _ es => ∀ e ∈ es, D.scs n e.2
  | .mpi _ _ es => ∀ e ∈ es, D.scs n e.2
  | _ => True
def StSc (n : Nat) (st : St) : Prop := ∀ (o : Nat) (ob : Ob), st[o]? = some (some ob) → ob.sc n

theorem TR.sc {w : World} {own : Nat → Prop} {v : Value} {d : D} (h : TR w own v d) (n : Nat) : D.sc n d := by cases h <;> trivial

/-! ### what a call does, said at the data level -/

def Spec (P : Program) (G : Gl) (f : FuncId) (args : List D) (st : St) (R : D → St → Prop) : Prop :=
  (match P.funcs[f]? with | some fn => fn.body.isSome && fn.name != "runtime.NumGoroutine" | none => false) = true ∧
  ∀ (w : World) (μ : Mu) (vs : Array Value), Sim w μ st → Glob G w μ st → vs.size = args.length → (∀ j (h : j < args.length), VR w μ st (vs.getD j undef) (args[j])) →
    Calls P f vs w fun e w' => ∃ v d st' μ', e = .returned v ∧ R d st' ∧ Sim w' μ' st' ∧ Step w μ st w' μ' st' ∧ VR w' μ' st' v d

def Pure (P : Program) (G : Gl) (f : FuncId) (args : List D) (r : D) : Prop := ∀ st, Spec P G f args st fun d st' => d = r ∧ st' = st

theorem Spec.mono {P : Program} {G : Gl} {f : FuncId} {args : List D} {st : St} {R R' : D → St → Prop} (h : Spec P G f args st R) (hr : ∀ d st', R d st' → R' d st') : Spec P G f args st R' :=
  ⟨h.1, fun w μ vs h1 h2 h3 h4 => (h.2 w μ vs h1 h2 h3 h4).mono fun _ _ ⟨v, d, st', μ', a, b, c⟩ => ⟨v, d, st', μ', a, hr _ _ b, c⟩⟩

theorem Pure.to {P : Program} {G : Gl} {f : FuncId} {args : List D} {r : D} (h : Pure P G f args r) {st : St} {R : D → St → Prop} (hr : R r st) : Spec P G f args st R :=
  (h st).mono fun _ _ ⟨a, b⟩ => by subst a; subst b; exact hr

/-- the store and the slots behind a part of the code -/
structure S where
  fr : Fr
  st : St
  ok : Prop

/-- the guard of an operation -/
def guardOf (ops : Array Oper) (fr : Fr) (o : Oper) : Bool :=
  match o.guard with
  | none => true
  | some (j, want) => match (ops[j]?).bind (·.dst) with
    | some t => match fr.get t with
      | .bool b => b == want
      | .cond c (.bool b) => c && (b == want)
      | _ => false
    | none => false
def guardOk (ops : Array Oper) (fr : Fr) (o : Oper) : Prop :=
  match o.guard with
  | none => True
  | some (j, _) => match (ops[j]?).bind (·.dst) with
    | some t => match fr.get t with
      | .bool _ => True
      | .cond _ (.bool _) => True
      | _ => False
    | none => False

def putG (o : Oper) (G : Bool) (fr : Fr) (d : D) : Fr :=
  match o.guard with
  | none => fr.putO o.dst d
  | some _ => fr.putO o.dst (.cond G d)

def LR.app2 (r : LR) (st : St) : St :=
  let s1 := match r.up with | some (o, ob) => st.set o (some ob) | none => st
  match r.new with | some ob => s1 ++ [some ob] | none => s1

def dstOk (N : Nat) (o : Oper) : Prop := match o.dst with | some t => t < N | none => True

def stepS (P : Program) (Gl : Gl) (N : Nat) (ops : Array Oper) (s : S) (o : Oper) : S :=
  let G := guardOf ops s.fr o
  let r := if needs o.op then aop P Gl G o.op s.fr (look (s.st ++ [some .resv])) s.st.length else aop P Gl G o.op s.fr (look s.st) 0
  { fr := putG o G s.fr r.d, st := bif G then r.app2 s.st else s.st, ok := s.ok ∧ dstOk N o ∧ guardOk ops s.fr o ∧ (G = true → r.ok) }

/-- a call of a Go function: the callee's value and the arguments -/
def callOf : Op → Option (Operand × List Operand)
  | .call { callee := .value f, args, .. } => some (f, args.toList)
  | _ => none

def Run (P : Program) (Gl : Gl) (N : Nat) (ops : Array Oper) : List Oper → S → (Fr → St → Prop) → Prop
  | [], s, K => s.ok ∧ K s.fr s.st
  | o :: l, s, K =>
    match callOf o.op with
    | none => Run P Gl N ops l (stepS P Gl N ops s o) K
    | some (f, xs) =>
      s.ok ∧ dstOk N o ∧ guardOk ops s.fr o ∧ eok Gl (guardOf ops s.fr o) s.fr f ∧ (∀ x ∈ xs, eok Gl (guardOf ops s.fr o) s.fr x) ∧
      match o.guard with
      | none => (match ev1 Gl s.fr f with
        | .fn g first cap => Spec P Gl g (first ++ xs.map (ev1 Gl s.fr) ++ cap) s.st fun d st' => Run P Gl N ops l ⟨s.fr.putO o.dst d, st', True⟩ K
        | _ => False)
      | some _ => (match ev1 Gl s.fr f with
        | .fn g first cap => ∃ r ups, (guardOf ops s.fr o = true → Spec P Gl g (first ++ xs.map (ev1 Gl s.fr) ++ cap) s.st fun d st' => d = r ∧ st' = puts s.st ups) ∧ (guardOf ops s.fr o = false → puts s.st ups = s.st) ∧ Run P Gl N ops l ⟨putG o (guardOf ops s.fr o) s.fr r, puts s.st ups, True⟩ K
        | _ => False)

structure Conc (Gl : Gl) (N : Nat) (w0 : World) (μ0 : Mu) (st0 : St) (fr : Fr) (st : St) (a : Act) (w : World) (μ : Mu) : Prop where
  sim : Sim w μ st
  glob : Glob Gl w μ st
  fr : FR w μ st a.tmps fr
  size : a.tmps.size = N
  defers : a.defers = []
  step : Step w0 μ0 st0 w μ st

def ConcE (Gl : Gl) (N : Nat) (w0 : World) (μ0 : Mu) (st0 : St) (fr : Fr) (st : St) (a : Act) (w : World) : Prop := ∃ μ, Conc Gl N w0 μ0 st0 fr st a w μ

section
variable {P : Program} {gl : Gl} {N : Nat} {ops : Array Oper} {w0 : World} {μ0 : Mu} {st0 : St}

theorem VR.resv {w : World} {μ : Mu} {st : St} {v : Value} {d : D} (hm : μ st.length = none) (h : VR w μ (st ++ [some .resv]) v d) : VR w μ st v d := by
  have hl : ∀ o, o < (st ++ [some Ob.resv]).length → (st ++ [some Ob.resv])[o]? ≠ some (some .resv) → o < st.length := by
    intro o h1 h2
    simp at h1
    rcases Nat.lt_or_ge o st.length with h | h
    · exact h
    · exfalso; apply h2
      have : o = st.length := by omega
      subst this; simp
  have lk : ∀ o, o < st.length → (st ++ [some Ob.resv])[o]? = st[o]? := fun o h => List.getElem?_append_left h
  have ow : ∀ blk, own μ (st ++ [some .resv]) blk ↔ own μ st blk := by
    intro blk
    constructor
    · rintro ⟨o, ob, base, h1, h2⟩
      rcases Nat.lt_or_ge o st.length with h | h
      · rw [lk o h] at h1; exact ⟨o, ob, base, h1, h2⟩
      · have : o = st.length ∨ st.length < o := by omega
        rcases this with e | e
        · subst e; rw [hm] at h2; cases h2
        · rw [List.getElem?_eq_none (by simp; omega)] at h1; cases h1
    · rintro ⟨o, ob, base, h1, h2⟩
      have h : o < st.length := (List.getElem?_eq_some_iff.1 h1).1
      exact ⟨o, ob, base, by rw [lk o h]; exact h1, h2⟩
  induction h with
  | any v => exact .any v
  | tr h => exact .tr (h.mono (fun blk _ hn => ⟨rfl, fun h => hn ((ow blk).2 h)⟩) (Nat.le_refl _))
  | agg vs cs hs hc ih => exact .agg vs cs hs ih
  | tup vs cs hs hc ih => exact .tup vs cs hs ih
  | fn f vf vc first cap hf hc hfc hcc ih1 ih2 => exact .fn f vf vc first cap hf hc ih1 ih2
  | ref v full o g off len hv ho hr hg h =>
    have hol := hl o ho hr
    rw [lk o hol] at hr
    exact .ref v full o g off len hv hol hr (fun g' n b es e => hg g' n b es (by rw [lk o hol]; exact e)) (fun n b es e => h n b es (by rw [lk o hol]; exact e))
  | ptr v o g i c hv ho hr hg h =>
    have hol := hl o ho hr
    rw [lk o hol] at hr
    exact .ptr v o g i c hv hol hr (fun g' n b es e => hg g' n b es (by rw [lk o hol]; exact e)) (fun n b es e => h n b es (by rw [lk o hol]; exact e))
  | mp v o hv ho hr h1 h2 =>
    have hol := hl o ho hr
    rw [lk o hol] at hr
    exact .mp v o hv hol hr (fun ag es e => h1 ag es (by rw [lk o hol]; exact e)) (fun ag k es e => h2 ag k es (by rw [lk o hol]; exact e))
  | it v o hv ho hr h =>
    have hol := hl o ho hr
    rw [lk o hol] at hr
    exact .it v o hv hol hr (fun s p e => h s p (by rw [lk o hol]; exact e))
  | cond v g d h h0 ih => exact .cond v g d ih h0

theorem sim_unkeep {w : World} {μ : Mu} {st : St} (hs : Sim w μ (st ++ [some .resv])) : Sim w μ st ∧ μ st.length = none := by
  have hm : μ st.length = none := hs.obj st.length .resv (by simp)
  have lk : ∀ o ob, st[o]? = some (some ob) → (st ++ [some Ob.resv])[o]? = some (some ob) := fun o ob h => by
    rw [List.getElem?_append_left (List.getElem?_eq_some_iff.1 h).1]; exact h
  refine ⟨⟨fun o ob h => ?_, fun o1 o2 ob1 ob2 blk b1 b2 h1 h2 m1 m2 => hs.inj o1 o2 ob1 ob2 blk b1 b2 (lk _ _ h1) (lk _ _ h2) m1 m2⟩, hm⟩
  have := hs.obj o ob (lk o ob h)
  cases ob with
  | arr g n b es =>
    obtain ⟨h1, h2, h3⟩ := (this : ArrR w μ (st ++ [some .resv]) (μ o) n b es)
    refine (⟨h1, h2, ?_⟩ : ArrR w μ st (μ o) n b es)
    rcases h3 with h3 | ⟨blk, base, c, ty, em, hh, hsz, hc⟩
    · exact .inl h3
    · exact .inr ⟨blk, base, c, ty, em, hh, hsz, fun i j hi hj => let ⟨v, e, hv, h1⟩ := hc i j hi hj; ⟨v, e, hv.resv hm, h1⟩⟩
  | mps ag es =>
    obtain ⟨blk, ents, clock, em, hh, hsz, hc⟩ := (this : MapR _ ag w μ _ (μ o) es).loc
    refine (⟨⟨blk, ents, clock, em, hh, hsz, fun i hi => ?_⟩⟩ : MapR _ ag w μ st (μ o) es)
    obtain ⟨e, e1, e2, e3⟩ := hc i hi
    refine ⟨e, e1, e2, ?_⟩
    cases ag with
    | true => exact VR.resv hm e3
    | false => obtain ⟨d, a, b⟩ := e3; exact ⟨d, a, b.resv hm⟩
  | mpi ag k es =>
    obtain ⟨blk, ents, clock, em, hh, hsz, hc⟩ := (this : MapR _ ag w μ _ (μ o) es).loc
    refine (⟨⟨blk, ents, clock, em, hh, hsz, fun i hi => ?_⟩⟩ : MapR _ ag w μ st (μ o) es)
    obtain ⟨e, e1, e2, e3⟩ := hc i hi
    refine ⟨e, e1, e2, ?_⟩
    cases ag with
    | true => exact VR.resv hm e3
    | false => obtain ⟨d, a, b⟩ := e3; exact ⟨d, a, b.resv hm⟩
  | sit => exact this
  | resv => exact this

theorem step_unkeep {w w' : World} {μ μ' : Mu} {st st' : St} (hm : μ' st'.length = none) (hl : st.length ≤ st'.length) (h : Step w μ st w' μ' (st' ++ [some .resv])) : Step w μ st w' μ' st' where
  size := h.size
  os := h.os
  output := h.output
  tape := h.tape
  imm := h.imm
  own := fun blk ⟨o, ob, base, h1, h2⟩ => h.own blk ⟨o, ob, base, by rw [List.getElem?_append_left (List.getElem?_eq_some_iff.1 h1).1]; exact h1, h2⟩
  len := hl
  keep := fun o ob' ho h1 => h.keep o ob' ho (by rw [List.getElem?_append_left (List.getElem?_eq_some_iff.1 h1).1]; exact h1)

theorem glob_of {G : Gl} {w : World} {μ μ' : Mu} {st st' : St} (h : Glob G w μ st) (ho : ∀ blk, own μ' st' blk → own μ st blk) : Glob G w μ' st' := fun g cs e => (h g cs e).mono (fun blk _ hn => ⟨rfl, fun x => hn (ho blk x)⟩) (Nat.le_refl _)

theorem app_eq {r : LR} {q : Nat} {st : St} (h : r.new = none) : r.app q st = r.app2 st := by
  obtain ⟨d, ok, rd, up, new⟩ := r
  simp only at h
  subst h
  rfl

theorem aop_new {g : Bool} {op : Op} {fr : Fr} {lk : Look} {q : Nat} (hn : needs op = false) : (aop P gl g op fr lk q).new = none := by
  cases op with
  | move => rfl
  | assign => rfl
  | pick => exact (aPick2_still _ _ _).2
  | alloc => cases hn
  | box => cases hn
  | build => exact (aBuild_still _ _ _).2
  | buildSlice => cases hn
  | insert => rfl
  | load => exact (aLoad_still _ _ _).2
  | store => exact (aStore_new _ _ _ _).1
  | ready => rfl
  | waits => rfl
  | nilCheck => rfl
  | binOp => simp only [aop]; split <;> first | exact (aBin_still _ _ _).2 | exact (aEq_still _ _ _ _ _).2
  | unOp => exact (aUn_still _ _).2
  | convert => exact (aConvert_still _ _ _).2
  | sliceToArrayPointer => rfl
  | makeInterface => rfl
  | makeFunc fn => cases fn <;> rfl
  | makeMap => cases hn
  | makeChan => rfl
  | makeSlice => cases hn
  | slice => exact (aSlice_still _ _ _ _ _ _ _).2
  | fieldAddr => exact (aFieldAddr_still _ _ _).2
  | field => exact (aField_still _ _ _).2
  | indexAddr => exact (aIndexAddr_still _ _ _ _ _).2
  | index => exact (aIndex_still _ _ _ _).2
  | lookup => exact (aLookup_still _ _ _ _ _ _ _).2
  | mapUpdate => exact (aMapUpdate_new _ _ _ _ _ _ _).1
  | mapEntry => rfl
  | entryStore => rfl
  | range => cases hn
  | next => exact aNext_new _ _ _
  | entry => rfl
  | typeAssert => rfl
  | extract => exact (aExtract_still _ _).2
  | call c =>
    obtain ⟨callee, args, argTypes⟩ := c
    cases callee with
    | builtin b =>
      simp only [aop]
      split
      · exact (aLen_still _ _ _).2
      · cases hn
      · exact (aMax_still _ _).2
      · exact (aMin_still _ _).2
      · rfl
    | value => rfl
    | invoke => rfl
  | go => rfl
  | defer => rfl
  | panic => rfl
  | send => rfl
  | recv => rfl
  | select => rfl

theorem append_up {i e : TI} {xk : TK} {lk : Look} {s x : D} {q o : Nat} {ob : Ob} (h : (aAppend i e xk lk s x q).up = some (o, ob)) : ∃ g n b es, lk o = some (.arr g n b es) := by
  unfold aAppend at h
  (repeat' split at h) <;> first | (cases h; done) | skip
  rename_i hl
  cases h
  exact ⟨_, _, _, _, hl⟩

theorem aop_up {g : Bool} {op : Op} {fr : Fr} {st : St} {q o : Nat} {ob : Ob} (hn : needs op = true) (h : (aop P gl g op fr (look (st ++ [some .resv])) q).up = some (o, ob)) : o < st.length := by
  cases op with
  | alloc => cases h
  | box => cases h
  | buildSlice t len ps => revert h; simp only [aop]; cases gl.imm t <;> (intro h; cases h)
  | makeMap t r =>
    cases r with
    | none => simp only [aop, aMakeMap_up] at h; cases h
    | some => cases h
  | makeSlice => simp only [aop, LR.and, aMakeSlice_up] at h; cases h
  | range => simp only [aop, LR.and, aRange_up] at h; cases h
  | call c =>
    obtain ⟨callee, args, argTypes⟩ := c
    cases callee with
    | builtin b =>
      simp only [aop] at h
      split at h
      · rw [show (LR.and _ _).up = _ from (aLen_still _ _ _).1] at h; cases h
      · obtain ⟨g, n, b, es, hl⟩ := append_up h
        have := look_some hl
        rcases Nat.lt_or_ge o st.length with h' | h'
        · exact h'
        · rw [List.getElem?_append_right h'] at this
          rcases Nat.eq_zero_or_pos (o - st.length) with e | e
          · rw [e] at this; cases this
          · rw [List.getElem?_eq_none (by simp; omega)] at this; cases this
      · rw [show (LR.and _ _).up = _ from (aMax_still _ _).1] at h; cases h
      · rw [show (LR.and _ _).up = _ from (aMin_still _ _).1] at h; cases h
      · cases h
    | value => cases h
    | invoke => cases h
  | _ => cases hn

/-- an operation that is carried out, from a picture to a picture -/
theorem conc_op {fr : Fr} {st : St} {a : Act} {w : World} {μ : Mu} {o : Oper} (h : Conc gl N w0 μ0 st0 fr st a w μ) {r : LR}
    (hr : r = if needs o.op then aop P gl true o.op fr (look (st ++ [some .resv])) st.length else aop P gl true o.op fr (look st) 0) (hok : r.ok) (hd : dstOk N o) :
    ∃ nx v w' μ', (execOp a.eval o).run P w = .ok nx w' ∧ (nx = .value v ∨ (nx = .skip ∧ v = undef)) ∧ Conc gl N w0 μ0 st0 (fr.putO o.dst r.d) (r.app2 st) (a.put o.dst v) w' μ' := by
  have fin : ∀ {w' μ' v st'}, Sim w' μ' st' → Step w μ st w' μ' st' → VR w' μ' st' v r.d → Conc gl N w0 μ0 st0 (fr.putO o.dst r.d) st' (a.put o.dst v) w' μ' := by
    intro w' μ' v st' h1 h2 h3
    refine ⟨h1, h.glob.step h2, ?_, ?_, ?_, h.step.trans h2⟩
    · cases hdst : o.dst with
      | none => exact h.fr.step h2
      | some t =>
        have ht : t < N := by simpa [dstOk, hdst] using hd
        exact (h.fr.step h2).put h3 (by rw [h.size]; exact ht)
    · cases hdst : o.dst with
      | none => exact h.size
      | some t => simp [Act.put, h.size]
    · cases hdst : o.dst with
      | none => exact h.defers
      | some t => simp [Act.put, h.defers]
  cases hn : needs o.op with
  | false =>
    rw [hn] at hr
    simp only [Bool.false_eq_true, if_false] at hr
    subst hr
    obtain ⟨nx, v, w', μ', h1, h2, h3, h4, h5⟩ := aop_sound (P := P) (G := gl) (q := 0) h.sim h.fr h.glob (fun e => by rw [hn] at e; cases e) hok
    have hnew : (aop P gl true o.op fr (look st) 0).new = none := aop_new hn
    have e : (aop P gl true o.op fr (look st) 0).app 0 st = (aop P gl true o.op fr (look st) 0).app2 st := app_eq hnew
    rw [e] at h3 h4 h5
    exact ⟨nx, v, w', μ', h1, h2, fin h3 h4 h5⟩
  | true =>
    rw [hn] at hr
    simp only [if_true] at hr
    obtain ⟨k1, k2⟩ := sim_keep h.sim
    have hf2 := h.fr.step k2
    have hg2 := h.glob.step k2
    have := aop_sound (P := P) (G := gl) (q := st.length) k1 hf2 hg2 (fun _ => by simp) (by rw [← hr]; exact hok)
    rw [← hr] at this
    obtain ⟨nx, v, w', μ', h1, h2, h3, h4, h5⟩ := this
    have hup : ∀ o' ob, r.up = some (o', ob) → o' < st.length := fun o' ob e => aop_up hn (by rw [← hr]; exact e)
    have e : (r.new = none ∧ r.app st.length (st ++ [some .resv]) = r.app2 st ++ [some .resv]) ∨ (r.app st.length (st ++ [some .resv]) = r.app2 st) := by
      cases hu : r.up with
      | none =>
        cases hnw : r.new with
        | none => left; simp [LR.app, LR.app2, hu, hnw]
        | some ob => right; simp [LR.app, LR.app2, hu, hnw]
      | some p =>
        obtain ⟨o', ob'⟩ := p
        have hlt := hup o' ob' hu
        cases hnw : r.new with
        | none => left; simp [LR.app, LR.app2, hu, hnw, List.set_append_left _ _ hlt]
        | some ob => right; simp [LR.app, LR.app2, hu, hnw, List.set_append_left _ _ hlt]
    have hlen : st.length ≤ (r.app2 st).length := by
      cases hu : r.up with
      | none => cases hnw : r.new <;> simp [LR.app2, hu, hnw]
      | some p => cases hnw : r.new <;> simp [LR.app2, hu, hnw]
    rcases e with ⟨_, e⟩ | e
    · rw [e] at h3 h4 h5
      obtain ⟨s1, s2⟩ := sim_unkeep h3
      exact ⟨nx, v, w', μ', h1, h2, fin s1 (step_unkeep s2 hlen (k2.trans h4)) (h5.resv s2)⟩
    · rw [e] at h3 h4 h5
      exact ⟨nx, v, w', μ', h1, h2, fin h3 (k2.trans h4) h5⟩

end
end Go.Am

