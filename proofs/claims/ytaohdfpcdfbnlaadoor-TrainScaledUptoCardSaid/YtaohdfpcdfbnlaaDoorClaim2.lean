/-
  trainScaled answers true at every input of bulk at most 1048576 that reads as data, and leaves its arguments as they were; the listed tables are tied to the program's text.
-/
import Derived.Test.YtaohdfpcdfbnlaaDoorShut
import Derived.Test.YtaohdfpcdfbnlaaDoorScaled
import Derived.Test.YtaohdfpcdfbnlaaDoorWalk16
set_option linter.unusedVariables false
set_option linter.unusedSimpArgs false
namespace Go.Proofs.YtaohdfpcdfbnlaaDoor
open Go Go.Am Go.ChangeShapes Go.WideShapes Go.RowKit

set_option maxRecDepth 100000 in
theorem contractS (H : Type) (enc : TypeId × Value → H) (W : World) (base : Nat) (args : Array Value) (ds gs : List (DataW H)) (before : List MemPlace)
    (hval : ∀ (j : Nat) t v, Tryd.f4.params[j]? = some t → args[j]? = some v → Value.okWide Tryd.prog W .any base t v)
    (hW : DataW.Whole enc Tryd.prog Tryd.f4.params.toList Rows.trainScaledSpec.vars false W args.toList ds gs before) (hL : laidMetH Tryd.prog Rows.trainScaledUptoRow.laid W)
    (hk : Rows.uptoSmall H (ds ++ gs) = true) :
    Calls Tryd.prog 4 args W fun e W' => ∃ v, e = .returned v ∧ Rows.trainScaledSpec.post enc Tryd.prog Tryd.f4 false true false false W args v W' := by
  have hW' := hW
  obtain ⟨p, q, hA0, hV, rfl, hfz, hnd⟩ := hW
  have hA : DataW.TrodAll enc Tryd.prog W 0 (fun _ => true) true Tryd.f4.params.toList args.toList ds p := hA0
  rw [Tryd.params4] at hA hval
  obtain ⟨v0, vs0, d0, ds0, p0, q0, hargs, rfl, rfl, h0, r0⟩ := trodAll_cons hA
  obtain ⟨v1, vs1, d1, ds1, p1, q1, rfl, rfl, rfl, h1, r1⟩ := trodAll_cons r0
  obtain ⟨v2, vs2, d2, ds2, p2, q2, rfl, rfl, rfl, h2, r2⟩ := trodAll_cons r1
  obtain ⟨rfl, rfl, rfl⟩ := trodAll_nil r2
  obtain rfl : args = #[v0, v1, v2] := by cases args; simp_all
  obtain ⟨rfl, rfl⟩ := trodVars_none hV
  have hb : Rows.uptoBulkAll [d0, d1, d2] ≤ 1048576 := of_decide_eq_true hk
  obtain ⟨c0, rfl, hc0⟩ := okWide_struct Tryd.underlying32 (hval 0 32 v0 rfl rfl)
  obtain ⟨c1, rfl, hc1⟩ := okWide_struct Tryd.underlying39 (hval 1 39 v1 rfl rfl)
  obtain ⟨m, rfl⟩ := okWide_int Tryd.underlying3 (hval 2 3 v2 rfl rfl)
  obtain ⟨n0, h0⟩ := h0
  obtain ⟨n1, h1⟩ := h1
  obtain ⟨g, rg, xg⟩ := open32 enc W n0 n0 (Nat.le_refl _) _ _ h0 (Nat.le_trans (bulk_part (List.mem_cons_self ..)) hb)
  obtain ⟨a, ra, xa⟩ := open39 enc W n1 n1 (Nat.le_refl _) _ _ h1 (Nat.le_trans (bulk_part (List.mem_cons_of_mem _ (List.mem_cons_self ..))) hb)
  obtain ⟨r, hr, N, hN⟩ := scaled_ev g a m (fun k hk => by
    have := mem_get xg k hk
    omega)
  have hm := hN N (Nat.le_refl _)
  subst hr
  have hp := ok_glosswrightlaw8TrainScaled N g a m true hm []
  have hcall := hp.2 W (fun _ => none) #[.agg c0, .agg c1, .int .i64 m] ⟨fun o ob h => by simp at h, fun o o' ob ob' blk b b' h => by simp at h⟩ (glob_of_laid hL) rfl (fun j hj => by
    have hj3 : j < 3 := hj
    match j, hj3 with
    | 0, _ =>
      show VR W (fun _ => none) [] (.agg c0) (.agg (ApiGrammar.cells g))
      refine .agg c0 _ ?_ (fun i hi => .tr ?_)
      · have := rg.1
        simpa [Value.cells] using this
      · have := rg.2 i hi
        have h5 : TR W noOwn (c0.getD i undef) ((ApiGrammar.cells g)[i]) := by
          simpa [Value.cells, Array.getD_eq_getD_getElem?, List.getD_eq_getElem?_getD] using this
        exact h5
    | 1, _ =>
      show VR W (fun _ => none) [] (.agg c1) (.agg (ApiCounts.cells a))
      refine .agg c1 _ ?_ (fun i hi => .tr ?_)
      · have := ra.1
        simpa [Value.cells] using this
      · have := ra.2 i hi
        have h5 : TR W noOwn (c1.getD i undef) ((ApiCounts.cells a)[i]) := by
          simpa [Value.cells, Array.getD_eq_getD_getElem?, List.getD_eq_getElem?_getD] using this
        exact h5
    | 2, _ => exact .tr (.int .i64 m))
  refine hcall.mono fun e W' ⟨v, d, st', μ', he, ⟨hd, hst⟩, hs, step, hv⟩ => ?_
  subst he; subst hd; subst hst
  have hheap : ∀ b, b < W.heap.size → W'.heap[b]? = W.heap[b]? := fun b hb => step.imm b hb noOwn_not
  obtain rfl : v = .bool true := vr_bool hv
  have hlt := hW'.lt
  simp only [List.append_nil] at hW' hlt
  refine ⟨_, rfl, post_same (pa := p0 ++ (p1 ++ (p2 ++ []))) (pv := []) hW' (fun _ _ _ => trodAll_cons_mk (shut_bool Tryd.underlying4 _) trodAll_mk0) (fun sp hsp => ?_) (fun _ _ => rfl) (by simp)
    (kept_of_heap step.os step.output hheap) (fun x hx => ?_) (ok_one (by kernel_rfl) rfl (okWide_bool_mk Tryd.underlying4 _))⟩
  · have h3 := carryAll (w' := W') hA0 (fun x hx => same_of_heap hheap x (hA0.lt x hx))
    exact DataW.TrodAll.respare kidsAll fullSlices (fun t ht => by
      rw [Tryd.params4] at ht
      have hts : Tryd.prog.types.size = 182 := by kernel_rfl
      have : t = 32 ∨ t = 39 ∨ t = 3 := by simpa using ht
      show t < Tryd.prog.types.size
      rw [hts]
      rcases this with h | h | h <;> (rw [h]; decide)) h3 (fun x hx => hsp x (by simpa using hx))
  · unfold World.frozen?
    rw [hheap _ hx]

def wArgsS : Array Value := #[.agg #[.slice none 0 0, .slice none 0 0, .slice none 0 0, .slice none 0 0, .slice none 0 0], .agg #[.slice none 0 0, .slice none 0 0], .int .i64 0]
set_option maxRecDepth 100000 in
theorem laid_metS (os : Os) : laidMet Tryd.prog Rows.trainScaledUptoRow.laid ((laidWorld os).forCall (fun _ _ => 0) ⟨#[], wArgsS, []⟩).memory :=
  laidMet_of_run' 8 (by kernel_rfl) (by kernel_rfl)
theorem readsS (os : Os) {H : Type} (enc : TypeId × Value → H) : ∃ places, DataW.whole enc Tryd.prog ((laidWorld os).forCall (fun _ _ => 0) ⟨#[], wArgsS, []⟩).memory Tryd.f4.params.toList Rows.trainScaledSpec.vars false wArgsS.toList 8 = some ([.agg [.agg [.nil, .nil], .nil, .nil, .agg [.nil]], .agg [.nil, .nil], .lit (.int .i64 0)], [], places) :=
  ⟨[], by kernel_rfl⟩

set_option maxRecDepth 100000 in
theorem liftedUptoS (os : Os) (started : os.Started) (H : Type) (enc : TypeId × Value → H) (F : Stop.Interp) :
    ReturnsInHanded {} Tryd.checked os 4 .any ((Rows.OpenSpec.upto Rows.trainScaledSpec).preRow enc Tryd.prog Tryd.f4 Rows.trainScaledUptoRow.domain false Rows.trainScaledUptoRow.laid) (((Rows.OpenSpec.upto Rows.trainScaledSpec).at F).post enc Tryd.prog Tryd.f4 false true false false) := by
  obtain ⟨places, hx⟩   := readsS os enc
  refine returnsInHanded_of_row (C := Tryd.checked) (s := Rows.OpenSpec.upto Rows.trainScaledSpec) own3 started (by kernel_rfl) Tryd.func4
    (witness_row_at (enc := enc) (C := Tryd.checked) false (laidWorld os) wArgsS rfl (by kernel_rfl) (by kernel_rfl) (by kernel_rfl)
      (OpenSpec.preRow_of_cond 8 hx (by kernel_rfl) (fun k hk => by cases hk; kernel_rfl) (by kernel_rfl) (laid_metS os))) ?_
  intro W base args ds gs before hval hW _ hcond _ hL _ _
  exact contractS H enc W base args ds gs before hval hW hL (hcond _ rfl)

theorem saidUptoS : Rows.TrainScaledUptoSaid :=
  OpenClaim.holds_of_cond 4 Tryd.f4 rfl rfl rfl rfl rfl rfl rfl ⟨rfl, rfl, rfl, rfl, rfl⟩ rfl rfl rfl rfl rfl (by kernel_rfl) Tryd.func4 (by kernel_rfl)
    (of_decide_eq_true (by kernel_rfl)) (by unfold Func.isWrapper; first | (rw [if_pos (by decide +kernel)]; kernel_rfl) | (rw [if_neg (by decide +kernel)]; exact ⟨rfl, rfl⟩))
    (fun os started H enc _ F => by rw [OpenClaim.pre_eq_preRow]; exact liftedUptoS os started H enc F)

theorem plain4 (f : FuncId) (fn : Func) (hf : Tryd.pinned.checked.prog.funcNamed "glosswright/glosswrightlaw8.TrainScaled" = some f) (hfn : Tryd.pinned.checked.prog.funcs[f]? = some fn) :
    false = Tryd.pinned.checked.prog.looks [] ∧ ∀ (j : Nat) t, fn.params[j]? = some t → Tryd.pinned.checked.prog.wantsStandIn t = false := by
  obtain rfl : f = 4 := Option.some.inj ((show Tryd.prog.funcNamed "glosswright/glosswrightlaw8.TrainScaled" = some 4 by kernel_rfl).symm.trans hf) |>.symm
  obtain rfl : fn = Tryd.f4 := (Option.some.inj (Tryd.func4.symm.trans hfn)).symm
  refine ⟨by kernel_rfl, fun j t ht => ?_⟩
  rw [Tryd.params4] at ht
  have hm : t ∈ [32, 39, 3] := by simpa using Array.mem_of_getElem? ht
  have hall : ([32, 39, 3].all fun u => !Tryd.prog.wantsStandIn u) = true := by kernel_rfl
  exact (show Tryd.prog.wantsStandIn t = false by simpa using List.all_eq_true.1 hall t hm)

theorem trainScaled_holds : Rows.TrainScaledUptoCardSaid :=
  Claim7.holds_tied_plain_at .later [] _ _ _ _ saidUptoS (fun _ h => by cases h) (by kernel_rfl) (fun _ h => by cases h) trainScaledUpto_row_tie rfl ⟨rfl, rfl⟩ (by kernel_rfl) rfl plain4 (by kernel_rfl)

end Go.Proofs.YtaohdfpcdfbnlaaDoor

