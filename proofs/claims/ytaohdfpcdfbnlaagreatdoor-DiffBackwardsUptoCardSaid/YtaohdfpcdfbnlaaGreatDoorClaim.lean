/-
  diffBackwards answers true at every input of bulk at most 1048576 that reads as data, and leaves its arguments as they were; the listed tables are tied to the program's text.
-/
import Derived.Test.YtaohdfpcdfbnlaaGreatDoorShut
import Derived.Test.YtaohdfpcdfbnlaaGreatDoorDiff3
import Derived.Test.YtaohdfpcdfbnlaaGreatDoorWalk18
set_option linter.unusedVariables false
set_option linter.unusedSimpArgs false
namespace Go.Proofs.YtaohdfpcdfbnlaaGreatDoor
open Go Go.Am Go.ChangeShapes Go.WideShapes Go.RowKit
set_option maxRecDepth 100000 in
theorem contract (H : Type) (enc : TypeId × Value → H) (W : World) (base : Nat) (args : Array Value) (ds gs : List (DataW H)) (before : List MemPlace)
    (hval : ∀ (j : Nat) t v, Tryz.f3.params[j]? = some t → args[j]? = some v → Value.okWide Tryz.prog W .any base t v)
    (hW : DataW.Whole enc Tryz.prog Tryz.f3.params.toList Rows.diffBackwardsSpec.vars false W args.toList ds gs before) (hL : laidMetH Tryz.prog Rows.diffBackwardsUptoRow.laid W)
    (hk : Rows.uptoSmall H (ds ++ gs) = true) :
    Calls Tryz.prog 3 args W fun e W' => ∃ v, e = .returned v ∧ Rows.diffBackwardsSpec.post enc Tryz.prog Tryz.f3 false true false false W args v W' := by
  have hW' := hW
  obtain ⟨p, q, hA0, hV, rfl, hfz, hnd⟩ := hW
  have hA : DataW.TrodAll enc Tryz.prog W 0 (fun _ => true) true Tryz.f3.params.toList args.toList ds p := hA0
  rw [Tryz.params3] at hA hval
  obtain ⟨v0, vs0, d0, ds0, p0, q0, hargs, rfl, rfl, h0, r0⟩ := trodAll_cons hA
  obtain ⟨v1, vs1, d1, ds1, p1, q1, rfl, rfl, rfl, h1, r1⟩ := trodAll_cons r0
  obtain ⟨rfl, rfl, rfl⟩ := trodAll_nil r1
  obtain rfl : args = #[v0, v1] := by cases args; simp_all
  obtain ⟨rfl, rfl⟩ := trodVars_none hV
  have hb : Rows.uptoBulkAll [d0, d1] ≤ 1048576 := of_decide_eq_true hk
  obtain ⟨c0, rfl, hc0⟩ := okWide_struct Tryz.underlying32 (hval 0 32 v0 rfl rfl)
  obtain ⟨c1, rfl, hc1⟩ := okWide_struct Tryz.underlying32 (hval 1 32 v1 rfl rfl)
  obtain ⟨n0, h0⟩ := h0
  obtain ⟨n1, h1⟩ := h1
  obtain ⟨g0, rg0, xg0⟩ := tT enc W n0 n0 (Nat.le_refl _) _ _ h0 (Nat.le_trans (fQ (List.mem_cons_self ..)) hb)
  obtain ⟨g1, rg1, xg1⟩ := tT enc W n1 n1 (Nat.le_refl _) _ _ h1 (Nat.le_trans (fQ (List.mem_cons_of_mem _ (List.mem_cons_self ..))) hb)
  obtain ⟨r, hr, N, hN⟩ := tU g0 g1 xg0 xg1
  have hm := hN N (Nat.le_refl _)
  subst hr
  have hp := dJ N g0 g1 true hm []
  have iJ := hp.2 W (fun _ => none) #[.agg c0, .agg c1] ⟨fun o ob h => by simp at h, fun o o' ob ob' blk b b' h => by simp at h⟩ (nP hL) rfl (fun j hj => by
    have hj3 : j < 2 := hj
    match j, hj3 with
    | 0, _ =>
      show VR W (fun _ => none) [] (.agg c0) (.agg (x5.cells g0))
      refine .agg c0 _ ?_ (fun i hi => .tr ?_)
      · have := rg0.1
        simpa [Value.cells] using this
      · have := rg0.2 i hi
        have h5 : TR W qA (c0.getD i undef) ((x5.cells g0)[i]) := by
          simpa [Value.cells, Array.getD_eq_getD_getElem?, List.getD_eq_getElem?_getD] using this
        exact h5
    | 1, _ =>
      show VR W (fun _ => none) [] (.agg c1) (.agg (x5.cells g1))
      refine .agg c1 _ ?_ (fun i hi => .tr ?_)
      · have := rg1.1
        simpa [Value.cells] using this
      · have := rg1.2 i hi
        have h5 : TR W qA (c1.getD i undef) ((x5.cells g1)[i]) := by
          simpa [Value.cells, Array.getD_eq_getD_getElem?, List.getD_eq_getElem?_getD] using this
        exact h5)
  refine iJ.mono fun e W' ⟨v, d, st', μ', he, ⟨hd, hst⟩, hs, step, hv⟩ => ?_
  subst he; subst hd; subst hst
  have qt : ∀ b, b < W.heap.size → W'.heap[b]? = W.heap[b]? := fun b hb => step.imm b hb lY
  obtain rfl : v = .bool true := eI hv
  have hlt := hW'.lt
  simp only [List.append_nil] at hW' hlt
  refine ⟨_, rfl, tV (pa := p0 ++ (p1 ++ [])) (pv := []) hW' (fun _ _ _ => trodAll_cons_mk (shut_bool Tryz.underlying4 _) trodAll_mk0) (fun sp hsp => ?_) (fun _ _ => rfl) (by simp)
    (nQ step.os step.output qt) (fun x hx => ?_) (ok_one (by kernel_rfl) rfl (okWide_bool_mk Tryz.underlying4 _))⟩
  · have h3 := sv (w' := W') hA0 (fun x hx => nR qt x (hA0.lt x hx))
    exact DataW.TrodAll.respare Ay rm (fun t ht => by
      rw [Tryz.params3] at ht
      have hts : Tryz.prog.types.size = 205 := by kernel_rfl
      have : t = 32 := by simpa using ht
      show t < Tryz.prog.types.size
      rw [hts, this]
      decide) h3 (fun x hx => hsp x (by simpa using hx))
  · unfold World.frozen?
    rw [qt _ hx]
def sw : Array Value := #[.agg #[.slice none 0 0, .slice none 0 0, .slice none 0 0, .slice none 0 0, .slice none 0 0], .agg #[.slice none 0 0, .slice none 0 0, .slice none 0 0, .slice none 0 0, .slice none 0 0]]
set_option maxRecDepth 100000 in
theorem sx (os : Os) : laidMet Tryz.prog Rows.diffBackwardsUptoRow.laid ((iy os).forCall (fun _ _ => 0) ⟨#[], sw, []⟩).memory :=
  laidMet_of_run' 8 (by kernel_rfl) (by kernel_rfl)
theorem reads (os : Os) {H : Type} (enc : TypeId × Value → H) : ∃ places, DataW.whole enc Tryz.prog ((iy os).forCall (fun _ _ => 0) ⟨#[], sw, []⟩).memory Tryz.f3.params.toList Rows.diffBackwardsSpec.vars false sw.toList 8 = some ([.agg [.agg [.nil, .nil], .nil, .nil, .agg [.nil]], .agg [.agg [.nil, .nil], .nil, .nil, .agg [.nil]]], [], places) :=
  ⟨[], by kernel_rfl⟩
set_option maxRecDepth 100000 in
theorem ni (os : Os) (started : os.Started) (H : Type) (enc : TypeId × Value → H) (F : Stop.Interp) :
    ReturnsInHanded {} Tryz.checked os 3 .any ((Rows.OpenSpec.upto Rows.diffBackwardsSpec).preRow enc Tryz.prog Tryz.f3 Rows.diffBackwardsUptoRow.domain false Rows.diffBackwardsUptoRow.laid) (((Rows.OpenSpec.upto Rows.diffBackwardsSpec).at F).post enc Tryz.prog Tryz.f3 false true false false) := by
  obtain ⟨places, hx⟩ := reads os enc
  refine returnsInHanded_of_row (C := Tryz.checked) (s := Rows.OpenSpec.upto Rows.diffBackwardsSpec) Jl started (by kernel_rfl) Tryz.func3
    (witness_row_at (enc := enc) (C := Tryz.checked) false (iy os) sw rfl (by kernel_rfl) (by kernel_rfl) (by kernel_rfl)
      (OpenSpec.preRow_of_cond 8 hx (by kernel_rfl) (fun k hk => by cases hk; kernel_rfl) (by kernel_rfl) (sx os))) ?_
  intro W base args ds gs before hval hW _ DM _ hL _ _
  exact contract H enc W base args ds gs before hval hW hL (DM _ rfl)
theorem sy : Rows.DiffBackwardsUptoSaid :=
  OpenClaim.holds_of_cond 3 Tryz.f3 rfl rfl rfl rfl rfl rfl rfl ⟨rfl, rfl, rfl, rfl, rfl⟩ rfl rfl rfl rfl rfl (by kernel_rfl) Tryz.func3 (by kernel_rfl)
    (of_decide_eq_true (by kernel_rfl)) (by unfold Func.isWrapper; first | (rw [if_pos (by decide +kernel)]; kernel_rfl) | (rw [if_neg (by decide +kernel)]; exact ⟨rfl, rfl⟩))
    (fun os started H enc _ F => by rw [OpenClaim.pre_eq_preRow]; exact ni os started H enc F)
theorem Gd (f : FuncId) (fn : Func) (hf : Tryz.pinned.checked.prog.funcNamed "glosswright/glosswrightlaw8.DiffBackwards" = some f) (hfn : Tryz.pinned.checked.prog.funcs[f]? = some fn) :
    false = Tryz.pinned.checked.prog.looks [] ∧ ∀ (j : Nat) t, fn.params[j]? = some t → Tryz.pinned.checked.prog.wantsStandIn t = false := by
  obtain rfl : f = 3 := Option.some.inj ((show Tryz.prog.funcNamed "glosswright/glosswrightlaw8.DiffBackwards" = some 3 by kernel_rfl).symm.trans hf) |>.symm
  obtain rfl : fn = Tryz.f3 := (Option.some.inj (Tryz.func3.symm.trans hfn)).symm
  refine ⟨by kernel_rfl, fun j t ht => ?_⟩
  rw [Tryz.params3] at ht
  have hm : t ∈ [32, 32] := by simpa using Array.mem_of_getElem? ht
  have hall : ([32, 32].all fun u => !Tryz.prog.wantsStandIn u) = true := by kernel_rfl
  exact (show Tryz.prog.wantsStandIn t = false by simpa using List.all_eq_true.1 hall t hm)
theorem diffBackwards_holds : Rows.DiffBackwardsUptoCardSaid :=
  Claim7.holds_tied_plain_at .later [] _ _ _ _ sy (fun _ h => by cases h) (by kernel_rfl) (fun _ h => by cases h) diffBackwardsUpto_row_tie rfl ⟨rfl, rfl⟩ (by kernel_rfl) rfl Gd (by kernel_rfl)
end Go.Proofs.YtaohdfpcdfbnlaaGreatDoor
