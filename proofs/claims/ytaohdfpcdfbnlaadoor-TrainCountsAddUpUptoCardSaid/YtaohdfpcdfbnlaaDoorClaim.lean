/-
  trainCountsAddUp answers true at every input of bulk at most 1048576 that reads as data, and leaves its arguments as they were; the listed tables are tied to the program's text.
-/
import Derived.Test.YtaohdfpcdfbnlaaDoorCards
import Derived.Test.YtaohdfpcdfbnlaaDoorTie
import Derived.WalkKit
import Derived.ProofKit
import Derived.OpenShut
import Derived.ReadAgain
import Derived.ChangeBears
import Derived.Deep.DeepHandedRow
import Derived.Test.YtaohdfpcdfbnlaaDoorTrain
import Derived.Test.YtaohdfpcdfbnlaaDoorGlob
import Derived.Test.YtaohdfpcdfbnlaaDoorWalk16
set_option linter.unusedVariables false
set_option linter.unusedSimpArgs false
namespace Go.Proofs.YtaohdfpcdfbnlaaDoor
open Go Go.Am Go.ChangeShapes Go.WideShapes Go.RowKit

/-- what a call that leaves the old memory alone says of the arguments -/
theorem post_same {H : Type} {enc : TypeId × Value → H} {P : Program} {f : Func} {s : ChangeSpec} {apart fresh handsOn again : Bool} {W W' : World} {args : Array Value} {v : Value} {ds gs : List (DataW H)} {before pa pv : List MemPlace}
    (hW : DataW.Whole enc P f.params.toList s.vars apart W args.toList ds gs before)
    (hres : ∀ (b : Nat) (sp : Nat → Bool) (hd : Bool), DataW.TrodAll enc P W' b sp hd f.resultTypes.toList (v.resultList f.resultTypes.size) (s.fn H (ds ++ gs)).results [])
    (hargs : ∀ sp : Nat → Bool, (∀ p ∈ before, sp p.block = true) → DataW.TrodAll enc P W' 0 sp true f.params.toList args.toList (s.fn H (ds ++ gs)).args pa)
    (hvars : ∀ sp : Nat → Bool, (∀ p ∈ before, sp p.block = true) → DataW.TrodVars enc P W' sp s.vars (s.fn H (ds ++ gs)).vars pv)
    (hps : before = pa ++ pv) (hk : W.keptBut W' (· ∈ before)) (hfz : ∀ a : Addr, a.block < W.heap.size → W'.frozen? a = W.frozen? a)
    (hok : ∀ (j : Nat) (t : TypeId) (r : Value), f.resultTypes[j]? = some t → (v.resultList f.resultTypes.size)[j]? = some r → Value.okWide P W' .any 0 t r) :
    s.post enc P f apart fresh handsOn again W args v W' := by
  have hlt := hW.lt
  have hold : ∀ p ∈ before, (fun b => decide (b < W.heap.size)) p.block = true := fun p hp => by simpa using hlt p hp
  refine ⟨ds, gs, before, [], pa, pv, hW, hres _ _ _, hargs _ hold, hvars _ hold, World.keptBut_mono (fun p hp => ⟨hp, ?_⟩) hk, fun _ => ?_⟩
  · rw [hps, List.mem_append] at hp
    exact Or.inr hp
  · obtain ⟨_, _, _, _, _, hz, hn⟩ := hW
    refine ⟨hok, _, _, ([] ++ pa) ++ pv, ⟨[] ++ pa, pv, trodAll_append (hargs _ (fun _ _ => rfl)) (hres _ _ _), hvars _ (fun _ _ => rfl), rfl, ?_, ?_⟩, ?_⟩
    · intro b off hp
      have hp : MemPlace.cell b off ∈ before := by rw [hps]; simpa using hp
      rw [hfz _ (hlt _ hp)]
      exact hz b off hp
    · intro ha
      have := hn ha
      rw [hps] at this
      simpa using this
    · intro p hp _
      rw [hps]
      simpa using hp

theorem carryAll {H : Type} {enc : TypeId × Value → H} {P : Program} {w w' : World} {base : Nat} {spare : Nat → Bool} {held : Bool} : ∀ {ts : List TypeId} {vs : List Value} {ds : List (DataW H)} {ps : List MemPlace},
    DataW.TrodAll enc P w base spare held ts vs ds ps → (∀ p ∈ ps, w.sameAt w' p) → DataW.TrodAll enc P w' base spare held ts vs ds ps
  | [], [], [], _, h, _ => h
  | _ :: _, _ :: _, _ :: _, _, ⟨p, q, ⟨n, h1⟩, h2, e⟩, hs => ⟨p, q, ⟨n, DataW.trod_carry n _ _ _ h1 (fun x hx => hs x (by rw [e]; exact List.mem_append_left _ hx))⟩, carryAll h2 (fun x hx => hs x (by rw [e]; exact List.mem_append_right _ hx)), e⟩

theorem same_of_heap {W W' : World} (h : ∀ b, b < W.heap.size → W'.heap[b]? = W.heap[b]?) (p : MemPlace) (hp : p.block < W.heap.size) : W.sameAt W' p := by
  cases p with
  | cell b off =>
    show W'.cell? ⟨b, off, none⟩ = W.cell? ⟨b, off, none⟩
    unfold World.cell?
    simp only [h b hp]
  | map b => exact h b hp

theorem kept_of_heap {W W' : World} {may : MemPlace → Prop} (h1 : W'.os = W.os) (h2 : W'.output = W.output) (h : ∀ b, b < W.heap.size → W'.heap[b]? = W.heap[b]?) : W.keptBut W' may := by
  refine ⟨h1, h2, fun i hi => ?_⟩
  rw [h i hi]
  cases W.heap[i]? with
  | none => rfl
  | some o =>
    cases o with
    | cells => exact ⟨rfl, rfl, rfl, fun _ _ => rfl⟩
    | map => exact .inr ⟨rfl, rfl⟩
    | _ => rfl

theorem own3 : ownKnob Tryd.prog.godebug = none := by kernel_rfl
theorem kidsAll : Kids Tryd.prog (· < Tryd.prog.types.size) := kids_rows (by kernel_rfl) (by kernel_rfl)
theorem fullSlices : ∀ t e, t < Tryd.prog.types.size → Tryd.prog.underlying t = some (.slice e) → 0 < Tryd.prog.cellsOf e := slices_full_of _ (by kernel_rfl)

theorem mem_get {α : Type} [Inhabited α] {l : List α} {X : α → Prop} (h : ∀ y ∈ l, X y) (k : Nat) (hk : k < l.length) : X (Am.get l k) := h _ (get_mem hk)

set_option maxRecDepth 100000 in
theorem contract (H : Type) (enc : TypeId × Value → H) (W : World) (base : Nat) (args : Array Value) (ds gs : List (DataW H)) (before : List MemPlace)
    (hval : ∀ (j : Nat) t v, Tryd.f3.params[j]? = some t → args[j]? = some v → Value.okWide Tryd.prog W .any base t v)
    (hW : DataW.Whole enc Tryd.prog Tryd.f3.params.toList Rows.trainCountsAddUpSpec.vars false W args.toList ds gs before) (hL : laidMetH Tryd.prog Rows.trainCountsAddUpUptoRow.laid W)
    (hk : Rows.uptoSmall H (ds ++ gs) = true) :
    Calls Tryd.prog 3 args W fun e W' => ∃ v, e = .returned v ∧ Rows.trainCountsAddUpSpec.post enc Tryd.prog Tryd.f3 false true false false W args v W' := by
  have hW' := hW
  obtain ⟨p, q, hA0, hV, rfl, hfz, hnd⟩ := hW
  have hA : DataW.TrodAll enc Tryd.prog W 0 (fun _ => true) true Tryd.f3.params.toList args.toList ds p := hA0
  rw [Tryd.params3] at hA hval
  obtain ⟨v0, vs0, d0, ds0, p0, q0, hargs, rfl, rfl, h0, r0⟩ := trodAll_cons hA
  obtain ⟨v1, vs1, d1, ds1, p1, q1, rfl, rfl, rfl, h1, r1⟩ := trodAll_cons r0
  obtain ⟨v2, vs2, d2, ds2, p2, q2, rfl, rfl, rfl, h2, r2⟩ := trodAll_cons r1
  obtain ⟨rfl, rfl, rfl⟩ := trodAll_nil r2
  obtain rfl : args = #[v0, v1, v2] := by cases args; simp_all
  obtain ⟨rfl, rfl⟩ := trodVars_none hV
  have hb : Rows.uptoBulkAll [d0, d1, d2] ≤ 1048576 := of_decide_eq_true hk
  obtain ⟨c0, rfl, hc0⟩ := okWide_struct Tryd.underlying32 (hval 0 32 v0 rfl rfl)
  obtain ⟨a1, l1, k1, rfl⟩ := okWide_slice Tryd.underlying33 (hval 1 33 v1 rfl rfl)
  obtain ⟨a2, l2, k2, rfl⟩ := okWide_slice Tryd.underlying33 (hval 2 33 v2 rfl rfl)
  obtain ⟨n0, h0⟩ := h0
  obtain ⟨n1, h1⟩ := h1
  obtain ⟨n2, h2⟩ := h2
  obtain ⟨g, rg, xg⟩ := open32 enc W n0 n0 (Nat.le_refl _) _ _ h0 (Nat.le_trans (bulk_part (List.mem_cons_self ..)) hb)
  obtain ⟨a, ra, xa, _⟩ := openTrees enc W n1 n1 (Nat.le_refl _) _ _ h1 (Nat.le_trans (bulk_part (List.mem_cons_of_mem _ (List.mem_cons_self ..))) hb)
  obtain ⟨b, rb, xb, _⟩ := openTrees enc W n2 n2 (Nat.le_refl _) _ _ h2 (Nat.le_trans (bulk_part (List.mem_cons_of_mem _ (List.mem_cons_of_mem _ (List.mem_cons_self ..)))) hb)
  obtain ⟨r, hr, N, hN⟩ := law_ev g a b (fun k hk => by
    have := mem_get xg k hk
    omega) (by omega)
  have hm := hN N (Nat.le_refl _)
  subst hr
  have hp := ok_glosswrightlaw8TrainCountsAddUp N g a b true hm []
  have hcall := hp.2 W (fun _ => none) #[.agg c0, .slice a1 l1 k1, .slice a2 l2 k2] ⟨fun o ob h => by simp at h, fun o o' ob ob' blk b b' h => by simp at h⟩ (glob_of_laid hL) rfl (fun j hj => by
    have hj3 : j < 3 := hj
    match j, hj3 with
    | 0, _ =>
      show VR W (fun _ => none) [] (.agg c0) (.agg (ApiGrammar.cells g))
      refine .agg c0 _ ?_ (fun i hi => .tr ?_)
      · have := rg.1
        simpa [Value.cells] using this
      · have := rg.2 i hi
        have h5 : TR W noOwn (c0.getD i undef) ((ApiGrammar.cells g)[i]) := by
          simpa [Value.cells, Array.getD_eq_getD_getElem?, List.getD_eq_getElem?_getD] using this
        exact h5
    | 1, _ => exact .tr (ra.2 0 (by simp))
    | 2, _ => exact .tr (rb.2 0 (by simp)))
  refine hcall.mono fun e W' ⟨v, d, st', μ', he, ⟨hd, hst⟩, hs, step, hv⟩ => ?_
  subst he; subst hd; subst hst
  have hheap : ∀ b, b < W.heap.size → W'.heap[b]? = W.heap[b]? := fun b hb => step.imm b hb noOwn_not
  obtain rfl : v = .bool true := vr_bool hv
  have hlt := hW'.lt
  simp only [List.append_nil] at hW' hlt
  refine ⟨_, rfl, post_same (pa := p0 ++ (p1 ++ (p2 ++ []))) (pv := []) hW' (fun _ _ _ => trodAll_cons_mk (shut_bool Tryd.underlying4 _) trodAll_mk0) (fun sp hsp => ?_) (fun _ _ => rfl) (by simp)
    (kept_of_heap step.os step.output hheap) (fun x hx => ?_) (ok_one (by kernel_rfl) rfl (okWide_bool_mk Tryd.underlying4 _))⟩
  · have h3 := carryAll (w' := W') hA0 (fun x hx => same_of_heap hheap x (hA0.lt x hx))
    exact DataW.TrodAll.respare kidsAll fullSlices (fun t ht => by
      rw [Tryd.params3] at ht
      have hts : Tryd.prog.types.size = 182 := by kernel_rfl
      have : t = 32 ∨ t = 33 ∨ t = 33 := by simpa using ht
      show t < Tryd.prog.types.size
      rw [hts]
      rcases this with h | h | h <;> (rw [h]; decide)) h3 (fun x hx => hsp x (by simpa using hx))
  · unfold World.frozen?
    rw [hheap _ hx]

/-- a block with other cells -/
def withCells (vs : List Value) : Obj → Obj
  | .cells _ t f => .cells vs.toArray t f
  | o => o
/-- a world for the witness: the tables hold what their initialisers lay -/
noncomputable def laidWorld (os : Os) : World :=
  { World.holding Tryd.prog os ⟨#[], #[], []⟩ with heap := (((World.holding Tryd.prog os ⟨#[], #[], []⟩).heap.modify 0 (withCells (tab0.map (Value.int .u8)))).modify 1 (withCells (tab1.map (Value.int .u8)))).modify 2 (withCells ((tab2.map fun r => [Value.int .u8 r.lo, Value.int .u8 r.hi]).flatten)) }
def wArgs : Array Value := #[.agg #[.slice none 0 0, .slice none 0 0, .slice none 0 0, .slice none 0 0, .slice none 0 0], .slice none 0 0, .slice none 0 0]
set_option maxRecDepth 100000 in
theorem laid_met (os : Os) : laidMet Tryd.prog Rows.trainCountsAddUpUptoRow.laid ((laidWorld os).forCall (fun _ _ => 0) ⟨#[], wArgs, []⟩).memory :=
  laidMet_of_run' 8 (by kernel_rfl) (by kernel_rfl)
theorem reads (os : Os) {H : Type} (enc : TypeId × Value → H) : ∃ places, DataW.whole enc Tryd.prog ((laidWorld os).forCall (fun _ _ => 0) ⟨#[], wArgs, []⟩).memory Tryd.f3.params.toList Rows.trainCountsAddUpSpec.vars false wArgs.toList 8 = some ([.agg [.agg [.nil, .nil], .nil, .nil, .agg [.nil]], .nil, .nil], [], places) :=
  ⟨[], by kernel_rfl⟩

set_option maxRecDepth 100000 in
theorem liftedUpto (os : Os) (started : os.Started) (H : Type) (enc : TypeId × Value → H) (F : Stop.Interp) :
    ReturnsInHanded {} Tryd.checked os 3 .any ((Rows.OpenSpec.upto Rows.trainCountsAddUpSpec).preRow enc Tryd.prog Tryd.f3 Rows.trainCountsAddUpUptoRow.domain false Rows.trainCountsAddUpUptoRow.laid) (((Rows.OpenSpec.upto Rows.trainCountsAddUpSpec).at F).post enc Tryd.prog Tryd.f3 false true false false) := by
  obtain ⟨places, hx⟩ := reads os enc
  refine returnsInHanded_of_row (C := Tryd.checked) (s := Rows.OpenSpec.upto Rows.trainCountsAddUpSpec) own3 started (by kernel_rfl) Tryd.func3
    (witness_row_at (enc := enc) (C := Tryd.checked) false (laidWorld os) wArgs rfl (by kernel_rfl) (by kernel_rfl) (by kernel_rfl)
      (OpenSpec.preRow_of_cond 8 hx (by kernel_rfl) (fun k hk => by cases hk; kernel_rfl) (by kernel_rfl) (laid_met os))) ?_
  intro W base args ds gs before hval hW _ hcond _ hL _ _
  exact contract H enc W base args ds gs before hval hW hL (hcond _ rfl)

theorem saidUpto : Rows.TrainCountsAddUpUptoSaid :=
  OpenClaim.holds_of_cond 3 Tryd.f3 rfl rfl rfl rfl rfl rfl rfl ⟨rfl, rfl, rfl, rfl, rfl⟩ rfl rfl rfl rfl rfl (by kernel_rfl) Tryd.func3 (by kernel_rfl)
    (of_decide_eq_true (by kernel_rfl)) (by unfold Func.isWrapper; first | (rw [if_pos (by decide +kernel)]; kernel_rfl) | (rw [if_neg (by decide +kernel)]; exact ⟨rfl, rfl⟩))
    (fun os started H enc _ F => by rw [OpenClaim.pre_eq_preRow]; exact liftedUpto os started H enc F)

theorem plain3 (f : FuncId) (fn : Func) (hf : Tryd.pinned.checked.prog.funcNamed "glosswright/glosswrightlaw8.TrainCountsAddUp" = some f) (hfn : Tryd.pinned.checked.prog.funcs[f]? = some fn) :
    false = Tryd.pinned.checked.prog.looks [] ∧ ∀ (j : Nat) t, fn.params[j]? = some t → Tryd.pinned.checked.prog.wantsStandIn t = false := by
  obtain rfl : f = 3 := Option.some.inj ((show Tryd.prog.funcNamed "glosswright/glosswrightlaw8.TrainCountsAddUp" = some 3 by kernel_rfl).symm.trans hf) |>.symm
  obtain rfl : fn = Tryd.f3 := (Option.some.inj (Tryd.func3.symm.trans hfn)).symm
  refine ⟨by kernel_rfl, fun j t ht => ?_⟩
  rw [Tryd.params3] at ht
  have hm : t ∈ [32, 33, 33] := by simpa using Array.mem_of_getElem? ht
  have hall : ([32, 33, 33].all fun u => !Tryd.prog.wantsStandIn u) = true := by kernel_rfl
  exact (show Tryd.prog.wantsStandIn t = false by simpa using List.all_eq_true.1 hall t hm)

theorem trainCountsAddUp_holds : Rows.TrainCountsAddUpUptoCardSaid :=
  Claim7.holds_tied_plain_at .later [] _ _ _ _ saidUpto (fun _ h => by cases h) (by kernel_rfl) (fun _ h => by cases h) trainCountsAddUpUpto_row_tie rfl ⟨rfl, rfl⟩ (by kernel_rfl) rfl plain3 (by kernel_rfl)

end Go.Proofs.YtaohdfpcdfbnlaaDoor

