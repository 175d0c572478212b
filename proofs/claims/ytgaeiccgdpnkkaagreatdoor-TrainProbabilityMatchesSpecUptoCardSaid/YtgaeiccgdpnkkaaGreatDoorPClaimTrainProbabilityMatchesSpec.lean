import Derived.Test.YtgaeiccgdpnkkaaGreatDoorPShut
import Derived.Test.YtgaeiccgdpnkkaaGreatDoorPLaw3
import Derived.Test.YtgaeiccgdpnkkaaGreatDoorPWalk19
set_option linter.unusedVariables false
set_option linter.unusedSimpArgs false
namespace Go.Proofs.YtgaeiccgdpnkkaaGreatDoor
open Go Go.Am Go.ChangeShapes Go.WideShapes Go.RowKit
set_option maxRecDepth 100000
set_option maxHeartbeats 20000000
theorem vrof {W : World} {c : Array Value} {cs : List D} (h : Rd W (Value.agg c).cells.toList cs) : VR W (fun _ => none) [] (.agg c) (.agg cs) := by
 refine .agg c _ ?_ (fun i hi => .tr ?_)
 ·simpa [Value.cells] using h.1
 ·have h5 : TR W i7S (c.getD i undef) (cs[i]) := by simpa [Value.cells, Array.getD_eq_getD_getElem?, List.getD_eq_getElem?_getD] using h.2 i hi
  exact h5
theorem d5K (H : Type) (enc : TypeId × Value → H) (W : World) (base : Nat) (args : Array Value) (ds gs : List (DataW H)) (before : List MemPlace)
  (hval : ∀ (j : Nat) t v, Tryz.f6.params[j]? = some t → args[j]? = some v → Value.okWide Tryz.prog W .any base t v)
  (hW : DataW.Whole enc Tryz.prog Tryz.f6.params.toList Rows.trainProbabilityMatchesSpecSpec.vars false W args.toList ds gs before) (hL : laidMetH Tryz.prog Rows.trainProbabilityMatchesSpecUptoRow.laid W)
  (hk : Rows.uptoSmall H (ds ++ gs) = true) :
  Calls Tryz.prog 6 args W fun e W' => ∃ v, e = .returned v ∧ Rows.trainProbabilityMatchesSpecSpec.post enc Tryz.prog Tryz.f6 false true false false W args v W' := by
 have hW' := hW
 obtain ⟨p, q, hA0, hV, rfl, hfz, hnd⟩ := hW
 have hA : DataW.TrodAll enc Tryz.prog W 0 (fun _ => true) true Tryz.f6.params.toList args.toList ds p := hA0
 rw [Tryz.params6] at hA hval
 obtain ⟨v0, vs0, d0, ds0, p0, q0, hargs, rfl, rfl, h0, r0⟩ := trodAll_cons hA
 obtain ⟨v1, vs1, d1, ds1, p1, q1, rfl, rfl, rfl, h1, r1⟩ := trodAll_cons r0
 obtain ⟨v2, vs2, d2, ds2, p2, q2, rfl, rfl, rfl, h2, r2⟩ := trodAll_cons r1
 obtain ⟨rfl, rfl, rfl⟩ := trodAll_nil r2
 obtain rfl : args = #[v0, v1, v2] := by cases args; simp_all
 obtain ⟨rfl, rfl⟩ := trodVars_none hV
 have hb : Rows.uptoBulkAll [d0, d1, d2] ≤ 1048576 := of_decide_eq_true hk
 obtain ⟨c0, rfl, hc0⟩ := okWide_struct Tryz.underlying32 (hval 0 32 v0 rfl rfl)
 obtain ⟨c1, rfl, hc1⟩ := okWide_struct Tryz.underlying62 (hval 1 62 v1 rfl rfl)
 obtain ⟨c2, rfl, hc2⟩ := okWide_struct Tryz.underlying67 (hval 2 67 v2 rfl rfl)
 obtain ⟨n0, h0⟩ := h0
 obtain ⟨g0, rg0, x0⟩ := p8T enc W n0 n0 (Nat.le_refl _) _ _ h0 (Nat.le_trans (i0x (List.mem_cons_self ..)) hb)
 obtain ⟨n1, h1⟩ := h1
 obtain ⟨g1, rg1, x1⟩ := p8U enc W n1 n1 (Nat.le_refl _) _ _ h1 (Nat.le_trans (i0x (List.mem_cons_of_mem _ (List.mem_cons_self ..))) hb)
 obtain ⟨n2, h2⟩ := h2
 obtain ⟨g2, rg2, x2⟩ := p8V enc W n2 n2 (Nat.le_refl _) _ _ h2 (Nat.le_trans (i0x (List.mem_cons_of_mem _ (List.mem_cons_of_mem _ (List.mem_cons_self ..)))) hb)
 obtain ⟨r, hr, N, hN⟩ := i9l x0.holds g1 g2
 have hm := hN N (Nat.le_refl _)
 subst hr
 have hp := d4f N g0 g1 g2 true hm []
 have d9I := hp.2 W (fun _ => none) #[.agg c0, .agg c1, .agg c2] ⟨fun o ob h => by simp at h, fun o o' ob ob' blk b b' h => by simp at h⟩ (i7R (show laidMet Tryz.prog Rows.trainProbabilityMatchesSpecUptoRow.laid W from hL) (by simp [Rows.trainProbabilityMatchesSpecUptoRow]) (by simp [Rows.trainProbabilityMatchesSpecUptoRow]) (by simp [Rows.trainProbabilityMatchesSpecUptoRow])) rfl (fun j hj => by
  have hj3 : j < 3 := hj
  match j, hj3 with
  | 0, _ =>
   exact vrof rg0
  | 1, _ =>
   exact vrof rg1
  | 2, _ =>
   have h6 := vrof rg2
   rw [Yr.YW] at h6
   exact h6)
 refine d9I.mono fun e W' ⟨v, d, st', μ', he, ⟨hd, hst⟩, hs, step, hv⟩ => ?_
 subst he; subst hd; subst hst
 have p0B : ∀ b, b < W.heap.size → W'.heap[b]? = W.heap[b]? := fun b hb => step.imm b hb i4C
 obtain rfl : v = .bool true := d7Z hv
 have hlt := hW'.lt
 simp only [List.append_nil] at hW' hlt
 refine ⟨_, rfl, p2C (pa := p0 ++ (p1 ++ (p2 ++ []))) (pv := []) hW' (fun _ _ _ => trodAll_cons_mk (shut_bool Tryz.underlying4 _) trodAll_mk0) (fun sp hsp => ?_) (fun _ _ => rfl) (by simp)
  (i7T step.os step.output p0B) (fun x hx => ?_) (ok_one (by kernel_rfl) rfl (okWide_bool_mk Tryz.underlying4 _))⟩
 ·have h3 := p0n (w' := W') hA0 (fun x hx => i7U p0B x (hA0.lt x hx))
  exact DataW.TrodAll.respare p6n p0Z (fun t ht => by
   rw [Tryz.params6] at ht
   have hts : Tryz.prog.types.size = 356 := by kernel_rfl
   have : t = 32 ∨ t = 62 ∨ t = 67 := by simpa using ht
   show t < Tryz.prog.types.size
   rw [hts]
   rcases this with h | h | h <;> (rw [h]; decide)) h3 (fun x hx => hsp x (by simpa using hx))
 ·unfold World.frozen?
  rw [p0B _ hx]
def d0u : Array Value := #[.agg #[.slice none 0 0, .slice none 0 0, .slice none 0 0, .slice none 0 0, .slice none 0 0], .agg #[.slice none 0 0, .slice none 0 0], .agg #[.int .i64 0, .int .i64 0, .slice none 0 0]]
theorem d5L (os : Os) : laidMet Tryz.prog Rows.trainProbabilityMatchesSpecUptoRow.laid ((i4D os).forCall (fun _ _ => 0) ⟨#[], d0u, []⟩).memory :=
 laidMet_of_run' 8 (by kernel_rfl) (by kernel_rfl)
theorem d6A (os : Os) {H : Type} (enc : TypeId × Value → H) : ∃ places, DataW.whole enc Tryz.prog ((i4D os).forCall (fun _ _ => 0) ⟨#[], d0u, []⟩).memory Tryz.f6.params.toList Rows.trainProbabilityMatchesSpecSpec.vars false d0u.toList 8 = some ([.agg [.agg [.nil, .nil], .nil, .nil, .agg [.nil]], .agg [.nil, .nil], .agg [.lit (.int .i64 0), .lit (.int .i64 0), .nil]], [], places) :=
 ⟨[], by kernel_rfl⟩
theorem d5o (os : Os) (started : os.Started) (H : Type) (enc : TypeId × Value → H) (F : Stop.Interp) :
  ReturnsInHanded {} Tryz.checked os 6 .any ((Rows.OpenSpec.upto Rows.trainProbabilityMatchesSpecSpec).preRow enc Tryz.prog Tryz.f6 Rows.trainProbabilityMatchesSpecUptoRow.domain false Rows.trainProbabilityMatchesSpecUptoRow.laid) (((Rows.OpenSpec.upto Rows.trainProbabilityMatchesSpecSpec).at F).post enc Tryz.prog Tryz.f6 false true false false) := by
 obtain ⟨places, hx⟩ := d6A os enc
 refine returnsInHanded_of_row (C := Tryz.checked) (s := Rows.OpenSpec.upto Rows.trainProbabilityMatchesSpecSpec) r2L started (by kernel_rfl) Tryz.func6
  (witness_row_at (enc := enc) (C := Tryz.checked) false (i4D os) d0u rfl (by kernel_rfl) (by kernel_rfl) (by kernel_rfl)
   (OpenSpec.preRow_of_cond 8 hx (by kernel_rfl) (fun k hk => by cases hk; kernel_rfl) (by kernel_rfl) (d5L os))) ?_
 intro W base args ds gs before hval hW _ r0Q _ hL _ _
 exact d5K H enc W base args ds gs before hval hW hL (r0Q _ rfl)
theorem wcons (w r : List Char) (h : w.all (· != Char.ofNat 32) = true) : wordsSigns (w ++ Char.ofNat 32 :: r) = w :: wordsSigns r := by
 induction w with
 | nil => simp [wordsSigns]
 | cons c w ih =>
  simp only [List.all_cons, Bool.and_eq_true, bne_iff_ne, ne_eq] at h
  rw [List.cons_append, wordsSigns, ih h.2]
  ·exact fun e => h.1 e
abbrev cs (l : List Nat) : List Char := l.map Char.ofNat
theorem hdw : ∃ r, wordsSigns Tryz.pinned.checked.prog.initOrder.toList = cs [104,97,114,110,101,115,115] :: cs [51,53,100,50,51,99,56,53,52,54,99,57,102,100,101,97,102,57,49,102,57,102,50,100,100,48,97,101,54,52,50,52,52,49,53,100,100,99,50,57,57,56,48,52,48,97,100,101,97,54,55,49,99,54,97,54,54,49,99,56,100,50,54,101] :: cs [99,117,116] :: r := by
 exact ⟨_, (congrArg wordsSigns (String.toList_ofList : Tryz.pinned.checked.prog.initOrder.toList = _)).trans ((wcons (cs [104,97,114,110,101,115,115]) _ rfl).trans (congrArg _ ((wcons (cs [51,53,100,50,51,99,56,53,52,54,99,57,102,100,101,97,102,57,49,102,57,102,50,100,100,48,97,101,54,52,50,52,52,49,53,100,100,99,50,57,57,56,48,52,48,97,100,101,97,54,55,49,99,54,97,54,54,49,99,56,100,50,54,101]) _ rfl).trans (congrArg _ (wcons (cs [99,117,116]) _ rfl)))))⟩
theorem bof {l x s r} (h : l = x :: s :: r) (hx : ((x == "harness".toList || x == "ownmain".toList) && isSumSigns s) = true) : behindMainWord l = r := by
 subst h
 show (if _ then _ else _) = _
 rw [if_pos hx]
variable {P : Program} {c : OpenClaim} {r : List (List Char)}
theorem mof (h : behindMainWord (wordsSigns P.initOrder.toList) = cs [99,117,116] :: r) (hc : c.make = .cut) : (P.make == some c.make) = true := by
 unfold Program.make
 rw [h, hc]
 kernel_rfl
theorem lof (h : behindMainWord (wordsSigns P.initOrder.toList) = cs [99,117,116] :: r) (hc : c.lifted = false) : (c.lifted == P.liftsFinal) = true := by
 unfold Program.liftsFinal Program.headLifts
 rw [h, hc]
 kernel_rfl
theorem eof (h : behindMainWord (wordsSigns P.initOrder.toList) = cs [99,117,116] :: r) (h1 : P.laysLater = false) (h2 : P.bearsReflect = false) (h3 : P.doorFits [] = true) : P.mayEnter = true := by
 have hs : stripLifts liftWords (cs [99,117,116] :: r) = ([], cs [99,117,116] :: r) := by kernel_rfl
 unfold Program.mayEnter
 rw [h]
 simp only [hs, h1, h2, h3]
 rfl
theorem mainof {s : List Char} {t : String} (h : ∃ r, wordsSigns P.initOrder.toList = cs [104,97,114,110,101,115,115] :: s :: r) (hs : isSumSigns s = true) (ht : t.toList = s) : P.mainIs = some (true, t.toList) := by
 obtain ⟨r, h⟩ := h
 unfold Program.mainIs
 rw [h, ht]
 show (if _ then _ else _) = _
 rw [if_neg (by simp [hs])]
 kernel_rfl
theorem joined : joinedFacts Tryz.pinned.checked.prog 6 Tryz.f6 (Rows.OpenSpec.upto Rows.trainProbabilityMatchesSpecSpec).bare Rows.trainProbabilityMatchesSpecUptoRow = true := by
 obtain ⟨r, hw⟩ := hdw
 have hb := bof hw (by kernel_rfl)
 unfold joinedFacts
 repeat' with_reducible refine Bool.and_eq_true_iff.mpr ⟨?_, ?_⟩
 all_goals first
  | with_reducible exact eof hb (by as_aux_lemma => kernel_rfl) (by as_aux_lemma => kernel_rfl) (by as_aux_lemma => kernel_rfl)
  | with_reducible exact mof hb (by as_aux_lemma => kernel_rfl)
  | with_reducible exact lof hb (by as_aux_lemma => kernel_rfl)
  | as_aux_lemma => kernel_rfl
theorem d5M : Rows.TrainProbabilityMatchesSpecUptoSaid :=
 OpenClaim.holds_of_cond 6 Tryz.f6 rfl rfl rfl rfl rfl rfl rfl ⟨rfl, rfl, rfl, rfl, rfl⟩ rfl rfl rfl rfl rfl (by as_aux_lemma => kernel_rfl) Tryz.func6 joined
  (of_decide_eq_true (by as_aux_lemma => kernel_rfl)) (by unfold Func.isWrapper; rw [if_neg (by decide +kernel)]; exact ⟨rfl, rfl⟩)
  (fun os started H enc _ F => by rw [OpenClaim.pre_eq_preRow]; exact d5o os started H enc F)
theorem p8W (f : FuncId) (fn : Func) (hf : Tryz.pinned.checked.prog.funcNamed "glosswright/glosswrightlaw8.TrainProbabilityMatchesSpec" = some f) (hfn : Tryz.pinned.checked.prog.funcs[f]? = some fn) :
  false = Tryz.pinned.checked.prog.looks [] ∧ ∀ (j : Nat) t, fn.params[j]? = some t → Tryz.pinned.checked.prog.wantsStandIn t = false := by
 obtain rfl : f = 6 := Option.some.inj ((show Tryz.prog.funcNamed "glosswright/glosswrightlaw8.TrainProbabilityMatchesSpec" = some 6 by kernel_rfl).symm.trans hf) |>.symm
 obtain rfl : fn = Tryz.f6 := (Option.some.inj (Tryz.func6.symm.trans hfn)).symm
 refine ⟨by kernel_rfl, fun j t ht => ?_⟩
 rw [Tryz.params6] at ht
 have hm : t ∈ [32, 62, 67] := by simpa using Array.mem_of_getElem? ht
 have hall : ([32, 62, 67].all fun u => !Tryz.prog.wantsStandIn u) = true := by kernel_rfl
 exact (show Tryz.prog.wantsStandIn t = false by simpa using List.all_eq_true.1 hall t hm)
theorem trainProbabilityMatchesSpec_holds : Rows.TrainProbabilityMatchesSpecUptoCardSaid :=
 Claim7.holds_tied_plain_at .later [] _ _ _ _ d5M (fun _ h => by cases h) (by as_aux_lemma => kernel_rfl) (fun _ h => by cases h) trainProbabilityMatchesSpecUpto_row_tie rfl ⟨rfl, rfl⟩ (mainof (hdw.elim fun _ h => ⟨_, h⟩) (by as_aux_lemma => kernel_rfl) String.toList_ofList) rfl p8W (by as_aux_lemma => kernel_rfl)
end Go.Proofs.YtgaeiccgdpnkkaaGreatDoor
