/-
  transferTruth answers true at every input of bulk at most 1048576 that reads as data, and leaves its arguments as they were; the listed tables are tied to the program's text.
-/
import Derived.Test.YtanlbioodbnakaaGreatDoorTTShut
import Derived.Test.YtanlbioodbnakaaGreatDoorTTLaw5
import Derived.Test.YtanlbioodbnakaaGreatDoorTTWalk12
set_option linter.unusedVariables false
set_option linter.unusedSimpArgs false
namespace Go.Proofs.YtanlbioodbnakaaGreatDoor
open Go Go.Am Go.ChangeShapes Go.WideShapes Go.RowKit
theorem NX{W:World}{c:Array Value}{cs:List D}(h:Rd W (Value.agg c).cells.toList cs):VR W (fun _=>none) [] (.agg c) (.agg cs):=by
 refine .agg c _ ?_ (fun i hi=>.tr ?_)
 ·simpa[Value.cells]using h.1
 ·have h5:TR W EU (c.getD i undef) (cs[i]):=by simpa[Value.cells,Array.getD_eq_getD_getElem?, List.getD_eq_getElem?_getD]using h.2 i hi
  exact h5
set_option maxRecDepth 100000 in
theorem kV(H:Type)(enc:TypeId×Value→H)(W:World)(base:Nat)(args:Array Value)(ds gs:List (DataW H))(before:List MemPlace)
 (hval:∀(j:Nat) t v,Tryz.f3.params[j]? =some t→args[j]? =some v→Value.okWide Tryz.prog W .any base t v)
 (hW:DataW.Whole enc Tryz.prog Tryz.f3.params.toList Rows.transferTruthSpec.vars false W args.toList ds gs before) (hL:laidMetH Tryz.prog Rows.transferTruthUptoRow.laid W)
 (hk:Rows.uptoSmall H (ds++gs)=true):
 Calls Tryz.prog 3 args W fun e W'=>∃v,e= .returned v∧Rows.transferTruthSpec.post enc Tryz.prog Tryz.f3 false true false false W args v W':=by
 have hW':=hW
 obtain⟨p,q,hA0,hV,rfl,hfz,hnd⟩:=hW
 have hA:DataW.TrodAll enc Tryz.prog W 0 (fun _=>true) true Tryz.f3.params.toList args.toList ds p:=hA0
 rw[Tryz.params3]at hA hval
 obtain⟨v0,vs0,d0,ds0,p0,q0,hargs,rfl,rfl,h0,r0⟩:=trodAll_cons hA
 obtain⟨v1,vs1,d1,ds1,p1,q1,rfl,rfl,rfl,h1,r1⟩:=trodAll_cons r0
 obtain⟨v2,vs2,d2,ds2,p2,q2,rfl,rfl,rfl,h2,r2⟩:=trodAll_cons r1
 obtain⟨v3,vs3,d3,ds3,p3,q3,rfl,rfl,rfl,h3,r3⟩:=trodAll_cons r2
 obtain⟨rfl,rfl,rfl⟩:=trodAll_nil r3
 obtain rfl:args= #[v0,v1,v2,v3]:=by cases args;simp_all
 obtain⟨rfl,rfl⟩:=trodVars_none hV
 have hb:Rows.uptoBulkAll [d0,d1,d2,d3]≤1048576:=of_decide_eq_true hk
 obtain⟨c0,rfl,hc0⟩:=okWide_struct Tryz.underlying25 (hval 0 25 v0 rfl rfl)
 obtain⟨g1,rfl⟩:=okWide_int Tryz.underlying3 (hval 1 3 v1 rfl rfl)
 obtain⟨s2,rfl⟩:=okWide_string Tryz.underlying9 (hval 2 9 v2 rfl rfl)
 obtain⟨c3,rfl,hc3⟩:=okWide_struct Tryz.underlying29 (hval 3 29 v3 rfl rfl)
 obtain⟨n0,h0⟩:=h0
 obtain⟨g0,rg0,x0⟩:=NY enc W n0 n0 (Nat.le_refl _) _ _ h0 (Nat.le_trans (lM (List.mem_cons_self ..)) hb)
 obtain⟨n2,h2⟩:=h2
 obtain⟨g2,rg2,x2⟩:=(show Opens enc Tryz.prog W 9 _ _ n2 from lN Tryz.underlying9) n2 (Nat.le_refl _) _ _ h2 (Nat.le_trans (lM (List.mem_cons_of_mem _ (List.mem_cons_of_mem _ (List.mem_cons_self ..)))) hb)
 obtain⟨n3,h3⟩:=h3
 obtain⟨g3,rg3,x3⟩:=NZ enc W n3 n3 (Nat.le_refl _) _ _ h3 (Nat.le_trans (lM (List.mem_cons_of_mem _ (List.mem_cons_of_mem _ (List.mem_cons_of_mem _ (List.mem_cons_self ..))))) hb)
 obtain⟨r,hr,N,hN⟩:=xW (m:=g0) (fun k hk=>Nat.le_trans (x0 _ (get_mem hk)) (by decide)) g1 g2 g3
 have hm:=hN N (Nat.le_refl _)
 subst hr
 have hp:=fS N g0 g1 g2 g3 true hm []
 have kl:=hp.2 W (fun _=>none) #[.agg c0,.int .i64 g1,.string s2,.agg c3] ⟨fun o ob h=>by simp at h,fun o o' ob ob' blk b b' h=>by simp at h⟩ (xX (show laidMet Tryz.prog Rows.transferTruthUptoRow.laid W from hL) (by simp[Rows.transferTruthUptoRow])) rfl (fun j hj=>by
  have hj3:j<4:=hj
  match j,hj3 with
  |0,_=>
   have h6:=NX rg0
   first|exact h6|(rw[B4.U5]at h6;exact h6)
  |1,_=>exact .tr (.int .i64 g1)
  |2,_=>exact .tr (rg2.2 0 (by simp))
  |3,_=>
   have h6:=NX rg3
   first|exact h6|(rw[u5.U5]at h6;exact h6))
 refine(kl.calls (by unfold iP;rw[Tryz.func3];kernel_rfl)).mono fun e W' ⟨v,d,st',μ',he,⟨hd,hst⟩,hs,step,hv⟩=>?_
 subst he;subst hd;subst hst
 have gV:∀b,b<W.heap.size→W'.heap[b]? =W.heap[b]? :=fun b hb=>step.imm b hb sI
 obtain rfl:v= .bool true:=iN hv
 have hlt:=hW'.lt
 simp only[List.append_nil]at hW' hlt
 refine⟨_,rfl,EV (pa:=p0++(p1++(p2++(p3++[])))) (pv:=[]) hW' (fun _ _ _=>trodAll_cons_mk (shut_bool Tryz.underlying4 _) trodAll_mk0) (fun sp hsp=>?_) (fun _ _=>rfl) (by simp)
  (xY step.os step.output gV) (fun x hx=>?_) (ok_one (by kernel_rfl) rfl (okWide_bool_mk Tryz.underlying4 _))⟩
 ·have h3:=AZ (w':=W') hA0 (fun x hx=>xZ gV x (hA0.lt x hx))
  exact DataW.TrodAll.respare KB CO (fun t ht=>by
   rw[Tryz.params3]at ht
   have hts:Tryz.prog.types.size=217:=by kernel_rfl
   have:t=25∨t=3∨t=9∨t=29:=by simpa using ht
   show t<Tryz.prog.types.size
   rw[hts]
   rcases this with h|h|h|h<;>(rw[h];decide)) h3 (fun x hx=>hsp x (by simpa using hx))
 ·unfold World.frozen?
  rw[gV _ hx]
def aC:Array Value:= #[.agg #[.int .i64 0,.slice none 0 0,.slice none 0 0],.int .i64 0,.string ⟨#[]⟩,.agg #[.int .i64 0,.string ⟨#[]⟩,.slice none 0 0,.slice none 0 0]]
set_option maxRecDepth 100000 in
theorem kW(os:Os):laidMet Tryz.prog Rows.transferTruthUptoRow.laid ((sJ os).forCall (fun _ _=>0) ⟨#[],aC,[]⟩).memory:=
 laidMet_of_run' 8 (by kernel_rfl) (by kernel_rfl)
theorem nE(os:Os){H:Type}(enc:TypeId×Value→H):∃places,DataW.whole enc Tryz.prog ((sJ os).forCall (fun _ _=>0) ⟨#[],aC,[]⟩).memory Tryz.f3.params.toList Rows.transferTruthSpec.vars false aC.toList 8=some ([.agg [.lit (.int .i64 0),.nil,.nil],.lit (.int .i64 0),.lit (.string []),.agg [.lit (.int .i64 0),.lit (.string []),.nil,.nil]],[],places):=
 ⟨[],by kernel_rfl⟩
set_option maxRecDepth 100000 in
theorem jU(os:Os)(started:os.Started)(H:Type)(enc:TypeId×Value→H)(F:Stop.Interp):
 ReturnsInHanded {} Tryz.checked os 3 .any ((Rows.OpenSpec.upto Rows.transferTruthSpec).preRow enc Tryz.prog Tryz.f3 Rows.transferTruthUptoRow.domain false Rows.transferTruthUptoRow.laid) (((Rows.OpenSpec.upto Rows.transferTruthSpec).at F).post enc Tryz.prog Tryz.f3 false true false false):=by
 obtain⟨places,hx⟩:=nE os enc
 refine returnsInHanded_of_row (C:=Tryz.checked) (s:=Rows.OpenSpec.upto Rows.transferTruthSpec) Tp started (by kernel_rfl) Tryz.func3
  (witness_row_at (enc:=enc) (C:=Tryz.checked) false (sJ os) aC rfl (by kernel_rfl) (by kernel_rfl) (by kernel_rfl)
   (OpenSpec.preRow_of_cond 8 hx (by kernel_rfl) (fun k hk=>by cases hk;kernel_rfl) (by kernel_rfl) (kW os))) ?_
 intro W base args ds gs before hval hW _ QL _ hL _ _
 exact kV H enc W base args ds gs before hval hW hL (QL _ rfl)
set_option maxHeartbeats 20000000
set_option maxRecDepth 100000
theorem KC(w r:List Char)(h:w.all (· != Char.ofNat 32)=true):wordsSigns (w++Char.ofNat 32::r)=w::wordsSigns r:=by
 induction w with
 |nil=>simp[wordsSigns]
 |cons c w ih=>
  simp only[List.all_cons,Bool.and_eq_true,bne_iff_ne,ne_eq]at h
  rw[List.cons_append,wordsSigns,ih h.2]
  ·exact fun e=>h.1 e
abbrev cs(l:List Nat):List Char:=l.map Char.ofNat
theorem hdw:∃r,wordsSigns Tryz.pinned.checked.prog.initOrder.toList=cs [104,97,114,110,101,115,115]::cs [50,51,54,55,101,55,52,50,100,48,49,102,52,57,56,50,51,56,99,97,53,51,99,48,100,51,99,52,98,48,50,100,53,100,56,98,55,52,52,101,56,98,54,53,52,48,100,50,56,55,97,56,98,48,54,54,56,48,53,57,48,97,100,57]::cs [99,117,116]::r:=by
 exact⟨_,(congrArg wordsSigns (String.toList_ofList:Tryz.pinned.checked.prog.initOrder.toList=_)).trans ((KC (cs [104,97,114,110,101,115,115]) _ rfl).trans (congrArg _ ((KC (cs [50,51,54,55,101,55,52,50,100,48,49,102,52,57,56,50,51,56,99,97,53,51,99,48,100,51,99,52,98,48,50,100,53,100,56,98,55,52,52,101,56,98,54,53,52,48,100,50,56,55,97,56,98,48,54,54,56,48,53,57,48,97,100,57]) _ rfl).trans (congrArg _ (KC (cs [99,117,116]) _ rfl)))))⟩
theorem bof{l x s r}(h:l=x::s::r)(hx:((x== "harness".toList||x== "ownmain".toList)&&isSumSigns s)=true):behindMainWord l=r:=by
 subst h
 show(if _ then _ else _)=_
 rw[if_pos hx]
theorem mof{P:Program}{c:OpenClaim}{r:List (List Char)}(h:behindMainWord (wordsSigns P.initOrder.toList)=cs [99,117,116]::r)(hc:c.make= .cut):(P.make==some c.make)=true:=by
 unfold Program.make
 rw[h,hc]
 kernel_rfl
theorem lof{P:Program}{c:OpenClaim}{r:List (List Char)}(h:behindMainWord (wordsSigns P.initOrder.toList)=cs [99,117,116]::r)(hc:c.lifted=false):(c.lifted==P.liftsFinal)=true:=by
 unfold Program.liftsFinal Program.headLifts
 rw[h,hc]
 kernel_rfl
theorem eof{P:Program}{r:List (List Char)}(h:behindMainWord (wordsSigns P.initOrder.toList)=cs [99,117,116]::r)(h1:P.laysLater=false)(h2:P.bearsReflect=false)(h3:P.doorFits []=true):P.mayEnter=true:=by
 have hs:stripLifts liftWords (cs [99,117,116]::r)=([],cs [99,117,116]::r):=by kernel_rfl
 unfold Program.mayEnter
 rw[h]
 simp only[hs,h1,h2,h3]
 rfl
theorem Oa{P:Program}{s:List Char}{t:String}(h:∃r,wordsSigns P.initOrder.toList=cs [104,97,114,110,101,115,115]::s::r)(hs:isSumSigns s=true)(ht:t.toList=s):P.mainIs=some (true,t.toList):=by
 obtain⟨r,h⟩:=h
 unfold Program.mainIs
 rw[h,ht]
 show(if _ then _ else _)=_
 rw[if_neg (by simp[hs])]
 kernel_rfl
theorem mH:joinedFacts Tryz.pinned.checked.prog 3 Tryz.f3 (Rows.OpenSpec.upto Rows.transferTruthSpec).bare Rows.transferTruthUptoRow=true:=by
 obtain⟨r,hw⟩:=hdw
 have hb:=bof hw (by kernel_rfl)
 unfold joinedFacts
 repeat' with_reducible refine Bool.and_eq_true_iff.mpr ⟨?_,?_⟩
 all_goals first
  |with_reducible exact eof hb (by as_aux_lemma=>kernel_rfl) (by as_aux_lemma=>kernel_rfl) (by as_aux_lemma=>kernel_rfl)
  |with_reducible exact mof hb (by as_aux_lemma=>kernel_rfl)
  |with_reducible exact lof hb (by as_aux_lemma=>kernel_rfl)
  |as_aux_lemma=>kernel_rfl
theorem kX:Rows.TransferTruthUptoSaid:=
 OpenClaim.holds_of_cond 3 Tryz.f3 rfl rfl rfl rfl rfl rfl rfl ⟨rfl,rfl,rfl,rfl,rfl⟩ rfl rfl rfl rfl rfl (by as_aux_lemma=>kernel_rfl) Tryz.func3
  mH
  (of_decide_eq_true (by as_aux_lemma=>kernel_rfl)) (by unfold Func.isWrapper;first|(rw[if_pos (by decide+kernel)];kernel_rfl)|(rw[if_neg (by decide+kernel)];exact⟨rfl,rfl⟩))
  (fun os started H enc _ F=>by rw[OpenClaim.pre_eq_preRow];exact jU os started H enc F)
theorem Oc(f:FuncId)(fn:Func)(hf:Tryz.pinned.checked.prog.funcNamed "glosswright/glosswrightlaw8.TransferTruth" =some f)(hfn:Tryz.pinned.checked.prog.funcs[f]? =some fn):
 false=Tryz.pinned.checked.prog.looks []∧∀(j:Nat) t,fn.params[j]? =some t→Tryz.pinned.checked.prog.wantsStandIn t=false:=by
 obtain rfl:f=3:=Option.some.inj ((show Tryz.prog.funcNamed "glosswright/glosswrightlaw8.TransferTruth" =some 3 by kernel_rfl).symm.trans hf) |>.symm
 obtain rfl:fn=Tryz.f3:=(Option.some.inj (Tryz.func3.symm.trans hfn)).symm
 refine⟨by kernel_rfl,fun j t ht=>?_⟩
 rw[Tryz.params3]at ht
 have hm:t∈ [25,3,9,29]:=by simpa using Array.mem_of_getElem? ht
 have hall:([25,3,9,29].all fun u=> !Tryz.prog.wantsStandIn u)=true:=by kernel_rfl
 exact(show Tryz.prog.wantsStandIn t=false by simpa using List.all_eq_true.1 hall t hm)
theorem transferTruth_holds:Rows.TransferTruthUptoCardSaid:=
 Claim7.holds_tied_plain_at .later [] _ _ _ _ kX (fun _ h=>by cases h) (by as_aux_lemma=>kernel_rfl) (fun _ h=>by cases h) transferTruthUpto_row_tie rfl ⟨rfl,rfl⟩ (Oa (hdw.elim fun _ h=>⟨_,h⟩) (by as_aux_lemma=>kernel_rfl) String.toList_ofList) rfl Oc (by as_aux_lemma=>kernel_rfl)
end Go.Proofs.YtanlbioodbnakaaGreatDoor
