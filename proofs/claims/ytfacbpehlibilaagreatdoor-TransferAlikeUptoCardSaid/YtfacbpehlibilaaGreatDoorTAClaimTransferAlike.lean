/-
  transferAlike answers true at every input of bulk at most 1048576 that reads as data, and leaves its arguments as they were; the listed tables are tied to the program's text.
-/
import Derived.Test.YtfacbpehlibilaaGreatDoorTAShut
import Derived.Test.YtfacbpehlibilaaGreatDoorTALaw6
import Derived.Test.YtfacbpehlibilaaGreatDoorTAWalk9
set_option linter.unusedVariables false
set_option linter.unusedSimpArgs false
namespace Go.Proofs.YtfacbpehlibilaaGreatDoor
open Go Go.Am Go.ChangeShapes Go.WideShapes Go.RowKit
theorem r0b{W:World}{c:Array Value}{cs:List D}(h:Rd W (Value.agg c).cells.toList cs):VR W (fun _=>none) [] (.agg c) (.agg cs):=by
 refine .agg c _ ?_ (fun i hi=>.tr ?_)
 ·simpa[Value.cells]using h.1
 ·have h5:TR W p0e (c.getD i undef) (cs[i]):=by simpa[Value.cells,Array.getD_eq_getD_getElem?, List.getD_eq_getElem?_getD]using h.2 i hi
  exact h5
set_option maxRecDepth 100000 in
theorem d5y(H:Type)(enc:TypeId×Value→H)(W:World)(base:Nat)(args:Array Value)(ds gs:List (DataW H))(before:List MemPlace)
 (hval:∀(j:Nat) t v,Tryz.f6.params[j]? =some t→args[j]? =some v→Value.okWide Tryz.prog W .any base t v)
 (hW:DataW.Whole enc Tryz.prog Tryz.f6.params.toList Rows.transferAlikeSpec.vars false W args.toList ds gs before) (hL:laidMetH Tryz.prog Rows.transferAlikeUptoRow.laid W)
 (hk:Rows.uptoSmall H (ds++gs)=true):
 Calls Tryz.prog 6 args W fun e W'=>∃v,e= .returned v∧Rows.transferAlikeSpec.post enc Tryz.prog Tryz.f6 false true false false W args v W':=by
 have hW':=hW
 obtain⟨p,q,hA0,hV,rfl,hfz,hnd⟩:=hW
 have hA:DataW.TrodAll enc Tryz.prog W 0 (fun _=>true) true Tryz.f6.params.toList args.toList ds p:=hA0
 rw[Tryz.params6]at hA hval
 obtain⟨v0,vs0,d0,ds0,p0,q0,hargs,rfl,rfl,h0,r0⟩:=trodAll_cons hA
 obtain⟨v1,vs1,d1,ds1,p1,q1,rfl,rfl,rfl,h1,r1⟩:=trodAll_cons r0
 obtain⟨rfl,rfl,rfl⟩:=trodAll_nil r1
 obtain rfl:args= #[v0,v1]:=by cases args;simp_all
 obtain⟨rfl,rfl⟩:=trodVars_none hV
 have hb:Rows.uptoBulkAll [d0,d1]≤1048576:=of_decide_eq_true hk
 obtain⟨a0,l0,k0,rfl⟩:=okWide_slice Tryz.underlying22 (hval 0 22 v0 rfl rfl)
 obtain⟨c1,rfl,hc1⟩:=okWide_struct Tryz.underlying31 (hval 1 31 v1 rfl rfl)
 obtain⟨n0,h0⟩:=h0
 obtain⟨g0,rg0,x0⟩:=(show Opens enc Tryz.prog W 22 _ _ n0 from((d3d (b:=216) Tryz.underlying22 i3W (by decide) (by decide) (by decide) (fun v=>by first|rfl|(cases v;rfl)) (p7P enc W n0)).le (Nat.le_succ _))) n0 (Nat.le_refl _) _ _ h0 (Nat.le_trans (d7A (List.mem_cons_self ..)) hb)
 obtain⟨n1,h1⟩:=h1
 obtain⟨g1,rg1,x1⟩:=p0f enc W n1 n1 (Nat.le_refl _) _ _ h1 (Nat.le_trans (d7A (List.mem_cons_of_mem _ (List.mem_cons_self ..))) hb)
 obtain⟨r,hr,N,hN⟩:=p0g x0.2 g1
 have hm:=hN N (Nat.le_refl _)
 subst hr
 have hp:=d3e N g0 g1 true hm []
 have hcall:=hp.2 W (fun _=>none) #[.slice a0 l0 k0,.agg c1] ⟨fun o ob h=>by simp at h,fun o o' ob ob' blk b b' h=>by simp at h⟩ (i3X (show laidMet Tryz.prog Rows.transferAlikeUptoRow.laid W from hL) (by simp[Rows.transferAlikeUptoRow])) rfl (fun j hj=>by
  have hj3:j<2:=hj
  match j,hj3 with
  |0,_=>exact .tr (rg0.2 0 (by simp))
  |1,_=>
   have h6:=r0b rg1
   first|exact h6|(rw[Lr.Yw]at h6;exact h6))
 refine(hcall.calls (by unfold d3p;rw[Tryz.func6];kernel_rfl)).mono fun e W' ⟨v,d,st',μ',he,⟨hd,hst⟩,hs,step,hv⟩=>?_
 subst he;subst hd;subst hst
 have d1X:∀b,b<W.heap.size→W'.heap[b]? =W.heap[b]? :=fun b hb=>step.imm b hb i0m
 obtain rfl:v= .bool true:=d3P hv
 have hlt:=hW'.lt
 simp only[List.append_nil]at hW' hlt
 refine⟨_,rfl,p0h (pa:=p0++(p1++[])) (pv:=[]) hW' (fun _ _ _=>trodAll_cons_mk (shut_bool Tryz.underlying4 _) trodAll_mk0) (fun sp hsp=>?_) (fun _ _=>rfl) (by simp)
  (i3Y step.os step.output d1X) (fun x hx=>?_) (ok_one (by kernel_rfl) rfl (okWide_bool_mk Tryz.underlying4 _))⟩
 ·have h3:=i6J (w':=W') hA0 (fun x hx=>i3Z d1X x (hA0.lt x hx))
  exact DataW.TrodAll.respare p4P i8f (fun t ht=>by
   rw[Tryz.params6]at ht
   have hts:Tryz.prog.types.size=221:=by kernel_rfl
   have:t=22∨t=31:=by simpa using ht
   show t<Tryz.prog.types.size
   rw[hts]
   rcases this with h|h<;>(rw[h];decide)) h3 (fun x hx=>hsp x (by simpa using hx))
 ·unfold World.frozen?
  rw[d1X _ hx]
def d0w:Array Value:= #[.slice none 0 0,.agg #[.int .i64 0,.string ⟨#[]⟩,.slice none 0 0,.slice none 0 0]]
set_option maxRecDepth 100000 in
theorem d5z(os:Os):laidMet Tryz.prog Rows.transferAlikeUptoRow.laid ((i0n os).forCall (fun _ _=>0) ⟨#[],d0w,[]⟩).memory:=
 laidMet_of_run' 8 (by kernel_rfl) (by kernel_rfl)
theorem d6T(os:Os){H:Type}(enc:TypeId×Value→H):∃places,DataW.whole enc Tryz.prog ((i0n os).forCall (fun _ _=>0) ⟨#[],d0w,[]⟩).memory Tryz.f6.params.toList Rows.transferAlikeSpec.vars false d0w.toList 8=some ([.nil,.agg [.lit (.int .i64 0),.lit (.string []),.nil,.nil]],[],places):=
 ⟨[],by kernel_rfl⟩
set_option maxRecDepth 100000 in
theorem d4U(os:Os)(started:os.Started)(H:Type)(enc:TypeId×Value→H)(F:Stop.Interp):
 ReturnsInHanded {} Tryz.checked os 6 .any ((Rows.OpenSpec.upto Rows.transferAlikeSpec).preRow enc Tryz.prog Tryz.f6 Rows.transferAlikeUptoRow.domain false Rows.transferAlikeUptoRow.laid) (((Rows.OpenSpec.upto Rows.transferAlikeSpec).at F).post enc Tryz.prog Tryz.f6 false true false false):=by
 obtain⟨places,hx⟩:=d6T os enc
 refine returnsInHanded_of_row (C:=Tryz.checked) (s:=Rows.OpenSpec.upto Rows.transferAlikeSpec) r2p started (by kernel_rfl) Tryz.func6
  (witness_row_at (enc:=enc) (C:=Tryz.checked) false (i0n os) d0w rfl (by kernel_rfl) (by kernel_rfl) (by kernel_rfl)
   (OpenSpec.preRow_of_cond 8 hx (by kernel_rfl) (fun k hk=>by cases hk;kernel_rfl) (by kernel_rfl) (d5z os))) ?_
 intro W base args ds gs before hval hW _ r0c _ hL _ _
 exact d5y H enc W base args ds gs before hval hW hL (r0c _ rfl)
set_option maxHeartbeats 20000000
set_option maxRecDepth 100000
theorem p4Q(w r:List Char)(h:w.all (· != Char.ofNat 32)=true):wordsSigns (w++Char.ofNat 32::r)=w::wordsSigns r:=by
 induction w with
 |nil=>simp[wordsSigns]
 |cons c w ih=>
  simp only[List.all_cons,Bool.and_eq_true,bne_iff_ne,ne_eq]at h
  rw[List.cons_append,wordsSigns,ih h.2]
  ·exact fun e=>h.1 e
abbrev cs(l:List Nat):List Char:=l.map Char.ofNat
theorem hdw:∃r,wordsSigns Tryz.pinned.checked.prog.initOrder.toList=cs [104,97,114,110,101,115,115]::cs [51,99,53,52,51,55,49,98,55,99,100,48,53,54,52,98,51,102,57,52,101,50,101,57,56,100,50,48,57,57,51,97,52,51,54,53,101,53,54,57,55,57,56,101,98,54,49,48,49,54,56,102,48,102,55,99,97,54,54,101,55,49,49,53]::cs [99,117,116]::r:=by
 exact⟨_,(congrArg wordsSigns (String.toList_ofList:Tryz.pinned.checked.prog.initOrder.toList=_)).trans ((p4Q (cs [104,97,114,110,101,115,115]) _ rfl).trans (congrArg _ ((p4Q (cs [51,99,53,52,51,55,49,98,55,99,100,48,53,54,52,98,51,102,57,52,101,50,101,57,56,100,50,48,57,57,51,97,52,51,54,53,101,53,54,57,55,57,56,101,98,54,49,48,49,54,56,102,48,102,55,99,97,54,54,101,55,49,49,53]) _ rfl).trans (congrArg _ (p4Q (cs [99,117,116]) _ rfl)))))⟩
theorem bof{l x s r}(h:l=x::s::r)(hx:((x== "harness".toList||x== "ownmain".toList)&&isSumSigns s)=true):behindMainWord l=r:=by
 subst h
 show(if _ then _ else _)=_
 rw[if_pos hx]
theorem mof{P:Program}{c:OpenClaim}{r:List (List Char)}(h:behindMainWord (wordsSigns P.initOrder.toList)=cs [99,117,116]::r)(hc:c.make= .cut):(P.make==some c.make)=true:=by
 unfold Program.make
 rw[h,hc]
 kernel_rfl
theorem lof{P:Program}{c:OpenClaim}{r:List (List Char)}(h:behindMainWord (wordsSigns P.initOrder.toList)=cs [99,117,116]::r)(hc:c.lifted=false):(c.lifted==P.liftsFinal)=true:=by
 unfold Program.liftsFinal Program.headLifts
 rw[h,hc]
 kernel_rfl
theorem eof{P:Program}{r:List (List Char)}(h:behindMainWord (wordsSigns P.initOrder.toList)=cs [99,117,116]::r)(h1:P.laysLater=false)(h2:P.bearsReflect=false)(h3:P.doorFits []=true):P.mayEnter=true:=by
 have hs:stripLifts liftWords (cs [99,117,116]::r)=([],cs [99,117,116]::r):=by kernel_rfl
 unfold Program.mayEnter
 rw[h]
 simp only[hs,h1,h2,h3]
 rfl
theorem p7Q{P:Program}{s:List Char}{t:String}(h:∃r,wordsSigns P.initOrder.toList=cs [104,97,114,110,101,115,115]::s::r)(hs:isSumSigns s=true)(ht:t.toList=s):P.mainIs=some (true,t.toList):=by
 obtain⟨r,h⟩:=h
 unfold Program.mainIs
 rw[h,ht]
 show(if _ then _ else _)=_
 rw[if_neg (by simp[hs])]
 kernel_rfl
theorem d6q:joinedFacts Tryz.pinned.checked.prog 6 Tryz.f6 (Rows.OpenSpec.upto Rows.transferAlikeSpec).bare Rows.transferAlikeUptoRow=true:=by
 obtain⟨r,hw⟩:=hdw
 have hb:=bof hw (by kernel_rfl)
 unfold joinedFacts
 repeat' with_reducible refine Bool.and_eq_true_iff.mpr ⟨?_,?_⟩
 all_goals first
  |with_reducible exact eof hb (by as_aux_lemma=>kernel_rfl) (by as_aux_lemma=>kernel_rfl) (by as_aux_lemma=>kernel_rfl)
  |with_reducible exact mof hb (by as_aux_lemma=>kernel_rfl)
  |with_reducible exact lof hb (by as_aux_lemma=>kernel_rfl)
  |as_aux_lemma=>kernel_rfl
theorem d5A:Rows.TransferAlikeUptoSaid:=
 OpenClaim.holds_of_cond 6 Tryz.f6 rfl rfl rfl rfl rfl rfl rfl ⟨rfl,rfl,rfl,rfl,rfl⟩ rfl rfl rfl rfl rfl (by as_aux_lemma=>kernel_rfl) Tryz.func6
  d6q
  (of_decide_eq_true (by as_aux_lemma=>kernel_rfl)) (by unfold Func.isWrapper;first|(rw[if_pos (by decide+kernel)];kernel_rfl)|(rw[if_neg (by decide+kernel)];exact⟨rfl,rfl⟩))
  (fun os started H enc _ F=>by rw[OpenClaim.pre_eq_preRow];exact d4U os started H enc F)
theorem p7R(f:FuncId)(fn:Func)(hf:Tryz.pinned.checked.prog.funcNamed "glosswright/glosswrightlaw8.TransferAlike" =some f)(hfn:Tryz.pinned.checked.prog.funcs[f]? =some fn):
 false=Tryz.pinned.checked.prog.looks []∧∀(j:Nat) t,fn.params[j]? =some t→Tryz.pinned.checked.prog.wantsStandIn t=false:=by
 obtain rfl:f=6:=Option.some.inj ((show Tryz.prog.funcNamed "glosswright/glosswrightlaw8.TransferAlike" =some 6 by kernel_rfl).symm.trans hf) |>.symm
 obtain rfl:fn=Tryz.f6:=(Option.some.inj (Tryz.func6.symm.trans hfn)).symm
 refine⟨by kernel_rfl,fun j t ht=>?_⟩
 rw[Tryz.params6]at ht
 have hm:t∈ [22,31]:=by simpa using Array.mem_of_getElem? ht
 have hall:([22,31].all fun u=> !Tryz.prog.wantsStandIn u)=true:=by kernel_rfl
 exact(show Tryz.prog.wantsStandIn t=false by simpa using List.all_eq_true.1 hall t hm)
theorem transferAlike_holds:Rows.TransferAlikeUptoCardSaid:=
 Claim7.holds_tied_plain_at .later [] _ _ _ _ d5A (fun _ h=>by cases h) (by as_aux_lemma=>kernel_rfl) (fun _ h=>by cases h) transferAlikeUpto_row_tie rfl ⟨rfl,rfl⟩ (p7Q (hdw.elim fun _ h=>⟨_,h⟩) (by as_aux_lemma=>kernel_rfl) String.toList_ofList) rfl p7R (by as_aux_lemma=>kernel_rfl)
end Go.Proofs.YtfacbpehlibilaaGreatDoor
