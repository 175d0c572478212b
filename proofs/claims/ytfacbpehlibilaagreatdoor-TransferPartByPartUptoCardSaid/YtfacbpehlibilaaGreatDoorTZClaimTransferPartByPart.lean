/-
  transferPartByPart answers true at every input of bulk at most 1048576 that reads as data, and leaves its arguments as they were; the listed tables are tied to the program's text.
-/
import Derived.Test.YtfacbpehlibilaaGreatDoorTZShut
import Derived.Test.YtfacbpehlibilaaGreatDoorTZWalk10
import Derived.Test.YtfacbpehlibilaaGreatDoorTZLaw5
set_option linter.unusedVariables false
set_option linter.unusedSimpArgs false
namespace Go.Proofs.YtfacbpehlibilaaGreatDoor
open Go Go.Am Go.ChangeShapes Go.WideShapes Go.RowKit
theorem Fw{W:World}{c:Array Value}{cs:List D}(h:Rd W (Value.agg c).cells.toList cs):VR W (fun _=>none) [] (.agg c) (.agg cs):=by
 refine .agg c _ ?_ (fun i hi=>.tr ?_)
 ·simpa[Value.cells]using h.1
 ·have h5:TR W Ah (c.getD i undef) (cs[i]):=by simpa[Value.cells,Array.getD_eq_getD_getElem?, List.getD_eq_getElem?_getD]using h.2 i hi
  exact h5
set_option maxRecDepth 100000 in
theorem iz(H:Type)(enc:TypeId×Value→H)(W:World)(base:Nat)(args:Array Value)(ds gs:List (DataW H))(before:List MemPlace)
 (hval:∀(j:Nat) t v,Tryz.f7.params[j]? =some t→args[j]? =some v→Value.okWide Tryz.prog W .any base t v)
 (hW:DataW.Whole enc Tryz.prog Tryz.f7.params.toList Rows.transferPartByPartSpec.vars false W args.toList ds gs before) (hL:laidMetH Tryz.prog Rows.transferPartByPartUptoRow.laid W)
 (hk:Rows.uptoSmall H (ds++gs)=true):
 Calls Tryz.prog 7 args W fun e W'=>∃v,e= .returned v∧Rows.transferPartByPartSpec.post enc Tryz.prog Tryz.f7 false true false false W args v W':=by
 have hW':=hW
 obtain⟨p,q,hA0,hV,rfl,hfz,hnd⟩:=hW
 have hA:DataW.TrodAll enc Tryz.prog W 0 (fun _=>true) true Tryz.f7.params.toList args.toList ds p:=hA0
 rw[Tryz.params7]at hA hval
 obtain⟨v0,vs0,d0,ds0,p0,q0,hargs,rfl,rfl,h0,r0⟩:=trodAll_cons hA
 obtain⟨v1,vs1,d1,ds1,p1,q1,rfl,rfl,rfl,h1,r1⟩:=trodAll_cons r0
 obtain⟨v2,vs2,d2,ds2,p2,q2,rfl,rfl,rfl,h2,r2⟩:=trodAll_cons r1
 obtain⟨v3,vs3,d3,ds3,p3,q3,rfl,rfl,rfl,h3,r3⟩:=trodAll_cons r2
 obtain⟨rfl,rfl,rfl⟩:=trodAll_nil r3
 obtain rfl:args= #[v0,v1,v2,v3]:=by cases args;simp_all
 obtain⟨rfl,rfl⟩:=trodVars_none hV
 have hb:Rows.uptoBulkAll [d0,d1,d2,d3]≤1048576:=of_decide_eq_true hk
 obtain⟨a0,l0,k0,rfl⟩:=okWide_slice Tryz.underlying22 (hval 0 22 v0 rfl rfl)
 obtain⟨g1,rfl⟩:=okWide_int Tryz.underlying3 (hval 1 3 v1 rfl rfl)
 obtain⟨c2,rfl,hc2⟩:=okWide_struct Tryz.underlying31 (hval 2 31 v2 rfl rfl)
 obtain⟨c3,rfl,hc3⟩:=okWide_struct Tryz.underlying31 (hval 3 31 v3 rfl rfl)
 obtain⟨n0,h0⟩:=h0
 obtain⟨g0,rg0,x0⟩:=(show Opens enc Tryz.prog W 22 _ _ n0 from((fL (b:=216) Tryz.underlying22 yq (by decide) (by decide) (by decide) (fun v=>by first|rfl|(cases v;rfl)) (Od enc W n0)).le (Nat.le_succ _))) n0 (Nat.le_refl _) _ _ h0 (Nat.le_trans (cU (List.mem_cons_self ..)) hb)
 obtain⟨n2,h2⟩:=h2
 obtain⟨g2,rg2,x2⟩:=yr enc W n2 n2 (Nat.le_refl _) _ _ h2 (Nat.le_trans (cU (List.mem_cons_of_mem _ (List.mem_cons_of_mem _ (List.mem_cons_self ..)))) hb)
 obtain⟨n3,h3⟩:=h3
 obtain⟨g3,rg3,x3⟩:=yr enc W n3 n3 (Nat.le_refl _) _ _ h3 (Nat.le_trans (cU (List.mem_cons_of_mem _ (List.mem_cons_of_mem _ (List.mem_cons_of_mem _ (List.mem_cons_self ..))))) hb)
 obtain⟨r,hr,N,hN⟩:=Aj x0.1 x0.2 g1 g2 g3
 have hm:=hN N (Nat.le_refl _)
 subst hr
 have hp:=cV N g0 g1 g2 g3 true hm []
 have iq:=hp.2 W (fun _=>none) #[.slice a0 l0 k0,.int .i64 g1,.agg c2,.agg c3] ⟨fun o ob h=>by simp at h,fun o o' ob ob' blk b b' h=>by simp at h⟩ (kQ (show laidMet Tryz.prog Rows.transferPartByPartUptoRow.laid W from hL) (by simp[Rows.transferPartByPartUptoRow])) rfl (fun j hj=>by
  have hj3:j<4:=hj
  match j,hj3 with
  |0,_=>exact .tr (rg0.2 0 (by simp))
  |1,_=>exact .tr (.int .i64 g1)
  |2,_=>
   have h6:=Fw rg2
   first|exact h6|(rw[u5.L9]at h6;exact h6)
  |3,_=>
   have h6:=Fw rg3
   first|exact h6|(rw[u5.L9]at h6;exact h6))
 refine(iq.calls (by unfold fZ;rw[Tryz.func7];kernel_rfl)).mono fun e W' ⟨v,d,st',μ',he,⟨hd,hst⟩,hs,step,hv⟩=>?_
 subst he;subst hd;subst hst
 have cO:∀b,b<W.heap.size→W'.heap[b]? =W.heap[b]? :=fun b hb=>step.imm b hb kR
 obtain rfl:v= .bool true:=fH hv
 have hlt:=hW'.lt
 simp only[List.append_nil]at hW' hlt
 refine⟨_,rfl,sD (pa:=p0++(p1++(p2++(p3++[])))) (pv:=[]) hW' (fun _ _ _=>trodAll_cons_mk (shut_bool Tryz.underlying4 _) trodAll_mk0) (fun sp hsp=>?_) (fun _ _=>rfl) (by simp)
  (kS step.os step.output cO) (fun x hx=>?_) (ok_one (by kernel_rfl) rfl (okWide_bool_mk Tryz.underlying4 _))⟩
 ·have h3:=qG (w':=W') hA0 (fun x hx=>kT cO x (hA0.lt x hx))
  exact DataW.TrodAll.respare Ai oV (fun t ht=>by
   rw[Tryz.params7]at ht
   have hts:Tryz.prog.types.size=221:=by kernel_rfl
   have:t=22∨t=3∨t=31∨t=31:=by simpa using ht
   show t<Tryz.prog.types.size
   rw[hts]
   rcases this with h|h|h|h<;>(rw[h];decide)) h3 (fun x hx=>hsp x (by simpa using hx))
 ·unfold World.frozen?
  rw[cO _ hx]
def R0:Array Value:= #[.slice none 0 0,.int .i64 0,.agg #[.int .i64 0,.string ⟨#[]⟩,.slice none 0 0,.slice none 0 0],.agg #[.int .i64 0,.string ⟨#[]⟩,.slice none 0 0,.slice none 0 0]]
set_option maxRecDepth 100000 in
theorem iA(os:Os):laidMet Tryz.prog Rows.transferPartByPartUptoRow.laid ((eK os).forCall (fun _ _=>0) ⟨#[],R0,[]⟩).memory:=
 laidMet_of_run' 8 (by kernel_rfl) (by kernel_rfl)
theorem jI(os:Os){H:Type}(enc:TypeId×Value→H):∃places,DataW.whole enc Tryz.prog ((eK os).forCall (fun _ _=>0) ⟨#[],R0,[]⟩).memory Tryz.f7.params.toList Rows.transferPartByPartSpec.vars false R0.toList 8=some ([.nil,.lit (.int .i64 0),.agg [.lit (.int .i64 0),.lit (.string []),.nil,.nil],.agg [.lit (.int .i64 0),.lit (.string []),.nil,.nil]],[],places):=
 ⟨[],by kernel_rfl⟩
set_option maxRecDepth 100000 in
theorem gJ(os:Os)(started:os.Started)(H:Type)(enc:TypeId×Value→H)(F:Stop.Interp):
 ReturnsInHanded {} Tryz.checked os 7 .any ((Rows.OpenSpec.upto Rows.transferPartByPartSpec).preRow enc Tryz.prog Tryz.f7 Rows.transferPartByPartUptoRow.domain false Rows.transferPartByPartUptoRow.laid) (((Rows.OpenSpec.upto Rows.transferPartByPartSpec).at F).post enc Tryz.prog Tryz.f7 false true false false):=by
 obtain⟨places,hx⟩:=jI os enc
 refine returnsInHanded_of_row (C:=Tryz.checked) (s:=Rows.OpenSpec.upto Rows.transferPartByPartSpec) QG started (by kernel_rfl) Tryz.func7
  (witness_row_at (enc:=enc) (C:=Tryz.checked) false (eK os) R0 rfl (by kernel_rfl) (by kernel_rfl) (by kernel_rfl)
   (OpenSpec.preRow_of_cond 8 hx (by kernel_rfl) (fun k hk=>by cases hk;kernel_rfl) (by kernel_rfl) (iA os))) ?_
 intro W base args ds gs before hval hW _ Fx _ hL _ _
 exact iz H enc W base args ds gs before hval hW hL (Fx _ rfl)
set_option maxHeartbeats 20000000
set_option maxRecDepth 100000
theorem sF(w r:List Char)(h:w.all (· != Char.ofNat 32)=true):wordsSigns (w++Char.ofNat 32::r)=w::wordsSigns r:=by
 induction w with
 |nil=>simp[wordsSigns]
 |cons c w ih=>
  simp only[List.all_cons,Bool.and_eq_true,bne_iff_ne,ne_eq]at h
  rw[List.cons_append,wordsSigns,ih h.2]
  ·exact fun e=>h.1 e
abbrev cs(l:List Nat):List Char:=l.map Char.ofNat
theorem hdw:∃r,wordsSigns Tryz.pinned.checked.prog.initOrder.toList=cs [104,97,114,110,101,115,115]::cs [51,99,53,52,51,55,49,98,55,99,100,48,53,54,52,98,51,102,57,52,101,50,101,57,56,100,50,48,57,57,51,97,52,51,54,53,101,53,54,57,55,57,56,101,98,54,49,48,49,54,56,102,48,102,55,99,97,54,54,101,55,49,49,53]::cs [99,117,116]::r:=by
 exact⟨_,(congrArg wordsSigns (String.toList_ofList:Tryz.pinned.checked.prog.initOrder.toList=_)).trans ((sF (cs [104,97,114,110,101,115,115]) _ rfl).trans (congrArg _ ((sF (cs [51,99,53,52,51,55,49,98,55,99,100,48,53,54,52,98,51,102,57,52,101,50,101,57,56,100,50,48,57,57,51,97,52,51,54,53,101,53,54,57,55,57,56,101,98,54,49,48,49,54,56,102,48,102,55,99,97,54,54,101,55,49,49,53]) _ rfl).trans (congrArg _ (sF (cs [99,117,116]) _ rfl)))))⟩
theorem bof{l x s r}(h:l=x::s::r)(hx:((x== "harness".toList||x== "ownmain".toList)&&isSumSigns s)=true):behindMainWord l=r:=by
 subst h
 show(if _ then _ else _)=_
 rw[if_pos hx]
theorem mof{P:Program}{c:OpenClaim}{r:List (List Char)}(h:behindMainWord (wordsSigns P.initOrder.toList)=cs [99,117,116]::r)(hc:c.make= .cut):(P.make==some c.make)=true:=by
 unfold Program.make
 rw[h,hc]
 kernel_rfl
theorem lof{P:Program}{c:OpenClaim}{r:List (List Char)}(h:behindMainWord (wordsSigns P.initOrder.toList)=cs [99,117,116]::r)(hc:c.lifted=false):(c.lifted==P.liftsFinal)=true:=by
 unfold Program.liftsFinal Program.headLifts
 rw[h,hc]
 kernel_rfl
theorem eof{P:Program}{r:List (List Char)}(h:behindMainWord (wordsSigns P.initOrder.toList)=cs [99,117,116]::r)(h1:P.laysLater=false)(h2:P.bearsReflect=false)(h3:P.doorFits []=true):P.mayEnter=true:=by
 have hs:stripLifts liftWords (cs [99,117,116]::r)=([],cs [99,117,116]::r):=by kernel_rfl
 unfold Program.mayEnter
 rw[h]
 simp only[hs,h1,h2,h3]
 rfl
theorem yp{P:Program}{s:List Char}{t:String}(h:∃r,wordsSigns P.initOrder.toList=cs [104,97,114,110,101,115,115]::s::r)(hs:isSumSigns s=true)(ht:t.toList=s):P.mainIs=some (true,t.toList):=by
 obtain⟨r,h⟩:=h
 unfold Program.mainIs
 rw[h,ht]
 show(if _ then _ else _)=_
 rw[if_neg (by simp[hs])]
 kernel_rfl
theorem jr:joinedFacts Tryz.pinned.checked.prog 7 Tryz.f7 (Rows.OpenSpec.upto Rows.transferPartByPartSpec).bare Rows.transferPartByPartUptoRow=true:=by
 obtain⟨r,hw⟩:=hdw
 have hb:=bof hw (by kernel_rfl)
 unfold joinedFacts
 repeat' with_reducible refine Bool.and_eq_true_iff.mpr ⟨?_,?_⟩
 all_goals first
  |with_reducible exact eof hb (by as_aux_lemma=>kernel_rfl) (by as_aux_lemma=>kernel_rfl) (by as_aux_lemma=>kernel_rfl)
  |with_reducible exact mof hb (by as_aux_lemma=>kernel_rfl)
  |with_reducible exact lof hb (by as_aux_lemma=>kernel_rfl)
  |as_aux_lemma=>kernel_rfl
theorem iB:Rows.TransferPartByPartUptoSaid:=
 OpenClaim.holds_of_cond 7 Tryz.f7 rfl rfl rfl rfl rfl rfl rfl ⟨rfl,rfl,rfl,rfl,rfl⟩ rfl rfl rfl rfl rfl (by as_aux_lemma=>kernel_rfl) Tryz.func7
  jr
  (of_decide_eq_true (by as_aux_lemma=>kernel_rfl)) (by unfold Func.isWrapper;first|(rw[if_pos (by decide+kernel)];kernel_rfl)|(rw[if_neg (by decide+kernel)];exact⟨rfl,rfl⟩))
  (fun os started H enc _ F=>by rw[OpenClaim.pre_eq_preRow];exact gJ os started H enc F)
theorem Oe(f:FuncId)(fn:Func)(hf:Tryz.pinned.checked.prog.funcNamed "glosswright/glosswrightlaw8.TransferPartByPart" =some f)(hfn:Tryz.pinned.checked.prog.funcs[f]? =some fn):
 false=Tryz.pinned.checked.prog.looks []∧∀(j:Nat) t,fn.params[j]? =some t→Tryz.pinned.checked.prog.wantsStandIn t=false:=by
 obtain rfl:f=7:=Option.some.inj ((show Tryz.prog.funcNamed "glosswright/glosswrightlaw8.TransferPartByPart" =some 7 by kernel_rfl).symm.trans hf) |>.symm
 obtain rfl:fn=Tryz.f7:=(Option.some.inj (Tryz.func7.symm.trans hfn)).symm
 refine⟨by kernel_rfl,fun j t ht=>?_⟩
 rw[Tryz.params7]at ht
 have hm:t∈ [22,3,31,31]:=by simpa using Array.mem_of_getElem? ht
 have hall:([22,3,31,31].all fun u=> !Tryz.prog.wantsStandIn u)=true:=by kernel_rfl
 exact(show Tryz.prog.wantsStandIn t=false by simpa using List.all_eq_true.1 hall t hm)
theorem transferPartByPart_holds:Rows.TransferPartByPartUptoCardSaid:=
 Claim7.holds_tied_plain_at .later [] _ _ _ _ iB (fun _ h=>by cases h) (by as_aux_lemma=>kernel_rfl) (fun _ h=>by cases h) transferPartByPartUpto_row_tie rfl ⟨rfl,rfl⟩ (yp (hdw.elim fun _ h=>⟨_,h⟩) (by as_aux_lemma=>kernel_rfl) String.toList_ofList) rfl Oe (by as_aux_lemma=>kernel_rfl)
end Go.Proofs.YtfacbpehlibilaaGreatDoor
