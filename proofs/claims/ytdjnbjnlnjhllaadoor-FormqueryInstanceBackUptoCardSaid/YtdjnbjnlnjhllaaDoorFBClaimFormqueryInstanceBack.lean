/-
  formqueryInstanceBack answers true at every input of bulk at most 1048576 that reads as data, and leaves its arguments as they were; the listed tables are tied to the program's text.
-/
import Derived.Test.YtdjnbjnlnjhllaaDoorFBShut
import Derived.Test.YtdjnbjnlnjhllaaDoorFBLaw4
import Derived.Test.YtdjnbjnlnjhllaaDoorFBWalk8
set_option linter.unusedVariables false
set_option linter.unusedSimpArgs false
namespace Go.Proofs.YtdjnbjnlnjhllaaDoor
open Go Go.Am Go.ChangeShapes Go.WideShapes Go.RowKit
theorem i2P{W:World}{c:Array Value}{cs:List D}(h:Rd W (Value.agg c).cells.toList cs):VR W (fun _=>none) [] (.agg c) (.agg cs):=by
 refine .agg c _ ?_ (fun i hi=>.tr ?_)
 ·simpa[Value.cells]using h.1
 ·have h5:TR W d6K (c.getD i undef) (cs[i]):=by simpa[Value.cells,Array.getD_eq_getD_getElem?, List.getD_eq_getElem?_getD]using h.2 i hi
  exact h5
set_option maxRecDepth 100000 in
theorem Sg(H:Type)(enc:TypeId×Value→H)(W:World)(base:Nat)(args:Array Value)(ds gs:List (DataW H))(before:List MemPlace)
 (hval:∀(j:Nat) t v,Tryd.f6.params[j]? =some t→args[j]? =some v→Value.okWide Tryd.prog W .any base t v)
 (hW:DataW.Whole enc Tryd.prog Tryd.f6.params.toList Rows.formqueryInstanceBackSpec.vars false W args.toList ds gs before) (hL:laidMetH Tryd.prog Rows.formqueryInstanceBackUptoRow.laid W)
 (hk:Rows.uptoSmall H (ds++gs)=true):
 Calls Tryd.prog 6 args W fun e W'=>∃v,e= .returned v∧Rows.formqueryInstanceBackSpec.post enc Tryd.prog Tryd.f6 false true false false W args v W':=by
 have hW':=hW
 obtain⟨p,q,hA0,hV,rfl,hfz,hnd⟩:=hW
 have hA:DataW.TrodAll enc Tryd.prog W 0 (fun _=>true) true Tryd.f6.params.toList args.toList ds p:=hA0
 rw[Tryd.params6]at hA hval
 obtain⟨v0,vs0,d0,ds0,p0,q0,hargs,rfl,rfl,h0,r0⟩:=trodAll_cons hA
 obtain⟨v1,vs1,d1,ds1,p1,q1,rfl,rfl,rfl,h1,r1⟩:=trodAll_cons r0
 obtain⟨rfl,rfl,rfl⟩:=trodAll_nil r1
 obtain rfl:args= #[v0,v1]:=by cases args;simp_all
 obtain⟨rfl,rfl⟩:=trodVars_none hV
 have hb:Rows.uptoBulkAll [d0,d1]≤1048576:=of_decide_eq_true hk
 obtain⟨c0,rfl,hc0⟩:=okWide_struct Tryd.underlying27 (hval 0 27 v0 rfl rfl)
 obtain⟨c1,rfl,hc1⟩:=okWide_struct Tryd.underlying25 (hval 1 25 v1 rfl rfl)
 obtain⟨n0,h0⟩:=h0
 obtain⟨g0,rg0,x0⟩:=i2Q enc W n0 n0 (Nat.le_refl _) _ _ h0 (Nat.le_trans (WV (List.mem_cons_self ..)) hb)
 obtain⟨n1,h1⟩:=h1
 obtain⟨g1,rg1,x1⟩:=d9B enc W n1 n1 (Nat.le_refl _) _ _ h1 (Nat.le_trans (WV (List.mem_cons_of_mem _ (List.mem_cons_self ..))) hb)
 obtain⟨r,hr,N,hN⟩:=d3l x0 g1
 have hm:=hN N (Nat.le_refl _)
 subst hr
 have hp:=Qn N g0 g1 true hm []
 have UZ:=hp.2 W (fun _=>none) #[.agg c0,.agg c1] ⟨fun o ob h=>by simp at h,fun o o' ob ob' blk b b' h=>by simp at h⟩ (d1X (show laidMet Tryd.prog Rows.formqueryInstanceBackUptoRow.laid W from hL) (by simp[Rows.formqueryInstanceBackUptoRow])) rfl (fun j hj=>by
  have hj3:j<2:=hj
  match j,hj3 with
  |0,_=>
   have h6:=i2P rg0
   first|exact h6|(rw[Mb.PA]at h6;exact h6)
  |1,_=>
   have h6:=i2P rg1
   first|exact h6|(rw[LZ.PA]at h6;exact h6))
 refine(UZ.calls (by unfold Wc;rw[Tryd.func6];kernel_rfl)).mono fun e W' ⟨v,d,st',μ',he,⟨hd,hst⟩,hs,step,hv⟩=>?_
 subst he;subst hd;subst hst
 have UQ:∀b,b<W.heap.size→W'.heap[b]? =W.heap[b]? :=fun b hb=>step.imm b hb Zj
 obtain rfl:v= .bool true:=SV hv
 have hlt:=hW'.lt
 simp only[List.append_nil]at hW' hlt
 refine⟨_,rfl,d6L (pa:=p0++(p1++[])) (pv:=[]) hW' (fun _ _ _=>trodAll_cons_mk (shut_bool Tryd.underlying4 _) trodAll_mk0) (fun sp hsp=>?_) (fun _ _=>rfl) (by simp)
  (d1Y step.os step.output UQ) (fun x hx=>?_) (ok_one (by kernel_rfl) rfl (okWide_bool_mk Tryd.underlying4 _))⟩
 ·have h3:=d4g (w':=W') hA0 (fun x hx=>d1Z UQ x (hA0.lt x hx))
  exact DataW.TrodAll.respare i0z d5a (fun t ht=>by
   rw[Tryd.params6]at ht
   have hts:Tryd.prog.types.size=155:=by kernel_rfl
   have:t=27∨t=25:=by simpa using ht
   show t<Tryd.prog.types.size
   rw[hts]
   rcases this with h|h<;>(rw[h];decide)) h3 (fun x hx=>hsp x (by simpa using hx))
 ·unfold World.frozen?
  rw[UQ _ hx]
def Nu:Array Value:= #[.agg #[.int .i64 0,.string ⟨#[]⟩,.slice none 0 0,.slice none 0 0,.slice none 0 0,.slice none 0 0,.slice none 0 0],.agg #[.int .i64 0,.string ⟨#[]⟩,.slice none 0 0,.slice none 0 0]]
set_option maxRecDepth 100000 in
theorem Sh(os:Os):laidMet Tryd.prog Rows.formqueryInstanceBackUptoRow.laid ((Zk os).forCall (fun _ _=>0) ⟨#[],Nu,[]⟩).memory:=
 laidMet_of_run' 8 (by kernel_rfl) (by kernel_rfl)
theorem Tg(os:Os){H:Type}(enc:TypeId×Value→H):∃places,DataW.whole enc Tryd.prog ((Zk os).forCall (fun _ _=>0) ⟨#[],Nu,[]⟩).memory Tryd.f6.params.toList Rows.formqueryInstanceBackSpec.vars false Nu.toList 8=some ([.agg [.agg [.lit (.int .i64 0),.lit (.string []),.nil,.nil],.nil,.nil,.nil],.agg [.lit (.int .i64 0),.lit (.string []),.nil,.nil]],[],places):=
 ⟨[],by kernel_rfl⟩
set_option maxRecDepth 100000 in
theorem RH(os:Os)(started:os.Started)(H:Type)(enc:TypeId×Value→H)(F:Stop.Interp):
 ReturnsInHanded {} Tryd.checked os 6 .any ((Rows.OpenSpec.upto Rows.formqueryInstanceBackSpec).preRow enc Tryd.prog Tryd.f6 Rows.formqueryInstanceBackUptoRow.domain false Rows.formqueryInstanceBackUptoRow.laid) (((Rows.OpenSpec.upto Rows.formqueryInstanceBackSpec).at F).post enc Tryd.prog Tryd.f6 false true false false):=by
 obtain⟨places,hx⟩:=Tg os enc
 refine returnsInHanded_of_row (C:=Tryd.checked) (s:=Rows.OpenSpec.upto Rows.formqueryInstanceBackSpec) i6I started (by kernel_rfl) Tryd.func6
  (witness_row_at (enc:=enc) (C:=Tryd.checked) false (Zk os) Nu rfl (by kernel_rfl) (by kernel_rfl) (by kernel_rfl)
   (OpenSpec.preRow_of_cond 8 hx (by kernel_rfl) (fun k hk=>by cases hk;kernel_rfl) (by kernel_rfl) (Sh os))) ?_
 intro W base args ds gs before hval hW _ i4O _ hL _ _
 exact Sg H enc W base args ds gs before hval hW hL (i4O _ rfl)
set_option maxHeartbeats 20000000
set_option maxRecDepth 100000
theorem i0A(w r:List Char)(h:w.all (· != Char.ofNat 32)=true):wordsSigns (w++Char.ofNat 32::r)=w::wordsSigns r:=by
 induction w with
 |nil=>simp[wordsSigns]
 |cons c w ih=>
  simp only[List.all_cons,Bool.and_eq_true,bne_iff_ne,ne_eq]at h
  rw[List.cons_append,wordsSigns,ih h.2]
  ·exact fun e=>h.1 e
abbrev cs(l:List Nat):List Char:=l.map Char.ofNat
theorem hdw:∃r,wordsSigns Tryd.pinned.checked.prog.initOrder.toList=cs [104,97,114,110,101,115,115]::cs [49,99,55,55,101,50,57,53,51,101,48,49,101,57,52,55,55,57,53,56,54,48,54,55,99,54,49,53,48,53,55,54,100,57,101,101,100,102,51,56,50,49,98,48,48,50,51,49,53,97,101,54,99,48,100,48,101,99,49,54,97,98,97,54]::cs [99,117,116]::r:=by
 exact⟨_,(congrArg wordsSigns (String.toList_ofList:Tryd.pinned.checked.prog.initOrder.toList=_)).trans ((i0A (cs [104,97,114,110,101,115,115]) _ rfl).trans (congrArg _ ((i0A (cs [49,99,55,55,101,50,57,53,51,101,48,49,101,57,52,55,55,57,53,56,54,48,54,55,99,54,49,53,48,53,55,54,100,57,101,101,100,102,51,56,50,49,98,48,48,50,51,49,53,97,101,54,99,48,100,48,101,99,49,54,97,98,97,54]) _ rfl).trans (congrArg _ (i0A (cs [99,117,116]) _ rfl)))))⟩
theorem bof{l x s r}(h:l=x::s::r)(hx:((x== "harness".toList||x== "ownmain".toList)&&isSumSigns s)=true):behindMainWord l=r:=by
 subst h
 show(if _ then _ else _)=_
 rw[if_pos hx]
theorem mof{P:Program}{c:OpenClaim}{r:List (List Char)}(h:behindMainWord (wordsSigns P.initOrder.toList)=cs [99,117,116]::r)(hc:c.make= .cut):(P.make==some c.make)=true:=by
 unfold Program.make
 rw[h,hc]
 kernel_rfl
theorem lof{P:Program}{c:OpenClaim}{r:List (List Char)}(h:behindMainWord (wordsSigns P.initOrder.toList)=cs [99,117,116]::r)(hc:c.lifted=false):(c.lifted==P.liftsFinal)=true:=by
 unfold Program.liftsFinal Program.headLifts
 rw[h,hc]
 kernel_rfl
theorem eof{P:Program}{r:List (List Char)}(h:behindMainWord (wordsSigns P.initOrder.toList)=cs [99,117,116]::r)(h1:P.laysLater=false)(h2:P.bearsReflect=false)(h3:P.doorFits []=true):P.mayEnter=true:=by
 have hs:stripLifts liftWords (cs [99,117,116]::r)=([],cs [99,117,116]::r):=by kernel_rfl
 unfold Program.mayEnter
 rw[h]
 simp only[hs,h1,h2,h3]
 rfl
theorem i2R{P:Program}{s:List Char}{t:String}(h:∃r,wordsSigns P.initOrder.toList=cs [104,97,114,110,101,115,115]::s::r)(hs:isSumSigns s=true)(ht:t.toList=s):P.mainIs=some (true,t.toList):=by
 obtain⟨r,h⟩:=h
 unfold Program.mainIs
 rw[h,ht]
 show(if _ then _ else _)=_
 rw[if_neg (by simp[hs])]
 kernel_rfl
theorem SC:joinedFacts Tryd.pinned.checked.prog 6 Tryd.f6 (Rows.OpenSpec.upto Rows.formqueryInstanceBackSpec).bare Rows.formqueryInstanceBackUptoRow=true:=by
 obtain⟨r,hw⟩:=hdw
 have hb:=bof hw (by kernel_rfl)
 unfold joinedFacts
 repeat' with_reducible refine Bool.and_eq_true_iff.mpr ⟨?_,?_⟩
 all_goals first
  |with_reducible exact eof hb (by as_aux_lemma=>kernel_rfl) (by as_aux_lemma=>kernel_rfl) (by as_aux_lemma=>kernel_rfl)
  |with_reducible exact mof hb (by as_aux_lemma=>kernel_rfl)
  |with_reducible exact lof hb (by as_aux_lemma=>kernel_rfl)
  |as_aux_lemma=>kernel_rfl
theorem Si:Rows.FormqueryInstanceBackUptoSaid:=
 OpenClaim.holds_of_cond 6 Tryd.f6 rfl rfl rfl rfl rfl rfl rfl ⟨rfl,rfl,rfl,rfl,rfl⟩ rfl rfl rfl rfl rfl (by as_aux_lemma=>kernel_rfl) Tryd.func6
  SC
  (of_decide_eq_true (by as_aux_lemma=>kernel_rfl)) (by unfold Func.isWrapper;first|(rw[if_pos (by decide+kernel)];kernel_rfl)|(rw[if_neg (by decide+kernel)];exact⟨rfl,rfl⟩))
  (fun os started H enc _ F=>by rw[OpenClaim.pre_eq_preRow];exact RH os started H enc F)
theorem i2S(f:FuncId)(fn:Func)(hf:Tryd.pinned.checked.prog.funcNamed "glosswright/glosswrightlaw8.FormqueryInstanceBack" =some f)(hfn:Tryd.pinned.checked.prog.funcs[f]? =some fn):
 false=Tryd.pinned.checked.prog.looks []∧∀(j:Nat) t,fn.params[j]? =some t→Tryd.pinned.checked.prog.wantsStandIn t=false:=by
 obtain rfl:f=6:=Option.some.inj ((show Tryd.prog.funcNamed "glosswright/glosswrightlaw8.FormqueryInstanceBack" =some 6 by kernel_rfl).symm.trans hf) |>.symm
 obtain rfl:fn=Tryd.f6:=(Option.some.inj (Tryd.func6.symm.trans hfn)).symm
 refine⟨by kernel_rfl,fun j t ht=>?_⟩
 rw[Tryd.params6]at ht
 have hm:t∈ [27,25]:=by simpa using Array.mem_of_getElem? ht
 have hall:([27,25].all fun u=> !Tryd.prog.wantsStandIn u)=true:=by kernel_rfl
 exact(show Tryd.prog.wantsStandIn t=false by simpa using List.all_eq_true.1 hall t hm)
theorem formqueryInstanceBack_holds:Rows.FormqueryInstanceBackUptoCardSaid:=
 Claim7.holds_tied_plain_at .later [] _ _ _ _ Si (fun _ h=>by cases h) (by as_aux_lemma=>kernel_rfl) (fun _ h=>by cases h) formqueryInstanceBackUpto_row_tie rfl ⟨rfl,rfl⟩ (i2R (hdw.elim fun _ h=>⟨_,h⟩) (by as_aux_lemma=>kernel_rfl) String.toList_ofList) rfl i2S (by as_aux_lemma=>kernel_rfl)
end Go.Proofs.YtdjnbjnlnjhllaaDoor
