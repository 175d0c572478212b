/-
  formqueryText answers true at every input of bulk at most 1048576 that reads as data, and leaves its arguments as they were; the listed tables are tied to the program's text.
-/
import Derived.Test.YtahjhbkhcaphgaaGreatDoorFTShut
import Derived.Test.YtahjhbkhcaphgaaGreatDoorFTLaw4
import Derived.Test.YtahjhbkhcaphgaaGreatDoorFTWalk9
set_option linter.unusedVariables false
set_option linter.unusedSimpArgs false
namespace Go.Proofs.YtahjhbkhcaphgaaGreatDoor
open Go Go.Am Go.ChangeShapes Go.WideShapes Go.RowKit
theorem KP{W:World}{c:Array Value}{cs:List D}(h:Rd W (Value.agg c).cells.toList cs):VR W (fun _=>none) [] (.agg c) (.agg cs):=by
 refine .agg c _ ?_ (fun i hi=>.tr ?_)
 ·simpa[Value.cells]using h.1
 ·have h5:TR W zF (c.getD i undef) (cs[i]):=by simpa[Value.cells,Array.getD_eq_getD_getElem?, List.getD_eq_getElem?_getD]using h.2 i hi
  exact h5
set_option maxRecDepth 100000 in
theorem iy(H:Type)(enc:TypeId×Value→H)(W:World)(base:Nat)(args:Array Value)(ds gs:List (DataW H))(before:List MemPlace)
 (hval:∀(j:Nat) t v,Tryz.f3.params[j]? =some t→args[j]? =some v→Value.okWide Tryz.prog W .any base t v)
 (hW:DataW.Whole enc Tryz.prog Tryz.f3.params.toList Rows.formqueryTextSpec.vars false W args.toList ds gs before) (hL:laidMetH Tryz.prog Rows.formqueryTextUptoRow.laid W) (hsh:W.ShapedOpen Tryz.prog)
 (hk:Rows.uptoSmall H (ds++gs)=true):
 Calls Tryz.prog 3 args W fun e W'=>∃v,e= .returned v∧Rows.formqueryTextSpec.post enc Tryz.prog Tryz.f3 false true false false W args v W':=by
 have hW':=hW
 obtain⟨p,q,hA0,hV,rfl,hfz,hnd⟩:=hW
 have hA:DataW.TrodAll enc Tryz.prog W 0 (fun _=>true) true Tryz.f3.params.toList args.toList ds p:=hA0
 rw[Tryz.params3]at hA hval
 obtain⟨v0,vs0,d0,ds0,p0,q0,hargs,rfl,rfl,h0,r0⟩:=trodAll_cons hA
 obtain⟨v1,vs1,d1,ds1,p1,q1,rfl,rfl,rfl,h1,r1⟩:=trodAll_cons r0
 obtain⟨rfl,rfl,rfl⟩:=trodAll_nil r1
 obtain rfl:args= #[v0,v1]:=by cases args;simp_all
 obtain⟨rfl,rfl⟩:=trodVars_none hV
 have hb:Rows.uptoBulkAll [d0,d1]≤1048576:=of_decide_eq_true hk
 obtain⟨c0,rfl,hc0⟩:=okWide_struct Tryz.underlying27 (hval 0 27 v0 rfl rfl)
 obtain⟨s1,rfl⟩:=okWide_string Tryz.underlying9 (hval 1 9 v1 rfl rfl)
 obtain⟨n0,h0⟩:=h0
 obtain⟨g0,rg0,x0⟩:=Ic enc W n0 n0 (Nat.le_refl _) _ _ h0 (Nat.le_trans (kQ (List.mem_cons_self ..)) hb)
 obtain⟨n1,h1⟩:=h1
 obtain⟨g1,rg1,x1⟩:=(show Opens enc Tryz.prog W 9 _ _ n1 from gu Tryz.underlying9) n1 (Nat.le_refl _) _ _ h1 (Nat.le_trans (kQ (List.mem_cons_of_mem _ (List.mem_cons_self ..))) hb)
 obtain⟨r,hr,N,hN⟩:=oE x0 g1
 have hm:=hN N (Nat.le_refl _)
 subst hr
 have hp:=cB N g0 g1 true hm []
 have gN:=hp.2 W (fun _=>none) #[.agg c0,.string s1] ⟨fun o ob h=>by simp at h,fun o o' ob ob' blk b b' h=>by simp at h⟩ (sR (show laidMet Tryz.prog Rows.formqueryTextUptoRow.laid W from hL) hsh (by simp[Rows.formqueryTextUptoRow])) rfl (fun j hj=>by
  have hj3:j<2:=hj
  match j,hj3 with
  |0,_=>
   have h6:=KP rg0
   first|exact h6|(rw[w8.W6]at h6;exact h6)
  |1,_=>exact .tr (rg1.2 0 (by simp)))
 refine(gN.calls (by unfold fB;rw[Tryz.func3];kernel_rfl)).mono fun e W' ⟨v,d,st',μ',he,⟨hd,hst⟩,hs,step,hv⟩=>?_
 subst he;subst hd;subst hst
 have iD:∀b,b<W.heap.size→W'.heap[b]? =W.heap[b]? :=fun b hb=>step.imm b hb kR
 obtain rfl:v= .bool true:=eE hv
 have hlt:=hW'.lt
 simp only[List.append_nil]at hW' hlt
 refine⟨_,rfl,zG (pa:=p0++(p1++[])) (pv:=[]) hW' (fun _ _ _=>trodAll_cons_mk (shut_bool Tryz.underlying4 _) trodAll_mk0) (fun sp hsp=>?_) (fun _ _=>rfl) (by simp)
  (sS step.os step.output iD) (fun x hx=>?_) (ok_one (by kernel_rfl) rfl (okWide_bool_mk Tryz.underlying4 _))⟩
 ·have h3:=vT (w':=W') hA0 (fun x hx=>sT iD x (hA0.lt x hx))
  exact DataW.TrodAll.respare EM xB (fun t ht=>by
   rw[Tryz.params3]at ht
   have hts:Tryz.prog.types.size=198:=by kernel_rfl
   have:t=27∨t=9:=by simpa using ht
   show t<Tryz.prog.types.size
   rw[hts]
   rcases this with h|h<;>(rw[h];decide)) h3 (fun x hx=>hsp x (by simpa using hx))
 ·unfold World.frozen?
  rw[iD _ hx]
def Y4:Array Value:= #[.agg #[.int .i64 0,.string ⟨#[]⟩,.slice none 0 0,.slice none 0 0,.slice none 0 0,.slice none 0 0,.slice none 0 0],.string ⟨#[]⟩]
set_option maxRecDepth 100000 in
theorem iz(os:Os):laidMet Tryz.prog Rows.formqueryTextUptoRow.laid ((oF os).forCall (fun _ _=>0) ⟨#[],Y4,[]⟩).memory:=
 laidMet_of_run' 8 (by kernel_rfl) (by kernel_rfl)
theorem jQ(os:Os){H:Type}(enc:TypeId×Value→H):∃places,DataW.whole enc Tryz.prog ((oF os).forCall (fun _ _=>0) ⟨#[],Y4,[]⟩).memory Tryz.f3.params.toList Rows.formqueryTextSpec.vars false Y4.toList 8=some ([.agg [.agg [.lit (.int .i64 0),.lit (.string []),.nil,.nil],.nil,.nil,.nil],.lit (.string [])],[],places):=
 ⟨[],by kernel_rfl⟩
set_option maxRecDepth 100000 in
theorem gy(os:Os)(started:os.Started)(H:Type)(enc:TypeId×Value→H)(F:Stop.Interp):
 ReturnsInHanded {} Tryz.checked os 3 .any ((Rows.OpenSpec.upto Rows.formqueryTextSpec).preRow enc Tryz.prog Tryz.f3 Rows.formqueryTextUptoRow.domain false Rows.formqueryTextUptoRow.laid) (((Rows.OpenSpec.upto Rows.formqueryTextSpec).at F).post enc Tryz.prog Tryz.f3 false true false false):=by
 obtain⟨places,hx⟩:=jQ os enc
 refine returnsInHanded_of_row (C:=Tryz.checked) (s:=Rows.OpenSpec.upto Rows.formqueryTextSpec) MR started (by kernel_rfl) Tryz.func3
  (witness_row_at (enc:=enc) (C:=Tryz.checked) false (oF os) Y4 rfl (by kernel_rfl) (by kernel_rfl) (by kernel_rfl)
   (OpenSpec.preRow_of_cond 8 hx (by kernel_rfl) (fun k hk=>by cases hk;kernel_rfl) (by kernel_rfl) (iz os))) ?_
 intro W base args ds gs before hval hW _ KQ _ hL hsh _
 exact iy H enc W base args ds gs before hval hW hL hsh (KQ _ rfl)
set_option maxHeartbeats 20000000
set_option maxRecDepth 100000
theorem EN(w r:List Char)(h:w.all (· != Char.ofNat 32)=true):wordsSigns (w++Char.ofNat 32::r)=w::wordsSigns r:=by
 induction w with
 |nil=>simp[wordsSigns]
 |cons c w ih=>
  simp only[List.all_cons,Bool.and_eq_true,bne_iff_ne,ne_eq]at h
  rw[List.cons_append,wordsSigns,ih h.2]
  ·exact fun e=>h.1 e
abbrev cs(l:List Nat):List Char:=l.map Char.ofNat
theorem hdw:∃r,wordsSigns Tryz.pinned.checked.prog.initOrder.toList=cs [104,97,114,110,101,115,115]::cs [99,98,52,101,53,99,56,102,49,52,48,99,55,101,97,51,53,51,49,99,102,102,50,55,57,97,97,57,101,57,100,49,102,55,50,100,57,50,56,102,54,48,101,56,56,102,50,51,48,102,57,97,53,49,100,97,98,52,99,98,102,55,57,51]::cs [99,117,116]::r:=by
 exact⟨_,(congrArg wordsSigns (String.toList_ofList:Tryz.pinned.checked.prog.initOrder.toList=_)).trans ((EN (cs [104,97,114,110,101,115,115]) _ rfl).trans (congrArg _ ((EN (cs [99,98,52,101,53,99,56,102,49,52,48,99,55,101,97,51,53,51,49,99,102,102,50,55,57,97,97,57,101,57,100,49,102,55,50,100,57,50,56,102,54,48,101,56,56,102,50,51,48,102,57,97,53,49,100,97,98,52,99,98,102,55,57,51]) _ rfl).trans (congrArg _ (EN (cs [99,117,116]) _ rfl)))))⟩
theorem bof{l x s r}(h:l=x::s::r)(hx:((x== "harness".toList||x== "ownmain".toList)&&isSumSigns s)=true):behindMainWord l=r:=by
 subst h
 show(if _ then _ else _)=_
 rw[if_pos hx]
theorem mof{P:Program}{c:OpenClaim}{r:List (List Char)}(h:behindMainWord (wordsSigns P.initOrder.toList)=cs [99,117,116]::r)(hc:c.make= .cut):(P.make==some c.make)=true:=by
 unfold Program.make
 rw[h,hc]
 kernel_rfl
theorem lof{P:Program}{c:OpenClaim}{r:List (List Char)}(h:behindMainWord (wordsSigns P.initOrder.toList)=cs [99,117,116]::r)(hc:c.lifted=false):(c.lifted==P.liftsFinal)=true:=by
 unfold Program.liftsFinal Program.headLifts
 rw[h,hc]
 kernel_rfl
theorem eof{P:Program}{r:List (List Char)}(h:behindMainWord (wordsSigns P.initOrder.toList)=cs [99,117,116]::r)(h1:P.laysLater=false)(h2:P.bearsReflect=false)(h3:P.doorFits []=true):P.mayEnter=true:=by
 have hs:stripLifts liftWords (cs [99,117,116]::r)=([],cs [99,117,116]::r):=by kernel_rfl
 unfold Program.mayEnter
 rw[h]
 simp only[hs,h1,h2,h3]
 rfl
theorem Ie{P:Program}{s:List Char}{t:String}(h:∃r,wordsSigns P.initOrder.toList=cs [104,97,114,110,101,115,115]::s::r)(hs:isSumSigns s=true)(ht:t.toList=s):P.mainIs=some (true,t.toList):=by
 obtain⟨r,h⟩:=h
 unfold Program.mainIs
 rw[h,ht]
 show(if _ then _ else _)=_
 rw[if_neg (by simp[hs])]
 kernel_rfl
theorem jq:joinedFacts Tryz.pinned.checked.prog 3 Tryz.f3 (Rows.OpenSpec.upto Rows.formqueryTextSpec).bare Rows.formqueryTextUptoRow=true:=by
 obtain⟨r,hw⟩:=hdw
 have hb:=bof hw (by kernel_rfl)
 unfold joinedFacts
 repeat' with_reducible refine Bool.and_eq_true_iff.mpr ⟨?_,?_⟩
 all_goals first
  |with_reducible exact eof hb (by as_aux_lemma=>kernel_rfl) (by as_aux_lemma=>kernel_rfl) (by as_aux_lemma=>kernel_rfl)
  |with_reducible exact mof hb (by as_aux_lemma=>kernel_rfl)
  |with_reducible exact lof hb (by as_aux_lemma=>kernel_rfl)
  |as_aux_lemma=>kernel_rfl
theorem iA:Rows.FormqueryTextUptoSaid:=
 OpenClaim.holds_of_cond 3 Tryz.f3 rfl rfl rfl rfl rfl rfl rfl ⟨rfl,rfl,rfl,rfl,rfl⟩ rfl rfl rfl rfl rfl (by as_aux_lemma=>kernel_rfl) Tryz.func3
  jq
  (of_decide_eq_true (by as_aux_lemma=>kernel_rfl)) (by unfold Func.isWrapper;first|(rw[if_pos (by decide+kernel)];kernel_rfl)|(rw[if_neg (by decide+kernel)];exact⟨rfl,rfl⟩))
  (fun os started H enc _ F=>by rw[OpenClaim.pre_eq_preRow];exact gy os started H enc F)
theorem Ig(f:FuncId)(fn:Func)(hf:Tryz.pinned.checked.prog.funcNamed "glosswright/glosswrightlaw8.FormqueryText" =some f)(hfn:Tryz.pinned.checked.prog.funcs[f]? =some fn):
 false=Tryz.pinned.checked.prog.looks []∧∀(j:Nat) t,fn.params[j]? =some t→Tryz.pinned.checked.prog.wantsStandIn t=false:=by
 obtain rfl:f=3:=Option.some.inj ((show Tryz.prog.funcNamed "glosswright/glosswrightlaw8.FormqueryText" =some 3 by kernel_rfl).symm.trans hf) |>.symm
 obtain rfl:fn=Tryz.f3:=(Option.some.inj (Tryz.func3.symm.trans hfn)).symm
 refine⟨by kernel_rfl,fun j t ht=>?_⟩
 rw[Tryz.params3]at ht
 have hm:t∈ [27,9]:=by simpa using Array.mem_of_getElem? ht
 have hall:([27,9].all fun u=> !Tryz.prog.wantsStandIn u)=true:=by kernel_rfl
 exact(show Tryz.prog.wantsStandIn t=false by simpa using List.all_eq_true.1 hall t hm)
theorem formqueryText_holds:Rows.FormqueryTextUptoCardSaid:=
 Claim7.holds_tied_plain_at .later [] _ _ _ _ iA (fun _ h=>by cases h) (by as_aux_lemma=>kernel_rfl) (fun _ h=>by cases h) formqueryTextUpto_row_tie rfl ⟨rfl,rfl⟩ (Ie (hdw.elim fun _ h=>⟨_,h⟩) (by as_aux_lemma=>kernel_rfl) String.toList_ofList) rfl Ig (by as_aux_lemma=>kernel_rfl)
end Go.Proofs.YtahjhbkhcaphgaaGreatDoor
