/-
 transferValidateMatchesSpec answers true at every input of bulk at most 1048576 that reads as data, and leaves its arguments as they were; the listed tables are tied to the program's text.
-/
import Derived.Test.YtfacbpehlibilaaGreatDoorTVShut
import Derived.Test.YtfacbpehlibilaaGreatDoorTVLaw5
import Derived.Test.YtfacbpehlibilaaGreatDoorTVWalk13
set_option linter.unusedVariables false
set_option linter.unusedSimpArgs false
namespace Go.Proofs.YtfacbpehlibilaaGreatDoor
open Go Go.Am Go.ChangeShapes Go.WideShapes Go.RowKit
set_option maxRecDepth 100000 in
theorem u1w(H:Type)(enc:TypeId×Value→H)(W:World)(base:Nat)(args:Array Value)(ds gs:List (DataW H))(before:List MemPlace)
 (hval:∀(j:Nat) t v,Tryz.f3.params[j]? =some t→args[j]? =some v→Value.okWide Tryz.prog W .any base t v)
 (hW:DataW.Whole enc Tryz.prog Tryz.f3.params.toList Rows.transferValidateMatchesSpecSpec.vars false W args.toList ds gs before) (hL:laidMetH Tryz.prog Rows.transferValidateMatchesSpecUptoRow.laid W)
 (hk:Rows.uptoSmall H (ds++gs)=true):
 Calls Tryz.prog 3 args W fun e W'=>∃v,e= .returned v∧Rows.transferValidateMatchesSpecSpec.post enc Tryz.prog Tryz.f3 false true false false W args v W':=by
 have hW':=hW
 obtain⟨p,q,hA0,hV,rfl,hfz,hnd⟩:=hW
 have hA:DataW.TrodAll enc Tryz.prog W 0 (fun _=>true) true Tryz.f3.params.toList args.toList ds p:=hA0
 rw[Tryz.params3]at hA hval
 obtain⟨v0,vs0,d0,ds0,p0,q0,hargs,rfl,rfl,h0,r0⟩:=trodAll_cons hA
 obtain⟨rfl,rfl,rfl⟩:=trodAll_nil r0
 obtain rfl:args= #[v0]:=by cases args;simp_all
 obtain⟨rfl,rfl⟩:=trodVars_none hV
 have hb:Rows.uptoBulkAll [d0]≤1048576:=of_decide_eq_true hk
 obtain⟨a0,l0,k0,rfl⟩:=okWide_slice Tryz.underlying22 (hval 0 22 v0 rfl rfl)
 obtain⟨n0,h0⟩:=h0
 obtain⟨g0,rg0,x0⟩:=(show Opens enc Tryz.prog W 22 _ _ n0 from((u2Q (b:=216) Tryz.underlying22 w4z (by decide) (by decide) (by decide) (fun v=>by first|rfl|(cases v;rfl)) (x7S enc W n0)).le (Nat.le_succ _))) n0 (Nat.le_refl _) _ _ h0 (Nat.le_trans (w0I (List.mem_cons_self ..)) hb)
 obtain⟨r,hr,N,hN⟩:=u9p x0.2
 have hm:=hN N (Nat.le_refl _)
 subst hr
 have hp:=r9O N g0 true hm []
 have hcall:=hp.2 W (fun _=>none) #[.slice a0 l0 k0] ⟨fun o ob h=>by simp at h,fun o o' ob ob' blk b b' h=>by simp at h⟩ (w4A (show laidMet Tryz.prog Rows.transferValidateMatchesSpecUptoRow.laid W from hL) (by simp[Rows.transferValidateMatchesSpecUptoRow])) rfl (fun j hj=>by
  have hj3:j<1:=hj
  match j,hj3 with
  |0,_=>exact .tr (rg0.2 0 (by simp)))
 refine(hcall.calls (by unfold u3o;rw[Tryz.func3];kernel_rfl)).mono fun e W' ⟨v,d,st',μ',he,⟨hd,hst⟩,hs,step,hv⟩=>?_
 subst he;subst hd;subst hst
 have u1v:∀b,b<W.heap.size→W'.heap[b]? =W.heap[b]? :=fun b hb=>step.imm b hb w0J
 obtain rfl:v= .bool true:=u3Y hv
 have hlt:=hW'.lt
 simp only[List.append_nil]at hW' hlt
 refine⟨_,rfl,x0q (pa:=p0++[]) (pv:=[]) hW' (fun _ _ _=>trodAll_cons_mk (shut_bool Tryz.underlying4 _) trodAll_mk0) (fun sp hsp=>?_) (fun _ _=>rfl) (by simp)
  (w4B step.os step.output u1v) (fun x hx=>?_) (ok_one (by kernel_rfl) rfl (okWide_bool_mk Tryz.underlying4 _))⟩
 ·have h3:=w7b (w':=W') hA0 (fun x hx=>w4C u1v x (hA0.lt x hx))
  exact DataW.TrodAll.respare x4S w8x (fun t ht=>by
   rw[Tryz.params3]at ht
   have hts:Tryz.prog.types.size=221:=by kernel_rfl
   have:t=22:=by simpa using ht
   show t<Tryz.prog.types.size
   rw[hts]
   rw[this];decide) h3 (fun x hx=>hsp x (by simpa using hx))
 ·unfold World.frozen?
  rw[u1v _ hx]
def r6r:Array Value:= #[.slice none 0 0]
set_option maxRecDepth 100000 in
theorem u1x(os:Os):laidMet Tryz.prog Rows.transferValidateMatchesSpecUptoRow.laid ((w0K os).forCall (fun _ _=>0) ⟨#[],r6r,[]⟩).memory:=
 laidMet_of_run' 8 (by kernel_rfl) (by kernel_rfl)
theorem u2y(os:Os){H:Type}(enc:TypeId×Value→H):∃places,DataW.whole enc Tryz.prog ((w0K os).forCall (fun _ _=>0) ⟨#[],r6r,[]⟩).memory Tryz.f3.params.toList Rows.transferValidateMatchesSpecSpec.vars false r6r.toList 8=some ([.nil],[],places):=
 ⟨[],by kernel_rfl⟩
set_option maxRecDepth 100000 in
theorem u1a(os:Os)(started:os.Started)(H:Type)(enc:TypeId×Value→H)(F:Stop.Interp):
 ReturnsInHanded {} Tryz.checked os 3 .any ((Rows.OpenSpec.upto Rows.transferValidateMatchesSpecSpec).preRow enc Tryz.prog Tryz.f3 Rows.transferValidateMatchesSpecUptoRow.domain false Rows.transferValidateMatchesSpecUptoRow.laid) (((Rows.OpenSpec.upto Rows.transferValidateMatchesSpecSpec).at F).post enc Tryz.prog Tryz.f3 false true false false):=by
 obtain⟨places,hx⟩:=u2y os enc
 refine returnsInHanded_of_row (C:=Tryz.checked) (s:=Rows.OpenSpec.upto Rows.transferValidateMatchesSpecSpec) y2s started (by kernel_rfl) Tryz.func3
  (witness_row_at (enc:=enc) (C:=Tryz.checked) false (w0K os) r6r rfl (by kernel_rfl) (by kernel_rfl) (by kernel_rfl)
   (OpenSpec.preRow_of_cond 8 hx (by kernel_rfl) (fun k hk=>by cases hk;kernel_rfl) (by kernel_rfl) (u1x os))) ?_
 intro W base args ds gs before hval hW _ y0k _ hL _ _
 exact u1w H enc W base args ds gs before hval hW hL (y0k _ rfl)
set_option maxHeartbeats 20000000
set_option maxRecDepth 100000
theorem x4T(w r:List Char)(h:w.all (· != Char.ofNat 32)=true):wordsSigns (w++Char.ofNat 32::r)=w::wordsSigns r:=by
 induction w with
 |nil=>simp[wordsSigns]
 |cons c w ih=>
  simp only[List.all_cons,Bool.and_eq_true,bne_iff_ne,ne_eq]at h
  rw[List.cons_append,wordsSigns,ih h.2]
  ·exact fun e=>h.1 e
abbrev cs(l:List Nat):List Char:=l.map Char.ofNat
theorem hdw:∃r,wordsSigns Tryz.pinned.checked.prog.initOrder.toList=cs [104,97,114,110,101,115,115]::cs [51,99,53,52,51,55,49,98,55,99,100,48,53,54,52,98,51,102,57,52,101,50,101,57,56,100,50,48,57,57,51,97,52,51,54,53,101,53,54,57,55,57,56,101,98,54,49,48,49,54,56,102,48,102,55,99,97,54,54,101,55,49,49,53]::cs [99,117,116]::r:=by
 exact⟨_,(congrArg wordsSigns (String.toList_ofList:Tryz.pinned.checked.prog.initOrder.toList=_)).trans ((x4T (cs [104,97,114,110,101,115,115]) _ rfl).trans (congrArg _ ((x4T (cs [51,99,53,52,51,55,49,98,55,99,100,48,53,54,52,98,51,102,57,52,101,50,101,57,56,100,50,48,57,57,51,97,52,51,54,53,101,53,54,57,55,57,56,101,98,54,49,48,49,54,56,102,48,102,55,99,97,54,54,101,55,49,49,53]) _ rfl).trans (congrArg _ (x4T (cs [99,117,116]) _ rfl)))))⟩
theorem bof{l x s r}(h:l=x::s::r)(hx:((x== "harness".toList||x== "ownmain".toList)&&isSumSigns s)=true):behindMainWord l=r:=by
 subst h
 show(if _ then _ else _)=_
 rw[if_pos hx]
theorem mof{P:Program}{c:OpenClaim}{r:List (List Char)}(h:behindMainWord (wordsSigns P.initOrder.toList)=cs [99,117,116]::r)(hc:c.make= .cut):(P.make==some c.make)=true:=by
 unfold Program.make
 rw[h,hc]
 kernel_rfl
theorem lof{P:Program}{c:OpenClaim}{r:List (List Char)}(h:behindMainWord (wordsSigns P.initOrder.toList)=cs [99,117,116]::r)(hc:c.lifted=false):(c.lifted==P.liftsFinal)=true:=by
 unfold Program.liftsFinal Program.headLifts
 rw[h,hc]
 kernel_rfl
theorem eof{P:Program}{r:List (List Char)}(h:behindMainWord (wordsSigns P.initOrder.toList)=cs [99,117,116]::r)(h1:P.laysLater=false)(h2:P.bearsReflect=false)(h3:P.doorFits []=true):P.mayEnter=true:=by
 have hs:stripLifts liftWords (cs [99,117,116]::r)=([],cs [99,117,116]::r):=by kernel_rfl
 unfold Program.mayEnter
 rw[h]
 simp only[hs,h1,h2,h3]
 rfl
theorem x7T{P:Program}{s:List Char}{t:String}(h:∃r,wordsSigns P.initOrder.toList=cs [104,97,114,110,101,115,115]::s::r)(hs:isSumSigns s=true)(ht:t.toList=s):P.mainIs=some (true,t.toList):=by
 obtain⟨r,h⟩:=h
 unfold Program.mainIs
 rw[h,ht]
 show(if _ then _ else _)=_
 rw[if_neg (by simp[hs])]
 kernel_rfl
theorem u2m:joinedFacts Tryz.pinned.checked.prog 3 Tryz.f3 (Rows.OpenSpec.upto Rows.transferValidateMatchesSpecSpec).bare Rows.transferValidateMatchesSpecUptoRow=true:=by
 obtain⟨r,hw⟩:=hdw
 have hb:=bof hw (by kernel_rfl)
 unfold joinedFacts
 repeat' with_reducible refine Bool.and_eq_true_iff.mpr ⟨?_,?_⟩
 all_goals first
  |with_reducible exact eof hb (by as_aux_lemma=>kernel_rfl) (by as_aux_lemma=>kernel_rfl) (by as_aux_lemma=>kernel_rfl)
  |with_reducible exact mof hb (by as_aux_lemma=>kernel_rfl)
  |with_reducible exact lof hb (by as_aux_lemma=>kernel_rfl)
  |as_aux_lemma=>kernel_rfl
theorem u1y:Rows.TransferValidateMatchesSpecUptoSaid:=
 OpenClaim.holds_of_cond 3 Tryz.f3 rfl rfl rfl rfl rfl rfl rfl ⟨rfl,rfl,rfl,rfl,rfl⟩ rfl rfl rfl rfl rfl (by as_aux_lemma=>kernel_rfl) Tryz.func3
  u2m
  (of_decide_eq_true (by as_aux_lemma=>kernel_rfl)) (by unfold Func.isWrapper;first|(rw[if_pos (by decide+kernel)];kernel_rfl)|(rw[if_neg (by decide+kernel)];exact⟨rfl,rfl⟩))
  (fun os started H enc _ F=>by rw[OpenClaim.pre_eq_preRow];exact u1a os started H enc F)
theorem x7U(f:FuncId)(fn:Func)(hf:Tryz.pinned.checked.prog.funcNamed "glosswright/glosswrightlaw8.TransferValidateMatchesSpec" =some f)(hfn:Tryz.pinned.checked.prog.funcs[f]? =some fn):
 false=Tryz.pinned.checked.prog.looks []∧∀(j:Nat) t,fn.params[j]? =some t→Tryz.pinned.checked.prog.wantsStandIn t=false:=by
 obtain rfl:f=3:=Option.some.inj ((show Tryz.prog.funcNamed "glosswright/glosswrightlaw8.TransferValidateMatchesSpec" =some 3 by kernel_rfl).symm.trans hf) |>.symm
 obtain rfl:fn=Tryz.f3:=(Option.some.inj (Tryz.func3.symm.trans hfn)).symm
 refine⟨by kernel_rfl,fun j t ht=>?_⟩
 rw[Tryz.params3]at ht
 have hm:t∈ [22]:=by simpa using Array.mem_of_getElem? ht
 have hall:([22].all fun u=> !Tryz.prog.wantsStandIn u)=true:=by kernel_rfl
 exact(show Tryz.prog.wantsStandIn t=false by simpa using List.all_eq_true.1 hall t hm)
theorem transferValidateMatchesSpec_holds:Rows.TransferValidateMatchesSpecUptoCardSaid:=
 Claim7.holds_tied_plain_at .later [] _ _ _ _ u1y (fun _ h=>by cases h) (by as_aux_lemma=>kernel_rfl) (fun _ h=>by cases h) transferValidateMatchesSpecUpto_row_tie rfl ⟨rfl,rfl⟩ (x7T (hdw.elim fun _ h=>⟨_,h⟩) (by as_aux_lemma=>kernel_rfl) String.toList_ofList) rfl x7U (by as_aux_lemma=>kernel_rfl)
end Go.Proofs.YtfacbpehlibilaaGreatDoor
