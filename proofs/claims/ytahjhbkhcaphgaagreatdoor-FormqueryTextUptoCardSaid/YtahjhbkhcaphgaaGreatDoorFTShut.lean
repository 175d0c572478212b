import Derived.Test.YtahjhbkhcaphgaaGreatDoorCards
import Derived.Test.YtahjhbkhcaphgaaGreatDoorTie
import Derived.WalkKit
import Derived.ProofKit
import Derived.OpenShut
import Derived.ReadAgain
import Derived.ChangeBears
import Derived.Deep.DeepHandedRow
import Derived.Test.YtahjhbkhcaphgaaGreatDoorFTGlob
set_option linter.unusedVariables false
set_option linter.unusedSimpArgs false
namespace Go.Proofs.YtahjhbkhcaphgaaGreatDoor
open Go Go.Am Go.ChangeShapes Go.WideShapes Go.RowKit
theorem zG{H:Type}{enc:TypeId×Value→H}{P:Program}{f:Func}{s:ChangeSpec}{apart fresh handsOn again:Bool}{W W':World}{args:Array Value}{v:Value}{ds gs:List (DataW H)}{before pa pv:List MemPlace}
 (hW:DataW.Whole enc P f.params.toList s.vars apart W args.toList ds gs before)
 (hres:∀(b:Nat) (sp:Nat→Bool) (hd:Bool),DataW.TrodAll enc P W' b sp hd f.resultTypes.toList (v.resultList f.resultTypes.size) (s.fn H (ds++gs)).results [])
 (hargs:∀sp:Nat→Bool,(∀p∈before,sp p.block=true)→DataW.TrodAll enc P W' 0 sp true f.params.toList args.toList (s.fn H (ds++gs)).args pa)
 (Je:∀sp:Nat→Bool,(∀p∈before,sp p.block=true)→DataW.TrodVars enc P W' sp s.vars (s.fn H (ds++gs)).vars pv)
 (hps:before=pa++pv) (hk:W.keptBut W' (· ∈before)) (hfz:∀a:Addr,a.block<W.heap.size→W'.frozen? a=W.frozen? a)
 (hok:∀(j:Nat) (t:TypeId) (r:Value),f.resultTypes[j]? =some t→(v.resultList f.resultTypes.size)[j]? =some r→Value.okWide P W' .any 0 t r):
 s.post enc P f apart fresh handsOn again W args v W':=by
 have hlt:=hW.lt
 have hold:∀p∈before,(fun b=>decide (b<W.heap.size)) p.block=true:=fun p hp=>by simpa using hlt p hp
 refine⟨ds,gs,before,[],pa,pv,hW,hres _ _ _,hargs _ hold,Je _ hold,World.keptBut_mono (fun p hp=>⟨hp,?_⟩) hk,fun _=>?_⟩
 ·rw[hps,List.mem_append]at hp
  exact Or.inr hp
 ·obtain⟨_,_,_,_,_,hz,hn⟩:=hW
  refine⟨hok,_,_,([]++pa)++pv,⟨[]++pa,pv,trodAll_append (hargs _ (fun _ _=>rfl)) (hres _ _ _),Je _ (fun _ _=>rfl),rfl,?_,?_⟩,?_⟩
  ·intro b off hp
   have hp:MemPlace.cell b off∈before:=by rw[hps];simpa using hp
   rw[hfz _ (hlt _ hp)]
   exact hz b off hp
  ·intro ha
   have:=hn ha
   rw[hps]at this
   simpa using this
  ·intro p hp _
   rw[hps]
   simpa using hp
theorem vT{H:Type}{enc:TypeId×Value→H}{P:Program}{w w':World}{base:Nat}{spare:Nat→Bool}{held:Bool}:∀ {ts:List TypeId} {vs:List Value} {ds:List (DataW H)} {ps:List MemPlace},
 DataW.TrodAll enc P w base spare held ts vs ds ps→(∀p∈ps,w.sameAt w' p)→DataW.TrodAll enc P w' base spare held ts vs ds ps
 | [],[],[],_,h,_=>h
 | _::_,_::_,_::_,_,⟨p,q,⟨n,h1⟩,h2,e⟩,hs=>⟨p,q,⟨n,DataW.trod_carry n _ _ _ h1 (fun x hx=>hs x (by rw[e];exact List.mem_append_left _ hx))⟩,vT h2 (fun x hx=>hs x (by rw[e];exact List.mem_append_right _ hx)),e⟩
theorem sT{W W':World}(h:∀b,b<W.heap.size→W'.heap[b]? =W.heap[b]?)(p:MemPlace)(hp:p.block<W.heap.size):W.sameAt W' p:=by
 cases p with
 |cell b off=>
  show W'.cell? ⟨b,off,none⟩=W.cell? ⟨b,off,none⟩
  unfold World.cell?
  simp only[h b hp]
 |map b=>exact h b hp
theorem sS{W W':World}{may:MemPlace→Prop}(h1:W'.os=W.os)(h2:W'.output=W.output)(h:∀b,b<W.heap.size→W'.heap[b]? =W.heap[b]?):W.keptBut W' may:=by
 refine⟨h1,h2,fun i hi=>?_⟩
 rw[h i hi]
 cases W.heap[i]? with
 |none=>rfl
 |some o=>
  cases o with
  |cells=>exact⟨rfl,rfl,rfl,fun _ _=>rfl⟩
  |map=>exact .inr ⟨rfl,rfl⟩
  | _=>rfl
theorem MR:ownKnob Tryz.prog.godebug=none:=by kernel_rfl
theorem EM:Kids Tryz.prog (· <Tryz.prog.types.size):=kids_rows (by kernel_rfl) (by kernel_rfl)
theorem xB:∀t e,t<Tryz.prog.types.size→Tryz.prog.underlying t=some (.slice e)→0<Tryz.prog.cellsOf e:=slices_full_of _ (by kernel_rfl)
def iZ(vs:List Value):Obj→Obj
 | .cells _ t f=>.cells vs.toArray t f
 |o=>o
noncomputable def oF(os:Os):World:=
 { World.holding Tryz.prog os ⟨#[], #[],[]⟩with heap:=((((((World.holding Tryz.prog os ⟨#[], #[],[]⟩).heap).modify 1 (iZ (MS.map (Value.int .u8)))).modify 2 (iZ ((MU.map fun r=>[Value.int .u8 r.lo,Value.int .u8 r.hi]).flatten))).modify 3 (iZ (MV.map (Value.int .u64)))).modify 4 (iZ (MW.map (Value.int .u8)))).modify 5 (iZ (MX.map (Value.int .u8))) }
end Go.Proofs.YtahjhbkhcaphgaaGreatDoor
