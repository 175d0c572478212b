import Derived.Lib.LaidTab
import Derived.OpenShut
import Derived.Test.YtfacbpehlibilaaGreatDoorTVOpen
set_option linter.unusedVariables false
set_option linter.unusedSimpArgs false
namespace Go.Proofs.YtfacbpehlibilaaGreatDoor
open Go Go.Am
theorem w8y:Tryz.prog.cellsOf 195=20:=by kernel_rfl
theorem w8z:Tryz.prog.cellsOf 138=1:=by kernel_rfl
section
variable {W:World}
theorem x0t{P:Program}:∀ {laid:List (String×DataW Unit)} {ps:List MemPlace},DataW.LaidVars P W laid ps→∀x∈laid,∃g t cs fuel p,P.globalNamed x.1=some g∧(P.globals[g]?).map (·.type)=some t∧W.var? P x.1=some cs∧DataW.trod (fun _=>()) P W 0 (fun _=>true) false fuel t cs.toList=some (x.2,p)
 | [],_,_,_,hx=>by cases hx
 |(n,d)::r,ps,h,x,hx=>by
  obtain⟨g,t,cs,fuel,p,q,h1,h2,h3,h4,h5,_⟩:=h
  cases List.mem_cons.1 hx with
  |inl e=>subst e;exact⟨g,t,cs,fuel,p,h1,h2,h3,h4⟩
  |inr e=>exact x0t h5 x e
theorem w4A{laid:List (String×DataW Unit)}(h:laidMet Tryz.prog laid W)(m0:("internal/strconv.uint64pow10",Rows.laid_internal_strconv_uint64pow10)∈laid):Glob gl W (fun _=>none) []:=by
 obtain⟨ps,hL,_⟩:=h
 obtain⟨g,t,vs,fuel,p,h1,h2,h3,h4⟩:=x0t hL _ m0
 obtain rfl:0=g:=Option.some.inj ((show Tryz.prog.globalNamed "internal/strconv.uint64pow10" =some 0 by kernel_rfl).symm.trans h1)
 obtain rfl:195=t:=Option.some.inj ((show(Tryz.prog.globals[0]?).map (·.type)=some 195 by kernel_rfl).symm.trans h2)
 refine⟨fun g cs e=>(by cases e),fun g c e=>?_⟩
 have e:(if g=0 then some (Lib.pow10Tab.map fun z=>Value.int .u64 z).toArray else none)=some c:=e
 split at e
 ·rename_i hg
  subst hg
  cases e
  have e2:(Rows.laid_internal_strconv_uint64pow10:DataW Unit)=Lib.tabData .u64 Lib.pow10Tab:=by kernel_rfl
  rw[e2]at h4
  have hc:=Lib.cells_of_tab Tryz.underlying195 Tryz.underlying138 w8z w8y h4
  unfold World.var? at h3
  rw[h1]at h3
  simp only[Option.bind_some]at h3
  split at h3
  ·rename_i cs ty fr he
   cases h3
   refine⟨?_,w0J,ty,fr,?_⟩
   ·rcases Nat.lt_or_ge 0 W.heap.size with h|h
    ·exact h
    ·rw[Array.getElem?_eq_none h]at he;cases he
   ·rw[he, ←hc]
  ·cases h3
 ·cases e
end
end Go.Proofs.YtfacbpehlibilaaGreatDoor
