import Derived.Lib.LaidTab
import Derived.OpenShut
import Derived.Shelf.Vars
import Derived.Test.YtahjhbkhcaphgaaGreatDoorFTOpen
set_option linter.unusedVariables false
set_option linter.unusedSimpArgs false
namespace Go.Proofs.YtahjhbkhcaphgaaGreatDoor
open Go Go.Am
theorem xC:Tryz.prog.cellsOf 180=20:=by kernel_rfl
theorem xD:Tryz.prog.cellsOf 158=1:=by kernel_rfl
section
variable {W:World}
theorem zH{P:Program}:∀ {laid:List (String×DataW Unit)} {ps:List MemPlace},DataW.LaidVars P W laid ps→∀x∈laid,∃g t cs fuel p,P.globalNamed x.1=some g∧(P.globals[g]?).map (·.type)=some t∧W.var? P x.1=some cs∧DataW.trod (fun _=>()) P W 0 (fun _=>true) false fuel t cs.toList=some (x.2,p)
 | [],_,_,_,hx=>by cases hx
 |(n,d)::r,ps,h,x,hx=>by
  obtain⟨g,t,cs,fuel,p,q,h1,h2,h3,h4,h5,_⟩:=h
  cases List.mem_cons.1 hx with
  |inl e=>subst e;exact⟨g,t,cs,fuel,p,h1,h2,h3,h4⟩
  |inr e=>exact zH h5 x e
theorem pF(h:W.ShapedOpen Tryz.prog){g:Nat}(e:gl.wK g=true):g<W.heap.size∧¬own (fun _=>none) [] g∧∃m ty fr,W.heap[g]? =some (.cells #[.int .i64 m] ty fr):=by
 obtain rfl:g=0:=Nat.eq_of_beq_eq_true e
 obtain⟨m,hm⟩:=Go.Proofs.cell_of_shapedOpen_int (P:=Tryz.prog) (g:=0) (t:=3) (zero:= #[.int .i64 0]) h (of_decide_eq_true (by kernel_rfl)) (by kernel_rfl) rfl (by kernel_rfl) (by kernel_rfl) Tryz.underlying3
 obtain⟨cs,hh,hs,_⟩:=h.1 0 #[.int .i64 0] 3 (of_decide_eq_true (by kernel_rfl)) (by kernel_rfl)
 have hc:cs= #[.int .i64 m]:=by
  obtain⟨l⟩:=cs
  match l,hs with
  | [a],_=>
   simp[World.cell?, hh]at hm
   rw[hm]
 subst hc
 refine⟨?_,kR,m,_,_,hh⟩
 rcases Nat.lt_or_ge 0 W.heap.size with h|h
 ·exact h
 ·rw[Array.getElem?_eq_none h]at hh;cases hh
theorem sR{laid:List (String×DataW Unit)}(h:laidMet Tryz.prog laid W)(hsh:W.ShapedOpen Tryz.prog)(m0:("internal/strconv.uint64pow10",Rows.laid_internal_strconv_uint64pow10)∈laid):Glob gl W (fun _=>none) []:=by
 obtain⟨ps,hL,_⟩:=h
 obtain⟨g,t,vs,fuel,p,h1,h2,h3,h4⟩:=zH hL _ m0
 obtain rfl:3=g:=Option.some.inj ((show Tryz.prog.globalNamed "internal/strconv.uint64pow10" =some 3 by kernel_rfl).symm.trans h1)
 obtain rfl:180=t:=Option.some.inj ((show(Tryz.prog.globals[3]?).map (·.type)=some 180 by kernel_rfl).symm.trans h2)
 refine⟨fun g cs e=>(by cases e),fun g c e=>?_,fun g e=>pF hsh e⟩
 have e:(if g=3 then some (Lib.pow10Tab.map fun z=>Value.int .u64 z).toArray else none)=some c:=e
 split at e
 ·rename_i hg
  subst hg
  cases e
  have e2:(Rows.laid_internal_strconv_uint64pow10:DataW Unit)=Lib.tabData .u64 Lib.pow10Tab:=by kernel_rfl
  rw[e2]at h4
  have hc:=Lib.cells_of_tab Tryz.underlying180 Tryz.underlying158 xD xC h4
  unfold World.var? at h3
  rw[h1]at h3
  simp only[Option.bind_some]at h3
  split at h3
  ·rename_i cs ty fr he
   cases h3
   refine⟨?_,kR,ty,fr,?_⟩
   ·rcases Nat.lt_or_ge 3 W.heap.size with h|h
    ·exact h
    ·rw[Array.getElem?_eq_none h]at he;cases he
   ·rw[he, ←hc]
  ·cases h3
 ·cases e
end
end Go.Proofs.YtahjhbkhcaphgaaGreatDoor
