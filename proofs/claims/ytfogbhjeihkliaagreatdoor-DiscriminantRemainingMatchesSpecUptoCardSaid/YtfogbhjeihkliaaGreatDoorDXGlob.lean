import Derived.Lib.LaidTab
import Derived.OpenShut
import Derived.Test.YtfogbhjeihkliaaGreatDoorDXOpen
set_option linter.unusedVariables false
set_option linter.unusedSimpArgs false
namespace Go.Proofs.YtfogbhjeihkliaaGreatDoor
open Go Go.Am
theorem FY:Tryz.prog.cellsOf 5=1:=by kernel_rfl
theorem GU:Tryz.prog.cellsOf 193=64:=by kernel_rfl
theorem GV:Tryz.prog.cellsOf 199=256:=by kernel_rfl
theorem Ak:Tryz.prog.cellsOf 201=2:=by kernel_rfl
theorem GW:Tryz.prog.cellsOf 202=32:=by kernel_rfl
theorem Rj{w:World}{a b:List Value}{d1 d2:List D}(h1:Rd w a d1)(h2:Rd w b d2):Rd w (a++b) (d1++d2):=by
 obtain⟨l1,h1⟩:=h1
 obtain⟨l2,h2⟩:=h2
 refine⟨by simp[l1,l2],fun j hj=>?_⟩
 by_cases hja:j<d1.length
 ·rw[List.getElem_append_left hja]
  have:(a++b).getD j undef=a.getD j undef:=by
   rw[List.getD_eq_getElem?_getD,List.getD_eq_getElem?_getD,List.getElem?_append_left (by omega)]
  rw[this]
  exact h1 j hja
 ·rw[List.getElem_append_right (by omega)]
  have:(a++b).getD j undef=b.getD (j-d1.length) undef:=by
   rw[List.getD_eq_getElem?_getD,List.getD_eq_getElem?_getD,List.getElem?_append_right (by omega),l1]
  rw[this]
  simp only[List.length_append]at hj
  exact h2 _ (by omega)
theorem Ew{w:World}{α:Type}{f:α→List Value}{E:α→List D}(h:∀a,Rd w (f a) (E a)):∀l:List α,Rd w (l.map f).flatten (ju E l)
 | []=>MJ
 |a::l=>Rj (h a) (Ew h l)
theorem Jm{α:Type}(f:α→List Value)(z:Nat):∀(l:List α) (cs:List Value),cs.length=l.length*z→(∀i (hi:i<l.length),(cs.drop (i*z)).take z=f l[i])→cs=(l.map f).flatten
 | [],cs,hl,_=>by
  have:cs.length=0:=by simpa using hl
  exact List.length_eq_zero_iff.1 this
 |a::l,cs,hl,h=>by
  have h0:=h 0 (by simp)
  simp only[Nat.zero_mul,List.drop_zero,List.getElem_cons_zero]at h0
  have e:cs=cs.take z++cs.drop z:=(List.take_append_drop z cs).symm
  have ih:=Jm f z l (cs.drop z) (by rw[List.length_drop,hl,List.length_cons,Nat.succ_mul];omega) (fun i hi=>by
   have:=h (i+1) (by simpa using hi)
   rw[List.drop_drop,show z+i*z=(i+1)*z by rw[Nat.succ_mul];omega]
   simpa using this)
  rw[e,h0,ih]
  rfl
section
variable {W:World} {laid:List (String×DataW Unit)}
theorem Bv{P:Program}:∀ {laid:List (String×DataW Unit)} {ps:List MemPlace},DataW.LaidVars P W laid ps→∀x∈laid,∃g t cs fuel p,P.globalNamed x.1=some g∧(P.globals[g]?).map (·.type)=some t∧W.var? P x.1=some cs∧DataW.trod (fun _=>()) P W 0 (fun _=>true) false fuel t cs.toList=some (x.2,p)
 | [],_,_,_,hx=>by cases hx
 |(n,d)::r,ps,h,x,hx=>by
  obtain⟨g,t,cs,fuel,p,q,h1,h2,h3,h4,h5,_⟩:=h
  cases List.mem_cons.1 hx with
  |inl e=>subst e;exact⟨g,t,cs,fuel,p,h1,h2,h3,h4⟩
  |inr e=>exact Bv h5 x e
theorem Bw{g:Nat}{name:String}{cs:Array Value}{ds:List D}(hg:Tryz.prog.globalNamed name=some g)(hv:W.var? Tryz.prog name=some cs)(hr:Rd W cs.toList ds):
 TR W yq (.pointer (some ⟨g,0,none⟩)) (.tg ds):=by
 refine .tg ds g 0 (fun j=>cs.toList.getD j undef) ?_ lX (fun j hj=>?_) (fun j hj=>hr.2 j hj)
 ·unfold World.var? at hv
  rw[hg]at hv
  simp only[Option.bind_some]at hv
  split at hv
  ·rename_i he
   rcases Nat.lt_or_ge g W.heap.size with h|h
   ·exact h
   ·rw[Array.getElem?_eq_none h]at he;cases he
  ·cases hv
 ·have h1:=World.var?_cell hg hv j
  have hl:=hr.1
  rw[Nat.zero_add,h1,List.getD_eq_getElem?_getD,Array.getElem?_toList]
  have:j<cs.size:=by simpa using(show j<cs.toList.length by omega)
  rw[Array.getElem?_eq_getElem this]
  rfl
theorem Rk{t n:Nat}{zs:List Int}{fuel:Nat}{cs:List Value}{p:List MemPlace}(ht:Tryz.prog.underlying t=some (.array n 5))(hct:Tryz.prog.cellsOf t=n)
 (h:DataW.trod (fun _=>()) Tryz.prog W 0 (fun _=>true) false fuel t cs=some (Lib.tabData .u8 zs,p)):Rd W cs (ju u8c zs):=by
 have e:=Lib.cells_of_tab ht Tryz.underlying5 FY hct h
 have e2:zs.map (fun z=>Value.int .u8 z)=(zs.map fun z=>[Value.int .u8 z]).flatten:=by
  clear h e
  induction zs with
  |nil=>rfl
  |cons a l ih=>simp only[List.map_cons,List.flatten_cons,ih];rfl
 rw[e,e2]
 exact Ew (fun z=>CM (.int .u8 z)) zs
theorem Oc{zs:List C0}(hz:zs.length=16){fuel:Nat}{cs:List Value}{p:List MemPlace}
 (h:DataW.trod (fun _=>()) Tryz.prog W 0 (fun _=>true) false fuel 202 cs=some (.agg (zs.map fun r=>.agg [.lit (.int .u8 r.lo),.lit (.int .u8 r.hi)]),p)):Rd W cs (ju C0.cells zs):=by
 obtain⟨xs,m,_,hx,hl,hxl,hel⟩:=DataW.trod_array Tryz.underlying202 h
 rw[Ak]at hel
 rw[GW]at hl
 have hxs:zs.map (fun r=>(DataW.agg [.lit (.int .u8 r.lo),.lit (.int .u8 r.hi)]:DataW Unit))=xs.map (·.1):=by
  have:=congrArg Prod.fst hx
  simpa using this
 have e:cs=(zs.map fun r=>[Value.int .u8 r.lo,Value.int .u8 r.hi]).flatten:=by
  refine Jm _ 2 zs cs (by omega) (fun i hi=>?_)
  have h1:=hel i (by omega)
  rw[List.getElem?_eq_getElem (by omega)]at h1
  have h2:(xs[i]'(by omega)).1= .agg [.lit (.int .u8 zs[i].lo),.lit (.int .u8 zs[i].hi)]:=by
   have h3:(xs.map (·.1))[i]? =(zs.map (fun r=>(DataW.agg [.lit (.int .u8 r.lo),.lit (.int .u8 r.hi)]:DataW Unit)))[i]? :=by rw[hxs]
   rw[List.getElem?_map,List.getElem?_map,List.getElem?_eq_getElem (by omega),List.getElem?_eq_getElem hi]at h3
   simpa using h3
  obtain⟨y0,y1,k,hy,hl2,g0,g1⟩:=ChangeShapes.trod_struct2 Tryz.underlying201 h1
  obtain⟨a,ea,eb,_⟩:=DataW.trod_int Tryz.underlying5 g0
  obtain⟨b,ec,ed,_⟩:=DataW.trod_int Tryz.underlying5 g1
  rw[hy]at h2
  subst eb;subst ed
  simp only[DataW.agg.injEq,List.cons.injEq,DataW.lit.injEq,Lit.int.injEq,true_and,and_true]at h2
  obtain⟨rfl,rfl⟩:=h2
  rw[FY]at ea ec
  rw[Ak]at hl2
  generalize (cs.drop (i*2)).take 2=q at ea ec hl2
  match q,hl2 with
  | [q0,q1],_=>
   simp at ea ec
   rw[ea,ec]
 rw[e]
 exact Ew (fun z=>⟨rfl,fun j hj=>by
  have:j<2:=hj
  match j,this with
  |0,_=>exact .int .u8 z.lo
  |1,_=>exact .int .u8 z.hi⟩) zs
theorem kf{laid:List (String×DataW Unit)}(h:laidMet Tryz.prog laid W)(m0:("math/bits.deBruijn64tab",Rows.laid_math_bits_deBruijn64tab)∈laid)(m1:("unicode/utf8.first",Rows.laid_unicode_utf8_first)∈laid)(m2:("unicode/utf8.acceptRanges",Rows.laid_unicode_utf8_acceptRanges)∈laid):Glob gl W (fun _=>none) []:=by
 obtain⟨ps,hL,_⟩:=h
 have at0:=Bv hL _ m0
 have at1:=Bv hL _ m1
 have at2:=Bv hL _ m2
 intro g cs e
 have e:(if g=0 then some (ju u8c KB)else if g=1 then some (ju u8c pN)else if g=2 then some (ju C0.cells sS)else none)=some cs:=e
 split at e
 ·rename_i hg;subst hg;cases e
  obtain⟨g,t,vs,fuel,p,h1,h2,h3,h4⟩:=at0
  obtain rfl:0=g:=Option.some.inj ((show Tryz.prog.globalNamed "math/bits.deBruijn64tab" =some 0 by kernel_rfl).symm.trans h1)
  obtain rfl:193=t:=Option.some.inj ((show(Tryz.prog.globals[0]?).map (·.type)=some 193 by kernel_rfl).symm.trans h2)
  exact Bw h1 h3 (Rk Tryz.underlying193 GU h4)
 ·split at e
  ·rename_i hg;subst hg;cases e
   obtain⟨g,t,vs,fuel,p,h1,h2,h3,h4⟩:=at1
   obtain rfl:1=g:=Option.some.inj ((show Tryz.prog.globalNamed "unicode/utf8.first" =some 1 by kernel_rfl).symm.trans h1)
   obtain rfl:199=t:=Option.some.inj ((show(Tryz.prog.globals[1]?).map (·.type)=some 199 by kernel_rfl).symm.trans h2)
   have e2:(Rows.laid_unicode_utf8_first:DataW Unit)=Lib.tabData .u8 pN:=by
    unfold Rows.laid_unicode_utf8_first Go.Pinned.utf8First Go.Pinned.numbers Lib.tabData pN
    rw[List.map_map]
    rfl
   rw[e2]at h4
   exact Bw h1 h3 (Rk Tryz.underlying199 GV h4)
  ·split at e
   ·rename_i hg;subst hg;cases e
    obtain⟨g,t,vs,fuel,p,h1,h2,h3,h4⟩:=at2
    obtain rfl:2=g:=Option.some.inj ((show Tryz.prog.globalNamed "unicode/utf8.acceptRanges" =some 2 by kernel_rfl).symm.trans h1)
    obtain rfl:202=t:=Option.some.inj ((show(Tryz.prog.globals[2]?).map (·.type)=some 202 by kernel_rfl).symm.trans h2)
    exact Bw h1 h3 (Oc FX h4)
   ·cases e
end
end Go.Proofs.YtfogbhjeihkliaaGreatDoor
