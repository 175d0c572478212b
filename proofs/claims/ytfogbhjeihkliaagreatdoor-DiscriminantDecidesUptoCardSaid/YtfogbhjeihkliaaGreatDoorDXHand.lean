import Derived.Shelf.Strings.Search1
import Derived.Lib.IndexAny
import Derived.Test.YtfogbhjeihkliaaGreatDoorDXBase
set_option linter.unusedVariables false
set_option linter.unusedSimpArgs false
namespace Go.Proofs.YtfogbhjeihkliaaGreatDoor
open Go Go.Am Go.Shelf
def Pw:Ren:=⟨fun x=>if x=119 then 152 else if x=137 then 151 else if x=152 then 146 else if x=153 then 140 else if x=217 then 155 else if x=224 then 153 else if x=225 then 154 else if x=226 then 147 else if x=227 then 148 else if x=228 then 149 else if x=266 then 156 else x,
 fun x=>if x=46 then 144 else if x=116 then 217 else if x=117 then 218 else if x=124 then 225 else x,fun x=>if x=1 then 3 else x⟩
theorem Od:Lays.n217 Tryz.prog Pw where
 mixed:=follows
 f217:=Tryz.func155.trans (by kernel_rfl)
 f266:=Tryz.func156.trans (by kernel_rfl)
 t3:=Tryz.underlying3
 a3:=Tryz.isAgg3
 z3:=Tryz.sizeOf3
 v3:=Tryz.zeroValue3
 t5:=Tryz.underlying5
 a5:=Tryz.isAgg5
 z5:=Tryz.sizeOf5
 v5:=Tryz.zeroValue5
 t9:=Tryz.underlying9
 a9:=Tryz.isAgg9
 z9:=Tryz.sizeOf9
 v9:=Tryz.zeroValue9
def indexByte(s:Bs)(c:Int):Option Int:=some (Lib.indexByte s c.toNat.toUInt8)
theorem CN(s:Bs)(c r:Int)(h:indexByte s c=some r):Pure Tryz.prog gl 155 [.str s,.int .u8 c] (.int .i64 r):=by
 intro st
 cases h
 refine⟨trivial,fun w μ vs hs hg hn hv=>?_⟩
 have e0:=mI (hv 0 (by simp))
 have e1:=fQ (hv 1 (by simp))
 have:vs= #[.string (bs s),.int .u8 c]:=by
  apply Array.ext
  ·simpa using hn
  ·intro i h1 h2
   have hi:i<2:=by simpa using h2
   match i,hi with
   |0,_=>simpa[Array.getD,h1]using e0
   |1,_=>simpa[Array.getD,h1]using e1
 subst this
 refine .inl ⟨by unfold kE;rw[Tryz.func155];kernel_rfl,?_⟩
 refine(Any.stringslite_IndexByte Od (bs s) c w).mono fun e w' ⟨h1,h2⟩=>?_
 subst h2
 exact⟨_,_,st,μ,h1,⟨rfl,rfl⟩,hs,Step.refl _ _ _,cV _ _ _ _ _⟩
end Go.Proofs.YtfogbhjeihkliaaGreatDoor
