import Derived.Shelf.Strings.Search1
import Derived.Lib.IndexAny
import Derived.Shelf.Spec.BitsCarry
import Derived.Test.YtoekkdodipnmpaaGreatDoorSBase
set_option linter.unusedVariables false
set_option linter.unusedSimpArgs false
namespace Go.Proofs.YtoekkdodipnmpaaGreatDoor
open Go Go.Am Go.Shelf Go.Proofs
def Ia:Ren:=⟨fun x=>if x=119 then 116 else if x=137 then 115 else if x=152 then 110 else if x=153 then 105 else if x=217 then 119 else if x=224 then 117 else if x=225 then 118 else if x=226 then 111 else if x=227 then 112 else if x=228 then 113 else if x=266 then 120 else x,
 fun x=>if x=46 then 135 else if x=116 then 180 else if x=117 then 181 else if x=124 then 188 else x,fun x=>if x=1 then 5 else x⟩
theorem GL:Lays.n217 Tryz.prog Ia where
 mixed:=follows
 f217:=Tryz.func119.trans (by kernel_rfl)
 f266:=Tryz.func120.trans (by kernel_rfl)
 t3:=Tryz.underlying3
 a3:=Tryz.isAgg3
 z3:=Tryz.sizeOf3
 v3:=Tryz.zeroValue3
 t5:=Tryz.underlying5
 a5:=Tryz.isAgg5
 z5:=Tryz.sizeOf5
 v5:=Tryz.zeroValue5
 t9:=Tryz.underlying9
 a9:=Tryz.isAgg9
 z9:=Tryz.sizeOf9
 v9:=Tryz.zeroValue9
def indexByte(s:Bs)(c:Int):Option Int:=some (Lib.indexByte s c.toNat.toUInt8)
theorem wz(s:Bs)(c r:Int)(h:indexByte s c=some r):Pure Tryz.prog gl 119 [.str s,.int .u8 c] (.int .i64 r):=by
 intro st
 cases h
 refine⟨trivial,fun w μ vs hs hg hn hv=>?_⟩
 have e0:=fW (hv 0 (by simp))
 have e1:=cK (hv 1 (by simp))
 have:vs= #[.string (bs s),.int .u8 c]:=by
  apply Array.ext
  ·simpa using hn
  ·intro i h1 h2
   have hi:i<2:=by simpa using h2
   match i,hi with
   |0,_=>simpa[Array.getD,h1]using e0
   |1,_=>simpa[Array.getD,h1]using e1
 subst this
 refine .inl ⟨by unfold pJ;rw[Tryz.func119];kernel_rfl,?_⟩
 refine(Any.stringslite_IndexByte GL (bs s) c w).mono fun e w' ⟨h1,h2⟩=>?_
 subst h2
 exact⟨_,_,st,μ,h1,⟨rfl,rfl⟩,hs,Step.refl _ _ _,av _ _ _ _ _⟩
theorem JM{w:World}{μ:Mu}{st:St}{vs:Array Value}{x y c:Int}(hn:vs.size=3)(hv:∀j (h:j<3),VR w μ st (vs.getD j undef) (([.int .u64 x,.int .u64 y,.int .u64 c]:List D)[j])):vs= #[.int .u64 x,.int .u64 y,.int .u64 c]:=by
 have e0:=cK (hv 0 (by simp))
 have e1:=cK (hv 1 (by simp))
 have e2:=cK (hv 2 (by simp))
 apply Array.ext
 ·simpa using hn
 ·intro i h1 h2
  have hi:i<3:=by simpa using h2
  match i,hi with
  |0,_=>simpa[Array.getD,h1]using e0
  |1,_=>simpa[Array.getD,h1]using e1
  |2,_=>simpa[Array.getD,h1]using e2
theorem Cy{w:World}{μ:Mu}{st:St}(x y:Int):VR w μ st (.tuple #[.int .u64 x,.int .u64 y]) (.tup [.int .u64 x,.int .u64 y]):=by
 refine .tup _ _ (fun j hj _=>by simpa using hj) (fun j hj=>?_)
 have hi:j<2:=by simpa using hj
 match j,hi with
 |0,_=>exact av _ _ _ _ _
 |1,_=>exact av _ _ _ _ _
def rA(x y c:Int):Option (Int×Int):=chk (0≤x∧0≤y∧0≤c∧c≤1) (some ((x+y+c)%18446744073709551616,(x+y+c) / 18446744073709551616))
theorem tM(x y c:Int)(r:Int×Int)(h:rA x y c=some r):Pure Tryz.prog gl 45 [.int .u64 x,.int .u64 y,.int .u64 c] (.tup [.int .u64 r.1,.int .u64 r.2]):=by
 intro st
 obtain⟨⟨h0,h1,h2,h3⟩,h⟩:=Gp h
 cases h
 refine zf ⟨rfl,rfl⟩ fun w μ vs hn hv=>?_
 obtain rfl:=JM hn hv
 refine⟨.tuple #[.int .u64 ((x+y+c)%18446744073709551616),.int .u64 ((x+y+c) / 18446744073709551616)],?_,Cy _ _⟩
 rw[run_callFunc_extern Tryz.func45 (by kernel_rfl) (by kernel_rfl) (by kernel_rfl) (e:=add64Entry) (by kernel_rfl),run_add64 x y c h0 h1 h2 h3]
 rfl
def yB(x y c:Int):Option (Int×Int):=chk (0≤x∧0≤y∧0≤c∧c≤1) (some ((((x.toNat+18446744073709551616-y.toNat-c.toNat)%18446744073709551616:Nat):Int),((if x.toNat<y.toNat+c.toNat then 1 else 0:Nat):Int)))
theorem tN(x y c:Int)(r:Int×Int)(h:yB x y c=some r):Pure Tryz.prog gl 46 [.int .u64 x,.int .u64 y,.int .u64 c] (.tup [.int .u64 r.1,.int .u64 r.2]):=by
 intro st
 obtain⟨⟨h0,h1,h2,h3⟩,h⟩:=Gp h
 cases h
 refine zf ⟨rfl,rfl⟩ fun w μ vs hn hv=>?_
 obtain rfl:=JM hn hv
 obtain⟨x,rfl⟩:=Int.eq_ofNat_of_zero_le h0
 obtain⟨y,rfl⟩:=Int.eq_ofNat_of_zero_le h1
 obtain⟨c,rfl⟩:=Int.eq_ofNat_of_zero_le h2
 refine⟨.tuple #[.int .u64 (((x+18446744073709551616-y-c)%18446744073709551616:Nat):Int),.int .u64 ((if x<y+c then 1 else 0:Nat):Int)],?_,Cy _ _⟩
 rw[run_callFunc_extern Tryz.func46 (by kernel_rfl) (by kernel_rfl) (by kernel_rfl) (e:=sub64Entry) (by kernel_rfl),run_sub64 x y c (by omega)]
 rfl
end Go.Proofs.YtoekkdodipnmpaaGreatDoor
