import Derived.Lib.ItoaNum
import Derived.Test.YtanlbioodbnakaaGreatDoorTTData
import Derived.Test.YtanlbioodbnakaaGreatDoorTTTy
set_option linter.unusedVariables false
set_option linter.unusedSimpArgs false
namespace Go.Proofs.YtanlbioodbnakaaGreatDoor
open Go Go.Am
def gl:Gl where
 tab:=fun g=>none
 imm:=fun t=>Nat.beq t 26||Nat.beq t 34||Nat.beq t 62||Nat.beq t 134||Nat.beq t 185
 whole:=fun g=>if g=0 then some (Lib.pow10Tab.map fun z=>Value.int .u64 z).toArray else none
@[go_sem] theorem NK:gl.imm 23=false:=rfl
@[go_sem] theorem NM:gl.imm 26=true:=rfl
@[go_sem] theorem NP:gl.imm 27=false:=rfl
@[go_sem] theorem NQ:gl.imm 47=false:=rfl
@[go_sem] theorem NR:gl.imm 51=false:=rfl
@[go_sem] theorem NS:gl.imm 62=true:=rfl
@[go_sem] theorem NT:gl.imm 84=false:=rfl
@[go_sem] theorem Mf:gl.imm 120=false:=rfl
@[go_sem] theorem Mg:gl.imm 124=false:=rfl
@[go_sem] theorem Mh:gl.imm 166=false:=rfl
@[go_sem] theorem Mi:gl.imm 185=true:=rfl
def gl0:Gl where
 tab:=gl.tab
 imm:=fun _=>false
 whole:=gl.whole
@[go_sem] theorem QH(t:TypeId):gl0.imm t=false:=rfl
@[go_sem] theorem QI(t:Nat):gl0.tab t=gl.tab t:=rfl
theorem AW{P:Program}{f:FuncId}{args:List D}{st:St}{R:D→St→Prop}(h:Am.Spec P gl0 f args st R):Am.Spec P gl f args st R:=h
def gl2:Gl where
 tab:=gl.tab
 imm:=fun t=>Nat.beq t 134
 whole:=gl.whole
@[go_sem] theorem QJ(t:Nat):gl2.tab t=gl.tab t:=rfl
@[go_sem] theorem Mj:gl2.imm 23=false:=rfl
@[go_sem] theorem Mk:gl2.imm 26=false:=rfl
@[go_sem] theorem Ml:gl2.imm 27=false:=rfl
@[go_sem] theorem Mn:gl2.imm 47=false:=rfl
@[go_sem] theorem Mp:gl2.imm 51=false:=rfl
@[go_sem] theorem Mq:gl2.imm 62=false:=rfl
@[go_sem] theorem Mr:gl2.imm 84=false:=rfl
@[go_sem] theorem Kx:gl2.imm 120=false:=rfl
@[go_sem] theorem Ky:gl2.imm 124=false:=rfl
@[go_sem] theorem Kz:gl2.imm 166=false:=rfl
@[go_sem] theorem KA:gl2.imm 185=false:=rfl
@[go_sem] theorem AX{a b:Nat}{z:List D}{fs:List (Nat×Nat×Bool)}(o:Option w5):eI ⟨a,b,z,[.int .i64 0,.str [],.sl false 1 16 [],.sl false 4 72 [],.int .i64 0,.int .i64 0],some (.agg [.int .i64 0,.str [],.B2,.B2,.int .i64 0,.int .i64 0]),.struct fs⟩ (o.map w5.cells)= .agg (w5.cells (o.getD default)):=by cases o<;>rfl
@[go_sem] theorem ET{a b:Nat}{z:List D}{fs:List (Nat×Nat×Bool)}(o:Option w6):eI ⟨a,b,z,[.str [],.str [],.int .i64 0,.str [],.sl false 1 16 [],.sl false 4 72 []],some (.agg [.str [],.str [],.int .i64 0,.str [],.B2,.B2]),.struct fs⟩ (o.map w6.cells)= .agg (w6.cells (o.getD default)):=by cases o<;>rfl
@[go_sem] theorem NU{a b e:Nat}{z:List D}(o:Option (List Bs)):eI ⟨a,b,z,[.sl false 1 16 []],some .B2,.slice e⟩ (o.map (slc 1 16 w8))= .sl false 1 16 (rows w8 (o.getD default)):=by cases o<;>rfl
@[go_sem] theorem NV{a b:Nat}{z dd:List D}:eI ⟨a,b,z,dd,some (.str []),.str⟩ none= .str []:=rfl
@[go_sem] theorem NW{a b:Nat}{z dd:List D}:eI ⟨a,b,z,dd,some (.int .i64 0),.int .i64⟩ none= .int .i64 0:=rfl
@[go_sem] theorem Ms{a b:Nat}{z dd:List D}:eI ⟨a,b,z,dd,some (.bool false),.bool⟩ none= .bool false:=rfl
theorem follows:(Tryz.prog).follows .mixedOrders=true:=by kernel_rfl
end Go.Proofs.YtanlbioodbnakaaGreatDoor
