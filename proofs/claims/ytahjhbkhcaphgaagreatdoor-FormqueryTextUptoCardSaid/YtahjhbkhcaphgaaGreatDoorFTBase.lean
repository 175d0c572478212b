import Derived.Lib.ItoaNum
import Derived.Test.YtahjhbkhcaphgaaGreatDoorFTData
import Derived.Test.YtahjhbkhcaphgaaGreatDoorFTTy
set_option linter.unusedVariables false
set_option linter.unusedSimpArgs false
namespace Go.Proofs.YtahjhbkhcaphgaaGreatDoor
open Go Go.Am
def gl:Gl where
 tab:=fun g=>none
 imm:=fun t=>Nat.beq t 22||Nat.beq t 59||Nat.beq t 81||Nat.beq t 128||Nat.beq t 141
 wK:=fun g=>Nat.beq g 0
 whole:=fun g=>if g=3 then some (Lib.pow10Tab.map fun z=>Value.int .u64 z).toArray else none
@[go_sem] theorem HU:gl.imm 22=true:=rfl
@[go_sem] theorem HV:gl.imm 23=false:=rfl
@[go_sem] theorem HX:gl.imm 42=false:=rfl
@[go_sem] theorem HY:gl.imm 45=false:=rfl
@[go_sem] theorem HZ:gl.imm 56=false:=rfl
@[go_sem] theorem Ia:gl.imm 59=true:=rfl
@[go_sem] theorem Ib:gl.imm 81=true:=rfl
@[go_sem] theorem Gk:gl.imm 113=false:=rfl
@[go_sem] theorem Gm:gl.imm 128=true:=rfl
@[go_sem] theorem Gn:gl.imm 130=false:=rfl
@[go_sem] theorem Gp:gl.imm 141=true:=rfl
def gl0:Gl where
 tab:=gl.tab
 imm:=fun _=>false
 wK:=gl.wK
 whole:=gl.whole
@[go_sem] theorem KN(t:TypeId):gl0.imm t=false:=rfl
@[go_sem] theorem KO(t:Nat):gl0.tab t=gl.tab t:=rfl
theorem kP{P:Program}{f:FuncId}{args:List D}{st:St}{R:D→St→Prop}(h:Am.Spec P gl0 f args st R):Am.Spec P gl f args st R:=h
theorem qV{P:Program}{f:FuncId}{args:List D}{st:St}{R:D→St→Prop}(h:Am.Spec P gl f args st R):Am.Spec P gl0 f args st R:=h
theorem nh{P:Program}{f:FuncId}{args:List D}{r:D}(h:Pure P gl f args r):Pure P gl0 f args r:=h
@[go_sem] theorem zE{a b:Nat}{z:List D}{fs:List (Nat×Nat×Bool)}(o:Option w7):gJ ⟨a,b,z,[.str [],.str [],.int .i64 0,.str [],.sl false 1 16 [],.sl false 4 72 []],some (.agg [.str [],.str [],.int .i64 0,.str [],.y5,.y5]),.struct fs⟩ (o.map w7.cells)= .agg (w7.cells (o.getD default)):=by cases o<;>rfl
theorem follows:(Tryz.prog).follows .mixedOrders=true:=by kernel_rfl
end Go.Proofs.YtahjhbkhcaphgaaGreatDoor
