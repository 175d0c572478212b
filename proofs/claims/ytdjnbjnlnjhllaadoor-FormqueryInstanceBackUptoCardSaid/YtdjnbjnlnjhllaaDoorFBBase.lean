import Derived.Lib.ItoaNum
import Derived.Test.YtdjnbjnlnjhllaaDoorFBData
import Derived.Test.YtdjnbjnlnjhllaaDoorFBTy
set_option linter.unusedVariables false
set_option linter.unusedSimpArgs false
namespace Go.Proofs.YtdjnbjnlnjhllaaDoor
open Go Go.Am
def gl:Gl where
 tab:=fun g=>none
 imm:=fun t=>Nat.beq t 22||Nat.beq t 61||Nat.beq t 86||Nat.beq t 119||Nat.beq t 131
 whole:=fun g=>if g=0 then some (Lib.pow10Tab.map fun z=>Value.int .u64 z).toArray else none
@[go_sem] theorem i2H:gl.imm 22=true:=rfl
@[go_sem] theorem i2I:gl.imm 23=false:=rfl
@[go_sem] theorem i2J:gl.imm 33=false:=rfl
@[go_sem] theorem i2K:gl.imm 36=false:=rfl
@[go_sem] theorem i2L:gl.imm 59=false:=rfl
@[go_sem] theorem i2M:gl.imm 61=true:=rfl
@[go_sem] theorem i2N:gl.imm 86=true:=rfl
@[go_sem] theorem i2O:gl.imm 96=false:=rfl
@[go_sem] theorem i1y:gl.imm 101=false:=rfl
@[go_sem] theorem i1z:gl.imm 119=true:=rfl
def gl0:Gl where
 tab:=gl.tab
 imm:=fun _=>false
 whole:=gl.whole
@[go_sem] theorem i4M(t:TypeId):gl0.imm t=false:=rfl
@[go_sem] theorem i4N(t:Nat):gl0.tab t=gl.tab t:=rfl
theorem d4e{P:Program}{f:FuncId}{args:List D}{st:St}{R:D→St→Prop}(h:Am.Spec P gl0 f args st R):Am.Spec P gl f args st R:=h
@[go_sem] theorem d6J{a b:Nat}{z:List D}{fs:List (Nat×Nat×Bool)}(o:Option Ma):Uq ⟨a,b,z,[.str [],.str [],.int .i64 0,.str [],.sl false 1 16 [],.sl false 4 72 []],some (.agg [.str [],.str [],.int .i64 0,.str [],.Mk,.Mk]),.struct fs⟩ (o.map Ma.cells)= .agg (Ma.cells (o.getD default)):=by cases o<;>rfl
theorem follows:(Tryd.prog).follows .mixedOrders=true:=by kernel_rfl
end Go.Proofs.YtdjnbjnlnjhllaaDoor
