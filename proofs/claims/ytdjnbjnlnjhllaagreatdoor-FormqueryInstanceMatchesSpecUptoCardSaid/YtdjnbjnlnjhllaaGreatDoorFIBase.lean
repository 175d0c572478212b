import Derived.Lib.ItoaNum
import Derived.Test.YtdjnbjnlnjhllaaGreatDoorFIData
import Derived.Test.YtdjnbjnlnjhllaaGreatDoorFITy
set_option linter.unusedVariables false
set_option linter.unusedSimpArgs false
namespace Go.Proofs.YtdjnbjnlnjhllaaGreatDoor
open Go Go.Am
def gl:Gl where
 tab:=fun g=>none
 imm:=fun t=>Nat.beq t 22||Nat.beq t 65||Nat.beq t 71||Nat.beq t 101||Nat.beq t 117
 whole:=fun g=>if g=0 then some (Lib.pow10Tab.map fun z=>Value.int .u64 z).toArray else none
@[go_sem] theorem z3H:gl.imm 22=true:=rfl
@[go_sem] theorem z3I:gl.imm 23=false:=rfl
@[go_sem] theorem z3J:gl.imm 29=false:=rfl
@[go_sem] theorem z3K:gl.imm 34=false:=rfl
@[go_sem] theorem z3L:gl.imm 39=false:=rfl
@[go_sem] theorem z3M:gl.imm 65=true:=rfl
@[go_sem] theorem z3N:gl.imm 71=true:=rfl
@[go_sem] theorem z3O:gl.imm 96=false:=rfl
@[go_sem] theorem z2w:gl.imm 101=true:=rfl
@[go_sem] theorem z2x:gl.imm 111=false:=rfl
@[go_sem] theorem z2y:gl.imm 117=true:=rfl
def gl0:Gl where
 tab:=gl.tab
 imm:=fun _=>false
 whole:=gl.whole
@[go_sem] theorem z6b(t:TypeId):gl0.imm t=false:=rfl
@[go_sem] theorem z6c(t:Nat):gl0.tab t=gl.tab t:=rfl
theorem x3d{P:Program}{f:FuncId}{args:List D}{st:St}{R:D→St→Prop}(h:Am.Spec P gl0 f args st R):Am.Spec P gl f args st R:=h
theorem x7h{P:Program}{f:FuncId}{args:List D}{st:St}{R:D→St→Prop}(h:Am.Spec P gl f args st R):Am.Spec P gl0 f args st R:=h
theorem w8a{P:Program}{f:FuncId}{args:List D}{r:D}(h:Pure P gl f args r):Pure P gl0 f args r:=h
@[go_sem] theorem y7m{a b:Nat}{z:List D}{fs:List (Nat×Nat×Bool)}(o:Option w3V):x4N ⟨a,b,z,[.str [],.str [],.int .i64 0,.str [],.sl false 1 16 [],.sl false 4 72 []],some (.agg [.str [],.str [],.int .i64 0,.str [],.w4g,.w4g]),.struct fs⟩ (o.map w3V.cells)= .agg (w3V.cells (o.getD default)):=by cases o<;>rfl
theorem follows:(Tryz.prog).follows .mixedOrders=true:=by kernel_rfl
end Go.Proofs.YtdjnbjnlnjhllaaGreatDoor
