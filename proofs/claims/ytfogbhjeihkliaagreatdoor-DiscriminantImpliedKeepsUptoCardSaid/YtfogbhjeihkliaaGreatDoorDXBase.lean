import Derived.Test.YtfogbhjeihkliaaGreatDoorDXData
import Derived.Test.YtfogbhjeihkliaaGreatDoorDXTy
set_option linter.unusedVariables false
set_option linter.unusedSimpArgs false
namespace Go.Proofs.YtfogbhjeihkliaaGreatDoor
open Go Go.Am
def gl:Gl where
 tab:=fun g=>if g=0 then some (ju u8c KB)else if g=1 then some (ju u8c pN)else if g=2 then some (ju C0.cells sS)else none
 imm:=fun t=>Nat.beq t 23||Nat.beq t 26||Nat.beq t 45||Nat.beq t 46||Nat.beq t 72||Nat.beq t 96||Nat.beq t 125||Nat.beq t 130||Nat.beq t 150||Nat.beq t 172||Nat.beq t 173
@[go_sem] theorem QI:gl.imm 22=false:=rfl
@[go_sem] theorem QJ:gl.imm 23=true:=rfl
@[go_sem] theorem QK:gl.imm 26=true:=rfl
@[go_sem] theorem QL:gl.imm 27=false:=rfl
@[go_sem] theorem QM:gl.imm 28=false:=rfl
@[go_sem] theorem QN:gl.imm 33=false:=rfl
@[go_sem] theorem QO:gl.imm 35=false:=rfl
@[go_sem] theorem QS:gl.imm 45=true:=rfl
@[go_sem] theorem QT:gl.imm 46=true:=rfl
@[go_sem] theorem QU:gl.imm 68=false:=rfl
@[go_sem] theorem QV:gl.imm 72=true:=rfl
@[go_sem] theorem QW:gl.imm 81=false:=rfl
@[go_sem] theorem QX:gl.imm 89=false:=rfl
@[go_sem] theorem QY:gl.imm 96=true:=rfl
@[go_sem] theorem Pq:gl.imm 125=true:=rfl
@[go_sem] theorem Pr:gl.imm 190=false:=rfl
@[go_sem] theorem Pt:gl.imm 209=false:=rfl
@[go_sem] theorem Pu:gl.imm 210=false:=rfl
@[go_sem] theorem XL:gl.tab 0=some (ju u8c KB):=rfl
@[go_sem] theorem XM:gl.tab 1=some (ju u8c pN):=rfl
@[go_sem] theorem XO:gl.tab 2=some (ju C0.cells sS):=rfl
def gl0:Gl where
 tab:=gl.tab
 imm:=fun _=>false
@[go_sem] theorem TB(t:TypeId):gl0.imm t=false:=rfl
@[go_sem] theorem TD(t:Nat):gl0.tab t=gl.tab t:=rfl
theorem qp{P:Program}{f:FuncId}{args:List D}{st:St}{R:D→St→Prop}(h:Am.Spec P gl0 f args st R):Am.Spec P gl f args st R:=h
theorem tV{P:Program}{f:FuncId}{args:List D}{st:St}{R:D→St→Prop}(h:Am.Spec P gl f args st R):Am.Spec P gl0 f args st R:=h
theorem W6{P:Program}{f:FuncId}{args:List D}{r:D}(h:Pure P gl f args r):Pure P gl0 f args r:=h
theorem follows:(Tryz.prog).follows .mixedOrders=true:=by kernel_rfl
end Go.Proofs.YtfogbhjeihkliaaGreatDoor
