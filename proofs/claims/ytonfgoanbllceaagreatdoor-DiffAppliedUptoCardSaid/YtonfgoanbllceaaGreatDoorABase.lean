import Derived.Test.YtonfgoanbllceaaGreatDoorAData
import Derived.Test.YtonfgoanbllceaaGreatDoorATy
set_option linter.unusedVariables false
set_option linter.unusedSimpArgs false
namespace Go.Proofs.YtonfgoanbllceaaGreatDoor
open Go Go.Am
def gl:Gl where
 tab:=fun g=>if g=0 then some (gA u8c JL)else if g=1 then some (gA u8c nu)else if g=2 then some (gA C4.cells rj)else none
 imm:=fun t=>Nat.beq t 23||Nat.beq t 26||Nat.beq t 92||Nat.beq t 93||Nat.beq t 100||Nat.beq t 101||Nat.beq t 106||Nat.beq t 114||Nat.beq t 133||Nat.beq t 160
@[go_sem] theorem PG:gl.imm 22=false:=rfl
@[go_sem] theorem PI:gl.imm 23=true:=rfl
@[go_sem] theorem PJ:gl.imm 26=true:=rfl
@[go_sem] theorem PK:gl.imm 27=false:=rfl
@[go_sem] theorem PL:gl.imm 28=false:=rfl
@[go_sem] theorem PN:gl.imm 34=false:=rfl
@[go_sem] theorem PO:gl.imm 35=false:=rfl
@[go_sem] theorem PS:gl.imm 36=false:=rfl
@[go_sem] theorem PU:gl.imm 37=false:=rfl
@[go_sem] theorem PV:gl.imm 53=false:=rfl
@[go_sem] theorem PW:gl.imm 59=false:=rfl
@[go_sem] theorem PX:gl.imm 61=false:=rfl
@[go_sem] theorem PY:gl.imm 64=false:=rfl
@[go_sem] theorem PZ:gl.imm 75=false:=rfl
@[go_sem] theorem Qa:gl.imm 93=true:=rfl
@[go_sem] theorem Oh:gl.imm 100=true:=rfl
@[go_sem] theorem Oi:gl.imm 101=true:=rfl
@[go_sem] theorem Oj:gl.imm 106=true:=rfl
@[go_sem] theorem Ol:gl.imm 133=true:=rfl
@[go_sem] theorem Om:gl.imm 188=false:=rfl
@[go_sem] theorem Oo:gl.imm 200=false:=rfl
@[go_sem] theorem Oq:gl.imm 201=false:=rfl
@[go_sem] theorem Wp:gl.tab 0=some (gA u8c JL):=rfl
@[go_sem] theorem Wq:gl.tab 1=some (gA u8c nu):=rfl
@[go_sem] theorem Wr:gl.tab 2=some (gA C4.cells rj):=rfl
def gl0:Gl where
 tab:=gl.tab
 imm:=fun _=>false
@[go_sem] theorem Sh(t:TypeId):gl0.imm t=false:=rfl
@[go_sem] theorem Si(t:Nat):gl0.tab t=gl.tab t:=rfl
theorem sA{P:Program}{f:FuncId}{args:List D}{st:St}{R:D→St→Prop}(h:Am.Spec P gl0 f args st R):Am.Spec P gl f args st R:=h
theorem KG{P:Program}{f:FuncId}{args:List D}{st:St}{R:D→St→Prop}(h:Am.Spec P gl f args st R):Am.Spec P gl0 f args st R:=h
theorem follows:(Tryz.prog).follows .mixedOrders=true:=by kernel_rfl
end Go.Proofs.YtonfgoanbllceaaGreatDoor
