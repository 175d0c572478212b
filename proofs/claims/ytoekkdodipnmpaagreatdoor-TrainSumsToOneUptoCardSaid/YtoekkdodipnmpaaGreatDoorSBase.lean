import Derived.Test.YtoekkdodipnmpaaGreatDoorSData
import Derived.Test.YtoekkdodipnmpaaGreatDoorSTy
set_option linter.unusedVariables false
set_option linter.unusedSimpArgs false
namespace Go.Proofs.YtoekkdodipnmpaaGreatDoor
open Go Go.Am
def gl:Gl where
 tab:=fun g=>if g=2 then some (cS u8c Dv)else if g=3 then some (cS u8c jv)else if g=4 then some (cS B7.cells mR)else none
 imm:=fun t=>Nat.beq t 23||Nat.beq t 26||Nat.beq t 33||Nat.beq t 59||Nat.beq t 78||Nat.beq t 83||Nat.beq t 115||Nat.beq t 131||Nat.beq t 145||Nat.beq t 146
@[go_sem] theorem Jq:gl.imm 22=false:=rfl
@[go_sem] theorem Jr:gl.imm 23=true:=rfl
@[go_sem] theorem Js:gl.imm 26=true:=rfl
@[go_sem] theorem Jt:gl.imm 27=false:=rfl
@[go_sem] theorem Ju:gl.imm 28=false:=rfl
@[go_sem] theorem Jv:gl.imm 33=true:=rfl
@[go_sem] theorem Jw:gl.imm 37=false:=rfl
@[go_sem] theorem Jx:gl.imm 50=false:=rfl
@[go_sem] theorem Jy:gl.imm 59=true:=rfl
@[go_sem] theorem Jz:gl.imm 62=false:=rfl
@[go_sem] theorem JA:gl.imm 65=false:=rfl
@[go_sem] theorem JB:gl.imm 78=true:=rfl
@[go_sem] theorem JC:gl.imm 83=true:=rfl
@[go_sem] theorem HX:gl.imm 158=false:=rfl
@[go_sem] theorem HY:gl.imm 172=false:=rfl
@[go_sem] theorem HZ:gl.imm 173=false:=rfl
@[go_sem] theorem PL:gl.tab 2=some (cS u8c Dv):=rfl
@[go_sem] theorem PN:gl.tab 3=some (cS u8c jv):=rfl
@[go_sem] theorem PO:gl.tab 4=some (cS B7.cells mR):=rfl
def gl0:Gl where
 tab:=gl.tab
 imm:=fun _=>false
@[go_sem] theorem LC(t:TypeId):gl0.imm t=false:=rfl
@[go_sem] theorem LD(t:Nat):gl0.tab t=gl.tab t:=rfl
theorem Ey{P:Program}{f:FuncId}{args:List D}{st:St}{R:D→St→Prop}(h:Am.Spec P gl0 f args st R):Am.Spec P gl f args st R:=h
theorem Ez{P:Program}{f:FuncId}{args:List D}{st:St}{R:D→St→Prop}(h:Am.Spec P gl f args st R):Am.Spec P gl0 f args st R:=h
theorem follows:(Tryz.prog).follows .mixedOrders=true:=by kernel_rfl
end Go.Proofs.YtoekkdodipnmpaaGreatDoor
