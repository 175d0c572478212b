import Derived.Test.YtbgkcolebacbmaaGreatDoorDData
import Derived.Test.YtbgkcolebacbmaaGreatDoorDTy
set_option linter.unusedVariables false
set_option linter.unusedSimpArgs false
namespace Go.Proofs.YtbgkcolebacbmaaGreatDoor
open Go Go.Am
def gl:Gl where
 tab:=fun g=>if g=0 then some (fL u8c Hv)else if g=1 then some (fL u8c mS)else if g=2 then some (fL C4.cells qF)else none
 imm:=fun t=>Nat.beq t 23||Nat.beq t 26||Nat.beq t 91||Nat.beq t 92||Nat.beq t 97||Nat.beq t 114||Nat.beq t 125||Nat.beq t 128||Nat.beq t 155||Nat.beq t 156
@[go_sem] theorem Nl:gl.imm 22=false:=rfl
@[go_sem] theorem Nn:gl.imm 23=true:=rfl
@[go_sem] theorem Np:gl.imm 26=true:=rfl
@[go_sem] theorem Nq:gl.imm 27=false:=rfl
@[go_sem] theorem Nr:gl.imm 28=false:=rfl
@[go_sem] theorem Ns:gl.imm 33=false:=rfl
@[go_sem] theorem Nt:gl.imm 34=false:=rfl
@[go_sem] theorem Nu:gl.imm 35=false:=rfl
@[go_sem] theorem Nv:gl.imm 36=false:=rfl
@[go_sem] theorem Nw:gl.imm 57=false:=rfl
@[go_sem] theorem Nx:gl.imm 60=false:=rfl
@[go_sem] theorem Ny:gl.imm 65=false:=rfl
@[go_sem] theorem Nz:gl.imm 68=false:=rfl
@[go_sem] theorem NA:gl.imm 91=true:=rfl
@[go_sem] theorem NC:gl.imm 92=true:=rfl
@[go_sem] theorem ND:gl.imm 97=true:=rfl
@[go_sem] theorem LX:gl.imm 104=false:=rfl
@[go_sem] theorem LY:gl.imm 128=true:=rfl
@[go_sem] theorem LZ:gl.imm 172=false:=rfl
@[go_sem] theorem Ma:gl.imm 190=false:=rfl
@[go_sem] theorem Mb:gl.imm 191=false:=rfl
@[go_sem] theorem TX:gl.tab 0=some (fL u8c Hv):=rfl
@[go_sem] theorem TY:gl.tab 1=some (fL u8c mS):=rfl
@[go_sem] theorem Ua:gl.tab 2=some (fL C4.cells qF):=rfl
def gl0:Gl where
 tab:=gl.tab
 imm:=fun _=>false
@[go_sem] theorem Qb(t:TypeId):gl0.imm t=false:=rfl
@[go_sem] theorem Qc(t:Nat):gl0.tab t=gl.tab t:=rfl
theorem uz{P:Program}{f:FuncId}{args:List D}{st:St}{R:D→St→Prop}(h:Am.Spec P gl0 f args st R):Am.Spec P gl f args st R:=h
theorem IB{P:Program}{f:FuncId}{args:List D}{st:St}{R:D→St→Prop}(h:Am.Spec P gl f args st R):Am.Spec P gl0 f args st R:=h
theorem follows:(Tryz.prog).follows .mixedOrders=true:=by kernel_rfl
end Go.Proofs.YtbgkcolebacbmaaGreatDoor
