import Derived.Test.YtgaeiccgdpnkkaaGreatDoorCData
import Derived.Test.YtgaeiccgdpnkkaaGreatDoorCTy
set_option linter.unusedVariables false
set_option linter.unusedSimpArgs false
namespace Go.Proofs.YtgaeiccgdpnkkaaGreatDoor
open Go Go.Am
def gl : Gl where
  tab := fun g => if g = 2 then some (d4K u8c p1N) else if g = 3 then some (d4K u8c d7Z) else if g = 4 then some (d4K YE.cells i0p) else none
  imm := fun t => Nat.beq t 23 || Nat.beq t 26 || Nat.beq t 60 || Nat.beq t 143 || Nat.beq t 144 || Nat.beq t 161 || Nat.beq t 171 || Nat.beq t 186 || Nat.beq t 193 || Nat.beq t 221
@[go_sem] theorem p6I : gl.imm 22 = false := rfl
@[go_sem] theorem p6J : gl.imm 23 = true := rfl
@[go_sem] theorem p6K : gl.imm 26 = true := rfl
@[go_sem] theorem p6L : gl.imm 27 = false := rfl
@[go_sem] theorem p6M : gl.imm 28 = false := rfl
@[go_sem] theorem p6N : gl.imm 34 = false := rfl
@[go_sem] theorem p6O : gl.imm 35 = false := rfl
@[go_sem] theorem p6P : gl.imm 36 = false := rfl
@[go_sem] theorem p6Q : gl.imm 37 = false := rfl
@[go_sem] theorem p6R : gl.imm 59 = false := rfl
@[go_sem] theorem p6S : gl.imm 60 = true := rfl
@[go_sem] theorem p6T : gl.imm 78 = false := rfl
@[go_sem] theorem p6U : gl.imm 85 = false := rfl
@[go_sem] theorem p6V : gl.imm 92 = false := rfl
@[go_sem] theorem p5u : gl.imm 110 = false := rfl
@[go_sem] theorem p5v : gl.imm 115 = false := rfl
@[go_sem] theorem p5w : gl.imm 117 = false := rfl
@[go_sem] theorem p5x : gl.imm 120 = false := rfl
@[go_sem] theorem p5y : gl.imm 129 = false := rfl
@[go_sem] theorem p5z : gl.imm 144 = true := rfl
@[go_sem] theorem p5A : gl.imm 161 = true := rfl
@[go_sem] theorem p5B : gl.imm 169 = false := rfl
@[go_sem] theorem p5C : gl.imm 171 = true := rfl
@[go_sem] theorem p5D : gl.imm 186 = true := rfl
@[go_sem] theorem p5E : gl.imm 289 = false := rfl
@[go_sem] theorem p5F : gl.imm 312 = false := rfl
@[go_sem] theorem p5G : gl.imm 313 = false := rfl
@[go_sem] theorem r2L : gl.tab 2 = some (d4K u8c p1N) := rfl
@[go_sem] theorem r2M : gl.tab 3 = some (d4K u8c d7Z) := rfl
@[go_sem] theorem r2N : gl.tab 4 = some (d4K YE.cells i0p) := rfl
def gl0 : Gl where
  tab := gl.tab
  imm := fun _ => false
@[go_sem] theorem p8H (t : TypeId) : gl0.imm t = false := rfl
@[go_sem] theorem p8I (t : Nat) : gl0.tab t = gl.tab t := rfl
theorem p2J {P : Program} {f : FuncId} {args : List D} {st : St} {R : D → St → Prop} (h : Am.Spec P gl0 f args st R) : Am.Spec P gl f args st R := h
theorem p2K {P : Program} {f : FuncId} {args : List D} {st : St} {R : D → St → Prop} (h : Am.Spec P gl f args st R) : Am.Spec P gl0 f args st R := h
theorem follows : (Tryz.prog).follows .mixedOrders = true := by kernel_rfl
end Go.Proofs.YtgaeiccgdpnkkaaGreatDoor
