import Derived.Test.YtgaeiccgdpnkkaaGreatDoorPData
import Derived.Test.YtgaeiccgdpnkkaaGreatDoorPTy
set_option linter.unusedVariables false
set_option linter.unusedSimpArgs false
namespace Go.Proofs.YtgaeiccgdpnkkaaGreatDoor
open Go Go.Am
def gl : Gl where
  tab := fun g => if g = 2 then some (d5J u8c p3w) else if g = 3 then some (d5J u8c d9n) else if g = 4 then some (d5J YG.cells i1A) else none
  imm := fun t => Nat.beq t 23 || Nat.beq t 26 || Nat.beq t 60 || Nat.beq t 143 || Nat.beq t 144 || Nat.beq t 161 || Nat.beq t 171 || Nat.beq t 186 || Nat.beq t 193 || Nat.beq t 221
@[go_sem] theorem p8F : gl.imm 22 = false := rfl
@[go_sem] theorem p8G : gl.imm 23 = true := rfl
@[go_sem] theorem p8H : gl.imm 26 = true := rfl
@[go_sem] theorem p8I : gl.imm 27 = false := rfl
@[go_sem] theorem p8J : gl.imm 28 = false := rfl
@[go_sem] theorem p8K : gl.imm 34 = false := rfl
@[go_sem] theorem p8L : gl.imm 35 = false := rfl
@[go_sem] theorem p8M : gl.imm 36 = false := rfl
@[go_sem] theorem p8N : gl.imm 37 = false := rfl
@[go_sem] theorem p8O : gl.imm 59 = false := rfl
@[go_sem] theorem p8P : gl.imm 60 = true := rfl
@[go_sem] theorem p8Q : gl.imm 78 = false := rfl
@[go_sem] theorem p8R : gl.imm 85 = false := rfl
@[go_sem] theorem p8S : gl.imm 92 = false := rfl
@[go_sem] theorem p7r : gl.imm 110 = false := rfl
@[go_sem] theorem p7s : gl.imm 115 = false := rfl
@[go_sem] theorem p7t : gl.imm 117 = false := rfl
@[go_sem] theorem p7u : gl.imm 120 = false := rfl
@[go_sem] theorem p7v : gl.imm 129 = false := rfl
@[go_sem] theorem p7w : gl.imm 144 = true := rfl
@[go_sem] theorem p7x : gl.imm 161 = true := rfl
@[go_sem] theorem p7y : gl.imm 169 = false := rfl
@[go_sem] theorem p7z : gl.imm 171 = true := rfl
@[go_sem] theorem p7A : gl.imm 186 = true := rfl
@[go_sem] theorem p7B : gl.imm 289 = false := rfl
@[go_sem] theorem p7C : gl.imm 312 = false := rfl
@[go_sem] theorem p7D : gl.imm 313 = false := rfl
@[go_sem] theorem r4Y : gl.tab 2 = some (d5J u8c p3w) := rfl
@[go_sem] theorem r4Z : gl.tab 3 = some (d5J u8c d9n) := rfl
@[go_sem] theorem r5a : gl.tab 4 = some (d5J YG.cells i1A) := rfl
def gl0 : Gl where
  tab := gl.tab
  imm := fun _ => false
@[go_sem] theorem r0O (t : TypeId) : gl0.imm t = false := rfl
@[go_sem] theorem r0P (t : Nat) : gl0.tab t = gl.tab t := rfl
theorem p4t {P : Program} {f : FuncId} {args : List D} {st : St} {R : D → St → Prop} (h : Am.Spec P gl0 f args st R) : Am.Spec P gl f args st R := h
theorem p4u {P : Program} {f : FuncId} {args : List D} {st : St} {R : D → St → Prop} (h : Am.Spec P gl f args st R) : Am.Spec P gl0 f args st R := h
theorem follows : (Tryz.prog).follows .mixedOrders = true := by kernel_rfl
end Go.Proofs.YtgaeiccgdpnkkaaGreatDoor
