import Derived.Test.YtgaeiccgdpnkkaaGreatDoorWData
import Derived.Test.YtgaeiccgdpnkkaaGreatDoorWTy
set_option linter.unusedVariables false
set_option linter.unusedSimpArgs false
namespace Go.Proofs.YtgaeiccgdpnkkaaGreatDoor
open Go Go.Am
def gl : Gl where
  tab := fun g => if g = 2 then some (d3S u8c p1p) else if g = 3 then some (d3S u8c d7y) else if g = 4 then some (d3S Xp.cells d9H) else none
  imm := fun t => Nat.beq t 23 || Nat.beq t 26 || Nat.beq t 60 || Nat.beq t 143 || Nat.beq t 144 || Nat.beq t 161 || Nat.beq t 171 || Nat.beq t 186 || Nat.beq t 193 || Nat.beq t 221
@[go_sem] theorem p6p : gl.imm 22 = false := rfl
@[go_sem] theorem p6q : gl.imm 23 = true := rfl
@[go_sem] theorem p6r : gl.imm 26 = true := rfl
@[go_sem] theorem p6s : gl.imm 27 = false := rfl
@[go_sem] theorem p6t : gl.imm 28 = false := rfl
@[go_sem] theorem p6u : gl.imm 34 = false := rfl
@[go_sem] theorem p6v : gl.imm 35 = false := rfl
@[go_sem] theorem p6w : gl.imm 36 = false := rfl
@[go_sem] theorem p6x : gl.imm 37 = false := rfl
@[go_sem] theorem p6y : gl.imm 59 = false := rfl
@[go_sem] theorem p6z : gl.imm 60 = true := rfl
@[go_sem] theorem p6A : gl.imm 78 = false := rfl
@[go_sem] theorem p6B : gl.imm 85 = false := rfl
@[go_sem] theorem p6C : gl.imm 92 = false := rfl
@[go_sem] theorem p5c : gl.imm 110 = false := rfl
@[go_sem] theorem p5d : gl.imm 115 = false := rfl
@[go_sem] theorem p5e : gl.imm 117 = false := rfl
@[go_sem] theorem p5f : gl.imm 120 = false := rfl
@[go_sem] theorem p5g : gl.imm 129 = false := rfl
@[go_sem] theorem p5h : gl.imm 144 = true := rfl
@[go_sem] theorem p5i : gl.imm 161 = true := rfl
@[go_sem] theorem p5j : gl.imm 169 = false := rfl
@[go_sem] theorem p5k : gl.imm 171 = true := rfl
@[go_sem] theorem p5l : gl.imm 186 = true := rfl
@[go_sem] theorem p5m : gl.imm 289 = false := rfl
@[go_sem] theorem p5n : gl.imm 312 = false := rfl
@[go_sem] theorem p5o : gl.imm 313 = false := rfl
@[go_sem] theorem r2G : gl.tab 2 = some (d3S u8c p1p) := rfl
@[go_sem] theorem r2H : gl.tab 3 = some (d3S u8c d7y) := rfl
@[go_sem] theorem r2I : gl.tab 4 = some (d3S Xp.cells d9H) := rfl
def gl0 : Gl where
  tab := gl.tab
  imm := fun _ => false
@[go_sem] theorem p8v (t : TypeId) : gl0.imm t = false := rfl
@[go_sem] theorem p8w (t : Nat) : gl0.tab t = gl.tab t := rfl
theorem p2l {P : Program} {f : FuncId} {args : List D} {st : St} {R : D → St → Prop} (h : Am.Spec P gl0 f args st R) : Am.Spec P gl f args st R := h
theorem p2m {P : Program} {f : FuncId} {args : List D} {st : St} {R : D → St → Prop} (h : Am.Spec P gl f args st R) : Am.Spec P gl0 f args st R := h
theorem follows : (Tryz.prog).follows .mixedOrders = true := by kernel_rfl
end Go.Proofs.YtgaeiccgdpnkkaaGreatDoor
