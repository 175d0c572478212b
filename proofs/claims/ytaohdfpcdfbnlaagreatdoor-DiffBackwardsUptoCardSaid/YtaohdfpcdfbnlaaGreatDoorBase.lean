import Derived.Test.YtaohdfpcdfbnlaaGreatDoorAm3
import Derived.Test.YtaohdfpcdfbnlaaGreatDoorData
import Derived.Test.YtaohdfpcdfbnlaaGreatDoorTy
set_option linter.unusedVariables false
set_option linter.unusedSimpArgs false
namespace Go.Proofs.YtaohdfpcdfbnlaaGreatDoor
open Go Go.Am
def gl : Gl where
  tab := fun g => if g = 0 then some (bS u8c Ax) else if g = 1 then some (bS u8c gF) else if g = 2 then some (bS B7.cells lX) else none
  imm := fun t => Nat.beq t 23 || Nat.beq t 26 || Nat.beq t 87 || Nat.beq t 88 || Nat.beq t 93 || Nat.beq t 109 || Nat.beq t 128 || Nat.beq t 162
@[go_sem] theorem FJ : gl.imm 22 = false := rfl
@[go_sem] theorem FK : gl.imm 23 = true := rfl
@[go_sem] theorem FL : gl.imm 26 = true := rfl
@[go_sem] theorem FM : gl.imm 27 = false := rfl
@[go_sem] theorem FN : gl.imm 28 = false := rfl
@[go_sem] theorem FP : gl.imm 34 = false := rfl
@[go_sem] theorem FQ : gl.imm 35 = false := rfl
@[go_sem] theorem FT : gl.imm 36 = false := rfl
@[go_sem] theorem FU : gl.imm 37 = false := rfl
@[go_sem] theorem FV : gl.imm 51 = false := rfl
@[go_sem] theorem FW : gl.imm 57 = false := rfl
@[go_sem] theorem FX : gl.imm 59 = false := rfl
@[go_sem] theorem FY : gl.imm 62 = false := rfl
@[go_sem] theorem FZ : gl.imm 73 = false := rfl
@[go_sem] theorem Ga : gl.imm 87 = true := rfl
@[go_sem] theorem Gb : gl.imm 88 = true := rfl
@[go_sem] theorem Gc : gl.imm 93 = true := rfl
@[go_sem] theorem EA : gl.imm 128 = true := rfl
@[go_sem] theorem MG : gl.tab 0 = some (bS u8c Ax) := rfl
@[go_sem] theorem MH : gl.tab 1 = some (bS u8c gF) := rfl
@[go_sem] theorem MI : gl.tab 2 = some (bS B7.cells lX) := rfl
def gl0 : Gl where
  tab := gl.tab
  imm := fun _ => false
@[go_sem] theorem Ik (t : TypeId) : gl0.imm t = false := rfl
@[go_sem] theorem Il (t : Nat) : gl0.tab t = gl.tab t := rfl
theorem oG {P : Program} {f : FuncId} {args : List D} {st : St} {R : D → St → Prop} (h : Am.Spec P gl0 f args st R) : Am.Spec P gl f args st R := h
theorem Cm {P : Program} {f : FuncId} {args : List D} {st : St} {R : D → St → Prop} (h : Am.Spec P gl f args st R) : Am.Spec P gl0 f args st R := h
theorem follows : (Tryz.prog).follows .mixedOrders = true := by kernel_rfl
end Go.Proofs.YtaohdfpcdfbnlaaGreatDoor
