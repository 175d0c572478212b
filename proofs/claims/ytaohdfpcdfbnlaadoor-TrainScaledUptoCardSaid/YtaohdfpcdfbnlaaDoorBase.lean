/-
  What the listed tables read as.
-/
import Derived.Test.YtaohdfpcdfbnlaaDoorAm3
import Derived.Test.YtaohdfpcdfbnlaaDoorData
import Derived.Test.YtaohdfpcdfbnlaaDoorTy
set_option linter.unusedVariables false
set_option linter.unusedSimpArgs false
namespace Go.Proofs.YtaohdfpcdfbnlaaDoor
open Go Go.Am

def gl : Gl where
  tab := fun g => if g = 0 then some (gcells u8c tab0) else if g = 1 then some (gcells u8c tab1) else if g = 2 then some (gcells Utf8AcceptRange.cells tab2) else none
  imm := fun t => Nat.beq t 23 || Nat.beq t 26 || Nat.beq t 37 || Nat.beq t 67 || Nat.beq t 77 || Nat.beq t 89 || Nat.beq t 100 || Nat.beq t 137
@[go_sem] theorem gl_imm_22 : gl.imm 22 = false := rfl
@[go_sem] theorem gl_imm_23 : gl.imm 23 = true := rfl
@[go_sem] theorem gl_imm_26 : gl.imm 26 = true := rfl
@[go_sem] theorem gl_imm_27 : gl.imm 27 = false := rfl
@[go_sem] theorem gl_imm_28 : gl.imm 28 = false := rfl
@[go_sem] theorem gl_imm_33 : gl.imm 33 = false := rfl
@[go_sem] theorem gl_imm_37 : gl.imm 37 = true := rfl
@[go_sem] theorem gl_imm_45 : gl.imm 45 = false := rfl
@[go_sem] theorem gl_imm_61 : gl.imm 61 = false := rfl
@[go_sem] theorem gl_imm_67 : gl.imm 67 = true := rfl
@[go_sem] theorem gl_imm_70 : gl.imm 70 = false := rfl
@[go_sem] theorem gl_imm_77 : gl.imm 77 = true := rfl
@[go_sem] theorem gl_imm_100 : gl.imm 100 = true := rfl
@[go_sem] theorem gl_0 : gl.tab 0 = some (gcells u8c tab0) := rfl
@[go_sem] theorem gl_1 : gl.tab 1 = some (gcells u8c tab1) := rfl
@[go_sem] theorem gl_2 : gl.tab 2 = some (gcells Utf8AcceptRange.cells tab2) := rfl
def gl0 : Gl where
  tab := gl.tab
  imm := fun _ => false
@[go_sem] theorem gl0_imm (t : TypeId) : gl0.imm t = false := rfl
@[go_sem] theorem gl0_tab (t : Nat) : gl0.tab t = gl.tab t := rfl
theorem spec_gl0 {P : Program} {f : FuncId} {args : List D} {st : St} {R : D → St → Prop} (h : Am.Spec P gl0 f args st R) : Am.Spec P gl f args st R := h
theorem spec_gl1 {P : Program} {f : FuncId} {args : List D} {st : St} {R : D → St → Prop} (h : Am.Spec P gl f args st R) : Am.Spec P gl0 f args st R := h
theorem pure_gl1 {P : Program} {f : FuncId} {args : List D} {r : D} (h : Pure P gl f args r) : Pure P gl0 f args r := h

theorem follows : (Tryd.prog).follows .mixedOrders = true := by kernel_rfl

end Go.Proofs.YtaohdfpcdfbnlaaDoor

