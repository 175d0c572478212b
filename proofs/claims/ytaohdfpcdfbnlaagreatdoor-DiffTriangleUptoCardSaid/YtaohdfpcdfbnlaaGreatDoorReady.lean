import Derived.KernelRfl
import Derived.Test.YtaohdfpcdfbnlaaGreatDoorAm3
import Derived.Test.YtaohdfpcdfbnlaaGreatDoorMirrors
set_option linter.unusedVariables false
set_option linter.unusedSimpArgs false
namespace Go.Proofs.YtaohdfpcdfbnlaaGreatDoor
open Go Go.Am
set_option maxRecDepth 1000000 in
theorem sH (m : Nat) : J5 (m + 300) = some true := by kernel_rfl
theorem kQ : Evt J5 (fun b => b = true) := ⟨true, rfl, 300, fun n hn => by
 obtain ⟨m, rfl⟩ : ∃ m, n = m + 300 := ⟨n - 300, by omega⟩
 exact sH m⟩
end Go.Proofs.YtaohdfpcdfbnlaaGreatDoor
