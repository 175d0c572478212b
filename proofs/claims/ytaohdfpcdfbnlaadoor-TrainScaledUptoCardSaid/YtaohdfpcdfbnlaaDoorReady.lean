/-
  PL: trainReady answers true: the kernel runs its mirror.
-/
import Derived.Test.YtaohdfpcdfbnlaaDoorAm3
import Derived.Test.YtaohdfpcdfbnlaaDoorMirrors
set_option linter.unusedVariables false
set_option linter.unusedSimpArgs false
namespace Go.Proofs.YtaohdfpcdfbnlaaDoor
open Go Go.Am
set_option maxRecDepth 1000000 in
theorem trainReady_run (m : Nat) : glosswrightlaw8TrainReady (m + 300) = some true := by kernel_rfl
theorem trainReady_true : Evt glosswrightlaw8TrainReady (fun b => b = true) := ⟨true, rfl, 300, fun n hn => by
  obtain ⟨m, rfl⟩ : ∃ m, n = m + 300 := ⟨n - 300, by omega⟩
  exact trainReady_run m⟩
end Go.Proofs.YtaohdfpcdfbnlaaDoor

