import Derived.Test.YtdjnbjnlnjhllaaGreatDoorFIWalk8
set_option linter.unusedVariables false
set_option linter.unusedSimpArgs false
namespace Go.Proofs.YtdjnbjnlnjhllaaGreatDoor
open Go Go.Am
end Go.Proofs.YtdjnbjnlnjhllaaGreatDoor
