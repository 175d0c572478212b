import Derived.Test.YtgaeiccgdpnkkaaGreatDoorPWalk6
set_option linter.unusedVariables false
set_option linter.unusedSimpArgs false
namespace Go.Proofs.YtgaeiccgdpnkkaaGreatDoor
open Go Go.Am
end Go.Proofs.YtgaeiccgdpnkkaaGreatDoor
