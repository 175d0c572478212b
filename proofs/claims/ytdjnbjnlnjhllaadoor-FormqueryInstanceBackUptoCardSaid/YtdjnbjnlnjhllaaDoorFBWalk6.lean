import Derived.Test.YtdjnbjnlnjhllaaDoorFBWalk5
set_option linter.unusedVariables false
set_option linter.unusedSimpArgs false
namespace Go.Proofs.YtdjnbjnlnjhllaaDoor
open Go Go.Am
end Go.Proofs.YtdjnbjnlnjhllaaDoor
