/- Parts of the proof. -/
import Derived.Test.YtllbabjgpdmblaaZClT
import Derived.Test.YtllbabjgpdmblaaZCl11
set_option linter.unusedSimpArgs false
set_option linter.unusedVariables false
namespace Go.SX.Cl
open Go Go.SX Go.Proofs
set_option maxRecDepth 100000
end Go.SX.Cl
