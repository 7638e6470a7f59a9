/- Parts of the proof. -/
import Derived.Test.YtllbabjgpdmblaaDoorZTdR5
import Derived.Test.YtllbabjgpdmblaaDoorZTd9d
set_option linter.unusedSimpArgs false
set_option linter.unusedVariables false
set_option linter.unusedSectionVars false
namespace Go.SX.Td
open Go Go.SX Tb
end Go.SX.Td
