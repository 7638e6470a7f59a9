/- Parts of the proof. -/
import Derived.Test.YtllbabjgpdmblaaDoorZTdR6
import Derived.Test.YtllbabjgpdmblaaDoorZTd8d
set_option linter.unusedSimpArgs false
set_option linter.unusedVariables false
set_option linter.unusedSectionVars false
namespace Go.SX.Td
open Go Go.SX Tb
end Go.SX.Td
