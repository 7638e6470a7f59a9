/- Parts of the proof. -/
import Derived.Test.YtllbabjgpdmblaaDoorZTdR4
import Derived.Test.YtllbabjgpdmblaaDoorZTdFew
import Derived.Test.YtllbabjgpdmblaaDoorZTd6d
set_option linter.unusedSimpArgs false
set_option linter.unusedVariables false
set_option linter.unusedSectionVars false
namespace Go.SX.Td
open Go Go.SX Tb
end Go.SX.Td
