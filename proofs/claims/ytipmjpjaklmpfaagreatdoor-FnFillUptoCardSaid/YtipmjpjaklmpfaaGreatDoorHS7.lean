/- Part of a proof that the program answers as the reference does: ZGS7. -/
import Derived.Test.YtipmjpjaklmpfaaGreatDoorHT
set_option linter.unusedVariables false
set_option maxRecDepth 100000
namespace Go.H.Tryz
open Go Go.H
end Go.H.Tryz
