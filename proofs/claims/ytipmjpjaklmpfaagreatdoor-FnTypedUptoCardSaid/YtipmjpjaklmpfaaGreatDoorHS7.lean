/- Part of a proof that the program answers as the reference does: ZGS7. -/
import Derived.Test.YtipmjpjaklmpfaaGreatDoorHT
/- MADE BY PROGRAM (hgen.py): what the functions compute, over pure values. -/
set_option linter.unusedVariables false
set_option maxRecDepth 100000
namespace Go.H.Tryz
open Go Go.H
end Go.H.Tryz
