/- Part of a proof that the program answers as the reference does: HPure18, HPure14, HPure15. -/
import Derived.Test.YtmjpemdbkenebaaGreatDoorHO
namespace Go.H
open Go
set_option linter.unusedVariables false
set_option linter.unusedSimpArgs false
end Go.H
namespace Go.H
open Go
set_option linter.unusedVariables false
set_option linter.unusedSimpArgs false
def boolsP (bs : List Bool) : PV := .sl 1 false (bs.map PV.bool)
@[simp] theorem boolsP_len (bs : List Bool) : zq1j (boolsP bs) = some (.int .i64 (bs.length : Int)) := by simp [boolsP]
end Go.H
namespace Go.H
open Go
set_option linter.unusedVariables false
set_option linter.unusedSimpArgs false
mutual
def tellT (v : Tr) : Tr → Bool
 | .mk k n s ks => decide (Tr.mk k n s ks = v) || (decide (k = 6) && tellTs v ks)
def tellTs (v : Tr) : List Tr → Bool
 | [] => false
 | x :: r => tellT v x || tellTs v r
end
end Go.H
