/- The facts of the cards that hang on the program alone. -/
import Derived.Test.YtipmjpjaklmpfaaGreatDoorCards
import Derived.Test.YtipmjpjaklmpfaaGreatDoorTie
import Derived.Test.YtipmjpjaklmpfaaGreatDoorHF
import Derived.Test.YtipmjpjaklmpfaaGreatDoorHNE
import Derived.Test.YtipmjpjaklmpfaaGreatDoorHG
set_option maxRecDepth 100000
namespace Go.Proofs.YtipmjpjaklmpfaaGreatDoor
open Go Go.H
theorem jp1 : (laidOutB Tryz.pinned.checked.prog) = true := by kernel_rfl
theorem jp2 : (mapsRowed Tryz.pinned.checked.prog) = true := by kernel_rfl
theorem jp6 : (Tryz.pinned.checked.prog.stops == []) = true := by kernel_rfl
theorem jp8 : (Tryz.pinned.checked.prog.stopKnobs == []) = true := by kernel_rfl
theorem jp22 : (Rows.fnTypedUptoRow.plainKeys == Tryz.pinned.checked.prog.plainKeys) = true := by kernel_rfl
theorem jp24 : (Tryz.pinned.checked.prog.stopsHeard) = true := by kernel_rfl
theorem jp25 : (Tryz.pinned.checked.prog.mayEnter) = true := by kernel_rfl
theorem jp26 : (Rows.fnTypedUptoRow.lifted == Tryz.pinned.checked.prog.liftsFinal) = true := by kernel_rfl
theorem jp27 : (Tryz.pinned.checked.prog.make == some Rows.fnTypedUptoRow.make) = true := by kernel_rfl
end Go.Proofs.YtipmjpjaklmpfaaGreatDoor
