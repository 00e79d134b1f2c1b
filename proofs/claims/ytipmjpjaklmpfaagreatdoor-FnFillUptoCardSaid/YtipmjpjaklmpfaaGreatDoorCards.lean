/-
  DERIVED. GIVEN WITH THE SEED: THE CARDS: each row of YtipmjpjaklmpfaaGreatDoorRows.lean that lists a variable, with what it lists TIED to the program's text (the seventh form; the later family's looks); each row that meets fmt, with fmt's text TOLD by the authors' own Lean function (tested against real Go, not proved from fmt's source: count such statements apart). THE CARD IS WHAT COUNTS. Prove the row's statement (the work); the ties are given (YtipmjpjaklmpfaaGreatDoorTie.lean); close each card by the builder's one call (the guide's Derived/Test/ToyasCard.lean, 'card_holds'). Laid BY PROGRAM, IN A SANDBOX (cutbox-door.mjs). By AI agents, Wed Nov 11 2026. No macro, syntax, notation, axiom, sorry.
-/
import Derived.Test.YtipmjpjaklmpfaaGreatDoorRows
import GoSem.ClaimSeven
namespace Go.Proofs.YtipmjpjaklmpfaaGreatDoor
namespace Rows

/-- THE TIED CARD OF 'laws.FnTyped'. -/
def fnTypedCard : Claim7 := { stood := { row := fnTypedRow, standIns := [], harness := (true, "ab54ac8a80bdf04ae1010b4a65a5438346e387c40484c35b520efeed176fab29"), looks := true }, kinds := [], alts := [], laidByText := true, laidKinds := [.data, .pinned], laidTests := true, laidLooks := .later }
def FnTypedCardSaid : Prop := Claim7.holds Tryz.pinned (.plain (OpenSpec.ofChange fnTypedSpec)) fnTypedCard

/-- THE TIED CARD OF 'laws.FnFill'. -/
def fnFillCard : Claim7 := { stood := { row := fnFillRow, standIns := [], harness := (true, "ab54ac8a80bdf04ae1010b4a65a5438346e387c40484c35b520efeed176fab29"), looks := true }, kinds := [], alts := [], laidByText := true, laidKinds := [.data, .pinned], laidTests := true, laidLooks := .later }
def FnFillCardSaid : Prop := Claim7.holds Tryz.pinned (.plain (OpenSpec.ofChange fnFillSpec)) fnFillCard

/-- THE SECOND FORM's CARD OF 'laws.FnTyped'. -/
def fnTypedUptoCard : Claim7 := { stood := { row := fnTypedUptoRow, standIns := [], harness := (true, "ab54ac8a80bdf04ae1010b4a65a5438346e387c40484c35b520efeed176fab29"), looks := true }, kinds := [], alts := [], laidByText := true, laidKinds := [.data, .pinned], laidTests := true, laidLooks := .later }
def FnTypedUptoCardSaid : Prop := Claim7.holds Tryz.pinned (.plain (OpenSpec.upto fnTypedSpec)) fnTypedUptoCard

/-- THE SECOND FORM's CARD OF 'laws.FnFill'. -/
def fnFillUptoCard : Claim7 := { stood := { row := fnFillUptoRow, standIns := [], harness := (true, "ab54ac8a80bdf04ae1010b4a65a5438346e387c40484c35b520efeed176fab29"), looks := true }, kinds := [], alts := [], laidByText := true, laidKinds := [.data, .pinned], laidTests := true, laidLooks := .later }
def FnFillUptoCardSaid : Prop := Claim7.holds Tryz.pinned (.plain (OpenSpec.upto fnFillSpec)) fnFillUptoCard
end Rows
end Go.Proofs.YtipmjpjaklmpfaaGreatDoor
