/-
  DERIVED. GIVEN WITH THE SEED: THE CARDS: each row of YtmfdgpjmdbdhcaaGreatDoorRows.lean that lists a variable, with what it lists TIED to the program's text (the seventh form; the later family's looks); each row that meets fmt, with fmt's text TOLD by the authors' own Lean function (tested against real Go, not proved from fmt's source: count such statements apart). THE CARD IS WHAT COUNTS. Prove the row's statement (the work); the ties are given (YtmfdgpjmdbdhcaaGreatDoorTie.lean); close each card by the builder's one call (the guide's Derived/Test/ToyasCard.lean, 'card_holds'). Laid BY PROGRAM, IN A SANDBOX (cutbox-door.mjs). By AI agents, Wed Nov 11 2026. No macro, syntax, notation, axiom, sorry.
-/
import Derived.Test.YtmfdgpjmdbdhcaaGreatDoorRows
import GoSem.ClaimSeven
namespace Go.Proofs.YtmfdgpjmdbdhcaaGreatDoor
namespace Rows

/-- THE TIED CARD OF 'laws.FnLong'. -/
def fnLongCard : Claim7 := { stood := { row := fnLongRow, standIns := [], harness := (true, "25eec4b133a34121b911db8b7c75c83552d0f5f15b8e008ca549d8fa3d065fd4"), looks := true }, kinds := [], alts := [], laidByText := true, laidKinds := [.data, .pinned], laidTests := true, laidLooks := .later }
def FnLongCardSaid : Prop := Claim7.holds Tryz.pinned (.plain (OpenSpec.ofChange fnLongSpec)) fnLongCard

/-- THE TIED CARD OF 'laws.FnErase'. -/
def fnEraseCard : Claim7 := { stood := { row := fnEraseRow, standIns := [], harness := (true, "25eec4b133a34121b911db8b7c75c83552d0f5f15b8e008ca549d8fa3d065fd4"), looks := true }, kinds := [], alts := [], laidByText := true, laidKinds := [.data, .pinned], laidTests := true, laidLooks := .later }
def FnEraseCardSaid : Prop := Claim7.holds Tryz.pinned (.plain (OpenSpec.ofChange fnEraseSpec)) fnEraseCard

/-- THE TIED CARD OF 'laws.FnTyped'. -/
def fnTypedCard : Claim7 := { stood := { row := fnTypedRow, standIns := [], harness := (true, "25eec4b133a34121b911db8b7c75c83552d0f5f15b8e008ca549d8fa3d065fd4"), looks := true }, kinds := [], alts := [], laidByText := true, laidKinds := [.data, .pinned], laidTests := true, laidLooks := .later }
def FnTypedCardSaid : Prop := Claim7.holds Tryz.pinned (.plain (OpenSpec.ofChange fnTypedSpec)) fnTypedCard

/-- THE TIED CARD OF 'laws.FnWeaken'. -/
def fnWeakenCard : Claim7 := { stood := { row := fnWeakenRow, standIns := [], harness := (true, "25eec4b133a34121b911db8b7c75c83552d0f5f15b8e008ca549d8fa3d065fd4"), looks := true }, kinds := [], alts := [], laidByText := true, laidKinds := [.data, .pinned], laidTests := true, laidLooks := .later }
def FnWeakenCardSaid : Prop := Claim7.holds Tryz.pinned (.plain (OpenSpec.ofChange fnWeakenSpec)) fnWeakenCard

/-- THE SECOND FORM's CARD OF 'laws.FnLong'. -/
def fnLongUptoCard : Claim7 := { stood := { row := fnLongUptoRow, standIns := [], harness := (true, "25eec4b133a34121b911db8b7c75c83552d0f5f15b8e008ca549d8fa3d065fd4"), looks := true }, kinds := [], alts := [], laidByText := true, laidKinds := [.data, .pinned], laidTests := true, laidLooks := .later }
def FnLongUptoCardSaid : Prop := Claim7.holds Tryz.pinned (.plain (OpenSpec.upto fnLongSpec)) fnLongUptoCard

/-- THE SECOND FORM's CARD OF 'laws.FnErase'. -/
def fnEraseUptoCard : Claim7 := { stood := { row := fnEraseUptoRow, standIns := [], harness := (true, "25eec4b133a34121b911db8b7c75c83552d0f5f15b8e008ca549d8fa3d065fd4"), looks := true }, kinds := [], alts := [], laidByText := true, laidKinds := [.data, .pinned], laidTests := true, laidLooks := .later }
def FnEraseUptoCardSaid : Prop := Claim7.holds Tryz.pinned (.plain (OpenSpec.upto fnEraseSpec)) fnEraseUptoCard

/-- THE SECOND FORM's CARD OF 'laws.FnTyped'. -/
def fnTypedUptoCard : Claim7 := { stood := { row := fnTypedUptoRow, standIns := [], harness := (true, "25eec4b133a34121b911db8b7c75c83552d0f5f15b8e008ca549d8fa3d065fd4"), looks := true }, kinds := [], alts := [], laidByText := true, laidKinds := [.data, .pinned], laidTests := true, laidLooks := .later }
def FnTypedUptoCardSaid : Prop := Claim7.holds Tryz.pinned (.plain (OpenSpec.upto fnTypedSpec)) fnTypedUptoCard

/-- THE SECOND FORM's CARD OF 'laws.FnWeaken'. -/
def fnWeakenUptoCard : Claim7 := { stood := { row := fnWeakenUptoRow, standIns := [], harness := (true, "25eec4b133a34121b911db8b7c75c83552d0f5f15b8e008ca549d8fa3d065fd4"), looks := true }, kinds := [], alts := [], laidByText := true, laidKinds := [.data, .pinned], laidTests := true, laidLooks := .later }
def FnWeakenUptoCardSaid : Prop := Claim7.holds Tryz.pinned (.plain (OpenSpec.upto fnWeakenSpec)) fnWeakenUptoCard
end Rows
end Go.Proofs.YtmfdgpjmdbdhcaaGreatDoor
