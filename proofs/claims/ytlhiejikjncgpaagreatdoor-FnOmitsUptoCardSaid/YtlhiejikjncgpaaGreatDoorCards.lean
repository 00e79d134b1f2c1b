/-
  DERIVED. GIVEN WITH THE SEED: THE CARDS: each row of YtlhiejikjncgpaaGreatDoorRows.lean that lists a variable, with what it lists TIED to the program's text (the seventh form; the later family's looks); each row that meets fmt, with fmt's text TOLD by the authors' own Lean function (tested against real Go, not proved from fmt's source: count such statements apart). THE CARD IS WHAT COUNTS. Prove the row's statement (the work); the ties are given (YtlhiejikjncgpaaGreatDoorTie.lean); close each card by the builder's one call (the guide's Derived/Test/ToyasCard.lean, 'card_holds'). Laid BY PROGRAM, IN A SANDBOX (cutbox-door.mjs). By AI agents, Wed Nov 11 2026. No macro, syntax, notation, axiom, sorry.
-/
import Derived.Test.YtlhiejikjncgpaaGreatDoorRows
import GoSem.ClaimSeven
namespace Go.Proofs.YtlhiejikjncgpaaGreatDoor
namespace Rows

/-- THE TIED CARD OF 'laws.FnErase'. -/
def fnEraseCard : Claim7 := { stood := { row := fnEraseRow, standIns := [], harness := (true, "0d2da1eb922a2102ae130a7020de3895778ade6678f9d66b30ff171db852fd0b"), looks := true }, kinds := [], alts := [], laidByText := true, laidKinds := [.data, .pinned], laidTests := true, laidLooks := .later }
def FnEraseCardSaid : Prop := Claim7.holds Tryz.pinned (.plain (OpenSpec.ofChange fnEraseSpec)) fnEraseCard

/-- THE TIED CARD OF 'laws.FnWeaken'. -/
def fnWeakenCard : Claim7 := { stood := { row := fnWeakenRow, standIns := [], harness := (true, "0d2da1eb922a2102ae130a7020de3895778ade6678f9d66b30ff171db852fd0b"), looks := true }, kinds := [], alts := [], laidByText := true, laidKinds := [.data, .pinned], laidTests := true, laidLooks := .later }
def FnWeakenCardSaid : Prop := Claim7.holds Tryz.pinned (.plain (OpenSpec.ofChange fnWeakenSpec)) fnWeakenCard

/-- THE TIED CARD OF 'laws.FnFront'. -/
def fnFrontCard : Claim7 := { stood := { row := fnFrontRow, standIns := [], harness := (true, "0d2da1eb922a2102ae130a7020de3895778ade6678f9d66b30ff171db852fd0b"), looks := true }, kinds := [], alts := [], laidByText := true, laidKinds := [.data, .pinned], laidTests := true, laidLooks := .later }
def FnFrontCardSaid : Prop := Claim7.holds Tryz.pinned (.plain (OpenSpec.ofChange fnFrontSpec)) fnFrontCard

/-- THE TIED CARD OF 'laws.FnChecks'. -/
def fnChecksCard : Claim7 := { stood := { row := fnChecksRow, standIns := [], harness := (true, "0d2da1eb922a2102ae130a7020de3895778ade6678f9d66b30ff171db852fd0b"), looks := true }, kinds := [], alts := [], laidByText := true, laidKinds := [.data, .pinned], laidTests := true, laidLooks := .later }
def FnChecksCardSaid : Prop := Claim7.holds Tryz.pinned (.plain (OpenSpec.ofChange fnChecksSpec)) fnChecksCard

/-- THE TIED CARD OF 'laws.FnSubstChecks'. -/
def fnSubstChecksCard : Claim7 := { stood := { row := fnSubstChecksRow, standIns := [], harness := (true, "0d2da1eb922a2102ae130a7020de3895778ade6678f9d66b30ff171db852fd0b"), looks := true }, kinds := [], alts := [], laidByText := true, laidKinds := [.data, .pinned], laidTests := true, laidLooks := .later }
def FnSubstChecksCardSaid : Prop := Claim7.holds Tryz.pinned (.plain (OpenSpec.ofChange fnSubstChecksSpec)) fnSubstChecksCard

/-- THE TIED CARD OF 'laws.FnOmits'. -/
def fnOmitsCard : Claim7 := { stood := { row := fnOmitsRow, standIns := [], harness := (true, "0d2da1eb922a2102ae130a7020de3895778ade6678f9d66b30ff171db852fd0b"), looks := true }, kinds := [], alts := [], laidByText := true, laidKinds := [.data, .pinned], laidTests := true, laidLooks := .later }
def FnOmitsCardSaid : Prop := Claim7.holds Tryz.pinned (.plain (OpenSpec.ofChange fnOmitsSpec)) fnOmitsCard

/-- THE SECOND FORM's CARD OF 'laws.FnErase'. -/
def fnEraseUptoCard : Claim7 := { stood := { row := fnEraseUptoRow, standIns := [], harness := (true, "0d2da1eb922a2102ae130a7020de3895778ade6678f9d66b30ff171db852fd0b"), looks := true }, kinds := [], alts := [], laidByText := true, laidKinds := [.data, .pinned], laidTests := true, laidLooks := .later }
def FnEraseUptoCardSaid : Prop := Claim7.holds Tryz.pinned (.plain (OpenSpec.upto fnEraseSpec)) fnEraseUptoCard

/-- THE SECOND FORM's CARD OF 'laws.FnWeaken'. -/
def fnWeakenUptoCard : Claim7 := { stood := { row := fnWeakenUptoRow, standIns := [], harness := (true, "0d2da1eb922a2102ae130a7020de3895778ade6678f9d66b30ff171db852fd0b"), looks := true }, kinds := [], alts := [], laidByText := true, laidKinds := [.data, .pinned], laidTests := true, laidLooks := .later }
def FnWeakenUptoCardSaid : Prop := Claim7.holds Tryz.pinned (.plain (OpenSpec.upto fnWeakenSpec)) fnWeakenUptoCard

/-- THE SECOND FORM's CARD OF 'laws.FnFront'. -/
def fnFrontUptoCard : Claim7 := { stood := { row := fnFrontUptoRow, standIns := [], harness := (true, "0d2da1eb922a2102ae130a7020de3895778ade6678f9d66b30ff171db852fd0b"), looks := true }, kinds := [], alts := [], laidByText := true, laidKinds := [.data, .pinned], laidTests := true, laidLooks := .later }
def FnFrontUptoCardSaid : Prop := Claim7.holds Tryz.pinned (.plain (OpenSpec.upto fnFrontSpec)) fnFrontUptoCard

/-- THE SECOND FORM's CARD OF 'laws.FnChecks'. -/
def fnChecksUptoCard : Claim7 := { stood := { row := fnChecksUptoRow, standIns := [], harness := (true, "0d2da1eb922a2102ae130a7020de3895778ade6678f9d66b30ff171db852fd0b"), looks := true }, kinds := [], alts := [], laidByText := true, laidKinds := [.data, .pinned], laidTests := true, laidLooks := .later }
def FnChecksUptoCardSaid : Prop := Claim7.holds Tryz.pinned (.plain (OpenSpec.upto fnChecksSpec)) fnChecksUptoCard

/-- THE SECOND FORM's CARD OF 'laws.FnSubstChecks'. -/
def fnSubstChecksUptoCard : Claim7 := { stood := { row := fnSubstChecksUptoRow, standIns := [], harness := (true, "0d2da1eb922a2102ae130a7020de3895778ade6678f9d66b30ff171db852fd0b"), looks := true }, kinds := [], alts := [], laidByText := true, laidKinds := [.data, .pinned], laidTests := true, laidLooks := .later }
def FnSubstChecksUptoCardSaid : Prop := Claim7.holds Tryz.pinned (.plain (OpenSpec.upto fnSubstChecksSpec)) fnSubstChecksUptoCard

/-- THE SECOND FORM's CARD OF 'laws.FnOmits'. -/
def fnOmitsUptoCard : Claim7 := { stood := { row := fnOmitsUptoRow, standIns := [], harness := (true, "0d2da1eb922a2102ae130a7020de3895778ade6678f9d66b30ff171db852fd0b"), looks := true }, kinds := [], alts := [], laidByText := true, laidKinds := [.data, .pinned], laidTests := true, laidLooks := .later }
def FnOmitsUptoCardSaid : Prop := Claim7.holds Tryz.pinned (.plain (OpenSpec.upto fnOmitsSpec)) fnOmitsUptoCard
end Rows
end Go.Proofs.YtlhiejikjncgpaaGreatDoor
