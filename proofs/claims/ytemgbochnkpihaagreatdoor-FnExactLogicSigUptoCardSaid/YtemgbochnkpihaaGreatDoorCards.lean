/-
  DERIVED. GIVEN WITH THE SEED: THE CARDS: each row of YtemgbochnkpihaaGreatDoorRows.lean that lists a variable, with what it lists TIED to the program's text (the seventh form; the later family's looks); each row that meets fmt, with fmt's text TOLD by the authors' own Lean function (tested against real Go, not proved from fmt's source: count such statements apart). THE CARD IS WHAT COUNTS. Prove the row's statement (the work); the ties are given (YtemgbochnkpihaaGreatDoorTie.lean); close each card by the builder's one call (the guide's Derived/Test/ToyasCard.lean, 'card_holds'). Laid BY PROGRAM, IN A SANDBOX (cutbox-door.mjs). By AI agents, Wed Nov 11 2026. No macro, syntax, notation, axiom, sorry.
-/
import Derived.Test.YtemgbochnkpihaaGreatDoorRows
import GoSem.ClaimSeven
namespace Go.Proofs.YtemgbochnkpihaaGreatDoor
namespace Rows

/-- THE TIED CARD OF 'laws.FnExactSimpleSig'. -/
def fnExactSimpleSigCard : Claim7 := { stood := { row := fnExactSimpleSigRow, standIns := [], harness := (true, "d4c490b26f974b3a6e69546f5c24b5d1807dba31e9cb758e7b986c7429f66ef9"), looks := true }, kinds := [], alts := [], laidByText := true, laidKinds := [.data, .pinned], laidTests := true, laidLooks := .later }
def FnExactSimpleSigCardSaid : Prop := Claim7.holds Tryz.pinned (.plain (OpenSpec.ofChange fnExactSimpleSigSpec)) fnExactSimpleSigCard

/-- THE TIED CARD OF 'laws.FnExactNeeds'. -/
def fnExactNeedsCard : Claim7 := { stood := { row := fnExactNeedsRow, standIns := [], harness := (true, "d4c490b26f974b3a6e69546f5c24b5d1807dba31e9cb758e7b986c7429f66ef9"), looks := true }, kinds := [], alts := [], laidByText := true, laidKinds := [.data, .pinned], laidTests := true, laidLooks := .later }
def FnExactNeedsCardSaid : Prop := Claim7.holds Tryz.pinned (.plain (OpenSpec.ofChange fnExactNeedsSpec)) fnExactNeedsCard

/-- THE TIED CARD OF 'laws.FnExactParseTerm'. -/
def fnExactParseTermCard : Claim7 := { stood := { row := fnExactParseTermRow, standIns := [], harness := (true, "d4c490b26f974b3a6e69546f5c24b5d1807dba31e9cb758e7b986c7429f66ef9"), looks := true }, kinds := [], alts := [], laidByText := true, laidKinds := [.data, .data, .data, .data, .sentinel, .sentinel, .pinned], laidTests := true, laidLooks := .later }
def FnExactParseTermCardSaid : Prop := Claim7.holds Tryz.pinned (.plain (OpenSpec.ofChange fnExactParseTermSpec)) fnExactParseTermCard

/-- THE TIED CARD OF 'laws.FnExactSigText'. -/
def fnExactSigTextCard : Claim7 := { stood := { row := fnExactSigTextRow, standIns := [], harness := (true, "d4c490b26f974b3a6e69546f5c24b5d1807dba31e9cb758e7b986c7429f66ef9"), looks := true }, kinds := [], alts := [], laidByText := true, laidKinds := [.data, .data, .data, .data, .pinned], laidTests := true, laidLooks := .later }
def FnExactSigTextCardSaid : Prop := Claim7.holds Tryz.pinned (.plain (OpenSpec.ofChange fnExactSigTextSpec)) fnExactSigTextCard

/-- THE TIED CARD OF 'laws.FnExactParseFamily'. -/
def fnExactParseFamilyCard : Claim7 := { stood := { row := fnExactParseFamilyRow, standIns := [], harness := (true, "d4c490b26f974b3a6e69546f5c24b5d1807dba31e9cb758e7b986c7429f66ef9"), looks := true }, kinds := [], alts := [], laidByText := true, laidKinds := [.data, .data, .data, .data, .sentinel, .sentinel, .pinned], laidTests := true, laidLooks := .later }
def FnExactParseFamilyCardSaid : Prop := Claim7.holds Tryz.pinned (.plain (OpenSpec.ofChange fnExactParseFamilySpec)) fnExactParseFamilyCard

/-- THE TIED CARD OF 'laws.FnExactCalcSig'. -/
def fnExactCalcSigCard : Claim7 := { stood := { row := fnExactCalcSigRow, standIns := [], harness := (true, "d4c490b26f974b3a6e69546f5c24b5d1807dba31e9cb758e7b986c7429f66ef9"), looks := true }, kinds := [], alts := [], laidByText := true, laidKinds := [.data, .data, .data, .data, .sentinel, .sentinel, .pinned], laidTests := true, laidLooks := .later }
def FnExactCalcSigCardSaid : Prop := Claim7.holds Tryz.pinned (.plain (OpenSpec.ofChange fnExactCalcSigSpec)) fnExactCalcSigCard

/-- THE TIED CARD OF 'laws.FnExactLogicSig'. -/
def fnExactLogicSigCard : Claim7 := { stood := { row := fnExactLogicSigRow, standIns := [], harness := (true, "d4c490b26f974b3a6e69546f5c24b5d1807dba31e9cb758e7b986c7429f66ef9"), looks := true }, kinds := [], alts := [], laidByText := true, laidKinds := [.data, .data, .data, .data, .sentinel, .sentinel, .pinned], laidTests := true, laidLooks := .later }
def FnExactLogicSigCardSaid : Prop := Claim7.holds Tryz.pinned (.plain (OpenSpec.ofChange fnExactLogicSigSpec)) fnExactLogicSigCard

/-- THE TIED CARD OF 'laws.FnExactReadSig'. -/
def fnExactReadSigCard : Claim7 := { stood := { row := fnExactReadSigRow, standIns := [], harness := (true, "d4c490b26f974b3a6e69546f5c24b5d1807dba31e9cb758e7b986c7429f66ef9"), looks := true }, kinds := [], alts := [], laidByText := true, laidKinds := [.data, .data, .data, .data, .sentinel, .sentinel, .pinned], laidTests := true, laidLooks := .later }
def FnExactReadSigCardSaid : Prop := Claim7.holds Tryz.pinned (.plain (OpenSpec.ofChange fnExactReadSigSpec)) fnExactReadSigCard

/-- THE SECOND FORM's CARD OF 'laws.FnExactSimpleSig'. -/
def fnExactSimpleSigUptoCard : Claim7 := { stood := { row := fnExactSimpleSigUptoRow, standIns := [], harness := (true, "d4c490b26f974b3a6e69546f5c24b5d1807dba31e9cb758e7b986c7429f66ef9"), looks := true }, kinds := [], alts := [], laidByText := true, laidKinds := [.data, .pinned], laidTests := true, laidLooks := .later }
def FnExactSimpleSigUptoCardSaid : Prop := Claim7.holds Tryz.pinned (.plain (OpenSpec.upto fnExactSimpleSigSpec)) fnExactSimpleSigUptoCard

/-- THE SECOND FORM's CARD OF 'laws.FnExactNeeds'. -/
def fnExactNeedsUptoCard : Claim7 := { stood := { row := fnExactNeedsUptoRow, standIns := [], harness := (true, "d4c490b26f974b3a6e69546f5c24b5d1807dba31e9cb758e7b986c7429f66ef9"), looks := true }, kinds := [], alts := [], laidByText := true, laidKinds := [.data, .pinned], laidTests := true, laidLooks := .later }
def FnExactNeedsUptoCardSaid : Prop := Claim7.holds Tryz.pinned (.plain (OpenSpec.upto fnExactNeedsSpec)) fnExactNeedsUptoCard

/-- THE SECOND FORM's CARD OF 'laws.FnExactParseTerm'. -/
def fnExactParseTermUptoCard : Claim7 := { stood := { row := fnExactParseTermUptoRow, standIns := [], harness := (true, "d4c490b26f974b3a6e69546f5c24b5d1807dba31e9cb758e7b986c7429f66ef9"), looks := true }, kinds := [], alts := [], laidByText := true, laidKinds := [.data, .data, .data, .data, .sentinel, .sentinel, .pinned], laidTests := true, laidLooks := .later }
def FnExactParseTermUptoCardSaid : Prop := Claim7.holds Tryz.pinned (.plain (OpenSpec.upto fnExactParseTermSpec)) fnExactParseTermUptoCard

/-- THE SECOND FORM's CARD OF 'laws.FnExactSigText'. -/
def fnExactSigTextUptoCard : Claim7 := { stood := { row := fnExactSigTextUptoRow, standIns := [], harness := (true, "d4c490b26f974b3a6e69546f5c24b5d1807dba31e9cb758e7b986c7429f66ef9"), looks := true }, kinds := [], alts := [], laidByText := true, laidKinds := [.data, .data, .data, .data, .pinned], laidTests := true, laidLooks := .later }
def FnExactSigTextUptoCardSaid : Prop := Claim7.holds Tryz.pinned (.plain (OpenSpec.upto fnExactSigTextSpec)) fnExactSigTextUptoCard

/-- THE SECOND FORM's CARD OF 'laws.FnExactParseFamily'. -/
def fnExactParseFamilyUptoCard : Claim7 := { stood := { row := fnExactParseFamilyUptoRow, standIns := [], harness := (true, "d4c490b26f974b3a6e69546f5c24b5d1807dba31e9cb758e7b986c7429f66ef9"), looks := true }, kinds := [], alts := [], laidByText := true, laidKinds := [.data, .data, .data, .data, .sentinel, .sentinel, .pinned], laidTests := true, laidLooks := .later }
def FnExactParseFamilyUptoCardSaid : Prop := Claim7.holds Tryz.pinned (.plain (OpenSpec.upto fnExactParseFamilySpec)) fnExactParseFamilyUptoCard

/-- THE SECOND FORM's CARD OF 'laws.FnExactCalcSig'. -/
def fnExactCalcSigUptoCard : Claim7 := { stood := { row := fnExactCalcSigUptoRow, standIns := [], harness := (true, "d4c490b26f974b3a6e69546f5c24b5d1807dba31e9cb758e7b986c7429f66ef9"), looks := true }, kinds := [], alts := [], laidByText := true, laidKinds := [.data, .data, .data, .data, .sentinel, .sentinel, .pinned], laidTests := true, laidLooks := .later }
def FnExactCalcSigUptoCardSaid : Prop := Claim7.holds Tryz.pinned (.plain (OpenSpec.upto fnExactCalcSigSpec)) fnExactCalcSigUptoCard

/-- THE SECOND FORM's CARD OF 'laws.FnExactLogicSig'. -/
def fnExactLogicSigUptoCard : Claim7 := { stood := { row := fnExactLogicSigUptoRow, standIns := [], harness := (true, "d4c490b26f974b3a6e69546f5c24b5d1807dba31e9cb758e7b986c7429f66ef9"), looks := true }, kinds := [], alts := [], laidByText := true, laidKinds := [.data, .data, .data, .data, .sentinel, .sentinel, .pinned], laidTests := true, laidLooks := .later }
def FnExactLogicSigUptoCardSaid : Prop := Claim7.holds Tryz.pinned (.plain (OpenSpec.upto fnExactLogicSigSpec)) fnExactLogicSigUptoCard

/-- THE SECOND FORM's CARD OF 'laws.FnExactReadSig'. -/
def fnExactReadSigUptoCard : Claim7 := { stood := { row := fnExactReadSigUptoRow, standIns := [], harness := (true, "d4c490b26f974b3a6e69546f5c24b5d1807dba31e9cb758e7b986c7429f66ef9"), looks := true }, kinds := [], alts := [], laidByText := true, laidKinds := [.data, .data, .data, .data, .sentinel, .sentinel, .pinned], laidTests := true, laidLooks := .later }
def FnExactReadSigUptoCardSaid : Prop := Claim7.holds Tryz.pinned (.plain (OpenSpec.upto fnExactReadSigSpec)) fnExactReadSigUptoCard
end Rows
end Go.Proofs.YtemgbochnkpihaaGreatDoor
