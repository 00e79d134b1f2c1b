/-
  DERIVED. GIVEN WITH THE SEED: THE CARDS: each row of YtcgobhgnoobifaaGreatDoorRows.lean that lists a variable, with what it lists TIED to the program's text (the seventh form; the later family's looks); each row that meets fmt, with fmt's text TOLD by the authors' own Lean function (tested against real Go, not proved from fmt's source: count such statements apart). THE CARD IS WHAT COUNTS. Prove the row's statement (the work); the ties are given (YtcgobhgnoobifaaGreatDoorTie.lean); close each card by the builder's one call (the guide's Derived/Test/ToyasCard.lean, 'card_holds'). Laid BY PROGRAM, IN A SANDBOX (cutbox-door.mjs). By AI agents, Wed Nov 11 2026. No macro, syntax, notation, axiom, sorry.
-/
import Derived.Test.YtcgobhgnoobifaaGreatDoorRows
import GoSem.ClaimSeven
namespace Go.Proofs.YtcgobhgnoobifaaGreatDoor
namespace Rows

/-- THE TIED CARD OF 'laws.FnExactSigOK'. -/
def fnExactSigOKCard : Claim7 := { stood := { row := fnExactSigOKRow, standIns := [], harness := (true, "af047e446961884f8ebc21449dcad2e518397e41232da84de457dc657deb32a7"), looks := true }, kinds := [], alts := [], laidByText := true, laidKinds := [.data, .pinned], laidTests := true, laidLooks := .later }
def FnExactSigOKCardSaid : Prop := Claim7.holds Tryz.pinned (.plain (OpenSpec.ofChange fnExactSigOKSpec)) fnExactSigOKCard

/-- THE TIED CARD OF 'laws.FnExactCtxOK'. -/
def fnExactCtxOKCard : Claim7 := { stood := { row := fnExactCtxOKRow, standIns := [], harness := (true, "af047e446961884f8ebc21449dcad2e518397e41232da84de457dc657deb32a7"), looks := true }, kinds := [], alts := [], laidByText := true, laidKinds := [.data, .pinned], laidTests := true, laidLooks := .later }
def FnExactCtxOKCardSaid : Prop := Claim7.holds Tryz.pinned (.plain (OpenSpec.ofChange fnExactCtxOKSpec)) fnExactCtxOKCard

/-- THE TIED CARD OF 'laws.FnExactCheckFamily'. -/
def fnExactCheckFamilyCard : Claim7 := { stood := { row := fnExactCheckFamilyRow, standIns := [], harness := (true, "af047e446961884f8ebc21449dcad2e518397e41232da84de457dc657deb32a7"), looks := true }, kinds := [], alts := [], laidByText := true, laidKinds := [.data, .pinned], laidTests := true, laidLooks := .later }
def FnExactCheckFamilyCardSaid : Prop := Claim7.holds Tryz.pinned (.plain (OpenSpec.ofChange fnExactCheckFamilySpec)) fnExactCheckFamilyCard

/-- THE TIED CARD OF 'laws.FnExactCheckKind'. -/
def fnExactCheckKindCard : Claim7 := { stood := { row := fnExactCheckKindRow, standIns := [], harness := (true, "af047e446961884f8ebc21449dcad2e518397e41232da84de457dc657deb32a7"), looks := true }, kinds := [], alts := [], laidByText := true, laidKinds := [.data, .pinned], laidTests := true, laidLooks := .later }
def FnExactCheckKindCardSaid : Prop := Claim7.holds Tryz.pinned (.plain (OpenSpec.ofChange fnExactCheckKindSpec)) fnExactCheckKindCard

/-- THE TIED CARD OF 'laws.FnExactCheckTerm'. -/
def fnExactCheckTermCard : Claim7 := { stood := { row := fnExactCheckTermRow, standIns := [], harness := (true, "af047e446961884f8ebc21449dcad2e518397e41232da84de457dc657deb32a7"), looks := true }, kinds := [], alts := [], laidByText := true, laidKinds := [.data, .pinned], laidTests := true, laidLooks := .later }
def FnExactCheckTermCardSaid : Prop := Claim7.holds Tryz.pinned (.plain (OpenSpec.ofChange fnExactCheckTermSpec)) fnExactCheckTermCard

/-- THE TIED CARD OF 'laws.FnExactBuildSig'. -/
def fnExactBuildSigCard : Claim7 := { stood := { row := fnExactBuildSigRow, standIns := [], harness := (true, "af047e446961884f8ebc21449dcad2e518397e41232da84de457dc657deb32a7"), looks := true }, kinds := [], alts := [], laidByText := true, laidKinds := [.data, .pinned], laidTests := true, laidLooks := .later }
def FnExactBuildSigCardSaid : Prop := Claim7.holds Tryz.pinned (.plain (OpenSpec.ofChange fnExactBuildSigSpec)) fnExactBuildSigCard

/-- THE TIED CARD OF 'laws.FnExactSimpleSig'. -/
def fnExactSimpleSigCard : Claim7 := { stood := { row := fnExactSimpleSigRow, standIns := [], harness := (true, "af047e446961884f8ebc21449dcad2e518397e41232da84de457dc657deb32a7"), looks := true }, kinds := [], alts := [], laidByText := true, laidKinds := [.data, .pinned], laidTests := true, laidLooks := .later }
def FnExactSimpleSigCardSaid : Prop := Claim7.holds Tryz.pinned (.plain (OpenSpec.ofChange fnExactSimpleSigSpec)) fnExactSimpleSigCard

/-- THE TIED CARD OF 'laws.FnExactNeeds'. -/
def fnExactNeedsCard : Claim7 := { stood := { row := fnExactNeedsRow, standIns := [], harness := (true, "af047e446961884f8ebc21449dcad2e518397e41232da84de457dc657deb32a7"), looks := true }, kinds := [], alts := [], laidByText := true, laidKinds := [.data, .pinned], laidTests := true, laidLooks := .later }
def FnExactNeedsCardSaid : Prop := Claim7.holds Tryz.pinned (.plain (OpenSpec.ofChange fnExactNeedsSpec)) fnExactNeedsCard

/-- THE TIED CARD OF 'laws.FnExactSynth'. -/
def fnExactSynthCard : Claim7 := { stood := { row := fnExactSynthRow, standIns := [], harness := (true, "af047e446961884f8ebc21449dcad2e518397e41232da84de457dc657deb32a7"), looks := true }, kinds := [], alts := [], laidByText := true, laidKinds := [.data, .pinned], laidTests := true, laidLooks := .later }
def FnExactSynthCardSaid : Prop := Claim7.holds Tryz.pinned (.plain (OpenSpec.ofChange fnExactSynthSpec)) fnExactSynthCard

/-- THE TIED CARD OF 'laws.FnExactAddDecl'. -/
def fnExactAddDeclCard : Claim7 := { stood := { row := fnExactAddDeclRow, standIns := [], harness := (true, "af047e446961884f8ebc21449dcad2e518397e41232da84de457dc657deb32a7"), looks := true }, kinds := [], alts := [], laidByText := true, laidKinds := [.data, .pinned], laidTests := true, laidLooks := .later }
def FnExactAddDeclCardSaid : Prop := Claim7.holds Tryz.pinned (.plain (OpenSpec.ofChange fnExactAddDeclSpec)) fnExactAddDeclCard

/-- THE TIED CARD OF 'laws.FnExactOmittable'. -/
def fnExactOmittableCard : Claim7 := { stood := { row := fnExactOmittableRow, standIns := [], harness := (true, "af047e446961884f8ebc21449dcad2e518397e41232da84de457dc657deb32a7"), looks := true }, kinds := [], alts := [], laidByText := true, laidKinds := [.data, .pinned], laidTests := true, laidLooks := .later }
def FnExactOmittableCardSaid : Prop := Claim7.holds Tryz.pinned (.plain (OpenSpec.ofChange fnExactOmittableSpec)) fnExactOmittableCard

/-- THE TIED CARD OF 'laws.FnExactOmit'. -/
def fnExactOmitCard : Claim7 := { stood := { row := fnExactOmitRow, standIns := [], harness := (true, "af047e446961884f8ebc21449dcad2e518397e41232da84de457dc657deb32a7"), looks := true }, kinds := [], alts := [], laidByText := true, laidKinds := [.data, .pinned], laidTests := true, laidLooks := .later }
def FnExactOmitCardSaid : Prop := Claim7.holds Tryz.pinned (.plain (OpenSpec.ofChange fnExactOmitSpec)) fnExactOmitCard

/-- THE SECOND FORM's CARD OF 'laws.FnExactSigOK'. -/
def fnExactSigOKUptoCard : Claim7 := { stood := { row := fnExactSigOKUptoRow, standIns := [], harness := (true, "af047e446961884f8ebc21449dcad2e518397e41232da84de457dc657deb32a7"), looks := true }, kinds := [], alts := [], laidByText := true, laidKinds := [.data, .pinned], laidTests := true, laidLooks := .later }
def FnExactSigOKUptoCardSaid : Prop := Claim7.holds Tryz.pinned (.plain (OpenSpec.upto fnExactSigOKSpec)) fnExactSigOKUptoCard

/-- THE SECOND FORM's CARD OF 'laws.FnExactCtxOK'. -/
def fnExactCtxOKUptoCard : Claim7 := { stood := { row := fnExactCtxOKUptoRow, standIns := [], harness := (true, "af047e446961884f8ebc21449dcad2e518397e41232da84de457dc657deb32a7"), looks := true }, kinds := [], alts := [], laidByText := true, laidKinds := [.data, .pinned], laidTests := true, laidLooks := .later }
def FnExactCtxOKUptoCardSaid : Prop := Claim7.holds Tryz.pinned (.plain (OpenSpec.upto fnExactCtxOKSpec)) fnExactCtxOKUptoCard

/-- THE SECOND FORM's CARD OF 'laws.FnExactCheckFamily'. -/
def fnExactCheckFamilyUptoCard : Claim7 := { stood := { row := fnExactCheckFamilyUptoRow, standIns := [], harness := (true, "af047e446961884f8ebc21449dcad2e518397e41232da84de457dc657deb32a7"), looks := true }, kinds := [], alts := [], laidByText := true, laidKinds := [.data, .pinned], laidTests := true, laidLooks := .later }
def FnExactCheckFamilyUptoCardSaid : Prop := Claim7.holds Tryz.pinned (.plain (OpenSpec.upto fnExactCheckFamilySpec)) fnExactCheckFamilyUptoCard

/-- THE SECOND FORM's CARD OF 'laws.FnExactCheckKind'. -/
def fnExactCheckKindUptoCard : Claim7 := { stood := { row := fnExactCheckKindUptoRow, standIns := [], harness := (true, "af047e446961884f8ebc21449dcad2e518397e41232da84de457dc657deb32a7"), looks := true }, kinds := [], alts := [], laidByText := true, laidKinds := [.data, .pinned], laidTests := true, laidLooks := .later }
def FnExactCheckKindUptoCardSaid : Prop := Claim7.holds Tryz.pinned (.plain (OpenSpec.upto fnExactCheckKindSpec)) fnExactCheckKindUptoCard

/-- THE SECOND FORM's CARD OF 'laws.FnExactCheckTerm'. -/
def fnExactCheckTermUptoCard : Claim7 := { stood := { row := fnExactCheckTermUptoRow, standIns := [], harness := (true, "af047e446961884f8ebc21449dcad2e518397e41232da84de457dc657deb32a7"), looks := true }, kinds := [], alts := [], laidByText := true, laidKinds := [.data, .pinned], laidTests := true, laidLooks := .later }
def FnExactCheckTermUptoCardSaid : Prop := Claim7.holds Tryz.pinned (.plain (OpenSpec.upto fnExactCheckTermSpec)) fnExactCheckTermUptoCard

/-- THE SECOND FORM's CARD OF 'laws.FnExactBuildSig'. -/
def fnExactBuildSigUptoCard : Claim7 := { stood := { row := fnExactBuildSigUptoRow, standIns := [], harness := (true, "af047e446961884f8ebc21449dcad2e518397e41232da84de457dc657deb32a7"), looks := true }, kinds := [], alts := [], laidByText := true, laidKinds := [.data, .pinned], laidTests := true, laidLooks := .later }
def FnExactBuildSigUptoCardSaid : Prop := Claim7.holds Tryz.pinned (.plain (OpenSpec.upto fnExactBuildSigSpec)) fnExactBuildSigUptoCard

/-- THE SECOND FORM's CARD OF 'laws.FnExactSimpleSig'. -/
def fnExactSimpleSigUptoCard : Claim7 := { stood := { row := fnExactSimpleSigUptoRow, standIns := [], harness := (true, "af047e446961884f8ebc21449dcad2e518397e41232da84de457dc657deb32a7"), looks := true }, kinds := [], alts := [], laidByText := true, laidKinds := [.data, .pinned], laidTests := true, laidLooks := .later }
def FnExactSimpleSigUptoCardSaid : Prop := Claim7.holds Tryz.pinned (.plain (OpenSpec.upto fnExactSimpleSigSpec)) fnExactSimpleSigUptoCard

/-- THE SECOND FORM's CARD OF 'laws.FnExactNeeds'. -/
def fnExactNeedsUptoCard : Claim7 := { stood := { row := fnExactNeedsUptoRow, standIns := [], harness := (true, "af047e446961884f8ebc21449dcad2e518397e41232da84de457dc657deb32a7"), looks := true }, kinds := [], alts := [], laidByText := true, laidKinds := [.data, .pinned], laidTests := true, laidLooks := .later }
def FnExactNeedsUptoCardSaid : Prop := Claim7.holds Tryz.pinned (.plain (OpenSpec.upto fnExactNeedsSpec)) fnExactNeedsUptoCard

/-- THE SECOND FORM's CARD OF 'laws.FnExactSynth'. -/
def fnExactSynthUptoCard : Claim7 := { stood := { row := fnExactSynthUptoRow, standIns := [], harness := (true, "af047e446961884f8ebc21449dcad2e518397e41232da84de457dc657deb32a7"), looks := true }, kinds := [], alts := [], laidByText := true, laidKinds := [.data, .pinned], laidTests := true, laidLooks := .later }
def FnExactSynthUptoCardSaid : Prop := Claim7.holds Tryz.pinned (.plain (OpenSpec.upto fnExactSynthSpec)) fnExactSynthUptoCard

/-- THE SECOND FORM's CARD OF 'laws.FnExactAddDecl'. -/
def fnExactAddDeclUptoCard : Claim7 := { stood := { row := fnExactAddDeclUptoRow, standIns := [], harness := (true, "af047e446961884f8ebc21449dcad2e518397e41232da84de457dc657deb32a7"), looks := true }, kinds := [], alts := [], laidByText := true, laidKinds := [.data, .pinned], laidTests := true, laidLooks := .later }
def FnExactAddDeclUptoCardSaid : Prop := Claim7.holds Tryz.pinned (.plain (OpenSpec.upto fnExactAddDeclSpec)) fnExactAddDeclUptoCard

/-- THE SECOND FORM's CARD OF 'laws.FnExactOmittable'. -/
def fnExactOmittableUptoCard : Claim7 := { stood := { row := fnExactOmittableUptoRow, standIns := [], harness := (true, "af047e446961884f8ebc21449dcad2e518397e41232da84de457dc657deb32a7"), looks := true }, kinds := [], alts := [], laidByText := true, laidKinds := [.data, .pinned], laidTests := true, laidLooks := .later }
def FnExactOmittableUptoCardSaid : Prop := Claim7.holds Tryz.pinned (.plain (OpenSpec.upto fnExactOmittableSpec)) fnExactOmittableUptoCard

/-- THE SECOND FORM's CARD OF 'laws.FnExactOmit'. -/
def fnExactOmitUptoCard : Claim7 := { stood := { row := fnExactOmitUptoRow, standIns := [], harness := (true, "af047e446961884f8ebc21449dcad2e518397e41232da84de457dc657deb32a7"), looks := true }, kinds := [], alts := [], laidByText := true, laidKinds := [.data, .pinned], laidTests := true, laidLooks := .later }
def FnExactOmitUptoCardSaid : Prop := Claim7.holds Tryz.pinned (.plain (OpenSpec.upto fnExactOmitSpec)) fnExactOmitUptoCard
end Rows
end Go.Proofs.YtcgobhgnoobifaaGreatDoor
