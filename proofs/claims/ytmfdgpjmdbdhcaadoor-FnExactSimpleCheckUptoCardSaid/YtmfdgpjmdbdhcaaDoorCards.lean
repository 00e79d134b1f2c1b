/-
  DERIVED. GIVEN WITH THE SEED: THE CARDS: each row of YtmfdgpjmdbdhcaaDoorRows.lean that lists a variable, with what it lists TIED to the program's text (the seventh form; the later family's looks); each row that meets fmt, with fmt's text TOLD by the authors' own Lean function (tested against real Go, not proved from fmt's source: count such statements apart). THE CARD IS WHAT COUNTS. Prove the row's statement (the work); the ties are given (YtmfdgpjmdbdhcaaDoorTie.lean); close each card by the builder's one call (the guide's Derived/Test/ToyasCard.lean, 'card_holds'). Laid BY PROGRAM, IN A SANDBOX (cutbox-door.mjs). By AI agents, Wed Nov 11 2026. No macro, syntax, notation, axiom, sorry.
-/
import Derived.Test.YtmfdgpjmdbdhcaaDoorRows
import GoSem.ClaimSeven
namespace Go.Proofs.YtmfdgpjmdbdhcaaDoor
namespace Rows

/-- THE TIED CARD OF 'laws.FnExactSimpleCheck'. -/
def fnExactSimpleCheckCard : Claim7 := { stood := { row := fnExactSimpleCheckRow, standIns := [], harness := (true, "e80edbe1e0d2babdebc1274c77be64da09c504c469658ea6b5ddf515be2f3188"), looks := true }, kinds := [], alts := [], laidByText := true, laidKinds := [.data, .pinned], laidTests := true, laidLooks := .later }
def FnExactSimpleCheckCardSaid : Prop := Claim7.holds Tryd.pinned (.plain (OpenSpec.ofChange fnExactSimpleCheckSpec)) fnExactSimpleCheckCard

/-- THE TIED CARD OF 'laws.FnExactPatternOK'. -/
def fnExactPatternOKCard : Claim7 := { stood := { row := fnExactPatternOKRow, standIns := [], harness := (true, "e80edbe1e0d2babdebc1274c77be64da09c504c469658ea6b5ddf515be2f3188"), looks := true }, kinds := [], alts := [], laidByText := true, laidKinds := [.data, .pinned], laidTests := true, laidLooks := .later }
def FnExactPatternOKCardSaid : Prop := Claim7.holds Tryd.pinned (.plain (OpenSpec.ofChange fnExactPatternOKSpec)) fnExactPatternOKCard

/-- THE SECOND FORM's CARD OF 'laws.FnExactSimpleCheck'. -/
def fnExactSimpleCheckUptoCard : Claim7 := { stood := { row := fnExactSimpleCheckUptoRow, standIns := [], harness := (true, "e80edbe1e0d2babdebc1274c77be64da09c504c469658ea6b5ddf515be2f3188"), looks := true }, kinds := [], alts := [], laidByText := true, laidKinds := [.data, .pinned], laidTests := true, laidLooks := .later }
def FnExactSimpleCheckUptoCardSaid : Prop := Claim7.holds Tryd.pinned (.plain (OpenSpec.upto fnExactSimpleCheckSpec)) fnExactSimpleCheckUptoCard

/-- THE SECOND FORM's CARD OF 'laws.FnExactPatternOK'. -/
def fnExactPatternOKUptoCard : Claim7 := { stood := { row := fnExactPatternOKUptoRow, standIns := [], harness := (true, "e80edbe1e0d2babdebc1274c77be64da09c504c469658ea6b5ddf515be2f3188"), looks := true }, kinds := [], alts := [], laidByText := true, laidKinds := [.data, .pinned], laidTests := true, laidLooks := .later }
def FnExactPatternOKUptoCardSaid : Prop := Claim7.holds Tryd.pinned (.plain (OpenSpec.upto fnExactPatternOKSpec)) fnExactPatternOKUptoCard
end Rows
end Go.Proofs.YtmfdgpjmdbdhcaaDoor
