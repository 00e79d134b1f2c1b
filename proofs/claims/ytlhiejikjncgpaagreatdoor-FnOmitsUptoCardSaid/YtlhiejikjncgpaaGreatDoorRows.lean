/-
  NARROWER THAN 'FOR EVERY INPUT', by the rows' own cells (each row's printed sentence says how): FnErase: laid · FnWeaken: laid · FnFront: laid · FnChecks: laid · FnSubstChecks: laid · FnOmits: laid.
  DERIVED. THE GIVEN ROWS OF THIS SEAT. 6 by the template 'for every input the law returns true; each argument reads behind the call as it read before'; 0 by the template 'total and deterministic' (their statements: YtlhiejikjncgpaaGreatDoorTotals.lean).
  GIVEN WITH THE SEED: the statements are not yours to turn. If you find one false, say at which input.
  Laid BY PROGRAM, IN A SANDBOX (cutbox-rows.mjs): the forced cells as the released guide's own fill.sh prints them over the translation bf85d10036c77245… (all of the seat's roots in one cut). By AI agents, Wed Nov 11 2026. No macro, syntax, notation, axiom, sorry.
-/
import Derived.Test.YtlhiejikjncgpaaGreatDoorChecked
import GoSem.PinnedTables
import GoSem.Claim
import GoSem.ClaimJoined
import GoSem.ClaimMapViews
import Derived.JoinedTies
import Derived.KernelRfl
namespace Go.Proofs.YtlhiejikjncgpaaGreatDoor
/- THE CELL 'sum', in the pinned program and in every row, IS THE sha256 OF THE DUMP (.gsa) THAT YtlhiejikjncgpaaGreatDoorProg.lean LOADS. Nothing in Lean hashes anything: it is a label: what it is worth is what the hold of that sum in a sandbox is worth. -/
noncomputable def Tryz.pinned : Pinned := { name := "ytlhiejikjncgpaagreatdoor", sum := "bf85d10036c77245306c4f463a7616ddbe4b8cc12e16673c20a7d7f480dc1b3f", checked := Tryz.checked }
namespace Rows
def none {H : Type} : Left H := { results := [], args := [] }

/- WHAT THE LISTED PACKAGE-LEVEL VARIABLES READ AS WHEN THE CALL BEGINS. Each datum BY PROGRAM (the guide's laid-datum.mjs) off the statement by which the dump's own 'gosem.cut.vars' lays the variable. In a bare row this is a premise. The card (YtlhiejikjncgpaaGreatDoorCards.lean) ties it to the program's text. -/
def laid_unicode_utf8_acceptRanges {H : Type} : DataW H := .agg [.agg [.lit (.int .u8 128), .lit (.int .u8 191)], .agg [.lit (.int .u8 160), .lit (.int .u8 191)], .agg [.lit (.int .u8 128), .lit (.int .u8 159)], .agg [.lit (.int .u8 144), .lit (.int .u8 191)], .agg [.lit (.int .u8 128), .lit (.int .u8 143)], .agg [.lit (.int .u8 0), .lit (.int .u8 0)], .agg [.lit (.int .u8 0), .lit (.int .u8 0)], .agg [.lit (.int .u8 0), .lit (.int .u8 0)], .agg [.lit (.int .u8 0), .lit (.int .u8 0)], .agg [.lit (.int .u8 0), .lit (.int .u8 0)], .agg [.lit (.int .u8 0), .lit (.int .u8 0)], .agg [.lit (.int .u8 0), .lit (.int .u8 0)], .agg [.lit (.int .u8 0), .lit (.int .u8 0)], .agg [.lit (.int .u8 0), .lit (.int .u8 0)], .agg [.lit (.int .u8 0), .lit (.int .u8 0)], .agg [.lit (.int .u8 0), .lit (.int .u8 0)]]
/-- One of Go's own tables, pinned by name: the form's constant. -/
def laid_unicode_utf8_first : DataW Unit := Go.Pinned.utf8First

/-- 'laws.FnErase': WHATEVER THE INPUT: true; the input reads as it did. -/
def fnEraseSpec : ChangeSpec := { name := "fnErase", fn := fun _ => fun
  | [d1, d2] => { results := [.lit (.bool true)], args := [d1, d2] }
  | _ => none }
def fnEraseRow : OpenClaim := { program := "ytlhiejikjncgpaagreatdoor", sum := "bf85d10036c77245306c4f463a7616ddbe4b8cc12e16673c20a7d7f480dc1b3f", func := "loop.example/g00091/laws.FnErase", spec := "fnErase", inPlace := ["internal/bytealg.IndexByteString", "internal/bytealg.IndexString"], unfollowed := true, recurses := true, named := ["unicode/utf8.first", "unicode/utf8.acceptRanges", "internal/bytealg.MaxLen"], apart := false, laid := [("unicode/utf8.acceptRanges", laid_unicode_utf8_acceptRanges), ("unicode/utf8.first", laid_unicode_utf8_first)] }
def FnEraseSaid : Prop := fnEraseRow.holds Tryz.pinned (OpenSpec.ofChange fnEraseSpec)

/-- ITS FALSE NEIGHBOUR: 'it returns false'. Refute it at one input. -/
def fnEraseWrong : ChangeSpec := { name := "fnErase", fn := fun _ => fun
  | [d1, d2] => { results := [.lit (.bool false)], args := [d1, d2] }
  | _ => none }
def FnEraseWrongFalsely : Prop := fnEraseRow.holds Tryz.pinned (OpenSpec.ofChange fnEraseWrong)

/-- 'laws.FnWeaken': WHATEVER THE INPUT: true; the input reads as it did. -/
def fnWeakenSpec : ChangeSpec := { name := "fnWeaken", fn := fun _ => fun
  | [d] => { results := [.lit (.bool true)], args := [d] }
  | _ => none }
def fnWeakenRow : OpenClaim := { program := "ytlhiejikjncgpaagreatdoor", sum := "bf85d10036c77245306c4f463a7616ddbe4b8cc12e16673c20a7d7f480dc1b3f", func := "loop.example/g00091/laws.FnWeaken", spec := "fnWeaken", inPlace := ["internal/bytealg.IndexByteString", "internal/bytealg.IndexString"], unfollowed := true, recurses := true, named := ["unicode/utf8.first", "unicode/utf8.acceptRanges", "internal/bytealg.MaxLen"], apart := false, laid := [("unicode/utf8.acceptRanges", laid_unicode_utf8_acceptRanges), ("unicode/utf8.first", laid_unicode_utf8_first)] }
def FnWeakenSaid : Prop := fnWeakenRow.holds Tryz.pinned (OpenSpec.ofChange fnWeakenSpec)

/-- ITS FALSE NEIGHBOUR: 'it returns false'. Refute it at one input. -/
def fnWeakenWrong : ChangeSpec := { name := "fnWeaken", fn := fun _ => fun
  | [d] => { results := [.lit (.bool false)], args := [d] }
  | _ => none }
def FnWeakenWrongFalsely : Prop := fnWeakenRow.holds Tryz.pinned (OpenSpec.ofChange fnWeakenWrong)

/-- 'laws.FnFront': WHATEVER THE INPUT: true; the input reads as it did. -/
def fnFrontSpec : ChangeSpec := { name := "fnFront", fn := fun _ => fun
  | [d1, d2] => { results := [.lit (.bool true)], args := [d1, d2] }
  | _ => none }
def fnFrontRow : OpenClaim := { program := "ytlhiejikjncgpaagreatdoor", sum := "bf85d10036c77245306c4f463a7616ddbe4b8cc12e16673c20a7d7f480dc1b3f", func := "loop.example/g00091/laws.FnFront", spec := "fnFront", inPlace := ["internal/bytealg.IndexByteString", "internal/bytealg.IndexString"], unfollowed := true, recurses := true, named := ["unicode/utf8.first", "unicode/utf8.acceptRanges", "internal/bytealg.MaxLen"], apart := false, laid := [("unicode/utf8.acceptRanges", laid_unicode_utf8_acceptRanges), ("unicode/utf8.first", laid_unicode_utf8_first)] }
def FnFrontSaid : Prop := fnFrontRow.holds Tryz.pinned (OpenSpec.ofChange fnFrontSpec)

/-- ITS FALSE NEIGHBOUR: 'it returns false'. Refute it at one input. -/
def fnFrontWrong : ChangeSpec := { name := "fnFront", fn := fun _ => fun
  | [d1, d2] => { results := [.lit (.bool false)], args := [d1, d2] }
  | _ => none }
def FnFrontWrongFalsely : Prop := fnFrontRow.holds Tryz.pinned (OpenSpec.ofChange fnFrontWrong)

/-- 'laws.FnChecks': WHATEVER THE INPUT: true; the input reads as it did. -/
def fnChecksSpec : ChangeSpec := { name := "fnChecks", fn := fun _ => fun
  | [d1, d2] => { results := [.lit (.bool true)], args := [d1, d2] }
  | _ => none }
def fnChecksRow : OpenClaim := { program := "ytlhiejikjncgpaagreatdoor", sum := "bf85d10036c77245306c4f463a7616ddbe4b8cc12e16673c20a7d7f480dc1b3f", func := "loop.example/g00091/laws.FnChecks", spec := "fnChecks", inPlace := ["internal/bytealg.IndexByteString", "internal/bytealg.IndexString"], unfollowed := true, recurses := true, named := ["unicode/utf8.first", "unicode/utf8.acceptRanges", "internal/bytealg.MaxLen"], apart := false, laid := [("unicode/utf8.acceptRanges", laid_unicode_utf8_acceptRanges), ("unicode/utf8.first", laid_unicode_utf8_first)] }
def FnChecksSaid : Prop := fnChecksRow.holds Tryz.pinned (OpenSpec.ofChange fnChecksSpec)

/-- ITS FALSE NEIGHBOUR: 'it returns false'. Refute it at one input. -/
def fnChecksWrong : ChangeSpec := { name := "fnChecks", fn := fun _ => fun
  | [d1, d2] => { results := [.lit (.bool false)], args := [d1, d2] }
  | _ => none }
def FnChecksWrongFalsely : Prop := fnChecksRow.holds Tryz.pinned (OpenSpec.ofChange fnChecksWrong)

/-- 'laws.FnSubstChecks': WHATEVER THE INPUT: true; the input reads as it did. -/
def fnSubstChecksSpec : ChangeSpec := { name := "fnSubstChecks", fn := fun _ => fun
  | [d1, d2] => { results := [.lit (.bool true)], args := [d1, d2] }
  | _ => none }
def fnSubstChecksRow : OpenClaim := { program := "ytlhiejikjncgpaagreatdoor", sum := "bf85d10036c77245306c4f463a7616ddbe4b8cc12e16673c20a7d7f480dc1b3f", func := "loop.example/g00091/laws.FnSubstChecks", spec := "fnSubstChecks", inPlace := ["internal/bytealg.IndexByteString", "internal/bytealg.IndexString"], unfollowed := true, recurses := true, named := ["unicode/utf8.first", "unicode/utf8.acceptRanges", "internal/bytealg.MaxLen"], apart := false, laid := [("unicode/utf8.acceptRanges", laid_unicode_utf8_acceptRanges), ("unicode/utf8.first", laid_unicode_utf8_first)] }
def FnSubstChecksSaid : Prop := fnSubstChecksRow.holds Tryz.pinned (OpenSpec.ofChange fnSubstChecksSpec)

/-- ITS FALSE NEIGHBOUR: 'it returns false'. Refute it at one input. -/
def fnSubstChecksWrong : ChangeSpec := { name := "fnSubstChecks", fn := fun _ => fun
  | [d1, d2] => { results := [.lit (.bool false)], args := [d1, d2] }
  | _ => none }
def FnSubstChecksWrongFalsely : Prop := fnSubstChecksRow.holds Tryz.pinned (OpenSpec.ofChange fnSubstChecksWrong)

/-- 'laws.FnOmits': WHATEVER THE INPUT: true; the input reads as it did. -/
def fnOmitsSpec : ChangeSpec := { name := "fnOmits", fn := fun _ => fun
  | [d] => { results := [.lit (.bool true)], args := [d] }
  | _ => none }
def fnOmitsRow : OpenClaim := { program := "ytlhiejikjncgpaagreatdoor", sum := "bf85d10036c77245306c4f463a7616ddbe4b8cc12e16673c20a7d7f480dc1b3f", func := "loop.example/g00091/laws.FnOmits", spec := "fnOmits", inPlace := ["internal/bytealg.IndexByteString", "internal/bytealg.IndexString"], unfollowed := true, recurses := true, named := ["unicode/utf8.first", "unicode/utf8.acceptRanges", "internal/bytealg.MaxLen"], apart := false, laid := [("unicode/utf8.acceptRanges", laid_unicode_utf8_acceptRanges), ("unicode/utf8.first", laid_unicode_utf8_first)] }
def FnOmitsSaid : Prop := fnOmitsRow.holds Tryz.pinned (OpenSpec.ofChange fnOmitsSpec)

/-- ITS FALSE NEIGHBOUR: 'it returns false'. Refute it at one input. -/
def fnOmitsWrong : ChangeSpec := { name := "fnOmits", fn := fun _ => fun
  | [d] => { results := [.lit (.bool false)], args := [d] }
  | _ => none }
def FnOmitsWrongFalsely : Prop := fnOmitsRow.holds Tryz.pinned (OpenSpec.ofChange fnOmitsWrong)

/- THE SECOND FORM. 'bulk': how many values and letters a reading holds, each counted each time it is reached (what is shared counts as often as it is met; a slice's spare places count too). A statement '..UptoSaid' is the law's where the arguments, and the package variables that the reading takes, are together of bulk at most 1048576: NARROWER than '..Said'. Prove '..Said' where nothing that the law and all that it calls make is longer than what came in: it says more and counts as full. Else prove '..UptoSaid'. A law counts once. -/
mutual
def uptoBulk {H : Type} : DataW H → Nat
  | .lit (.string bytes) => bytes.length + 1
  | .lit _ => 1
  | .nil => 1
  | .ptr d => uptoBulk d + 1
  | .slice elems spare => uptoBulkAll elems + uptoBulkAll spare + 1
  | .agg parts => uptoBulkAll parts + 1
  | .iface _ d => uptoBulk d + 1
  | .map entries => uptoBulkEntries entries + 1
  | .held _ => 1
def uptoBulkAll {H : Type} : List (DataW H) → Nat
  | [] => 0
  | d :: r => uptoBulk d + uptoBulkAll r
def uptoBulkEntries {H : Type} : List (Lit × DataW H) → Nat
  | [] => 0
  | x :: r => uptoBulkEntry x + uptoBulkEntries r
def uptoBulkEntry {H : Type} : Lit × DataW H → Nat
  | (.string bytes, d) => bytes.length + uptoBulk d + 1
  | (_, d) => uptoBulk d + 1
 end
def uptoSmall : (H : Type) → List (DataW H) → Bool := fun _ ds => decide (uptoBulkAll ds ≤ 1048576)
def OpenSpec.upto (s : _root_.Go.ChangeSpec) : _root_.Go.OpenSpec := { _root_.Go.OpenSpec.ofChange s with cond := some uptoSmall }

/-- 'laws.FnErase', WHERE WHAT IT READS IS OF BULK AT MOST 1048576: true; the input reads as it did. -/
def fnEraseUptoRow : OpenClaim := { program := "ytlhiejikjncgpaagreatdoor", sum := "bf85d10036c77245306c4f463a7616ddbe4b8cc12e16673c20a7d7f480dc1b3f", func := "loop.example/g00091/laws.FnErase", spec := "fnErase", inPlace := ["internal/bytealg.IndexByteString", "internal/bytealg.IndexString"], unfollowed := true, recurses := true, named := ["unicode/utf8.first", "unicode/utf8.acceptRanges", "internal/bytealg.MaxLen"], apart := false, laid := [("unicode/utf8.acceptRanges", laid_unicode_utf8_acceptRanges), ("unicode/utf8.first", laid_unicode_utf8_first)], narrowed := true }
def FnEraseUptoSaid : Prop := fnEraseUptoRow.holds Tryz.pinned (OpenSpec.upto fnEraseSpec)

/-- 'laws.FnWeaken', WHERE WHAT IT READS IS OF BULK AT MOST 1048576: true; the input reads as it did. -/
def fnWeakenUptoRow : OpenClaim := { program := "ytlhiejikjncgpaagreatdoor", sum := "bf85d10036c77245306c4f463a7616ddbe4b8cc12e16673c20a7d7f480dc1b3f", func := "loop.example/g00091/laws.FnWeaken", spec := "fnWeaken", inPlace := ["internal/bytealg.IndexByteString", "internal/bytealg.IndexString"], unfollowed := true, recurses := true, named := ["unicode/utf8.first", "unicode/utf8.acceptRanges", "internal/bytealg.MaxLen"], apart := false, laid := [("unicode/utf8.acceptRanges", laid_unicode_utf8_acceptRanges), ("unicode/utf8.first", laid_unicode_utf8_first)], narrowed := true }
def FnWeakenUptoSaid : Prop := fnWeakenUptoRow.holds Tryz.pinned (OpenSpec.upto fnWeakenSpec)

/-- 'laws.FnFront', WHERE WHAT IT READS IS OF BULK AT MOST 1048576: true; the input reads as it did. -/
def fnFrontUptoRow : OpenClaim := { program := "ytlhiejikjncgpaagreatdoor", sum := "bf85d10036c77245306c4f463a7616ddbe4b8cc12e16673c20a7d7f480dc1b3f", func := "loop.example/g00091/laws.FnFront", spec := "fnFront", inPlace := ["internal/bytealg.IndexByteString", "internal/bytealg.IndexString"], unfollowed := true, recurses := true, named := ["unicode/utf8.first", "unicode/utf8.acceptRanges", "internal/bytealg.MaxLen"], apart := false, laid := [("unicode/utf8.acceptRanges", laid_unicode_utf8_acceptRanges), ("unicode/utf8.first", laid_unicode_utf8_first)], narrowed := true }
def FnFrontUptoSaid : Prop := fnFrontUptoRow.holds Tryz.pinned (OpenSpec.upto fnFrontSpec)

/-- 'laws.FnChecks', WHERE WHAT IT READS IS OF BULK AT MOST 1048576: true; the input reads as it did. -/
def fnChecksUptoRow : OpenClaim := { program := "ytlhiejikjncgpaagreatdoor", sum := "bf85d10036c77245306c4f463a7616ddbe4b8cc12e16673c20a7d7f480dc1b3f", func := "loop.example/g00091/laws.FnChecks", spec := "fnChecks", inPlace := ["internal/bytealg.IndexByteString", "internal/bytealg.IndexString"], unfollowed := true, recurses := true, named := ["unicode/utf8.first", "unicode/utf8.acceptRanges", "internal/bytealg.MaxLen"], apart := false, laid := [("unicode/utf8.acceptRanges", laid_unicode_utf8_acceptRanges), ("unicode/utf8.first", laid_unicode_utf8_first)], narrowed := true }
def FnChecksUptoSaid : Prop := fnChecksUptoRow.holds Tryz.pinned (OpenSpec.upto fnChecksSpec)

/-- 'laws.FnSubstChecks', WHERE WHAT IT READS IS OF BULK AT MOST 1048576: true; the input reads as it did. -/
def fnSubstChecksUptoRow : OpenClaim := { program := "ytlhiejikjncgpaagreatdoor", sum := "bf85d10036c77245306c4f463a7616ddbe4b8cc12e16673c20a7d7f480dc1b3f", func := "loop.example/g00091/laws.FnSubstChecks", spec := "fnSubstChecks", inPlace := ["internal/bytealg.IndexByteString", "internal/bytealg.IndexString"], unfollowed := true, recurses := true, named := ["unicode/utf8.first", "unicode/utf8.acceptRanges", "internal/bytealg.MaxLen"], apart := false, laid := [("unicode/utf8.acceptRanges", laid_unicode_utf8_acceptRanges), ("unicode/utf8.first", laid_unicode_utf8_first)], narrowed := true }
def FnSubstChecksUptoSaid : Prop := fnSubstChecksUptoRow.holds Tryz.pinned (OpenSpec.upto fnSubstChecksSpec)

/-- 'laws.FnOmits', WHERE WHAT IT READS IS OF BULK AT MOST 1048576: true; the input reads as it did. -/
def fnOmitsUptoRow : OpenClaim := { program := "ytlhiejikjncgpaagreatdoor", sum := "bf85d10036c77245306c4f463a7616ddbe4b8cc12e16673c20a7d7f480dc1b3f", func := "loop.example/g00091/laws.FnOmits", spec := "fnOmits", inPlace := ["internal/bytealg.IndexByteString", "internal/bytealg.IndexString"], unfollowed := true, recurses := true, named := ["unicode/utf8.first", "unicode/utf8.acceptRanges", "internal/bytealg.MaxLen"], apart := false, laid := [("unicode/utf8.acceptRanges", laid_unicode_utf8_acceptRanges), ("unicode/utf8.first", laid_unicode_utf8_first)], narrowed := true }
def FnOmitsUptoSaid : Prop := fnOmitsUptoRow.holds Tryz.pinned (OpenSpec.upto fnOmitsSpec)

end Rows
end Go.Proofs.YtlhiejikjncgpaaGreatDoor
