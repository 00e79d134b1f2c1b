/-
  NARROWER THAN 'FOR EVERY INPUT', by the rows' own cells (each row's printed sentence says how): FnExactSigOK: loops, laid · FnExactCtxOK: loops, laid · FnExactCheckFamily: loops, laid · FnExactCheckKind: loops, laid · FnExactCheckTerm: loops, laid · FnExactBuildSig: loops, laid · FnExactSimpleSig: loops, laid · FnExactNeeds: loops, laid · FnExactSynth: loops, laid · FnExactAddDecl: loops, laid · FnExactOmittable: loops, laid · FnExactOmit: loops, laid.
  DERIVED. THE GIVEN ROWS OF THIS SEAT. 12 by the template 'for every input the law returns true; each argument reads behind the call as it read before'; 0 by the template 'total and deterministic' (their statements: YtcgobhgnoobifaaGreatDoorTotals.lean).
  GIVEN WITH THE SEED: the statements are not yours to turn. If you find one false, say at which input.
  Laid BY PROGRAM, IN A SANDBOX (cutbox-rows.mjs): the forced cells as the released guide's own fill.sh prints them over the translation 2748a079060882d4… (all of the seat's roots in one cut). By AI agents, Wed Nov 11 2026. No macro, syntax, notation, axiom, sorry.
-/
import Derived.Test.YtcgobhgnoobifaaGreatDoorChecked
import GoSem.PinnedTables
import GoSem.Claim
import GoSem.ClaimJoined
import GoSem.ClaimMapViews
import Derived.JoinedTies
import Derived.KernelRfl
namespace Go.Proofs.YtcgobhgnoobifaaGreatDoor
/- THE CELL 'sum', in the pinned program and in every row, IS THE sha256 OF THE DUMP (.gsa) THAT YtcgobhgnoobifaaGreatDoorProg.lean LOADS. Nothing in Lean hashes anything: it is a label: what it is worth is what the hold of that sum in a sandbox is worth. -/
noncomputable def Tryz.pinned : Pinned := { name := "ytcgobhgnoobifaagreatdoor", sum := "2748a079060882d46ad0b33cd9738f96f4c0de9f904331b0ad130fee19905b2d", checked := Tryz.checked }
namespace Rows
def none {H : Type} : Left H := { results := [], args := [] }

/- WHAT THE LISTED PACKAGE-LEVEL VARIABLES READ AS WHEN THE CALL BEGINS. Each datum BY PROGRAM (the guide's laid-datum.mjs) off the statement by which the dump's own 'gosem.cut.vars' lays the variable. In a bare row this is a premise. The card (YtcgobhgnoobifaaGreatDoorCards.lean) ties it to the program's text. -/
def laid_unicode_utf8_acceptRanges {H : Type} : DataW H := .agg [.agg [.lit (.int .u8 128), .lit (.int .u8 191)], .agg [.lit (.int .u8 160), .lit (.int .u8 191)], .agg [.lit (.int .u8 128), .lit (.int .u8 159)], .agg [.lit (.int .u8 144), .lit (.int .u8 191)], .agg [.lit (.int .u8 128), .lit (.int .u8 143)], .agg [.lit (.int .u8 0), .lit (.int .u8 0)], .agg [.lit (.int .u8 0), .lit (.int .u8 0)], .agg [.lit (.int .u8 0), .lit (.int .u8 0)], .agg [.lit (.int .u8 0), .lit (.int .u8 0)], .agg [.lit (.int .u8 0), .lit (.int .u8 0)], .agg [.lit (.int .u8 0), .lit (.int .u8 0)], .agg [.lit (.int .u8 0), .lit (.int .u8 0)], .agg [.lit (.int .u8 0), .lit (.int .u8 0)], .agg [.lit (.int .u8 0), .lit (.int .u8 0)], .agg [.lit (.int .u8 0), .lit (.int .u8 0)], .agg [.lit (.int .u8 0), .lit (.int .u8 0)]]
/-- One of Go's own tables, pinned by name: the form's constant. -/
def laid_unicode_utf8_first : DataW Unit := Go.Pinned.utf8First

/-- 'laws.FnExactSigOK': WHATEVER THE INPUT: true; the input reads as it did. -/
def fnExactSigOKSpec : ChangeSpec := { name := "fnExactSigOK", fn := fun _ => fun
  | [d] => { results := [.lit (.bool true)], args := [d] }
  | _ => none }
def fnExactSigOKRow : OpenClaim := { program := "ytcgobhgnoobifaagreatdoor", sum := "2748a079060882d46ad0b33cd9738f96f4c0de9f904331b0ad130fee19905b2d", func := "loop.example/g00091/laws.FnExactSigOK", spec := "fnExactSigOK", inPlace := ["internal/bytealg.IndexByteString", "internal/bytealg.IndexString"], unfollowed := true, recurses := true, named := ["unicode/utf8.first", "unicode/utf8.acceptRanges", "internal/bytealg.MaxLen"], loops := true, apart := false, laid := [("unicode/utf8.acceptRanges", laid_unicode_utf8_acceptRanges), ("unicode/utf8.first", laid_unicode_utf8_first)] }
def FnExactSigOKSaid : Prop := fnExactSigOKRow.holds Tryz.pinned (OpenSpec.ofChange fnExactSigOKSpec)

/-- ITS FALSE NEIGHBOUR: 'it returns false'. Refute it at one input. -/
def fnExactSigOKWrong : ChangeSpec := { name := "fnExactSigOK", fn := fun _ => fun
  | [d] => { results := [.lit (.bool false)], args := [d] }
  | _ => none }
def FnExactSigOKWrongFalsely : Prop := fnExactSigOKRow.holds Tryz.pinned (OpenSpec.ofChange fnExactSigOKWrong)

/-- 'laws.FnExactCtxOK': WHATEVER THE INPUT: true; the input reads as it did. -/
def fnExactCtxOKSpec : ChangeSpec := { name := "fnExactCtxOK", fn := fun _ => fun
  | [d1, d2] => { results := [.lit (.bool true)], args := [d1, d2] }
  | _ => none }
def fnExactCtxOKRow : OpenClaim := { program := "ytcgobhgnoobifaagreatdoor", sum := "2748a079060882d46ad0b33cd9738f96f4c0de9f904331b0ad130fee19905b2d", func := "loop.example/g00091/laws.FnExactCtxOK", spec := "fnExactCtxOK", inPlace := ["internal/bytealg.IndexByteString", "internal/bytealg.IndexString"], unfollowed := true, recurses := true, named := ["unicode/utf8.first", "unicode/utf8.acceptRanges", "internal/bytealg.MaxLen"], loops := true, apart := false, laid := [("unicode/utf8.acceptRanges", laid_unicode_utf8_acceptRanges), ("unicode/utf8.first", laid_unicode_utf8_first)] }
def FnExactCtxOKSaid : Prop := fnExactCtxOKRow.holds Tryz.pinned (OpenSpec.ofChange fnExactCtxOKSpec)

/-- ITS FALSE NEIGHBOUR: 'it returns false'. Refute it at one input. -/
def fnExactCtxOKWrong : ChangeSpec := { name := "fnExactCtxOK", fn := fun _ => fun
  | [d1, d2] => { results := [.lit (.bool false)], args := [d1, d2] }
  | _ => none }
def FnExactCtxOKWrongFalsely : Prop := fnExactCtxOKRow.holds Tryz.pinned (OpenSpec.ofChange fnExactCtxOKWrong)

/-- 'laws.FnExactCheckFamily': WHATEVER THE INPUT: true; the input reads as it did. -/
def fnExactCheckFamilySpec : ChangeSpec := { name := "fnExactCheckFamily", fn := fun _ => fun
  | [d1, d2, d3] => { results := [.lit (.bool true)], args := [d1, d2, d3] }
  | _ => none }
def fnExactCheckFamilyRow : OpenClaim := { program := "ytcgobhgnoobifaagreatdoor", sum := "2748a079060882d46ad0b33cd9738f96f4c0de9f904331b0ad130fee19905b2d", func := "loop.example/g00091/laws.FnExactCheckFamily", spec := "fnExactCheckFamily", inPlace := ["internal/bytealg.IndexByteString", "internal/bytealg.IndexString"], unfollowed := true, recurses := true, named := ["unicode/utf8.first", "unicode/utf8.acceptRanges", "internal/bytealg.MaxLen"], loops := true, apart := false, laid := [("unicode/utf8.acceptRanges", laid_unicode_utf8_acceptRanges), ("unicode/utf8.first", laid_unicode_utf8_first)] }
def FnExactCheckFamilySaid : Prop := fnExactCheckFamilyRow.holds Tryz.pinned (OpenSpec.ofChange fnExactCheckFamilySpec)

/-- ITS FALSE NEIGHBOUR: 'it returns false'. Refute it at one input. -/
def fnExactCheckFamilyWrong : ChangeSpec := { name := "fnExactCheckFamily", fn := fun _ => fun
  | [d1, d2, d3] => { results := [.lit (.bool false)], args := [d1, d2, d3] }
  | _ => none }
def FnExactCheckFamilyWrongFalsely : Prop := fnExactCheckFamilyRow.holds Tryz.pinned (OpenSpec.ofChange fnExactCheckFamilyWrong)

/-- 'laws.FnExactCheckKind': WHATEVER THE INPUT: true; the input reads as it did. -/
def fnExactCheckKindSpec : ChangeSpec := { name := "fnExactCheckKind", fn := fun _ => fun
  | [d1, d2, d3] => { results := [.lit (.bool true)], args := [d1, d2, d3] }
  | _ => none }
def fnExactCheckKindRow : OpenClaim := { program := "ytcgobhgnoobifaagreatdoor", sum := "2748a079060882d46ad0b33cd9738f96f4c0de9f904331b0ad130fee19905b2d", func := "loop.example/g00091/laws.FnExactCheckKind", spec := "fnExactCheckKind", inPlace := ["internal/bytealg.IndexByteString", "internal/bytealg.IndexString"], unfollowed := true, recurses := true, named := ["unicode/utf8.first", "unicode/utf8.acceptRanges", "internal/bytealg.MaxLen"], loops := true, apart := false, laid := [("unicode/utf8.acceptRanges", laid_unicode_utf8_acceptRanges), ("unicode/utf8.first", laid_unicode_utf8_first)] }
def FnExactCheckKindSaid : Prop := fnExactCheckKindRow.holds Tryz.pinned (OpenSpec.ofChange fnExactCheckKindSpec)

/-- ITS FALSE NEIGHBOUR: 'it returns false'. Refute it at one input. -/
def fnExactCheckKindWrong : ChangeSpec := { name := "fnExactCheckKind", fn := fun _ => fun
  | [d1, d2, d3] => { results := [.lit (.bool false)], args := [d1, d2, d3] }
  | _ => none }
def FnExactCheckKindWrongFalsely : Prop := fnExactCheckKindRow.holds Tryz.pinned (OpenSpec.ofChange fnExactCheckKindWrong)

/-- 'laws.FnExactCheckTerm': WHATEVER THE INPUT: true; the input reads as it did. -/
def fnExactCheckTermSpec : ChangeSpec := { name := "fnExactCheckTerm", fn := fun _ => fun
  | [d1, d2, d3, d4] => { results := [.lit (.bool true)], args := [d1, d2, d3, d4] }
  | _ => none }
def fnExactCheckTermRow : OpenClaim := { program := "ytcgobhgnoobifaagreatdoor", sum := "2748a079060882d46ad0b33cd9738f96f4c0de9f904331b0ad130fee19905b2d", func := "loop.example/g00091/laws.FnExactCheckTerm", spec := "fnExactCheckTerm", inPlace := ["internal/bytealg.IndexByteString", "internal/bytealg.IndexString"], unfollowed := true, recurses := true, named := ["unicode/utf8.first", "unicode/utf8.acceptRanges", "internal/bytealg.MaxLen"], loops := true, apart := false, laid := [("unicode/utf8.acceptRanges", laid_unicode_utf8_acceptRanges), ("unicode/utf8.first", laid_unicode_utf8_first)] }
def FnExactCheckTermSaid : Prop := fnExactCheckTermRow.holds Tryz.pinned (OpenSpec.ofChange fnExactCheckTermSpec)

/-- ITS FALSE NEIGHBOUR: 'it returns false'. Refute it at one input. -/
def fnExactCheckTermWrong : ChangeSpec := { name := "fnExactCheckTerm", fn := fun _ => fun
  | [d1, d2, d3, d4] => { results := [.lit (.bool false)], args := [d1, d2, d3, d4] }
  | _ => none }
def FnExactCheckTermWrongFalsely : Prop := fnExactCheckTermRow.holds Tryz.pinned (OpenSpec.ofChange fnExactCheckTermWrong)

/-- 'laws.FnExactBuildSig': WHATEVER THE INPUT: true; the input reads as it did. -/
def fnExactBuildSigSpec : ChangeSpec := { name := "fnExactBuildSig", fn := fun _ => fun
  | [d] => { results := [.lit (.bool true)], args := [d] }
  | _ => none }
def fnExactBuildSigRow : OpenClaim := { program := "ytcgobhgnoobifaagreatdoor", sum := "2748a079060882d46ad0b33cd9738f96f4c0de9f904331b0ad130fee19905b2d", func := "loop.example/g00091/laws.FnExactBuildSig", spec := "fnExactBuildSig", inPlace := ["internal/bytealg.IndexByteString", "internal/bytealg.IndexString"], unfollowed := true, recurses := true, named := ["unicode/utf8.first", "unicode/utf8.acceptRanges", "internal/bytealg.MaxLen"], loops := true, apart := false, laid := [("unicode/utf8.acceptRanges", laid_unicode_utf8_acceptRanges), ("unicode/utf8.first", laid_unicode_utf8_first)] }
def FnExactBuildSigSaid : Prop := fnExactBuildSigRow.holds Tryz.pinned (OpenSpec.ofChange fnExactBuildSigSpec)

/-- ITS FALSE NEIGHBOUR: 'it returns false'. Refute it at one input. -/
def fnExactBuildSigWrong : ChangeSpec := { name := "fnExactBuildSig", fn := fun _ => fun
  | [d] => { results := [.lit (.bool false)], args := [d] }
  | _ => none }
def FnExactBuildSigWrongFalsely : Prop := fnExactBuildSigRow.holds Tryz.pinned (OpenSpec.ofChange fnExactBuildSigWrong)

/-- 'laws.FnExactSimpleSig': WHATEVER THE INPUT: true; the input reads as it did. -/
def fnExactSimpleSigSpec : ChangeSpec := { name := "fnExactSimpleSig", fn := fun _ => fun
  | [d] => { results := [.lit (.bool true)], args := [d] }
  | _ => none }
def fnExactSimpleSigRow : OpenClaim := { program := "ytcgobhgnoobifaagreatdoor", sum := "2748a079060882d46ad0b33cd9738f96f4c0de9f904331b0ad130fee19905b2d", func := "loop.example/g00091/laws.FnExactSimpleSig", spec := "fnExactSimpleSig", inPlace := ["internal/bytealg.IndexByteString", "internal/bytealg.IndexString"], unfollowed := true, recurses := true, named := ["unicode/utf8.first", "unicode/utf8.acceptRanges", "internal/bytealg.MaxLen"], loops := true, apart := false, laid := [("unicode/utf8.acceptRanges", laid_unicode_utf8_acceptRanges), ("unicode/utf8.first", laid_unicode_utf8_first)] }
def FnExactSimpleSigSaid : Prop := fnExactSimpleSigRow.holds Tryz.pinned (OpenSpec.ofChange fnExactSimpleSigSpec)

/-- ITS FALSE NEIGHBOUR: 'it returns false'. Refute it at one input. -/
def fnExactSimpleSigWrong : ChangeSpec := { name := "fnExactSimpleSig", fn := fun _ => fun
  | [d] => { results := [.lit (.bool false)], args := [d] }
  | _ => none }
def FnExactSimpleSigWrongFalsely : Prop := fnExactSimpleSigRow.holds Tryz.pinned (OpenSpec.ofChange fnExactSimpleSigWrong)

/-- 'laws.FnExactNeeds': WHATEVER THE INPUT: true; the input reads as it did. -/
def fnExactNeedsSpec : ChangeSpec := { name := "fnExactNeeds", fn := fun _ => fun
  | [d1, d2] => { results := [.lit (.bool true)], args := [d1, d2] }
  | _ => none }
def fnExactNeedsRow : OpenClaim := { program := "ytcgobhgnoobifaagreatdoor", sum := "2748a079060882d46ad0b33cd9738f96f4c0de9f904331b0ad130fee19905b2d", func := "loop.example/g00091/laws.FnExactNeeds", spec := "fnExactNeeds", inPlace := ["internal/bytealg.IndexByteString", "internal/bytealg.IndexString"], unfollowed := true, recurses := true, named := ["unicode/utf8.first", "unicode/utf8.acceptRanges", "internal/bytealg.MaxLen"], loops := true, apart := false, laid := [("unicode/utf8.acceptRanges", laid_unicode_utf8_acceptRanges), ("unicode/utf8.first", laid_unicode_utf8_first)] }
def FnExactNeedsSaid : Prop := fnExactNeedsRow.holds Tryz.pinned (OpenSpec.ofChange fnExactNeedsSpec)

/-- ITS FALSE NEIGHBOUR: 'it returns false'. Refute it at one input. -/
def fnExactNeedsWrong : ChangeSpec := { name := "fnExactNeeds", fn := fun _ => fun
  | [d1, d2] => { results := [.lit (.bool false)], args := [d1, d2] }
  | _ => none }
def FnExactNeedsWrongFalsely : Prop := fnExactNeedsRow.holds Tryz.pinned (OpenSpec.ofChange fnExactNeedsWrong)

/-- 'laws.FnExactSynth': WHATEVER THE INPUT: true; the input reads as it did. -/
def fnExactSynthSpec : ChangeSpec := { name := "fnExactSynth", fn := fun _ => fun
  | [d1, d2, d3] => { results := [.lit (.bool true)], args := [d1, d2, d3] }
  | _ => none }
def fnExactSynthRow : OpenClaim := { program := "ytcgobhgnoobifaagreatdoor", sum := "2748a079060882d46ad0b33cd9738f96f4c0de9f904331b0ad130fee19905b2d", func := "loop.example/g00091/laws.FnExactSynth", spec := "fnExactSynth", inPlace := ["internal/bytealg.IndexByteString", "internal/bytealg.IndexString"], unfollowed := true, recurses := true, named := ["unicode/utf8.first", "unicode/utf8.acceptRanges", "internal/bytealg.MaxLen"], loops := true, apart := false, laid := [("unicode/utf8.acceptRanges", laid_unicode_utf8_acceptRanges), ("unicode/utf8.first", laid_unicode_utf8_first)] }
def FnExactSynthSaid : Prop := fnExactSynthRow.holds Tryz.pinned (OpenSpec.ofChange fnExactSynthSpec)

/-- ITS FALSE NEIGHBOUR: 'it returns false'. Refute it at one input. -/
def fnExactSynthWrong : ChangeSpec := { name := "fnExactSynth", fn := fun _ => fun
  | [d1, d2, d3] => { results := [.lit (.bool false)], args := [d1, d2, d3] }
  | _ => none }
def FnExactSynthWrongFalsely : Prop := fnExactSynthRow.holds Tryz.pinned (OpenSpec.ofChange fnExactSynthWrong)

/-- 'laws.FnExactAddDecl': WHATEVER THE INPUT: true; the input reads as it did. -/
def fnExactAddDeclSpec : ChangeSpec := { name := "fnExactAddDecl", fn := fun _ => fun
  | [d1, d2] => { results := [.lit (.bool true)], args := [d1, d2] }
  | _ => none }
def fnExactAddDeclRow : OpenClaim := { program := "ytcgobhgnoobifaagreatdoor", sum := "2748a079060882d46ad0b33cd9738f96f4c0de9f904331b0ad130fee19905b2d", func := "loop.example/g00091/laws.FnExactAddDecl", spec := "fnExactAddDecl", inPlace := ["internal/bytealg.IndexByteString", "internal/bytealg.IndexString"], unfollowed := true, recurses := true, named := ["unicode/utf8.first", "unicode/utf8.acceptRanges", "internal/bytealg.MaxLen"], loops := true, apart := false, laid := [("unicode/utf8.acceptRanges", laid_unicode_utf8_acceptRanges), ("unicode/utf8.first", laid_unicode_utf8_first)] }
def FnExactAddDeclSaid : Prop := fnExactAddDeclRow.holds Tryz.pinned (OpenSpec.ofChange fnExactAddDeclSpec)

/-- ITS FALSE NEIGHBOUR: 'it returns false'. Refute it at one input. -/
def fnExactAddDeclWrong : ChangeSpec := { name := "fnExactAddDecl", fn := fun _ => fun
  | [d1, d2] => { results := [.lit (.bool false)], args := [d1, d2] }
  | _ => none }
def FnExactAddDeclWrongFalsely : Prop := fnExactAddDeclRow.holds Tryz.pinned (OpenSpec.ofChange fnExactAddDeclWrong)

/-- 'laws.FnExactOmittable': WHATEVER THE INPUT: true; the input reads as it did. -/
def fnExactOmittableSpec : ChangeSpec := { name := "fnExactOmittable", fn := fun _ => fun
  | [d1, d2] => { results := [.lit (.bool true)], args := [d1, d2] }
  | _ => none }
def fnExactOmittableRow : OpenClaim := { program := "ytcgobhgnoobifaagreatdoor", sum := "2748a079060882d46ad0b33cd9738f96f4c0de9f904331b0ad130fee19905b2d", func := "loop.example/g00091/laws.FnExactOmittable", spec := "fnExactOmittable", inPlace := ["internal/bytealg.IndexByteString", "internal/bytealg.IndexString"], unfollowed := true, recurses := true, named := ["unicode/utf8.first", "unicode/utf8.acceptRanges", "internal/bytealg.MaxLen"], loops := true, apart := false, laid := [("unicode/utf8.acceptRanges", laid_unicode_utf8_acceptRanges), ("unicode/utf8.first", laid_unicode_utf8_first)] }
def FnExactOmittableSaid : Prop := fnExactOmittableRow.holds Tryz.pinned (OpenSpec.ofChange fnExactOmittableSpec)

/-- ITS FALSE NEIGHBOUR: 'it returns false'. Refute it at one input. -/
def fnExactOmittableWrong : ChangeSpec := { name := "fnExactOmittable", fn := fun _ => fun
  | [d1, d2] => { results := [.lit (.bool false)], args := [d1, d2] }
  | _ => none }
def FnExactOmittableWrongFalsely : Prop := fnExactOmittableRow.holds Tryz.pinned (OpenSpec.ofChange fnExactOmittableWrong)

/-- 'laws.FnExactOmit': WHATEVER THE INPUT: true; the input reads as it did. -/
def fnExactOmitSpec : ChangeSpec := { name := "fnExactOmit", fn := fun _ => fun
  | [d1, d2, d3] => { results := [.lit (.bool true)], args := [d1, d2, d3] }
  | _ => none }
def fnExactOmitRow : OpenClaim := { program := "ytcgobhgnoobifaagreatdoor", sum := "2748a079060882d46ad0b33cd9738f96f4c0de9f904331b0ad130fee19905b2d", func := "loop.example/g00091/laws.FnExactOmit", spec := "fnExactOmit", inPlace := ["internal/bytealg.IndexByteString", "internal/bytealg.IndexString"], unfollowed := true, recurses := true, named := ["unicode/utf8.first", "unicode/utf8.acceptRanges", "internal/bytealg.MaxLen"], loops := true, apart := false, laid := [("unicode/utf8.acceptRanges", laid_unicode_utf8_acceptRanges), ("unicode/utf8.first", laid_unicode_utf8_first)] }
def FnExactOmitSaid : Prop := fnExactOmitRow.holds Tryz.pinned (OpenSpec.ofChange fnExactOmitSpec)

/-- ITS FALSE NEIGHBOUR: 'it returns false'. Refute it at one input. -/
def fnExactOmitWrong : ChangeSpec := { name := "fnExactOmit", fn := fun _ => fun
  | [d1, d2, d3] => { results := [.lit (.bool false)], args := [d1, d2, d3] }
  | _ => none }
def FnExactOmitWrongFalsely : Prop := fnExactOmitRow.holds Tryz.pinned (OpenSpec.ofChange fnExactOmitWrong)

/- THE SECOND FORM. 'bulk': how many values and letters a reading holds, each counted each time it is reached (what is shared counts as often as it is met; a slice's spare places count too). A statement '..UptoSaid' is the law's where the arguments, and the package variables that the reading takes, are together of bulk at most 1048576: NARROWER than '..Said'. Prove '..Said' where nothing that the law and all that it calls make is longer than what came in: it says more and counts as full. Else prove '..UptoSaid'. A law counts once. -/
mutual
def uptoBulk {H : Type} : DataW H → Nat
  | .lit (.string bytes) => bytes.length + 1
  | .lit _ => 1
  | .nil => 1
  | .ptr d => uptoBulk d + 1
  | .slice elems spare => uptoBulkAll elems + uptoBulkAll spare + 1
  | .agg parts => uptoBulkAll parts + 1
  | .iface _ d => uptoBulk d + 1
  | .map entries => uptoBulkEntries entries + 1
  | .held _ => 1
def uptoBulkAll {H : Type} : List (DataW H) → Nat
  | [] => 0
  | d :: r => uptoBulk d + uptoBulkAll r
def uptoBulkEntries {H : Type} : List (Lit × DataW H) → Nat
  | [] => 0
  | x :: r => uptoBulkEntry x + uptoBulkEntries r
def uptoBulkEntry {H : Type} : Lit × DataW H → Nat
  | (.string bytes, d) => bytes.length + uptoBulk d + 1
  | (_, d) => uptoBulk d + 1
 end
def uptoSmall : (H : Type) → List (DataW H) → Bool := fun _ ds => decide (uptoBulkAll ds ≤ 1048576)
def OpenSpec.upto (s : _root_.Go.ChangeSpec) : _root_.Go.OpenSpec := { _root_.Go.OpenSpec.ofChange s with cond := some uptoSmall }

/-- 'laws.FnExactSigOK', WHERE WHAT IT READS IS OF BULK AT MOST 1048576: true; the input reads as it did. -/
def fnExactSigOKUptoRow : OpenClaim := { program := "ytcgobhgnoobifaagreatdoor", sum := "2748a079060882d46ad0b33cd9738f96f4c0de9f904331b0ad130fee19905b2d", func := "loop.example/g00091/laws.FnExactSigOK", spec := "fnExactSigOK", inPlace := ["internal/bytealg.IndexByteString", "internal/bytealg.IndexString"], unfollowed := true, recurses := true, named := ["unicode/utf8.first", "unicode/utf8.acceptRanges", "internal/bytealg.MaxLen"], loops := true, apart := false, laid := [("unicode/utf8.acceptRanges", laid_unicode_utf8_acceptRanges), ("unicode/utf8.first", laid_unicode_utf8_first)], narrowed := true }
def FnExactSigOKUptoSaid : Prop := fnExactSigOKUptoRow.holds Tryz.pinned (OpenSpec.upto fnExactSigOKSpec)

/-- 'laws.FnExactCtxOK', WHERE WHAT IT READS IS OF BULK AT MOST 1048576: true; the input reads as it did. -/
def fnExactCtxOKUptoRow : OpenClaim := { program := "ytcgobhgnoobifaagreatdoor", sum := "2748a079060882d46ad0b33cd9738f96f4c0de9f904331b0ad130fee19905b2d", func := "loop.example/g00091/laws.FnExactCtxOK", spec := "fnExactCtxOK", inPlace := ["internal/bytealg.IndexByteString", "internal/bytealg.IndexString"], unfollowed := true, recurses := true, named := ["unicode/utf8.first", "unicode/utf8.acceptRanges", "internal/bytealg.MaxLen"], loops := true, apart := false, laid := [("unicode/utf8.acceptRanges", laid_unicode_utf8_acceptRanges), ("unicode/utf8.first", laid_unicode_utf8_first)], narrowed := true }
def FnExactCtxOKUptoSaid : Prop := fnExactCtxOKUptoRow.holds Tryz.pinned (OpenSpec.upto fnExactCtxOKSpec)

/-- 'laws.FnExactCheckFamily', WHERE WHAT IT READS IS OF BULK AT MOST 1048576: true; the input reads as it did. -/
def fnExactCheckFamilyUptoRow : OpenClaim := { program := "ytcgobhgnoobifaagreatdoor", sum := "2748a079060882d46ad0b33cd9738f96f4c0de9f904331b0ad130fee19905b2d", func := "loop.example/g00091/laws.FnExactCheckFamily", spec := "fnExactCheckFamily", inPlace := ["internal/bytealg.IndexByteString", "internal/bytealg.IndexString"], unfollowed := true, recurses := true, named := ["unicode/utf8.first", "unicode/utf8.acceptRanges", "internal/bytealg.MaxLen"], loops := true, apart := false, laid := [("unicode/utf8.acceptRanges", laid_unicode_utf8_acceptRanges), ("unicode/utf8.first", laid_unicode_utf8_first)], narrowed := true }
def FnExactCheckFamilyUptoSaid : Prop := fnExactCheckFamilyUptoRow.holds Tryz.pinned (OpenSpec.upto fnExactCheckFamilySpec)

/-- 'laws.FnExactCheckKind', WHERE WHAT IT READS IS OF BULK AT MOST 1048576: true; the input reads as it did. -/
def fnExactCheckKindUptoRow : OpenClaim := { program := "ytcgobhgnoobifaagreatdoor", sum := "2748a079060882d46ad0b33cd9738f96f4c0de9f904331b0ad130fee19905b2d", func := "loop.example/g00091/laws.FnExactCheckKind", spec := "fnExactCheckKind", inPlace := ["internal/bytealg.IndexByteString", "internal/bytealg.IndexString"], unfollowed := true, recurses := true, named := ["unicode/utf8.first", "unicode/utf8.acceptRanges", "internal/bytealg.MaxLen"], loops := true, apart := false, laid := [("unicode/utf8.acceptRanges", laid_unicode_utf8_acceptRanges), ("unicode/utf8.first", laid_unicode_utf8_first)], narrowed := true }
def FnExactCheckKindUptoSaid : Prop := fnExactCheckKindUptoRow.holds Tryz.pinned (OpenSpec.upto fnExactCheckKindSpec)

/-- 'laws.FnExactCheckTerm', WHERE WHAT IT READS IS OF BULK AT MOST 1048576: true; the input reads as it did. -/
def fnExactCheckTermUptoRow : OpenClaim := { program := "ytcgobhgnoobifaagreatdoor", sum := "2748a079060882d46ad0b33cd9738f96f4c0de9f904331b0ad130fee19905b2d", func := "loop.example/g00091/laws.FnExactCheckTerm", spec := "fnExactCheckTerm", inPlace := ["internal/bytealg.IndexByteString", "internal/bytealg.IndexString"], unfollowed := true, recurses := true, named := ["unicode/utf8.first", "unicode/utf8.acceptRanges", "internal/bytealg.MaxLen"], loops := true, apart := false, laid := [("unicode/utf8.acceptRanges", laid_unicode_utf8_acceptRanges), ("unicode/utf8.first", laid_unicode_utf8_first)], narrowed := true }
def FnExactCheckTermUptoSaid : Prop := fnExactCheckTermUptoRow.holds Tryz.pinned (OpenSpec.upto fnExactCheckTermSpec)

/-- 'laws.FnExactBuildSig', WHERE WHAT IT READS IS OF BULK AT MOST 1048576: true; the input reads as it did. -/
def fnExactBuildSigUptoRow : OpenClaim := { program := "ytcgobhgnoobifaagreatdoor", sum := "2748a079060882d46ad0b33cd9738f96f4c0de9f904331b0ad130fee19905b2d", func := "loop.example/g00091/laws.FnExactBuildSig", spec := "fnExactBuildSig", inPlace := ["internal/bytealg.IndexByteString", "internal/bytealg.IndexString"], unfollowed := true, recurses := true, named := ["unicode/utf8.first", "unicode/utf8.acceptRanges", "internal/bytealg.MaxLen"], loops := true, apart := false, laid := [("unicode/utf8.acceptRanges", laid_unicode_utf8_acceptRanges), ("unicode/utf8.first", laid_unicode_utf8_first)], narrowed := true }
def FnExactBuildSigUptoSaid : Prop := fnExactBuildSigUptoRow.holds Tryz.pinned (OpenSpec.upto fnExactBuildSigSpec)

/-- 'laws.FnExactSimpleSig', WHERE WHAT IT READS IS OF BULK AT MOST 1048576: true; the input reads as it did. -/
def fnExactSimpleSigUptoRow : OpenClaim := { program := "ytcgobhgnoobifaagreatdoor", sum := "2748a079060882d46ad0b33cd9738f96f4c0de9f904331b0ad130fee19905b2d", func := "loop.example/g00091/laws.FnExactSimpleSig", spec := "fnExactSimpleSig", inPlace := ["internal/bytealg.IndexByteString", "internal/bytealg.IndexString"], unfollowed := true, recurses := true, named := ["unicode/utf8.first", "unicode/utf8.acceptRanges", "internal/bytealg.MaxLen"], loops := true, apart := false, laid := [("unicode/utf8.acceptRanges", laid_unicode_utf8_acceptRanges), ("unicode/utf8.first", laid_unicode_utf8_first)], narrowed := true }
def FnExactSimpleSigUptoSaid : Prop := fnExactSimpleSigUptoRow.holds Tryz.pinned (OpenSpec.upto fnExactSimpleSigSpec)

/-- 'laws.FnExactNeeds', WHERE WHAT IT READS IS OF BULK AT MOST 1048576: true; the input reads as it did. -/
def fnExactNeedsUptoRow : OpenClaim := { program := "ytcgobhgnoobifaagreatdoor", sum := "2748a079060882d46ad0b33cd9738f96f4c0de9f904331b0ad130fee19905b2d", func := "loop.example/g00091/laws.FnExactNeeds", spec := "fnExactNeeds", inPlace := ["internal/bytealg.IndexByteString", "internal/bytealg.IndexString"], unfollowed := true, recurses := true, named := ["unicode/utf8.first", "unicode/utf8.acceptRanges", "internal/bytealg.MaxLen"], loops := true, apart := false, laid := [("unicode/utf8.acceptRanges", laid_unicode_utf8_acceptRanges), ("unicode/utf8.first", laid_unicode_utf8_first)], narrowed := true }
def FnExactNeedsUptoSaid : Prop := fnExactNeedsUptoRow.holds Tryz.pinned (OpenSpec.upto fnExactNeedsSpec)

/-- 'laws.FnExactSynth', WHERE WHAT IT READS IS OF BULK AT MOST 1048576: true; the input reads as it did. -/
def fnExactSynthUptoRow : OpenClaim := { program := "ytcgobhgnoobifaagreatdoor", sum := "2748a079060882d46ad0b33cd9738f96f4c0de9f904331b0ad130fee19905b2d", func := "loop.example/g00091/laws.FnExactSynth", spec := "fnExactSynth", inPlace := ["internal/bytealg.IndexByteString", "internal/bytealg.IndexString"], unfollowed := true, recurses := true, named := ["unicode/utf8.first", "unicode/utf8.acceptRanges", "internal/bytealg.MaxLen"], loops := true, apart := false, laid := [("unicode/utf8.acceptRanges", laid_unicode_utf8_acceptRanges), ("unicode/utf8.first", laid_unicode_utf8_first)], narrowed := true }
def FnExactSynthUptoSaid : Prop := fnExactSynthUptoRow.holds Tryz.pinned (OpenSpec.upto fnExactSynthSpec)

/-- 'laws.FnExactAddDecl', WHERE WHAT IT READS IS OF BULK AT MOST 1048576: true; the input reads as it did. -/
def fnExactAddDeclUptoRow : OpenClaim := { program := "ytcgobhgnoobifaagreatdoor", sum := "2748a079060882d46ad0b33cd9738f96f4c0de9f904331b0ad130fee19905b2d", func := "loop.example/g00091/laws.FnExactAddDecl", spec := "fnExactAddDecl", inPlace := ["internal/bytealg.IndexByteString", "internal/bytealg.IndexString"], unfollowed := true, recurses := true, named := ["unicode/utf8.first", "unicode/utf8.acceptRanges", "internal/bytealg.MaxLen"], loops := true, apart := false, laid := [("unicode/utf8.acceptRanges", laid_unicode_utf8_acceptRanges), ("unicode/utf8.first", laid_unicode_utf8_first)], narrowed := true }
def FnExactAddDeclUptoSaid : Prop := fnExactAddDeclUptoRow.holds Tryz.pinned (OpenSpec.upto fnExactAddDeclSpec)

/-- 'laws.FnExactOmittable', WHERE WHAT IT READS IS OF BULK AT MOST 1048576: true; the input reads as it did. -/
def fnExactOmittableUptoRow : OpenClaim := { program := "ytcgobhgnoobifaagreatdoor", sum := "2748a079060882d46ad0b33cd9738f96f4c0de9f904331b0ad130fee19905b2d", func := "loop.example/g00091/laws.FnExactOmittable", spec := "fnExactOmittable", inPlace := ["internal/bytealg.IndexByteString", "internal/bytealg.IndexString"], unfollowed := true, recurses := true, named := ["unicode/utf8.first", "unicode/utf8.acceptRanges", "internal/bytealg.MaxLen"], loops := true, apart := false, laid := [("unicode/utf8.acceptRanges", laid_unicode_utf8_acceptRanges), ("unicode/utf8.first", laid_unicode_utf8_first)], narrowed := true }
def FnExactOmittableUptoSaid : Prop := fnExactOmittableUptoRow.holds Tryz.pinned (OpenSpec.upto fnExactOmittableSpec)

/-- 'laws.FnExactOmit', WHERE WHAT IT READS IS OF BULK AT MOST 1048576: true; the input reads as it did. -/
def fnExactOmitUptoRow : OpenClaim := { program := "ytcgobhgnoobifaagreatdoor", sum := "2748a079060882d46ad0b33cd9738f96f4c0de9f904331b0ad130fee19905b2d", func := "loop.example/g00091/laws.FnExactOmit", spec := "fnExactOmit", inPlace := ["internal/bytealg.IndexByteString", "internal/bytealg.IndexString"], unfollowed := true, recurses := true, named := ["unicode/utf8.first", "unicode/utf8.acceptRanges", "internal/bytealg.MaxLen"], loops := true, apart := false, laid := [("unicode/utf8.acceptRanges", laid_unicode_utf8_acceptRanges), ("unicode/utf8.first", laid_unicode_utf8_first)], narrowed := true }
def FnExactOmitUptoSaid : Prop := fnExactOmitUptoRow.holds Tryz.pinned (OpenSpec.upto fnExactOmitSpec)

end Rows
end Go.Proofs.YtcgobhgnoobifaaGreatDoor
