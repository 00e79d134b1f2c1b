/- Part of a proof that the program answers as the reference does: HFrame7. -/
import Derived.Test.YtcgobhgnoobifaaGreatDoorHF
/- One declaration, handed over. -/
namespace Go.H
open Go Go.Deep Go.ChangeShapes Go.WideShapes
set_option linter.unusedVariables false
set_option linter.unusedSectionVars false
section
variable {H : Type} {enc : TypeId × Value → H} {P : Program} {w : World} {base : Nat} {held : Bool} {r : Reach}
theorem arg_decl {tx txs tt ts ti tn tb : TypeId} (hT : TreeTys P tt ts ti tn) (hX : DeclTys P tx txs tt tn tb) {v : Value} {d : DataW H} {p : List MemPlace} (hv : Value.okWide P w r base tx v) (h : DataW.Trod enc P w 0 (fun _ => true) held tx v d p) : ∃ t, RO (Cm w) (decl t) v ∧ DY t d := by
  obtain ⟨n, h⟩ := h
  obtain ⟨f0, f1, f2, hu, _⟩ := hX.ux
  obtain ⟨cs, rfl, _⟩ := okWide_struct hu hv
  obtain ⟨t, h1, h2⟩ := open_decl hT hX _ _ _ h
  exact ⟨t, .inr ⟨decl_isAgg t, h1⟩, h2⟩
end
end Go.H
