/- Part of a proof that the program answers as the reference does: ZFC70, ZFC71, ZFC72, ZFC73, ZFC74, ZFC75, ZFC76, ZFC77. -/
import Derived.Test.YtakcoedklmoboaaGreatDoorHY
import Derived.Test.YtakcoedklmoboaaGreatDoorHR
/- Contracts: the program's parser: bytes, nodes, signs, runs. -/
set_option linter.unusedVariables false
set_option linter.unusedSimpArgs false
namespace Go.H.Tryz
open Go Go.H

variable {st0 st : St} {b : Nat} {t : List UInt8} {om : Bool} {sc : List (List UInt8)} {i nd : Nat}
abbrev PG {α : Type} (st0 : St) (b : Nat) (t : List UInt8) (om : Bool) (sc : List (List UInt8)) (val : α → PV) (r : PR α) : Res → St → Prop := PRes ty_impl_halt st0 b t om sc val r
end Go.H.Tryz
/- Contracts: a loop over slices.Backward; the program's parser: names in scope, binders. -/
set_option linter.unusedVariables false
set_option linter.unusedSimpArgs false
namespace Go.H.Tryz
open Go Go.H

variable {st0 st : St} {b : Nat} {t : List UInt8} {om : Bool} {sc : List (List UInt8)} {i nd : Nat}
end Go.H.Tryz
/- Contracts: the program's parser: binders, heads. -/
set_option linter.unusedVariables false
set_option linter.unusedSimpArgs false
namespace Go.H.Tryz
open Go Go.H

variable {st0 st : St} {b : Nat} {t : List UInt8} {om : Bool} {sc : List (List UInt8)} {i nd : Nat}
theorem h_impl_constant0 (w : List UInt8) (st : St) : HCalls prog n_impl_constant [.str w, .sl 0 true []] st (Just (tree (.mk 6 0 w [])) st) := by
  apply c_impl_constant
  unfold b_impl_constant
  intro b2 hb2
  rw [show q_struct [PV.int IntKind.i64 0, PV.int IntKind.i64 0, PV.str [], PV.sl 0 true []] [(0, 1, PV.int IntKind.i64 6), (2, 1, PV.str w), (3, 1, PV.sl 0 true [])] = some (.agg [.int .i64 6, .int .i64 0, .str w, .sl 0 true []]) from rfl]
  try simp
  try simp [q_load_p (upd_same _ _ _)]
  exact Just.tree (t := .mk 6 0 w []) rfl (.inr rfl) rfl rfl rfl ((Sub.refl st).put hb2)
end Go.H.Tryz
/- Contracts: the program's parser: heads, arguments, terms. -/
set_option linter.unusedVariables false
set_option linter.unusedSimpArgs false
namespace Go.H.Tryz
open Go Go.H

variable {st0 st : St} {b : Nat} {t : List UInt8} {om : Bool} {sc : List (List UInt8)} {i nd : Nat}
/-- What is known of holes' texts. -/
def HoleOK (b : Nat) (t : List UInt8) (om : Bool) : Prop := ∀ st0 st sc j nd, PS st0 st b t om sc j nd → t[j]? = some 63 → HCalls prog n_impl_parser_hole [.ptr b 0] st (PG st0 b t om sc tree (pHole t j nd))
end Go.H.Tryz
/- Contracts: the program's parser: arguments, terms. -/
set_option linter.unusedVariables false
set_option linter.unusedSimpArgs false
namespace Go.H.Tryz
open Go Go.H

variable {st0 st : St} {b : Nat} {t : List UInt8} {om : Bool} {sc : List (List UInt8)} {i nd : Nat}
def treesP (ks : List Tr) : PV := .sl 4 false (ks.map tree)
theorem PRes.freeze {base s : St} {ks : List Tr} {p : PV} (hg : Grow st0 4 (ks.map tree) p base) (h : PS base s b t om sc i nd) : retR (PG st0 b t om sc treesP (.ok ks i nd)) p s := by
  obtain ⟨s', hc, hs⟩ := PS.freeze hg h
  exact retR_conv hc ⟨rfl, hs⟩
end Go.H.Tryz
/- Contracts: the program's parser: terms. -/
set_option linter.unusedVariables false
set_option linter.unusedSimpArgs false
namespace Go.H.Tryz
open Go Go.H

variable {st0 st : St} {b : Nat} {t : List UInt8} {om : Bool} {sc : List (List UInt8)} {i nd : Nat}
def z4 : List PV := [.int .i64 0, .int .i64 0, .str [], .sl 0 true []]
end Go.H.Tryz
/- Contracts: the program's parser: families. -/
set_option linter.unusedVariables false
set_option linter.unusedSimpArgs false
namespace Go.H.Tryz
open Go Go.H

variable {st0 st : St} {b : Nat} {t : List UInt8} {sc : List (List UInt8)} {i nd : Nat}
end Go.H.Tryz
/- Contracts: the program's parser: families, the end of a text. -/
set_option linter.unusedVariables false
set_option linter.unusedSimpArgs false
namespace Go.H.Tryz
open Go Go.H

variable {st0 st : St} {b : Nat} {t : List UInt8} {sc : List (List UInt8)} {i nd : Nat}
end Go.H.Tryz
