/- Part of a proof that the program answers as the reference does: HPure18, HPure14, HPure15. -/
import Derived.Test.YtakcoedklmoboaaGreatDoorHO
/- Marks of typed constants. -/
namespace Go.H
open Go
set_option linter.unusedVariables false
set_option linter.unusedSimpArgs false
def Ty.reach (d : Ty) : Nat := 4 + 3 * Tr.sizes d.type.kids
def Ty.reaches (l : List Ty) : Nat := (l.map Ty.reach).sum
theorem Th.typed {st : St} {d : Ty} {p : PV} {D : List Nat} : Th st (Go.H.typed d) p D ↔ ∃ q, p = .agg [.str d.name, .int .i64 d.type.kind, .int .i64 d.type.n, .str d.type.name, q] ∧ Th st (Go.H.trees d.type.kids) q D := by
  unfold Go.H.typed
  rw [tree_cells, Go.H.trees]
  simp only [Th, Ths]
  constructor
  · rintro ⟨cs, rfl, p1, r1, A1, B1, rfl, rfl, ⟨rfl, rfl⟩, p3, r3, A3, B3, rfl, rfl, ⟨rfl, rfl⟩, p4, r4, A4, B4, rfl, rfl, ⟨rfl, rfl⟩, p5, r5, A5, B5, rfl, rfl, ⟨rfl, rfl⟩, p6, r6, A6, B6, rfl, rfl, h, rfl, rfl⟩
    exact ⟨p6, rfl, by simpa using h⟩
  · rintro ⟨q, rfl, h⟩
    exact ⟨_, rfl, _, _, [], D, rfl, rfl, ⟨rfl, rfl⟩, _, _, [], D, rfl, rfl, ⟨rfl, rfl⟩, _, _, [], D, rfl, rfl, ⟨rfl, rfl⟩, _, _, [], D, rfl, rfl, ⟨rfl, rfl⟩, q, [], D, [], rfl, by simp, h, rfl, rfl⟩
end Go.H
/- Rows of truth values. -/
namespace Go.H
open Go
set_option linter.unusedVariables false
set_option linter.unusedSimpArgs false
def boolsP (bs : List Bool) : PV := .sl 1 false (bs.map PV.bool)
theorem bool_el (b : Bool) : elOK 1 (PV.bool b) := ⟨rfl, rfl⟩
@[simp] theorem boolsP_len (bs : List Bool) : q_len (boolsP bs) = some (.int .i64 (bs.length : Int)) := by simp [boolsP]
end Go.H
/- What can be left out of a constant's arguments. -/
namespace Go.H
open Go
set_option linter.unusedVariables false
set_option linter.unusedSimpArgs false
mutual
/-- Whether a term stands among arguments, or among those of a constant there. -/
def tellT (v : Tr) : Tr → Bool
  | .mk k n s ks => decide (Tr.mk k n s ks = v) || (decide (k = 6) && tellTs v ks)
def tellTs (v : Tr) : List Tr → Bool
  | [] => false
  | x :: r => tellT v x || tellTs v r
end
end Go.H
