/- Part of a proof that the program answers as the reference does: HPure14, HPure15, HPure16, HPure17. -/
import Derived.Test.YtlhiejikjncgpaaGreatDoorHO
/- Rows of truth values. -/
namespace Go.H
open Go
set_option linter.unusedVariables false
set_option linter.unusedSimpArgs false
def boolsP (bs : List Bool) : PV := .sl 1 false (bs.map PV.bool)
@[simp] theorem boolsP_len (bs : List Bool) : q_len (boolsP bs) = some (.int .i64 (bs.length : Int)) := by simp [boolsP]
end Go.H
/- What can be left out of a constant's arguments. -/
namespace Go.H
open Go
set_option linter.unusedVariables false
set_option linter.unusedSimpArgs false
mutual
/-- Whether a term stands among arguments, or among those of a constant there. -/
def tellT (v : Tr) : Tr → Bool
  | .mk k n s ks => decide (Tr.mk k n s ks = v) || (decide (k = 6) && tellTs v ks)
def tellTs (v : Tr) : List Tr → Bool
  | [] => false
  | x :: r => tellT v x || tellTs v r
end
end Go.H
/- A term of which some arguments are left out. -/
namespace Go.H
open Go
set_option linter.unusedVariables false
set_option linter.unusedSimpArgs false
def gap : Tr := .mk 8 0 [] []
mutual
/-- A term without some of its arguments; the flags that are left. -/
def omT (fl : List UInt8 → List Bool) : Tr → List Bool → Tr × List Bool
  | .mk k n s ks, o => (.mk k n s (omTs fl (if k = 6 then fl s else []) ks o).1, (omTs fl (if k = 6 then fl s else []) ks o).2)
def omTs (fl : List UInt8 → List Bool) : List Bool → List Tr → List Bool → List Tr × List Bool
  | bs, [], o => ([], o)
  | bs, x :: r, o =>
    if bs.head? = some true ∧ o.head? = some true then (gap :: (omTs fl bs.tail r o.tail).1, (omTs fl bs.tail r o.tail).2)
    else ((omT fl x (if bs.head? = some true then o.tail else o)).1 :: (omTs fl bs.tail r (omT fl x (if bs.head? = some true then o.tail else o)).2).1, (omTs fl bs.tail r (omT fl x (if bs.head? = some true then o.tail else o)).2).2)
end
/-! ### The program's map of flags -/
end Go.H
/- Rows whose elements are trees of another spelling. -/
namespace Go.H
open Go
set_option linter.unusedVariables false
set_option linter.unusedSimpArgs false
def Alike : List PV → List Tr → Prop
  | [], [] => True
  | p :: ps, t :: ts => (∀ (C : Nat → Nat → Value → Prop) (cs : List Value), RX C p cs → RX C (tree t) cs) ∧ Alike ps ts
  | _, _ => False
theorem Alike.len : ∀ {ps : List PV} {ts : List Tr}, Alike ps ts → ps.length = ts.length
  | [], [], _ => rfl
  | p :: ps, t :: ts, h => by simp [Alike.len (h.2)]
  | [], _ :: _, h => by simp [Alike] at h
  | _ :: _, [], h => by simp [Alike] at h
theorem Alike.snoc {p : PV} {t : Tr} (hp : ∀ (C : Nat → Nat → Value → Prop) (cs : List Value), RX C p cs → RX C (tree t) cs) : ∀ {ps : List PV} {ts : List Tr}, Alike ps ts → Alike (ps ++ [p]) (ts ++ [t])
  | [], [], _ => ⟨hp, trivial⟩
  | q :: ps, u :: ts, h => ⟨h.1, Alike.snoc hp h.2⟩
  | [], _ :: _, h => by simp [Alike] at h
  | _ :: _, [], h => by simp [Alike] at h
theorem Alike.same {ps : List PV} {ts : List Tr} (h : Alike ps ts) (t : Tr) : Alike (ps ++ [tree t]) (ts ++ [t]) := h.snoc fun _ _ h => h
end Go.H
