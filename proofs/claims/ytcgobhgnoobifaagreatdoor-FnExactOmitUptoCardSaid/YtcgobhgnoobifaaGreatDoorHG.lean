/- Part of a proof that the program answers as the reference does: HFrame5, HFrame8. -/
import Derived.Test.YtcgobhgnoobifaaGreatDoorHP
import Derived.Test.YtcgobhgnoobifaaGreatDoorHQ
import Derived.Test.YtcgobhgnoobifaaGreatDoorHF
/- Bytes, handed over. -/
namespace Go.H
open Go Go.Deep Go.ChangeShapes Go.WideShapes
set_option linter.unusedVariables false
set_option linter.unusedSectionVars false
section
variable {H : Type} {enc : TypeId × Value → H} {P : Program} {w : World} {base : Nat} {held : Bool} {r : Reach}
theorem bulks_len {ts : List UInt8} : ∀ (es : List (DataW H)), es.length = ts.length → (∀ d ∈ es, 1 ≤ bulkD d) → ts.length ≤ bulkDs es := by
  intro es h h1
  rw [← h]
  clear h
  induction es with
  | nil => simp
  | cons e es ih =>
    simp only [List.length_cons, bulkDs]
    have := h1 e (by simp)
    have := ih (fun d hd => h1 d (by simp [hd]))
    omega
end
end Go.H
/- Rows of truth values, handed over. -/
namespace Go.H
open Go Go.Deep Go.ChangeShapes Go.WideShapes
set_option linter.unusedVariables false
set_option linter.unusedSectionVars false
section
variable {H : Type} {enc : TypeId × Value → H} {P : Program} {w : World} {base : Nat} {held : Bool} {r : Reach}
theorem arg_bools {ts tb : TypeId} (hs : P.underlying ts = some (.slice tb)) (hc : P.cellsOf tb = 1) (hb : P.underlying tb = some .bool) {v : Value} {d : DataW H} {p : List MemPlace} (hv : Value.okWide P w r base ts v) (h : DataW.Trod enc P w 0 (fun _ => true) held ts v d p) : ∃ bs, RO (Cm w) (boolsP bs) v ∧ bs.length + 1 ≤ bulkD d := by
  obtain ⟨n, h⟩ := h
  obtain ⟨a, l, c, rfl⟩ := okWide_slice hs hv
  obtain ⟨tl, h1, h2⟩ := open_els hs hc (by omega) PV.bool bool_el (fun _ d => 1 ≤ bulkD d) (fun m hm cs x hx => by
    obtain ⟨bb, hbb, hb2⟩ := DataW.trod_bool hb hx
    refine ⟨bb, ?_, ?_⟩
    · rw [hbb]
      simp [RX]
    · rw [hb2]; simp [bulkD]) h
  refine ⟨tl, .inr ⟨rfl, h1⟩, ?_⟩
  rcases h2 with ⟨h3, rfl⟩ | ⟨es, rest, h3, hl, hq⟩
  · simp at h3; subst h3; simp [bulkD]
  · simp at h3
    subst h3
    have : tl.length ≤ bulkDs es := by
      have key : (tl.map fun _ => (0 : UInt8)).length ≤ bulkDs es := bulks_len es (by simpa using hl) fun d hd => by
        obtain ⟨i, hi⟩ := List.getElem?_of_mem hd
        have hi2 := (List.getElem?_eq_some_iff.1 hi).1
        obtain ⟨d', hd', h1⟩ := hq i _ (List.getElem?_eq_getElem (show i < tl.length by omega))
        rw [hi] at hd'
        cases hd'
        exact h1
      simpa using key
    simp only [bulkD]
    omega
end
end Go.H
