/- Part of a proof that the program answers as the reference does: HFrame5. -/
import Derived.Test.YtipmjpjaklmpfaaGreatDoorHP
import Derived.Test.YtipmjpjaklmpfaaGreatDoorHF
namespace Go.H
open Go Go.Deep Go.ChangeShapes Go.WideShapes
set_option linter.unusedVariables false
set_option linter.unusedSectionVars false
section
variable {H : Type} {enc : TypeId × Value → H} {P : Program} {w : World} {base : Nat} {held : Bool} {r : Reach}
theorem bulks_len {ts : List UInt8} : ∀ (es : List (DataW H)), es.length = ts.length → (∀ d ∈ es, 1 ≤ bulkD d) → ts.length ≤ bulkDs es := by
  intro es h h1
  rw [← h]
  clear h
  induction es with
  | nil => simp
  | cons e es ih =>
    simp only [List.length_cons, bulkDs]
    have := h1 e (by simp)
    have := ih (fun d hd => h1 d (by simp [hd]))
    omega
theorem arg_bytes {ts tb : TypeId} (hs : P.underlying ts = some (.slice tb)) (hc : P.cellsOf tb = 1) (hb : P.underlying tb = some (.int .u8)) {v : Value} {d : DataW H} {p : List MemPlace} (hv : Value.okWide P w r base ts v) (h : DataW.Trod enc P w 0 (fun _ => true) held ts v d p) : ∃ bs, RO (Cm w) (bytesP bs) v ∧ bs.length + 1 ≤ bulkD d := by
  obtain ⟨n, h⟩ := h
  obtain ⟨a, l, c, rfl⟩ := okWide_slice hs hv
  obtain ⟨tl, h1, h2⟩ := open_els hs hc (by omega) (fun c : UInt8 => PV.int .u8 (c.toNat : Int)) (fun a => ⟨rfl, rfl⟩) (fun _ d => 1 ≤ bulkD d) (fun m hm cs x hx => by
    obtain ⟨k, rfl, rfl, wk⟩ := DataW.trod_int hb hx
    have hk : 0 ≤ k ∧ k ≤ 255 := by simpa [Lit.wf, IntKind.min, IntKind.max, IntKind.signed, IntKind.bits] using wk
    refine ⟨UInt8.ofNat k.toNat, ?_, by simp [bulkD]⟩
    simp only [RX]
    have : ((UInt8.ofNat k.toNat).toNat : Int) = k := by
      rw [UInt8.toNat_ofNat']
      omega
    rw [this]) h
  refine ⟨tl, .inr ⟨rfl, h1⟩, ?_⟩
  rcases h2 with ⟨h3, rfl⟩ | ⟨es, rest, h3, hl, hq⟩
  · simp at h3; subst h3; simp [bulkD]
  · simp at h3
    subst h3
    have : tl.length ≤ bulkDs es := by
      refine bulks_len es hl fun d hd => ?_
      obtain ⟨i, hi⟩ := List.getElem?_of_mem hd
      have hi2 := (List.getElem?_eq_some_iff.1 hi).1
      obtain ⟨d', hd', h1⟩ := hq i _ (List.getElem?_eq_getElem (show i < tl.length by omega))
      rw [hi] at hd'
      cases hd'
      exact h1
    simp only [bulkD]
    omega
end
end Go.H
