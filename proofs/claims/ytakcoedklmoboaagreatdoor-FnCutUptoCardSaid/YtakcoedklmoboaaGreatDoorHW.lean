/- Part of a proof that the program answers as the reference does: ZFC78, ZFC79, ZFC80, ZFC81, ZFC82, ZFC83. -/
import Derived.Test.YtakcoedklmoboaaGreatDoorHR
import Derived.Test.YtakcoedklmoboaaGreatDoorHE
import Derived.Test.YtakcoedklmoboaaGreatDoorHV
import Derived.Test.YtakcoedklmoboaaGreatDoorHM
/- Contracts: the program's ParseFamily, of a text that is right. -/
set_option linter.unusedVariables false
set_option linter.unusedSimpArgs false
namespace Go.H.Tryz
open Go Go.H

variable {st0 st : St} {b : Nat} {t : List UInt8} {sc : List (List UInt8)} {i nd : Nat}
theorem HoleOK.none (hq : ∀ j : Nat, t[j]? ≠ some 63) (om : Bool) : HoleOK b t om := fun _ _ _ j _ _ h => absurd h (hq j)
end Go.H.Tryz
/- Contracts: lines of the program's; a declaration read off a line. -/
set_option linter.unusedVariables false
set_option linter.unusedSimpArgs false
namespace Go.H.Tryz
open Go Go.H

end Go.H.Tryz
/- Contracts: a loop over a text's lines; a line's declaration behind a signature. -/
set_option linter.unusedVariables false
set_option linter.unusedSimpArgs false
namespace Go.H.Tryz
open Go Go.H

end Go.H.Tryz
/- Contracts: the program's ReadSig, of a text that is right. -/
set_option linter.unusedVariables false
set_option linter.unusedSimpArgs false
namespace Go.H.Tryz
open Go Go.H

end Go.H.Tryz
/- Contracts: the program's ReadSig, of a text that is right. -/
set_option linter.unusedVariables false
set_option linter.unusedSimpArgs false
namespace Go.H.Tryz
open Go Go.H

/-- Between two lines: what is read stands in a row, the line's number is counted. -/
structure LI (st : St) (v2 v3 v4 v5 v6 v7 b : Nat) (sig : List Dc) (p : PV) (D : List Nat) (k : Nat) (s : St) : Prop where
  right : SigR sig
  row : Rw st s 6 (sig.map decl) p D
  e2 : s v2 = some (.cells [.sl 0 true []])
  e3 : s v3 = some (.cells [.int .i64 0])
  e4 : s v4 = some (.cells [.int .i64 0])
  e5 : s v5 = some (.cells [.int .i64 0])
  e6 : s v6 = some (.cells [p])
  e7 : s v7 = some (.cells [.int .i64 k])
  out : ∀ v ∈ [v2, v3, v4, v5, v6, v7, b], v ∉ D
section
variable {st s : St} {v2 v3 v4 v5 v6 v7 b : Nat} {sig : List Dc} {p : PV} {D : List Nat} {k : Nat}
theorem LI.upd (h : LI st v2 v3 v4 v5 v6 v7 b sig p D k s) {c : Nat} (hc : c ∉ [v2, v3, v4, v5, v6, v7]) (hD : c ∉ D) (hst : st c = none) (o : HObj) :
    LI st v2 v3 v4 v5 v6 v7 b sig p D k (Go.H.upd s c o) := by
  simp only [List.mem_cons, List.not_mem_nil, or_false, not_or] at hc
  obtain ⟨c2, c3, c4, c5, c6, c7⟩ := hc
  exact ⟨h.right, h.row.frame (fun d hd => upd_ne _ _ (fun e => hD (e ▸ hd))) (h.row.sub.put hst), by rw [upd_ne _ _ (Ne.symm c2)]; exact h.e2, by rw [upd_ne _ _ (Ne.symm c3)]; exact h.e3, by rw [upd_ne _ _ (Ne.symm c4)]; exact h.e4,
    by rw [upd_ne _ _ (Ne.symm c5)]; exact h.e5, by rw [upd_ne _ _ (Ne.symm c6)]; exact h.e6, by rw [upd_ne _ _ (Ne.symm c7)]; exact h.e7, h.out⟩
theorem LI.del (h : LI st v2 v3 v4 v5 v6 v7 b sig p D k s) {c : Nat} (hc : c ∉ [v2, v3, v4, v5, v6, v7]) (hD : c ∉ D) (hst : st c = none) :
    LI st v2 v3 v4 v5 v6 v7 b sig p D k (Go.H.del s c) := by
  simp only [List.mem_cons, List.not_mem_nil, or_false, not_or] at hc
  obtain ⟨c2, c3, c4, c5, c6, c7⟩ := hc
  exact ⟨h.right, h.row.frame (fun d hd => del_ne _ (fun e => hD (e ▸ hd))) (fun d o hd => by
      have : d ≠ c := fun e => by rw [e, hst] at hd; cases hd
      rw [del_ne _ this]; exact h.row.sub d o hd), by rw [del_ne _ (Ne.symm c2)]; exact h.e2, by rw [del_ne _ (Ne.symm c3)]; exact h.e3, by rw [del_ne _ (Ne.symm c4)]; exact h.e4,
    by rw [del_ne _ (Ne.symm c5)]; exact h.e5, by rw [del_ne _ (Ne.symm c6)]; exact h.e6, by rw [del_ne _ (Ne.symm c7)]; exact h.e7, h.out⟩
theorem LI.count (h : LI st v2 v3 v4 v5 v6 v7 b sig p D k s) (hn : v2 ≠ v7 ∧ v3 ≠ v7 ∧ v4 ≠ v7 ∧ v5 ≠ v7 ∧ v6 ≠ v7) (hst : st v7 = none) : LI st v2 v3 v4 v5 v6 v7 b sig p D (k + 1) (Go.H.upd s v7 (.cells [.int .i64 ((k : Int) + 1)])) := by
  obtain ⟨c2, c3, c4, c5, c6⟩ := hn
  have hD := h.out v7 (by simp)
  exact ⟨h.right, h.row.frame (fun d hd => upd_ne _ _ (fun e => hD (e ▸ hd))) (h.row.sub.put hst), by rw [upd_ne _ _ c2]; exact h.e2, by rw [upd_ne _ _ c3]; exact h.e3, by rw [upd_ne _ _ c4]; exact h.e4,
    by rw [upd_ne _ _ c5]; exact h.e5, by rw [upd_ne _ _ c6]; exact h.e6, by rw [upd_same]; simp, h.out⟩
theorem LI.grow (h : LI st v2 v3 v4 v5 v6 v7 b sig p D k s) (hn : v2 ≠ v6 ∧ v3 ≠ v6 ∧ v4 ≠ v6 ∧ v5 ≠ v6 ∧ v7 ≠ v6) (hb : ∃ o, s b = some o) {sig2 : List Dc} {p2 : PV} {D2 : List Nat} {s2 : St} (hr : SigR sig2) (hrow : Rw st s2 6 (sig2.map decl) p2 D2) (e6 : s2 v6 = some (.cells [p2]))
    (hk : ∀ c o, s c = some o → c ∉ D → c ≠ v6 → s2 c = some o) (hin : ∀ c, c ∈ D2 → c ∈ D ∨ s c = none) : LI st v2 v3 v4 v5 v6 v7 b sig2 p2 D2 k s2 := by
  obtain ⟨c2, c3, c4, c5, c7⟩ := hn
  have o := h.out
  simp only [List.forall_mem_cons] at o
  obtain ⟨o2, o3, o4, o5, o6, o7, ob, _⟩ := o
  refine ⟨hr, hrow, hk _ _ h.e2 o2 c2, hk _ _ h.e3 o3 c3, hk _ _ h.e4 o4 c4, hk _ _ h.e5 o5 c5, e6, hk _ _ h.e7 o7 c7, fun v hv hd => ?_⟩
  rcases hin v hd with h1 | h1
  · exact h.out v hv h1
  · simp only [List.mem_cons, List.not_mem_nil, or_false] at hv
    obtain ⟨ob', hob⟩ := hb
    rcases hv with rfl | rfl | rfl | rfl | rfl | rfl | rfl
    · rw [h.e2] at h1; cases h1
    · rw [h.e3] at h1; cases h1
    · rw [h.e4] at h1; cases h1
    · rw [h.e5] at h1; cases h1
    · rw [h.e6] at h1; cases h1
    · rw [h.e7] at h1; cases h1
    · rw [hob] at h1; cases h1
theorem LI.new (h : LI st v2 v3 v4 v5 v6 v7 b sig p D k s) {c : Nat} (hc : s c = none) : c ∉ [v2, v3, v4, v5, v6, v7] ∧ c ∉ D ∧ st c = none := by
  refine ⟨fun hm => ?_, fun hd => ?_, h.row.sub.isNone hc⟩
  · simp only [List.mem_cons, List.not_mem_nil, or_false] at hm
    rcases hm with rfl | rfl | rfl | rfl | rfl | rfl
    · rw [h.e2] at hc; cases hc
    · rw [h.e3] at hc; cases hc
    · rw [h.e4] at hc; cases hc
    · rw [h.e5] at hc; cases hc
    · rw [h.e6] at hc; cases hc
    · rw [h.e7] at hc; cases hc
  · obtain ⟨o, ho⟩ := h.row.live hd; rw [ho] at hc; cases hc
theorem LI.apart (h : LI st v2 v3 v4 v5 v6 v7 b sig p D k s) {c : Nat} (hc : s c = none ∨ ∃ e r, s c = some (.loop e r)) : c ∉ [v2, v3, v4, v5, v6, v7] ∧ c ∉ D := by
  rcases hc with hc | ⟨e, r, hc⟩
  · exact ⟨(h.new hc).1, (h.new hc).2.1⟩
  · refine ⟨fun hm => ?_, fun hd => ?_⟩
    · simp only [List.mem_cons, List.not_mem_nil, or_false] at hm
      rcases hm with rfl | rfl | rfl | rfl | rfl | rfl
      · rw [h.e2] at hc; cases hc
      · rw [h.e3] at hc; cases hc
      · rw [h.e4] at hc; cases hc
      · rw [h.e5] at hc; cases hc
      · rw [h.e6] at hc; cases hc
      · rw [h.e7] at hc; cases hc
    · obtain ⟨o, ho, hso⟩ := h.row.th.solid.2 _ hd
      rw [hc] at ho; cases ho; cases hso
end
end Go.H.Tryz
/- Contracts: the program's built-in signatures. -/
set_option linter.unusedVariables false
set_option linter.unusedSimpArgs false
namespace Go.H.Tryz
open Go Go.H

end Go.H.Tryz
