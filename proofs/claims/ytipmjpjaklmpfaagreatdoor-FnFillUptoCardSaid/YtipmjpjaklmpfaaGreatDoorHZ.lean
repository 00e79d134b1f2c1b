/- Part of a proof that the program answers as the reference does: ZGC30. -/
import Derived.Test.YtipmjpjaklmpfaaGreatDoorHP
import Derived.Test.YtipmjpjaklmpfaaGreatDoorHY
set_option linter.unusedVariables false
set_option linter.unusedSimpArgs false
namespace Go.H.Tryz
open Go Go.H

theorem h_spec_l04More (ctx : List Tr) (a : Tr) (hl : ctx.length ≤ 1000000) (st : St) : HCalls prog n_spec_l04More [trees ctx, tree a] st (Just (trees (ctx ++ [a])) st) := by
  apply c_spec_l04More
  unfold b_spec_l04More
  refine e_box_ref (tree_isJunk _) ?_
  try simp
  refine (Grow.nil _ 4 4).append (elems_sl _ _ _ _) (by simp; omega) fun p1 s1 hg1 => ?_
  try simp
  refine hg1.append (elems_sl _ _ _ _) (by simp; omega) fun p2 s2 hg2 => ?_
  exact Just.conv (by simpa using hg2.freeze)
structure SR (sig : List Dc) (b b' : Nat) (k : Int) (s : St) : Prop where
  run : s b = some (srun sig b' 0 0)
  cn : s b' = some (cnt k)
theorem SR.ne {sig : List Dc} {b b' : Nat} {k : Int} {s : St} (h : SR sig b b' k s) : b ≠ b' := fun e => by
  have h1 := h.run
  rw [e, h.cn] at h1
  unfold cnt srun at h1
  simp at h1
theorem SR.off {sig : List Dc} {b b' : Nat} {k : Int} {s : St} (h : SR sig b b' k s) {c : Nat} (hc : s c = none) (o : HObj) : SR sig b b' k (upd s c o) ∧ c ≠ b ∧ c ≠ b' := by
  have n1 : c ≠ b := fun e => by rw [e, h.run] at hc; cases hc
  have n2 : c ≠ b' := fun e => by rw [e, h.cn] at hc; cases hc
  exact ⟨⟨by rw [upd_ne _ _ n1.symm]; exact h.run, by rw [upd_ne _ _ n2.symm]; exact h.cn⟩, n1, n2⟩
theorem SR.store {sig : List Dc} {b b' : Nat} {k : Int} {s : St} (h : SR sig b b' k s) {c : Nat} (n1 : c ≠ b) (n2 : c ≠ b') (o : HObj) : SR sig b b' k (upd s c o) :=
  ⟨by rw [upd_ne _ _ n1.symm]; exact h.run, by rw [upd_ne _ _ n2.symm]; exact h.cn⟩
theorem SR.next {sig : List Dc} {b b' : Nat} {k k2 : Int} {s : St} (h : SR sig b b' k s) : SR sig b b' k2 (upd (upd s b' (cnt k2)) b (srun sig b' 0 0)) :=
  ⟨upd_same _ _ _, by rw [upd_ne _ _ h.ne.symm]; exact upd_same _ _ _⟩
theorem SR.done {sig : List Dc} {b b' : Nat} {k k2 c p : Int} {s : St} (h : SR sig b b' k s) : (upd (upd s b' (cnt k2)) b (srun sig b' c p)) b = some (srun sig b' c p) ∧ (upd (upd s b' (cnt k2)) b (srun sig b' c p)) b' = some (cnt k2) :=
  ⟨upd_same _ _ _, by rw [upd_ne _ _ h.ne.symm]; exact upd_same _ _ _⟩
theorem SR.far {sig : List Dc} {b b' : Nat} {k2 c p : Int} {s : St} {d : Nat} (n1 : d ≠ b) (n2 : d ≠ b') : (upd (upd s b' (cnt k2)) b (srun sig b' c p)) d = s d := by
  rw [upd_ne _ _ n1, upd_ne _ _ n2]
def noX : PV → Prop := fun v => ∃ z0 z1 z2 z3, v = .tup [.agg [z0, z1, z2, z3], .bool false] ∧ z0.cellOK = true ∧ z1.cellOK = true ∧ z2.cellOK = true ∧ z3.cellOK = true
theorem noX.zero : noX (.tup [.agg [.int .i64 0, .int .i64 0, .str [], .sl 0 true []], .bool false]) := ⟨_, _, _, _, rfl, rfl, rfl, rfl, rfl⟩
end Go.H.Tryz
