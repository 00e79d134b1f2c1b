/- Part of a proof that the program answers as the reference does: ZFC27, ZFC28, ZFC29, ZFC32, ZFC30, ZFC31, ZFC33. -/
import Derived.Test.YtakcoedklmoboaaGreatDoorHP
import Derived.Test.YtakcoedklmoboaaGreatDoorHY
/- Contracts: the program's checks over a signature, first part. -/
set_option linter.unusedVariables false
set_option linter.unusedSimpArgs false
namespace Go.H.Tryz
open Go Go.H

end Go.H.Tryz
/- Contracts: the program's Size. The row of what is left to do is a literal that the call owns: that step is by hand, at the machine's level. -/
set_option linter.unusedVariables false
set_option linter.unusedSimpArgs false
namespace Go.H.Tryz
open Go Go.H

/-! ### What is left to do -/
/-- The kids' rows that are not empty. -/
def more (ks : List Tr) : List (List Tr) := ks.filterMap fun k => if k.kids = [] then none else some k.kids
/-- The row of what is left to do, owned. -/
structure TodoR (st s : St) (b n cap : Nat) (L : List (List Tr)) : Prop where
  row : ∃ xs, s b = some (.vec 1 xs cap) ∧ n ≤ xs.length ∧ xs.take n = L.map trees
  len : n = L.length
  room : n ≤ cap
  own : st b = none
  sub : Sub st s
/-! ### The step by hand -/
variable {w0 : World} {st0 : St} {d0 : List Deferred}
noncomputable def sizeOps : Array Oper := match Go.Proofs.Tryz.f154.body with
  | some (.seq _ (.seq (.region _ ops _) _)) => ops
  | _ => #[]
end Go.H.Tryz
/- Contracts: the program's checks over a signature: heads, arguments, terms, families. -/
set_option linter.unusedVariables false
set_option linter.unusedSimpArgs false
namespace Go.H.Tryz
open Go Go.H

def HeadP (h : TypeId) (x : Int ⊕ Tr) (p : Int) (st : St) : Res → St → Prop := fun r st' => st' = st ∧ match x with | .inr b => r = .ret (tree b) | .inl c => r = .pan (halt h c p)
theorem HeadP.ret {h : TypeId} {x : Int ⊕ Tr} {p : Int} {b : Tr} {st st1 : St} (e : x = .inr b) (hs : Sub st st1) : retR (HeadP h x p st) (tree b) st1 := retR_sub hs ⟨rfl, by rw [e]⟩
theorem HeadP.pan {h : TypeId} {x : Int ⊕ Tr} {p c : Int} {st st1 : St} (e : x = .inl c) (hs : Sub st st1) : panR (HeadP h x p st) (halt h c p) st1 := panR_conv (Conv.sub hs) ⟨rfl, by rw [e]⟩
end Go.H.Tryz
/- Contracts: the program's SigOK, CtxOK and checks. -/
set_option linter.unusedVariables false
set_option linter.unusedSimpArgs false
namespace Go.H.Tryz
open Go Go.H

/-- What the thing does that is checked: over a new checker. -/
def DoR (h : TypeId) (Q : Int → Int → St → Prop) (st s : St) (b5 : Nat) : Res → St → Prop := fun q s' => ∃ c p st', Q c p st' ∧ Sub st' s' ∧ (∀ b, st b = none → st' b = none) ∧ (∀ b, b ≠ b5 → st b = none → s' b = s b) ∧ ((c = 0 ∧ p = 0 ∧ q = .ret (.tup [])) ∨ (c ≠ 0 ∧ q = .pan (halt h c p)))
/-- What is done leaves nothing but its verdict. -/
theorem DoR.plain {h : TypeId} {f : Fz} {st s s' : St} {b5 : Nat} {q : Res} {k : Int} {sig : List Dc} (hs : Sub st s) (hb : st b5 = none) (e : s' = upd s b5 (ckr sig k)) (hq : (f = (0, 0) ∧ q = .ret (.tup [])) ∨ (f.1 ≠ 0 ∧ q = .pan (halt h f.1 f.2))) : DoR h (fun c p st' => (c, p) = f ∧ st' = st) st s b5 q s' := by
  subst e
  refine ⟨f.1, f.2, st, ⟨rfl, rfl⟩, fun b o hb' => ?_, fun b hb => hb, fun b hne _ => upd_ne _ _ hne, ?_⟩
  · have : b ≠ b5 := fun e => by rw [e, hb] at hb'; cases hb'
    rw [upd_ne _ _ this]
    exact hs b o hb'
  · rcases hq with ⟨h1, h2⟩ | h2
    · subst h1
      exact .inl ⟨rfl, rfl, h2⟩
    · exact .inr h2
end Go.H.Tryz
/- Contracts: the reference's check over a signature. -/
set_option linter.unusedVariables false
set_option linter.unusedSimpArgs false
namespace Go.H.Tryz
open Go Go.H

/-- The two blocks of a check. -/
structure SR (sig : List Dc) (b b' : Nat) (k : Int) (s : St) : Prop where
  run : s b = some (srun sig b' 0 0)
  cn : s b' = some (cnt k)
theorem SR.ne {sig : List Dc} {b b' : Nat} {k : Int} {s : St} (h : SR sig b b' k s) : b ≠ b' := fun e => by
  have h1 := h.run
  rw [e, h.cn] at h1
  unfold cnt srun at h1
  simp at h1
theorem SR.off {sig : List Dc} {b b' : Nat} {k : Int} {s : St} (h : SR sig b b' k s) {c : Nat} (hc : s c = none) (o : HObj) : SR sig b b' k (upd s c o) ∧ c ≠ b ∧ c ≠ b' := by
  have n1 : c ≠ b := fun e => by rw [e, h.run] at hc; cases hc
  have n2 : c ≠ b' := fun e => by rw [e, h.cn] at hc; cases hc
  exact ⟨⟨by rw [upd_ne _ _ n1.symm]; exact h.run, by rw [upd_ne _ _ n2.symm]; exact h.cn⟩, n1, n2⟩
theorem SR.store {sig : List Dc} {b b' : Nat} {k : Int} {s : St} (h : SR sig b b' k s) {c : Nat} (n1 : c ≠ b) (n2 : c ≠ b') (o : HObj) : SR sig b b' k (upd s c o) :=
  ⟨by rw [upd_ne _ _ n1.symm]; exact h.run, by rw [upd_ne _ _ n2.symm]; exact h.cn⟩
theorem SR.next {sig : List Dc} {b b' : Nat} {k k2 : Int} {s : St} (h : SR sig b b' k s) : SR sig b b' k2 (upd (upd s b' (cnt k2)) b (srun sig b' 0 0)) :=
  ⟨upd_same _ _ _, by rw [upd_ne _ _ h.ne.symm]; exact upd_same _ _ _⟩
theorem SR.done {sig : List Dc} {b b' : Nat} {k k2 c p : Int} {s : St} (h : SR sig b b' k s) : (upd (upd s b' (cnt k2)) b (srun sig b' c p)) b = some (srun sig b' c p) ∧ (upd (upd s b' (cnt k2)) b (srun sig b' c p)) b' = some (cnt k2) :=
  ⟨upd_same _ _ _, by rw [upd_ne _ _ h.ne.symm]; exact upd_same _ _ _⟩
theorem SR.far {sig : List Dc} {b b' : Nat} {k2 c p : Int} {s : St} {d : Nat} (n1 : d ≠ b) (n2 : d ≠ b') : (upd (upd s b' (cnt k2)) b (srun sig b' c p)) d = s d := by
  rw [upd_ne _ _ n1, upd_ne _ _ n2]
/-- No tree, and a no. -/
def noX : PV → Prop := fun v => ∃ z0 z1 z2 z3, v = .tup [.agg [z0, z1, z2, z3], .bool false] ∧ z0.cellOK = true ∧ z1.cellOK = true ∧ z2.cellOK = true ∧ z3.cellOK = true
theorem noX.zero : noX (.tup [.agg [.int .i64 0, .int .i64 0, .str [], .sl 0 true []], .bool false]) := ⟨_, _, _, _, rfl, rfl, rfl, rfl, rfl⟩
end Go.H.Tryz
/- Contracts: the reference's check over a signature: terms, families, kinds. -/
set_option linter.unusedVariables false
set_option linter.unusedSimpArgs false
namespace Go.H.Tryz
open Go Go.H

end Go.H.Tryz
/- Contracts: the reference's SigOK, CtxOK and checks. -/
set_option linter.unusedVariables false
set_option linter.unusedSimpArgs false
namespace Go.H.Tryz
open Go Go.H

def codesS (f : Fz) : PV := .tup [.int .i64 f.1, .int .i64 f.2]
/-- The codes are read off. -/
theorem gets {sig : List Dc} {b b' : Nat} {f : Fz} {st s : St} {v : PV} (hsub : Sub st s) (hb : s b = some (srun sig b' f.1 f.2)) (hq : v = codesS f) :
    qb (q_load s false 1 (.ptr b 2)) fun v52 => qb (q_load s false 1 (.ptr b 3)) fun v56 => retR (Just v st) (.tup [v52, v56]) s := by
  have hb0 : s b = some (.cells [.sl 6 false (sig.map decl), .ptr b' 0, .int .i64 f.1, .int .i64 f.2]) := hb
  try simp [q_load_p hb0]
  rw [hq]
  exact Just.ret hsub
end Go.H.Tryz
