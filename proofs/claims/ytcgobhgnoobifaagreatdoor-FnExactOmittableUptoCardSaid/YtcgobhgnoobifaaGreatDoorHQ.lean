/- Part of a proof that the program answers as the reference does: HPure14, HPure15. -/
import Derived.Test.YtcgobhgnoobifaaGreatDoorHO
/- Rows of truth values. -/
namespace Go.H
open Go
set_option linter.unusedVariables false
set_option linter.unusedSimpArgs false
def boolsP (bs : List Bool) : PV := .sl 1 false (bs.map PV.bool)
theorem bool_el (b : Bool) : elOK 1 (PV.bool b) := ⟨rfl, rfl⟩
@[simp] theorem boolsP_len (bs : List Bool) : q_len (boolsP bs) = some (.int .i64 (bs.length : Int)) := by simp [boolsP]
theorem ia_bool {bs : List Bool} {i : Nat} {k : IntKind} {x : Bool} (h : bs[i]? = some x) : q_ia 1 (boolsP bs) (.int k (i : Int)) = some (.ref [.bool x]) := by
  obtain ⟨hi, hx⟩ := List.getElem?_eq_some_iff.1 h
  simp [q_ia, boolsP, hi, hx, PV.cells]
end Go.H
/- What can be left out of a constant's arguments. -/
namespace Go.H
open Go
set_option linter.unusedVariables false
set_option linter.unusedSimpArgs false
theorem lamy_ok : ∀ t : Tr, t.lamy = true → t.lamsOK = true := by
  intro t
  induction t using Tr.ind with
  | _ t ih =>
    intro h
    rw [Tr.lamsOK_eq]
    split
    · rename_i hk
      obtain ⟨x, hx, hl⟩ := Tr.lamy_lam h hk
      rw [hx]
      have := ih x (by rw [hx]; simp) hl
      simp [this]
    · rfl
theorem strip_lamsG : ∀ (n : Nat) (u : Tr), (lams n u).strip = (u.strip.1 + n, u.strip.2)
  | 0, u => rfl
  | n + 1, u => by
    have e : u.lam.strip = (u.strip.1 + 1, u.strip.2) := Tr.strip_lam rfl rfl
    rw [lams, strip_lamsG n u.lam, e]
    simp only [Prod.mk.injEq, and_true]
    omega
theorem strip_lams (t : Tr) (ht : t.kind ≠ 4) (n : Nat) : (lams n t).strip = (n, t) := by
  rw [strip_lamsG, Tr.strip_base ht]; simp
mutual
/-- Whether a term stands among arguments, or among those of a constant there. -/
def tellT (v : Tr) : Tr → Bool
  | .mk k n s ks => decide (Tr.mk k n s ks = v) || (decide (k = 6) && tellTs v ks)
def tellTs (v : Tr) : List Tr → Bool
  | [] => false
  | x :: r => tellT v x || tellTs v r
end
theorem tellTs_any (v : Tr) : ∀ l : List Tr, tellTs v l = l.any (tellT v)
  | [] => by simp [tellTs]
  | x :: r => by simp [tellTs, tellTs_any v r]
theorem tellT_eq (v x : Tr) : tellT v x = (decide (x = v) || (decide (x.kind = 6) && x.kids.any (tellT v))) := by
  cases x; rw [tellT, tellTs_any]; rfl
/-- The arguments' families, and what stands behind them; so many at most. -/
def piGo : Nat → List Tr → Tr → List Tr × Tr
  | 0, acc, t => (acc, t)
  | m + 1, acc, t => if t.kind = 2 then piGo m (acc ++ [t.kid 0]) (t.kid 1) else (acc, t)
theorem piGo_end {t : Tr} (h : t.kind ≠ 2) (acc : List Tr) : ∀ m, piGo m acc t = (acc, t)
  | 0 => rfl
  | m + 1 => by rw [piGo, if_neg h]
def omitB (t : Tr) : List Bool := (piGo 150 [] t).1.mapIdx fun i d => (piGo 150 [] t).2.kids.any (tellT (longForm (Tr.var ((((piGo 150 [] t).1.length : Int) - 1) - i) []) (eraseT d)))
theorem piGo_fine : ∀ (m : Nat) (acc : List Tr) (t : Tr), FF t → (∀ d ∈ acc, FF d) → (∀ d ∈ (piGo m acc t).1, FF d) ∧ FF (piGo m acc t).2 ∧ (piGo m acc t).1.length ≤ acc.length + m
  | 0, acc, t, ht, ha => ⟨ha, ht, by simp [piGo]⟩
  | m + 1, acc, t, ht, ha => by
    rw [piGo]
    split
    · rename_i hk
      obtain ⟨x, y, hxy, hx, hy, _⟩ := ff_pi ht hk
      rw [kid0 hxy, kid1 hxy]
      obtain ⟨h1, h2, h3⟩ := piGo_fine m (acc ++ [x]) y hy (fun d hd => by
        rcases List.mem_append.1 hd with hd | hd
        · exact ha d hd
        · simp at hd; subst hd; exact hx)
      exact ⟨h1, h2, by simp at h3; omega⟩
    · exact ⟨ha, ht, by simp⟩
theorem longVar_iff {x a : Tr} {n : Int} (h0 : 0 ≤ n) (h1 : n ≤ 1000000) (hl : a.args.length ≤ 1000000) : longVar x a = n ↔ x = longForm (Tr.var n []) a := by
  constructor
  · intro h
    unfold longVar at h
    split at h
    · split at h
      · rename_i e; rw [h] at e; exact e
      · omega
    · omega
  · intro h
    have hk : ((Tr.var n []).lift 0 a.args.length).n = n + a.args.length := by
      rw [Tr.lift_eq]
      simp only [Tr.var, Tr.n_mk, Tr.kind_mk]
      rw [if_pos ⟨trivial, h0⟩]
      exact wrap64 (by omega) (by omega)
    have hs : x.strip = (a.args.length, .mk (Tr.var n []).kind ((Tr.var n []).lift 0 a.args.length).n (Tr.var n []).name (((Tr.var n []).lift 0 a.args.length).kids ++ a.args.mapIdx fun i b => longForm (Tr.var (W (W (a.args.length - 1) - i)) []) b)) := by
      rw [h, longForm_eq]
      exact strip_lams _ (by simp [Tr.var]) _
    have e1 : x.strip.1 = a.args.length := by rw [hs]
    have e2 : x.strip.2.kind = 5 := by rw [hs]; rfl
    have e3 : x.strip.2.n = n + a.args.length := by rw [hs]; exact hk
    have e4 : W (x.strip.2.n - x.strip.1) = n := by
      rw [e1, e3, show n + (a.args.length : Int) - a.args.length = n by omega]
      exact wrap64 (by omega) (by omega)
    unfold longVar
    rw [if_pos ⟨e2, by rw [e1, e3]; omega⟩, e4, if_pos h]
end Go.H
