/- Part of a proof that the program answers as the reference does: HPure24, HPure25, HPure23, HPure26, HPure27, HPure28, HPure29, HPure30, HPure32, HPure33, HPure34, HPure35, HPure36, HPure37, HHeld. -/
import Derived.Test.YtlhiejikjncgpaaGreatDoorHP
/- Substitution into what applies no variable: no step is done. -/
namespace Go.H
open Go
set_option linter.unusedVariables false
set_option linter.unusedSimpArgs false

/-- No variable is applied to anything. -/
inductive Flat : Tr → Prop
  | of (t : Tr) : (t.kind = 5 → t.kids = []) → (∀ x ∈ t.kids, Flat x) → Flat t
theorem Flat.bare {t : Tr} (h : Flat t) : t.kind = 5 → t.kids = [] := by cases h; assumption
theorem Flat.kids {t : Tr} (h : Flat t) : ∀ x ∈ t.kids, Flat x := by cases h; assumption
/-- A tree is put for a variable, and nothing is made normal. -/
def sbT (m t : Tr) (n : Int) : Tr :=
  if t.kind = 5 ∧ t.n = n then m.lift 0 n else .mk t.kind (if t.kind = 5 ∧ n < t.n then W (t.n - 1) else t.n) t.name (t.kids.attach.mapIdx fun i x => sbT m x.1 (W (n + t.under i)))
termination_by SizeOf.sizeOf t
decreasing_by exact Tr.kids_lt x.2
theorem sbT_eq (m t : Tr) (n : Int) : sbT m t n = if t.kind = 5 ∧ t.n = n then m.lift 0 n else .mk t.kind (if t.kind = 5 ∧ n < t.n then W (t.n - 1) else t.n) t.name (t.kids.mapIdx fun i x => sbT m x (W (n + t.under i))) := by
  rw [sbT, attach_mapIdx t.kids (fun i x => sbT m x (W (n + t.under i)))]
theorem kidsT_flat {f : Nat → Tr → Int → (Int ⊕ Tr) × Int} {g : Nat → Tr → Tr} : ∀ (l : List Tr) (i : Nat) (s : Int), (∀ (j : Nat) (x : Tr), x ∈ l → f j x s = (.inr (g j x), s) ∨ f j x s = (.inl 11, s)) →
    kidsT f i l s = (.inr (l.mapIdx fun j x => g (i + j) x), s) ∨ kidsT f i l s = (.inl 11, s)
  | [], _, _, _ => .inl rfl
  | x :: r, i, s, h => by
    unfold kidsT
    rcases h i x (by simp) with h1 | h1
    · rw [h1]
      simp only
      rcases kidsT_flat (g := g) r (i + 1) s (fun j y hy => h j y (by simp [hy])) with h2 | h2
      · rw [h2]
        refine .inl ?_
        rw [List.mapIdx_cons]
        simp only [Nat.add_zero]
        congr 3
        congr 1
        funext j y
        rw [show i + 1 + j = i + (j + 1) by omega]
      · rw [h2]; exact .inr rfl
    · rw [h1]; exact .inr rfl
theorem subT_flat : ∀ (N : Nat) (m a t : Tr) (n s : Int), Flat t → t.size ≤ N → subT N m a t n s = (.inr (sbT m t n), s) ∨ subT N m a t n s = (.inl 11, s)
  | 0, m, a, t, n, s, _, hN => absurd hN (by rw [Tr.size_kids]; omega)
  | N + 1, m, a, t, n, s, hf, hN => by
    have hk := kidsT_flat (f := fun i x s => subT N m a x (W (n + t.under i)) s) (g := fun i x => sbT m x (W (n + t.under i))) t.kids 0 s (fun j x hx => subT_flat N m a x _ s (hf.kids x hx) (by
      have := Tr.kid_size hx
      omega))
    unfold subT
    rcases hk with h | h
    · rw [h]
      simp only
      by_cases hv : t.kind = 5 ∧ t.n = n
      · rw [if_pos hv, sbT_eq, if_pos hv]
        by_cases hb : (m.lift 0 n).big = true
        · rw [if_pos hb]; exact .inr rfl
        · rw [if_neg hb, hf.bare hv.1]
          simp only [List.mapIdx_nil, redT]
          exact .inl trivial
      · rw [if_neg hv, sbT_eq, if_neg hv]
        simp only [Nat.zero_add]
        by_cases hb : (Tr.mk t.kind (if t.kind = 5 ∧ n < t.n then W (t.n - 1) else t.n) t.name (t.kids.mapIdx fun i x => sbT m x (W (n + t.under i)))).big = true
        · rw [if_pos hb]; exact .inr rfl
        · rw [if_neg hb]; exact .inl rfl
    · rw [h]; exact .inr rfl
end Go.H
/- Lifting and putting of flat trees: one takes the other back. -/
namespace Go.H
open Go
set_option linter.unusedVariables false
set_option linter.unusedSimpArgs false

/-- No variable is applied to anything; their numbers are small. -/
inductive FlatN : Tr → Prop
  | of (t : Tr) : (t.kind = 5 → t = Tr.var t.n [] ∧ 0 ≤ t.n ∧ t.n ≤ 1000000) → (∀ x ∈ t.kids, FlatN x) → FlatN t
theorem FlatN.v {t : Tr} (h : FlatN t) : t.kind = 5 → t = Tr.var t.n [] ∧ 0 ≤ t.n ∧ t.n ≤ 1000000 := by cases h; assumption
theorem FlatN.kids {t : Tr} (h : FlatN t) : ∀ x ∈ t.kids, FlatN x := by cases h; assumption
theorem FlatN.flat {t : Tr} : FlatN t → Flat t := by
  induction t using Tr.ind with
  | _ t ih => exact fun h => Flat.of t (fun h5 => by rw [(h.v h5).1]; rfl) (fun x hx => ih x hx (h.kids x hx))
theorem mapIdx_id {α : Type} {f : Nat → α → α} {l : List α} (h : ∀ i x, x ∈ l → f i x = x) : l.mapIdx f = l := by
  induction l generalizing f with
  | nil => rfl
  | cons x r ih =>
    rw [List.mapIdx_cons, h 0 x (by simp), ih (fun i y hy => h (i + 1) y (by simp [hy]))]
theorem under_01 (t : Tr) (i : Int) : t.under i = 0 ∨ t.under i = 1 := by unfold Tr.under; split <;> simp
theorem tr_mk (t : Tr) : Tr.mk t.kind t.n t.name t.kids = t := by cases t; rfl
theorem lift_var (n f b : Int) : (Tr.var n []).lift f b = Tr.var (if f ≤ n then W (n + b) else n) [] := by
  rw [Tr.lift_eq]; simp [Tr.var, Tr.kind, Tr.n, Tr.name, Tr.kids]
theorem sbT_var (m : Tr) (k n : Int) : sbT m (Tr.var k []) n = if k = n then m.lift 0 n else Tr.var (if n < k then W (k - 1) else k) [] := by
  rw [sbT_eq]; simp [Tr.var, Tr.kind, Tr.n, Tr.name, Tr.kids]
theorem lift_under (t : Tr) (f b : Int) (i : Int) : (t.lift f b).under i = t.under i := by unfold Tr.under; rw [Tr.lift_kind]
theorem lift_kids (t : Tr) (f b : Int) : (t.lift f b).kids = t.kids.mapIdx fun i x => Tr.lift x (W (f + t.under i)) b := by rw [Tr.lift_eq]; rfl
theorem lift_n (t : Tr) (f b : Int) : (t.lift f b).n = if t.kind = 5 ∧ f ≤ t.n then W (t.n + b) else t.n := by rw [Tr.lift_eq]; rfl
theorem lift_name (t : Tr) (f b : Int) : (t.lift f b).name = t.name := by rw [Tr.lift_eq]; rfl
theorem mapIdx_mapIdx' {α β γ : Type} (f : Nat → α → β) (g : Nat → β → γ) (l : List α) : (l.mapIdx f).mapIdx g = l.mapIdx fun i x => g i (f i x) := by
  induction l generalizing f g with
  | nil => rfl
  | cons x r ih => rw [List.mapIdx_cons, List.mapIdx_cons, List.mapIdx_cons, ih]
theorem mapIdx_to {α β : Type} {f g : Nat → α → β} {l : List α} (h : ∀ i x, x ∈ l → f i x = g i x) : l.mapIdx f = l.mapIdx g := by
  induction l generalizing f g with
  | nil => rfl
  | cons x r ih => rw [List.mapIdx_cons, List.mapIdx_cons, h 0 x (by simp), ih (fun i y hy => h (i + 1) y (by simp [hy]))]
theorem lift_0 : ∀ {t : Tr}, FlatN t → ∀ f : Int, t.lift f 0 = t := by
  intro t
  induction t using Tr.ind with
  | _ t ih =>
    intro h f
    rw [Tr.lift_eq, mapIdx_id (fun i x hx => ih x hx (h.kids x hx) _)]
    have : (if t.kind = 5 ∧ f ≤ t.n then W (t.n + 0) else t.n) = t.n := by
      split
      · rename_i h5
        have := h.v h5.1
        rw [Int.add_zero, W_in (by omega)]
      · rfl
    rw [this, tr_mk]
/-- What was lifted by one, or more, is put down again by one. -/
theorem sbT_lift (u : Tr) (b : Nat) (hb : b ≤ 1000000) : ∀ {t : Tr}, FlatN t → ∀ d e : Int, 0 ≤ d → d ≤ e → e ≤ d + b → e + t.size ≤ 1000000000 → sbT u (t.lift d (b + 1)) e = t.lift d b := by
  intro t
  induction t using Tr.ind with
  | _ t ih =>
    intro h d e h0 h1 h2 h3
    have hsz := Tr.size_kids t
    rw [sbT_eq, Tr.lift_kind, lift_n, lift_name, lift_kids]
    have hv := h.v
    have hne : ¬ (t.kind = 5 ∧ (if t.kind = 5 ∧ d ≤ t.n then W (t.n + (b + 1)) else t.n) = e) := by
      rintro ⟨h5, he⟩
      have := hv h5
      split at he
      · rw [W_in (by omega)] at he; omega
      · rename_i hn
        have : ¬ d ≤ t.n := fun h => hn ⟨h5, h⟩
        omega
    rw [if_neg hne, Tr.lift_eq t d b, mapIdx_mapIdx']
    have e1 : (if t.kind = 5 ∧ e < (if t.kind = 5 ∧ d ≤ t.n then W (t.n + (b + 1)) else t.n) then W ((if t.kind = 5 ∧ d ≤ t.n then W (t.n + (b + 1)) else t.n) - 1) else (if t.kind = 5 ∧ d ≤ t.n then W (t.n + (b + 1)) else t.n)) = (if t.kind = 5 ∧ d ≤ t.n then W (t.n + b) else t.n) := by
      by_cases h5 : t.kind = 5
      · have := hv h5
        by_cases hd : d ≤ t.n
        · rw [if_pos (⟨h5, hd⟩ : t.kind = 5 ∧ d ≤ t.n), if_pos (⟨h5, hd⟩ : t.kind = 5 ∧ d ≤ t.n), W_in (by omega), if_pos ⟨h5, by omega⟩, W_in (by omega), W_in (by omega)]
          omega
        · have hd' : ¬ (t.kind = 5 ∧ d ≤ t.n) := fun h => hd h.2
          rw [if_neg hd', if_neg hd', if_neg (fun h => by have := h.2; omega)]
      · have hd' : ¬ (t.kind = 5 ∧ d ≤ t.n) := fun h => h5 h.1
        rw [if_neg hd', if_neg hd', if_neg (fun h => h5 h.1)]
    rw [e1]
    congr 1
    refine mapIdx_to fun i x hx => ?_
    rw [lift_under]
    have hx' := Tr.kid_size hx
    rcases under_01 t i with hu | hu
    · rw [hu, Int.add_zero, Int.add_zero, W_in (by omega), W_in (by omega)]
      exact ih x hx (h.kids x hx) d e h0 h1 h2 (by omega)
    · rw [hu, W_in (by omega), W_in (by omega)]
      exact ih x hx (h.kids x hx) (d + 1) (e + 1) (by omega) (by omega) (by omega) (by omega)
/-- What was lifted behind its first variable gets it back. -/
theorem sbT_again : ∀ {t : Tr}, FlatN t → ∀ d : Int, 0 ≤ d → d + t.size ≤ 1000000000 → sbT (Tr.var 0 []) (t.lift (d + 1) 1) d = t := by
  intro t
  induction t using Tr.ind with
  | _ t ih =>
    intro h d h0 h3
    have hsz := Tr.size_kids t
    by_cases h5 : t.kind = 5
    · obtain ⟨he, hn0, hn1⟩ := h.v h5
      rw [he, lift_var, sbT_var]
      generalize t.n = n at hn0 hn1
      by_cases hd : d + 1 ≤ n
      · rw [if_pos hd, W_in (by omega), if_neg (by omega), if_pos (by omega), W_in (by omega)]
        congr 1
        omega
      · rw [if_neg hd]
        by_cases hnd : n = d
        · rw [if_pos hnd, lift_var, if_pos (Int.le_refl _), W_in (by omega)]
          congr 1
          omega
        · rw [if_neg hnd, if_neg (by omega)]
    · have hd' : ¬ (t.kind = 5 ∧ d + 1 ≤ t.n) := fun h => h5 h.1
      rw [sbT_eq, Tr.lift_kind, lift_n, lift_name, lift_kids]
      rw [if_neg (fun h => h5 h.1), if_neg hd', if_neg (fun h => h5 h.1), mapIdx_mapIdx']
      rw [mapIdx_id (fun i x hx => ?_), tr_mk]
      rw [lift_under]
      have hx' := Tr.kid_size hx
      rcases under_01 t i with hu | hu
      · rw [hu, Int.add_zero, Int.add_zero, W_in (by omega), W_in (by omega)]
        exact ih x hx (h.kids x hx) d h0 (by omega)
      · rw [hu, W_in (by omega), W_in (by omega)]
        exact ih x hx (h.kids x hx) (d + 1) (by omega) (by omega)
end Go.H
/- What stands ahead of a context changes no check in it. -/
namespace Go.H
open Go
set_option linter.unusedVariables false
set_option linter.unusedSimpArgs false

end Go.H
/- The drawn judgements: numbers, lists, sums. They stand, if nothing is too big. -/
namespace Go.H
open Go
set_option linter.unusedVariables false
set_option linter.unusedSimpArgs false

def Tr.fm (s : List UInt8) (ks : List Tr) : Tr := .mk 3 0 s ks
def Tr.pi (a b : Tr) : Tr := .mk 2 0 [] [a, b]
def Tr.typ : Tr := .mk 1 0 [] []
def wNat : List UInt8 := [110, 97, 116]
def wZ : List UInt8 := [122]
def wS : List UInt8 := [115]
def wVec : List UInt8 := [118, 101, 99]
def wNil : List UInt8 := [110, 105, 108]
def wCons : List UInt8 := [99, 111, 110, 115]
def wPlus : List UInt8 := [112, 108, 117, 115]
def wPz : List UInt8 := [112, 122]
def wPs : List UInt8 := [112, 115]
def wIt : List UInt8 := [105, 116]
def wAll : List UInt8 := [97, 108, 108]
def wMk : List UInt8 := [109, 107]
def natF : Tr := .fm wNat []
def zT : Tr := .const wZ []
def sT (t : Tr) : Tr := .const wS [t]
def xT (n : Int) : Tr := .var n []
def vecF (k : Tr) : Tr := .fm wVec [k]
def plusF (a b c : Tr) : Tr := .fm wPlus [a, b, c]
def allF (f : Tr) : Tr := .fm wAll [f]
/-- The signature of numbers, lists that know how long they are, and sums. -/
def numbersL : List Dc :=
  [⟨wNat, true, .typ⟩, ⟨wZ, false, natF⟩, ⟨wS, false, .pi natF natF⟩, ⟨wVec, true, .pi natF .typ⟩, ⟨wNil, false, vecF zT⟩,
   ⟨wCons, false, .pi natF (.pi natF (.pi (vecF (xT 1)) (vecF (sT (xT 2)))))⟩, ⟨wPlus, true, .pi natF (.pi natF (.pi natF .typ))⟩,
   ⟨wPz, false, .pi natF (plusF zT (xT 0) (xT 0))⟩,
   ⟨wPs, false, .pi natF (.pi natF (.pi natF (.pi (plusF (xT 2) (xT 1) (xT 0)) (plusF (sT (xT 3)) (xT 2) (sT (xT 1))))))⟩,
   ⟨wIt, false, .pi (.pi natF natF) (.pi natF natF)⟩, ⟨wAll, true, .pi (.pi natF natF) .typ⟩,
   ⟨wMk, false, .pi (.pi natF natF) (allF (.lam (.var 1 [xT 0])))⟩]
/-- A number in a context of so many numbers. -/
inductive NatT : Nat → Tr → Prop
  | var {n : Nat} {i : Int} : 0 ≤ i → i < n → NatT n (xT i)
  | z {n : Nat} : NatT n zT
  | s {n : Nat} {t : Tr} : NatT n t → NatT n (sT t)
  | it {n : Nat} {t u : Tr} : NatT (n + 1) t → NatT n u → NatT n (.const wIt [.lam t, u])
def cntT : Nat → Tr
  | 0 => zT
  | k + 1 => sT (cntT k)
inductive ListT (n : Nat) : Nat → Tr → Prop
  | nil : ListT n 0 (.const wNil [])
  | cons {k : Nat} {x t : Tr} : NatT n x → ListT n k t → ListT n (k + 1) (.const wCons [cntT k, x, t])
inductive SumT (n : Nat) (m : Tr) : Nat → Tr → Tr → Prop
  | z : SumT n m 0 (.const wPz [m]) m
  | s {k : Nat} {t u : Tr} : SumT n m k t u → SumT n m (k + 1) (.const wPs [cntT k, m, u, t]) (sT u)
/-- A drawn term with its family, in a context of so many numbers. -/
inductive JudgedT (n : Nat) : Tr → Tr → Prop
  | fn {t : Tr} : NatT (n + 1) t → t.size ≤ 1000 → JudgedT n (.lam t) (.pi natF natF)
  | list {k : Nat} {t : Tr} : k ≤ 1000 → ListT n k t → t.size ≤ 1000 → JudgedT n t (vecF (cntT k))
  | sum {k : Nat} {m t u : Tr} : k ≤ 1000 → NatT n m → m.size ≤ 1000 → SumT n m k t u → t.size ≤ 1000 → JudgedT n t (plusF (cntT k) m u)
  | mk {t : Tr} : NatT (n + 1) t → t.size ≤ 1000 → JudgedT n (.const wMk [.lam t]) (allF (.lam t))
  | num {t : Tr} : NatT n t → t.size ≤ 1000 → JudgedT n t natF

/-! ### What is put into the signature's families -/
theorem mapIdx_map {α β : Type} (f : α → β) (l : List α) : (l.mapIdx fun _ x => f x) = l.map f := by
  induction l with
  | nil => rfl
  | cons x r ih => rw [List.mapIdx_cons, ih]; rfl
section
variable {n : Int} (h : 0 ≤ n ∧ n ≤ 1000000000)
include h
theorem sbT_fm (m : Tr) (s : List UInt8) (ks : List Tr) : sbT m (.fm s ks) n = .fm s (ks.map fun x => sbT m x n) := by
  rw [sbT_eq]
  simp only [Tr.fm, Tr.kind, Tr.n, Tr.name, Tr.kids, Tr.under]
  simp [W_in (show -9223372036854775808 ≤ n ∧ n ≤ 9223372036854775807 by omega), mapIdx_map]
theorem sbT_const (m : Tr) (s : List UInt8) (ks : List Tr) : sbT m (.const s ks) n = .const s (ks.map fun x => sbT m x n) := by
  rw [sbT_eq]
  simp only [Tr.const, Tr.kind, Tr.n, Tr.name, Tr.kids, Tr.under]
  simp [W_in (show -9223372036854775808 ≤ n ∧ n ≤ 9223372036854775807 by omega), mapIdx_map]
theorem sbT_lam (m t : Tr) : sbT m (.lam t) n = .lam (sbT m t (n + 1)) := by
  rw [sbT_eq]
  simp only [Tr.lam, Tr.kind, Tr.n, Tr.name, Tr.kids, Tr.under]
  simp [W_in (show -9223372036854775808 ≤ n + 1 ∧ n + 1 ≤ 9223372036854775807 by omega)]
theorem sbT_pi (m a b : Tr) : sbT m (.pi a b) n = .pi (sbT m a n) (sbT m b (n + 1)) := by
  rw [sbT_eq]
  simp only [Tr.pi, Tr.kind, Tr.n, Tr.name, Tr.kids, Tr.under]
  simp [W_in (show -9223372036854775808 ≤ n ∧ n ≤ 9223372036854775807 by omega), W_in (show -9223372036854775808 ≤ n + 1 ∧ n + 1 ≤ 9223372036854775807 by omega)]
theorem lift_const (b : Int) (s : List UInt8) (ks : List Tr) : (Tr.const s ks).lift n b = .const s (ks.map fun x => x.lift n b) := by
  rw [Tr.lift_eq]
  simp only [Tr.const, Tr.kind, Tr.n, Tr.name, Tr.kids, Tr.under]
  simp [W_in (show -9223372036854775808 ≤ n ∧ n ≤ 9223372036854775807 by omega), mapIdx_map]
theorem lift_lam (b : Int) (t : Tr) : (Tr.lam t).lift n b = .lam (t.lift (n + 1) b) := by
  rw [Tr.lift_eq]
  simp only [Tr.lam, Tr.kind, Tr.n, Tr.name, Tr.kids, Tr.under]
  simp [W_in (show -9223372036854775808 ≤ n + 1 ∧ n + 1 ≤ 9223372036854775807 by omega)]
theorem sbT_count (m : Tr) (k : Nat) : sbT m (cntT k) n = cntT k := by
  induction k with
  | zero => unfold cntT zT; rw [sbT_const h]; rfl
  | succ k ih => unfold cntT sT; rw [sbT_const h]; simp [ih]
theorem lift_count (b : Int) (k : Nat) : (cntT k).lift n b = cntT k := by
  induction k with
  | zero => unfold cntT zT; rw [lift_const h]; rfl
  | succ k ih => unfold cntT sT; rw [lift_const h]; simp [ih]
end
theorem NatT.flatN : ∀ {n : Nat} {t : Tr}, NatT n t → n + t.size ≤ 1000000 → FlatN t := by
  intro n t h
  induction h with
  | @var n i h0 h1 => exact fun hb => FlatN.of _ (fun _ => ⟨rfl, h0, by simp only [xT, Tr.var, Tr.n]; omega⟩) (fun x hx => by simp [xT, Tr.var, Tr.kids] at hx)
  | z => exact fun _ => FlatN.of _ (fun h => by simp [zT, Tr.const, Tr.kind] at h) (fun x hx => by simp [zT, Tr.const, Tr.kids] at hx)
  | @s n t ht ih =>
    intro hb
    rw [Tr.size_kids] at hb
    simp only [sT, Tr.const, Tr.kids, Tr.sizes, List.map_cons, List.map_nil, List.sum_cons, List.sum_nil] at hb
    refine FlatN.of _ (fun h => by simp [sT, Tr.const, Tr.kind] at h) (fun x hx => ?_)
    simp only [sT, Tr.const, Tr.kids, List.mem_singleton] at hx
    subst hx
    exact ih (by omega)
  | @it n t u ht hu iht ihu =>
    intro hb
    rw [Tr.size_kids] at hb
    simp only [Tr.const, Tr.kids, Tr.sizes, List.map_cons, List.map_nil, List.sum_cons, List.sum_nil] at hb
    have hl : (Tr.lam t).size = 1 + t.size := by rw [Tr.size_kids]; simp [Tr.lam, Tr.kids, Tr.sizes]
    refine FlatN.of _ (fun h => by simp [Tr.const, Tr.kind] at h) (fun x hx => ?_)
    simp only [Tr.const, Tr.kids, List.mem_cons, List.not_mem_nil, or_false] at hx
    rcases hx with rfl | rfl
    · refine FlatN.of _ (fun h => by simp [Tr.lam, Tr.kind] at h) (fun y hy => ?_)
      simp only [Tr.lam, Tr.kids, List.mem_singleton] at hy
      subst hy
      exact iht (by omega)
    · exact ihu (by omega)
theorem NatT.more {n m : Nat} {t : Tr} (h : NatT n t) (hm : n ≤ m) : NatT m t := by
  induction h generalizing m with
  | var h0 h1 => exact .var h0 (by omega)
  | z => exact .z
  | s _ ih => exact .s (ih hm)
  | it _ _ i1 i2 => exact .it (i1 (by omega)) (i2 hm)
theorem cntT_nat (n : Nat) : ∀ k, NatT n (cntT k)
  | 0 => .z
  | k + 1 => .s (cntT_nat n k)
end Go.H
/- The drawn judgements stand, if nothing is too big. -/
namespace Go.H
open Go
set_option linter.unusedVariables false
set_option linter.unusedSimpArgs false

/-- Done, with no step more, or too big. -/
def Out {α : Type} (r : (Fz ⊕ α) × Int) (x : α) (s : Int) : Prop := r = (.inr x, s) ∨ ∃ q, r = (.inl (11, q), s)
theorem flat_fm {s : List UInt8} {ks : List Tr} (h : ∀ x ∈ ks, Flat x) : Flat (.fm s ks) := Flat.of _ (fun h => by simp [Tr.fm, Tr.kind] at h) (by simpa [Tr.fm, Tr.kids] using h)
theorem flat_const {s : List UInt8} {ks : List Tr} (h : ∀ x ∈ ks, Flat x) : Flat (.const s ks) := Flat.of _ (fun h => by simp [Tr.const, Tr.kind] at h) (by simpa [Tr.const, Tr.kids] using h)
theorem flat_pi {a b : Tr} (ha : Flat a) (hb : Flat b) : Flat (.pi a b) := Flat.of _ (fun h => by simp [Tr.pi, Tr.kind] at h) (by simp [Tr.pi, Tr.kids, ha, hb])
theorem flat_lam {t : Tr} (ha : Flat t) : Flat (.lam t) := Flat.of _ (fun h => by simp [Tr.lam, Tr.kind] at h) (by simp [Tr.lam, Tr.kids, ha])
theorem flat_x (n : Int) : Flat (xT n) := Flat.of _ (fun _ => rfl) (fun x hx => by simp [xT, Tr.var, Tr.kids] at hx)
theorem flat_nat : Flat natF := flat_fm (by simp)
theorem flat_z : Flat zT := flat_const (by simp)
theorem flat_s {t : Tr} (h : Flat t) : Flat (sT t) := flat_const (by simpa using h)
theorem flat_vec {t : Tr} (h : Flat t) : Flat (vecF t) := flat_fm (by simpa using h)
theorem flat_plus {a b c : Tr} (ha : Flat a) (hb : Flat b) (hc : Flat c) : Flat (plusF a b c) := flat_fm (by simp [ha, hb, hc])
theorem flat_count : ∀ k, Flat (cntT k)
  | 0 => flat_z
  | k + 1 => flat_s (flat_count k)
theorem size_fm (s : List UInt8) (ks : List Tr) : (Tr.fm s ks).size = 1 + Tr.sizes ks := by rw [Tr.size_kids]; rfl
theorem size_const (s : List UInt8) (ks : List Tr) : (Tr.const s ks).size = 1 + Tr.sizes ks := by rw [Tr.size_kids]; rfl
theorem size_pi (a b : Tr) : (Tr.pi a b).size = 1 + (a.size + b.size) := by rw [Tr.size_kids]; simp [Tr.pi, Tr.kids, Tr.sizes]
theorem size_lam (a : Tr) : (Tr.lam a).size = 1 + a.size := by rw [Tr.size_kids]; simp [Tr.lam, Tr.kids, Tr.sizes]
theorem size_x (n : Int) : (xT n).size = 1 := by rw [Tr.size_kids]; simp [xT, Tr.var, Tr.kids, Tr.sizes]
theorem size_nat : natF.size = 1 := by unfold natF; rw [size_fm]; rfl
theorem size_z : zT.size = 1 := by unfold zT; rw [size_const]; rfl
theorem size_s (t : Tr) : (sT t).size = 1 + t.size := by unfold sT; rw [size_const]; simp [Tr.sizes]
theorem size_vec (t : Tr) : (vecF t).size = 1 + t.size := by unfold vecF; rw [size_fm]; simp [Tr.sizes]
theorem size_plus (a b c : Tr) : (plusF a b c).size = 1 + (a.size + (b.size + c.size)) := by unfold plusF; rw [size_fm]; simp [Tr.sizes]
theorem size_count : ∀ k, (cntT k).size = k + 1
  | 0 => size_z
  | k + 1 => by unfold cntT; rw [size_s, size_count k]; omega
section
variable {n : Int} (h : 0 ≤ n ∧ n ≤ 1000000000)
include h
theorem sb_nat (m : Tr) : sbT m natF n = natF := by unfold natF; rw [sbT_fm h]; rfl
theorem sb_vec (m t : Tr) : sbT m (vecF t) n = vecF (sbT m t n) := by unfold vecF; rw [sbT_fm h]; rfl
theorem sb_plus (m a b c : Tr) : sbT m (plusF a b c) n = plusF (sbT m a n) (sbT m b n) (sbT m c n) := by unfold plusF; rw [sbT_fm h]; rfl
theorem sb_s (m t : Tr) : sbT m (sT t) n = sT (sbT m t n) := by unfold sT; rw [sbT_const h]; rfl
theorem sb_z (m : Tr) : sbT m zT n = zT := by unfold zT; rw [sbT_const h]; rfl
theorem lift_s (b : Int) (t : Tr) : (sT t).lift n b = sT (t.lift n b) := by unfold sT; rw [lift_const h]; rfl
end
theorem sb_hit (m : Tr) (n : Int) : sbT m (xT n) n = m.lift 0 n := by unfold xT; rw [sbT_var, if_pos rfl]
theorem sb_low (m : Tr) {k n : Int} (h : k < n) : sbT m (xT k) n = xT k := by unfold xT; rw [sbT_var, if_neg (by omega), if_neg (by omega)]
theorem leftC_flat {t a : Tr} {p s : Int} (hf : Flat (a.kid 1)) (hs : (a.kid 1).size ≤ 100000000) : Out (leftC t a p s) (sbT t (a.kid 1) 0) s := by
  unfold leftC
  rcases subT_flat 100000000 t (eraseT (a.kid 0)) (a.kid 1) 0 s hf hs with h | h
  · rw [h]; exact .inl rfl
  · rw [h]; exact .inr ⟨p, rfl⟩
theorem argsC_pi {f : Tr → Tr → Int → Int → (Fz ⊕ Unit) × Int} {x : Tr} {r : List Tr} {A B c : Tr} {p s : Int} (hf : Out (f x A p s) () s) (hB : Flat B) (hs : B.size ≤ 100000000)
    (hr : ∀ p', Out (argsC f r (sbT x B 0) p' s) c s) : Out (argsC f (x :: r) (.pi A B) p s) c s := by
  unfold argsC
  rw [if_pos (by rfl), show (Tr.pi A B).kid 0 = A by rfl]
  rcases hf with h | ⟨q, h⟩
  · rw [h]
    simp only
    rcases leftC_flat (t := x) (a := .pi A B) (p := p) (s := s) hB hs with h2 | ⟨q, h2⟩
    · rw [h2]; exact hr _
    · rw [h2]; exact .inr ⟨q, rfl⟩
  · rw [h]; exact .inr ⟨q, rfl⟩
theorem argsC_end (f : Tr → Tr → Int → Int → (Fz ⊕ Unit) × Int) (a : Tr) (p s : Int) : Out (argsC f [] a p s) a s := .inl rfl
def ctxN (n : Nat) : List Tr := List.replicate n natF
theorem ctxN_more (n : Nat) : ctxN n ++ [natF] = ctxN (n + 1) := List.replicate_succ'.symm
theorem foundC_const {f : Tr → Tr → Int → Int → (Fz ⊕ Unit) × Int} {ctx : List Tr} {w : List UInt8} {ks : List Tr} {A c : Tr} {p s : Int} (hd : declaredT numbersL w false = some A) (hc : c.kind = 3) (ha : ∀ p', Out (argsC f ks A p' s) c s) :
    Out (foundC f numbersL ctx (.const w ks) p s) c s := by
  unfold foundC
  have h1 : headC numbersL ctx (.const w ks) = .inr A := by
    unfold headC
    rw [if_neg (show ¬ (Tr.const w ks).kind = 5 by simp [Tr.const, Tr.kind]), if_pos (show (Tr.const w ks).kind = 6 by rfl), show (Tr.const w ks).name = w by rfl, hd]
  rw [h1, show (Tr.const w ks).kids = ks by rfl]
  simp only
  rcases ha (p + 1) with h | ⟨q, h⟩
  · rw [h]; simp only; rw [if_pos hc]; exact .inl rfl
  · rw [h]; exact .inr ⟨q, rfl⟩
theorem termC_found {sig : List Dc} {m : Nat} {ctx : List Tr} {t a : Tr} {p s : Int} (h4 : t.kind ≠ 4) (h2 : a.kind ≠ 2) (h : ∀ m', Out (foundC (termC sig m' ctx) sig ctx t p s) a s) : Out (termC sig m ctx t a p s) () s := by
  cases m with
  | zero => exact .inl rfl
  | succ m =>
    unfold termC
    rw [if_neg h4, if_neg h2]
    rcases h m with h | ⟨q, h⟩
    · rw [h]; simp only; rw [if_pos trivial]; exact .inl rfl
    · rw [h]; exact .inr ⟨q, rfl⟩
theorem lift_nat (f b : Int) : natF.lift f b = natF := by
  unfold natF Tr.fm
  rw [Tr.lift_eq]
  simp [Tr.kind, Tr.n, Tr.name, Tr.kids]
theorem found_var {f : Tr → Tr → Int → Int → (Fz ⊕ Unit) × Int} {n : Nat} {i : Int} (h0 : 0 ≤ i) (h1 : i < n) (p s : Int) : Out (foundC f numbersL (ctxN n) (xT i) p s) natF s := by
  unfold foundC
  have e1 : ((ctxN n)[(((ctxN n).length : Int) - 1 - (xT i).n).toNat]?).getD noTree = natF := by
    unfold ctxN
    rw [List.length_replicate, List.getElem?_replicate, if_pos (by show ((n : Int) - 1 - i).toNat < n; omega)]
    rfl
  have hh : headC numbersL (ctxN n) (xT i) = .inr natF := by
    unfold headC
    rw [if_pos (by rfl), e1, lift_nat, if_neg (by show ¬ i ≥ ((ctxN n).length : Int); unfold ctxN; rw [List.length_replicate]; omega), if_neg (by rw [show natF.big = false by kernel_rfl]; decide)]
  rw [hh, show (xT i).kids = [] by rfl]
  exact .inl rfl
/-- A number is a number. -/
theorem found_nat {n : Nat} {t : Tr} (h : NatT n t) : ∀ (M : Nat) (p s : Int), Out (foundC (termC numbersL M (ctxN n)) numbersL (ctxN n) t p s) natF s ∧ t.kind ≠ 4 := by
  induction h with
  | var h0 h1 => exact fun M p s => ⟨found_var h0 h1 p s, by simp [xT, Tr.var, Tr.kind]⟩
  | z => exact fun M p s => ⟨foundC_const (A := natF) rfl rfl fun p' => argsC_end _ _ _ _, by simp [zT, Tr.const, Tr.kind]⟩
  | @s n t ht ih =>
    refine fun M p s => ⟨foundC_const (A := .pi natF natF) rfl rfl fun p' => ?_, by simp [sT, Tr.const, Tr.kind]⟩
    refine argsC_pi (termC_found (ih 0 0 0).2 (by decide) fun m' => (ih m' _ _).1) flat_nat (by rw [size_nat]; omega) fun p2 => ?_
    rw [sb_nat (by omega)]
    exact argsC_end _ _ _ _
  | @it n t u ht hu iht ihu =>
    refine fun M p s => ⟨foundC_const (A := .pi (.pi natF natF) (.pi natF natF)) rfl rfl fun p' => ?_, by simp [Tr.const, Tr.kind]⟩
    refine argsC_pi ?_ (flat_pi flat_nat flat_nat) (by rw [size_pi, size_nat]; omega) fun p2 => ?_
    · cases M with
      | zero => exact .inl rfl
      | succ M =>
        unfold termC
        rw [if_pos (by rfl), if_pos (by rfl), show (Tr.pi natF natF).kid 0 = natF by rfl, show (Tr.pi natF natF).kid 1 = natF by rfl, show (Tr.lam t).kid 0 = t by rfl, ctxN_more]
        exact termC_found (iht 0 0 0).2 (by decide) fun m' => (iht m' _ _).1
    · rw [sbT_pi (by omega), sb_nat (by omega), sb_nat (by omega)]
      refine argsC_pi (termC_found (ihu 0 0 0).2 (by decide) fun m' => (ihu m' _ _).1) flat_nat (by rw [size_nat]; omega) fun p3 => ?_
      rw [sb_nat (by omega)]
      exact argsC_end _ _ _ _
theorem term_nat {n : Nat} {t : Tr} (h : NatT n t) (M : Nat) (p s : Int) : Out (termC numbersL M (ctxN n) t natF p s) () s :=
  termC_found (found_nat h 0 0 0).2 (by decide) fun m' => (found_nat h m' _ _).1
theorem NatT.flat' {n : Nat} {t : Tr} (h : NatT n t) : Flat t := by
  induction h with
  | var => exact flat_x _
  | z => exact flat_z
  | s _ ih => exact flat_s ih
  | it _ _ i1 i2 => exact flat_const (by simp [i2, flat_lam i1])
theorem lift_flat {t : Tr} (h : Flat t) : ∀ f b : Int, Flat (t.lift f b) := by
  induction t using Tr.ind with
  | _ t ih =>
    intro f b
    refine Flat.of _ (fun h5 => ?_) (fun x hx => ?_)
    · rw [Tr.lift_kind] at h5
      rw [lift_kids, h.bare h5]; rfl
    · rw [lift_kids, List.mem_mapIdx] at hx
      obtain ⟨i, hi, rfl⟩ := hx
      exact ih _ (List.getElem_mem hi) (h.kids _ (List.getElem_mem hi)) _ _
theorem found_list {n k : Nat} {t : Tr} (h : ListT n k t) : t.size ≤ 100000 → ∀ (M : Nat) (p s : Int), Out (foundC (termC numbersL M (ctxN n)) numbersL (ctxN n) t p s) (vecF (cntT k)) s ∧ t.kind ≠ 4 := by
  induction h with
  | nil => exact fun _ M p s => ⟨foundC_const (A := vecF zT) rfl rfl fun p' => argsC_end _ _ _ _, by decide⟩
  | @cons k x t hx ht ih =>
    intro hsz M p s
    rw [size_const] at hsz
    simp only [Tr.sizes, List.map_cons, List.map_nil, List.sum_cons, List.sum_nil, size_count] at hsz
    have ih := ih (by omega)
    refine ⟨foundC_const (A := .pi natF (.pi natF (.pi (vecF (xT 1)) (vecF (sT (xT 2)))))) rfl rfl fun p' => ?_, by simp [Tr.const, Tr.kind]⟩
    refine argsC_pi (term_nat (cntT_nat n k) _ _ _) (flat_pi flat_nat (flat_pi (flat_vec (flat_x 1)) (flat_vec (flat_s (flat_x 2))))) (by simp only [size_pi, size_nat, size_vec, size_x, size_s]; omega) fun p2 => ?_
    rw [sbT_pi (by omega), sb_nat (by omega), sbT_pi (by omega), sb_vec (by omega), sb_vec (by omega), sb_s (by omega)]
    rw [show sbT (cntT k) (xT 1) (0 + 1) = cntT k from (sb_hit _ _).trans (lift_count (by omega) _ _), show sbT (cntT k) (xT 2) (0 + 1 + 1) = cntT k from (sb_hit _ _).trans (lift_count (by omega) _ _)]
    refine argsC_pi (term_nat hx _ _ _) (flat_pi (flat_vec (flat_count k)) (flat_vec (flat_s (flat_count k)))) (by simp only [size_pi, size_vec, size_s, size_count]; omega) fun p3 => ?_
    rw [sbT_pi (by omega), sb_vec (by omega), sb_vec (by omega), sb_s (by omega), sbT_count (by omega), sbT_count (by omega)]
    refine argsC_pi (termC_found (ih 0 0 0).2 (by simp [vecF, Tr.fm, Tr.kind]) fun m' => (ih m' _ _).1) (flat_vec (flat_s (flat_count k))) (by simp only [size_vec, size_s, size_count]; omega) fun p4 => ?_
    rw [sb_vec (by omega), sb_s (by omega), sbT_count (by omega)]
    exact argsC_end _ _ _ _
theorem SumT.nat {n k : Nat} {m t u : Tr} (hm : NatT n m) (h : SumT n m k t u) : NatT n u := by
  induction h with
  | z => exact hm
  | s _ ih => exact .s ih
theorem found_sum {n k : Nat} {m t u : Tr} (hn : n ≤ 1000) (hm : NatT n m) (hms : m.size ≤ 1000) (h : SumT n m k t u) : t.size ≤ 100000 → u.size ≤ 100000 → k ≤ 100000 → ∀ (M : Nat) (p s : Int), Out (foundC (termC numbersL M (ctxN n)) numbersL (ctxN n) t p s) (plusF (cntT k) m u) s ∧ t.kind ≠ 4 := by
  have fm := hm.flatN (by omega)
  have l0 : m.lift 0 0 = m := lift_0 fm 0
  induction h with
  | z =>
    intro _ _ _ M p s
    refine ⟨foundC_const (A := .pi natF (plusF zT (xT 0) (xT 0))) rfl rfl fun p' => ?_, by simp [Tr.const, Tr.kind]⟩
    refine argsC_pi (term_nat hm _ _ _) (flat_plus flat_z (flat_x 0) (flat_x 0)) (by simp only [size_plus, size_z, size_x]; omega) fun p2 => ?_
    rw [sb_plus (by omega), sb_z (by omega), sb_hit, l0]
    exact argsC_end _ _ _ _
  | @s k t u ht ih =>
    intro hsz husz hk M p s
    have hu := ht.nat hm
    rw [size_s] at husz
    have fu := hu.flatN (by omega)
    rw [size_const] at hsz
    simp only [Tr.sizes, List.map_cons, List.map_nil, List.sum_cons, List.sum_nil, size_count] at hsz
    have ih := ih (by omega) (by omega) (by omega)
    have z1 := lift_size m 0 1
    have z2 := lift_size m 0 2
    have z3 := lift_size u 0 1
    have z4 := lift_size u 0 0
    have a1 : sbT u (m.lift 0 1) 0 = m := (sbT_lift u 0 (by omega) fm 0 0 (by omega) (by omega) (by omega) (by omega)).trans l0
    have a2 : sbT u (m.lift 0 2) (0 + 1) = m.lift 0 1 := sbT_lift u 1 (by omega) fm 0 (0 + 1) (by omega) (by omega) (by omega) (by omega)
    have a3 : sbT t (m.lift 0 1) 0 = m := (sbT_lift t 0 (by omega) fm 0 0 (by omega) (by omega) (by omega) (by omega)).trans l0
    have a4 : sbT t (u.lift 0 1) 0 = u := (sbT_lift t 0 (by omega) fu 0 0 (by omega) (by omega) (by omega) (by omega)).trans (lift_0 fu 0)
    have flm : ∀ b : Int, 0 ≤ b → b ≤ 2 → Flat (m.lift 0 b) := fun b h0 h2 => (lift_flat hm.flat' 0 b)
    have flu : Flat (u.lift 0 1) := lift_flat hu.flat' 0 1
    have l0u : u.lift 0 0 = u := lift_0 fu 0
    refine ⟨foundC_const (A := .pi natF (.pi natF (.pi natF (.pi (plusF (xT 2) (xT 1) (xT 0)) (plusF (sT (xT 3)) (xT 2) (sT (xT 1))))))) rfl rfl fun p' => ?_, by simp [Tr.const, Tr.kind]⟩
    refine argsC_pi (term_nat (cntT_nat n k) _ _ _) (flat_pi flat_nat (flat_pi flat_nat (flat_pi (flat_plus (flat_x _) (flat_x _) (flat_x _)) (flat_plus (flat_s (flat_x _)) (flat_x _) (flat_s (flat_x _)))))) (by simp only [size_pi, size_nat, size_plus, size_x, size_s]; omega) fun p2 => ?_
    rw [sbT_pi (by omega), sb_nat (by omega), sbT_pi (by omega), sb_nat (by omega), sbT_pi (by omega), sb_plus (by omega), sb_plus (by omega), sb_s (by omega), sb_s (by omega)]
    rw [show sbT (cntT k) (xT 2) (0 + 1 + 1) = cntT k from (sb_hit _ _).trans (lift_count (by omega) _ _), show sbT (cntT k) (xT 3) (0 + 1 + 1 + 1) = cntT k from (sb_hit _ _).trans (lift_count (by omega) _ _)]
    rw [sb_low (k := 1) _ (by omega), sb_low (k := 0) _ (by omega), sb_low (k := 2) _ (by omega), sb_low (k := 1) _ (by omega)]
    refine argsC_pi (term_nat hm _ _ _) (flat_pi flat_nat (flat_pi (flat_plus (flat_count k) (flat_x _) (flat_x _)) (flat_plus (flat_s (flat_count k)) (flat_x _) (flat_s (flat_x _))))) (by simp only [size_pi, size_nat, size_plus, size_x, size_s, size_count]; omega) fun p3 => ?_
    rw [sbT_pi (by omega), sb_nat (by omega), sbT_pi (by omega), sb_plus (by omega), sb_plus (by omega), sb_s (by omega), sb_s (by omega), sbT_count (by omega), sbT_count (by omega)]
    rw [show sbT m (xT 1) (0 + 1) = m.lift 0 1 from sb_hit _ _, show sbT m (xT 2) (0 + 1 + 1) = m.lift 0 2 from sb_hit _ _]
    rw [sb_low (k := 0) _ (by omega), sb_low (k := 1) _ (by omega)]
    refine argsC_pi (term_nat hu _ _ _) (flat_pi (flat_plus (flat_count k) (flm 1 (by omega) (by omega)) (flat_x _)) (flat_plus (flat_s (flat_count k)) (flm 2 (by omega) (by omega)) (flat_s (flat_x _)))) (by simp only [size_pi, size_nat, size_plus, size_x, size_s, size_count, z1, z2]; omega) fun p4 => ?_
    rw [sbT_pi (by omega), sb_plus (by omega), sb_plus (by omega), sb_s (by omega), sb_s (by omega), sbT_count (by omega), sbT_count (by omega), a1, a2, sb_hit, l0u]
    rw [show sbT u (xT 1) (0 + 1) = u.lift 0 1 from sb_hit _ _]
    refine argsC_pi (termC_found (ih 0 0 0).2 (by simp [plusF, Tr.fm, Tr.kind]) fun m' => (ih m' _ _).1) (flat_plus (flat_s (flat_count k)) (flm 1 (by omega) (by omega)) (flat_s flu)) (by simp only [size_plus, size_s, size_count, z1, z3]; omega) fun p5 => ?_
    rw [sb_plus (by omega), sb_s (by omega), sb_s (by omega), sbT_count (by omega), a3, a4]
    exact argsC_end _ _ _ _
end Go.H
/- The drawn judgements stand: all of them; and no other drawn family is right for a term. -/
namespace Go.H
open Go
set_option linter.unusedVariables false
set_option linter.unusedSimpArgs false

/-- Done, or too big. -/
def Fin {α : Type} (r : (Fz ⊕ α) × Int) (x : α) : Prop := r.1 = .inr x ∨ ∃ q, r.1 = .inl (11, q)
theorem Out.fin {α : Type} {r : (Fz ⊕ α) × Int} {x : α} {s : Int} (h : Out r x s) : Fin r x := by
  rcases h with h | ⟨q, h⟩
  · exact .inl (by rw [h])
  · exact .inr ⟨q, by rw [h]⟩
theorem kids_one {f : Nat → Tr → Int → (Int ⊕ Tr) × Int} {x : Tr} {s : Int} : kidsT f 0 [x] s = match f 0 x s with | (.inl c, s) => (.inl c, s) | (.inr y, s) => (.inr [y], s) := by
  unfold kidsT
  split
  · rename_i h; rw [h]
  · rename_i h; rw [h]; simp [kidsT]
/-- What the family of 'all' becomes. -/
theorem sub_all {N : Nat} {t x y : Tr} {s : Int} (ht : FlatN t) (hs : t.size ≤ 1000) (hN : 100000 ≤ N) (h0 : s ≤ 1000) :
    (subT (N + 3) (.lam t) (Tr.arrow x y) (allF (.lam (.var 1 [xT 0]))) 0 s).1 = .inr (allF (.lam t)) ∨ (subT (N + 3) (.lam t) (Tr.arrow x y) (allF (.lam (.var 1 [xT 0]))) 0 s).1 = .inl 11 := by
  have inner : subT (N + 1) (.lam t) (Tr.arrow x y) (.var 1 [xT 0]) 1 s = (.inr t, s + 1) ∨ ∃ s', subT (N + 1) (.lam t) (Tr.arrow x y) (.var 1 [xT 0]) 1 s = (.inl 11, s') := by
    unfold subT
    rw [show (Tr.var 1 [xT 0]).kids = [xT 0] by rfl, kids_one]
    have hw : W (1 + (Tr.var 1 [xT 0]).under ((0 : Nat) : Int)) = 1 := by decide
    simp only [hw]
    rcases subT_flat N (.lam t) (Tr.arrow x y) (xT 0) 1 s (flat_x 0) (by rw [size_x]; omega) with h | h
    · rw [h, sb_low _ (by omega)]
      simp only
      rw [if_pos (show (Tr.var 1 [xT 0]).kind = 5 ∧ (Tr.var 1 [xT 0]).n = 1 from ⟨rfl, rfl⟩)]
      by_cases hb : ((Tr.lam t).lift 0 1).big = true
      · rw [if_pos hb]; exact .inr ⟨_, rfl⟩
      · rw [if_neg hb]
        have hl : (Tr.lam t).lift 0 1 = .lam (t.lift 1 1) := lift_lam (by omega) 1 t
        rw [hl]
        unfold redT
        rw [if_pos (show (Tr.arrow x y).kind = 10 ∧ (Tr.lam (t.lift 1 1)).kind = 4 from ⟨rfl, rfl⟩), if_neg (by omega)]
        have hz := lift_size t 1 1
        rcases subT_flat N (xT 0) ((Tr.arrow x y).kid 0) (t.lift 1 1) 0 (s + 1) (lift_flat ht.flat 1 1) (by omega) with h2 | h2
        · rw [show (Tr.lam (t.lift 1 1)).kid 0 = t.lift 1 1 by rfl, h2]
          simp only
          unfold redT
          have := sbT_again ht 0 (by omega) (by omega)
          rw [show (0 : Int) + 1 = 1 by rfl] at this
          rw [show sbT (xT 0) (t.lift 1 1) 0 = t from this]
          exact .inl rfl
        · rw [show (Tr.lam (t.lift 1 1)).kid 0 = t.lift 1 1 by rfl, h2]
          exact .inr ⟨_, rfl⟩
    · rw [h]; exact .inr ⟨_, rfl⟩
  have mid : (∃ s', subT (N + 2) (.lam t) (Tr.arrow x y) (.lam (.var 1 [xT 0])) 0 s = (.inr (.lam t), s')) ∨ ∃ s', subT (N + 2) (.lam t) (Tr.arrow x y) (.lam (.var 1 [xT 0])) 0 s = (.inl 11, s') := by
    unfold subT
    rw [show (Tr.lam (.var 1 [xT 0])).kids = [.var 1 [xT 0]] by rfl, kids_one]
    have hw : W (0 + (Tr.lam (.var 1 [xT 0])).under ((0 : Nat) : Int)) = 1 := by decide
    simp only [hw]
    rcases inner with h | ⟨s', h⟩
    · rw [h]
      simp only
      rw [if_neg (show ¬ ((Tr.lam (.var 1 [xT 0])).kind = 5 ∧ (Tr.lam (.var 1 [xT 0])).n = 0) by decide), if_neg (show ¬ ((Tr.lam (.var 1 [xT 0])).kind = 5 ∧ 0 < (Tr.lam (.var 1 [xT 0])).n) by decide)]
      split
      · exact .inr ⟨_, rfl⟩
      · exact .inl ⟨_, rfl⟩
    · rw [h]; exact .inr ⟨_, rfl⟩
  unfold subT
  rw [show (allF (.lam (.var 1 [xT 0]))).kids = [.lam (.var 1 [xT 0])] by rfl, kids_one]
  have hw : W (0 + (allF (.lam (.var 1 [xT 0]))).under ((0 : Nat) : Int)) = 0 := by decide
  simp only [hw]
  rcases mid with ⟨s', h⟩ | ⟨s', h⟩
  · rw [h]
    simp only
    rw [if_neg (show ¬ ((allF (.lam (.var 1 [xT 0]))).kind = 5 ∧ (allF (.lam (.var 1 [xT 0]))).n = 0) by decide), if_neg (show ¬ ((allF (.lam (.var 1 [xT 0]))).kind = 5 ∧ 0 < (allF (.lam (.var 1 [xT 0]))).n) by decide)]
    split
    · exact .inr rfl
    · exact .inl rfl
  · rw [h]; exact .inr rfl
theorem arrow_erase : eraseT (.pi natF natF) = Tr.arrow (eraseT natF) (eraseT natF) := eraseT_pi rfl rfl
theorem term_fn {n : Nat} {t : Tr} (h : NatT (n + 1) t) (M : Nat) (p s : Int) : Out (termC numbersL M (ctxN n) (.lam t) (.pi natF natF) p s) () s := by
  cases M with
  | zero => exact .inl rfl
  | succ M =>
    unfold termC
    rw [if_pos (by rfl), if_pos (by rfl), show (Tr.pi natF natF).kid 0 = natF by rfl, show (Tr.pi natF natF).kid 1 = natF by rfl, show (Tr.lam t).kid 0 = t by rfl, ctxN_more]
    exact term_nat h _ _ _
theorem found_mk {n : Nat} {t : Tr} (hn : n ≤ 1000) (h : NatT (n + 1) t) (hs : t.size ≤ 1000) (M : Nat) (p s : Int) (h0 : s ≤ 1000) : Fin (foundC (termC numbersL M (ctxN n)) numbersL (ctxN n) (.const wMk [.lam t]) p s) (allF (.lam t)) := by
  unfold foundC
  have h1 : headC numbersL (ctxN n) (.const wMk [.lam t]) = .inr (.pi (.pi natF natF) (allF (.lam (.var 1 [xT 0])))) := by
    unfold headC
    rw [if_neg (show ¬ (Tr.const wMk [.lam t]).kind = 5 by simp [Tr.const, Tr.kind]), if_pos (show (Tr.const wMk [.lam t]).kind = 6 by rfl), show (Tr.const wMk [.lam t]).name = wMk by rfl, show declaredT numbersL wMk false = some (.pi (.pi natF natF) (allF (.lam (.var 1 [xT 0])))) by rfl]
  rw [h1, show (Tr.const wMk [.lam t]).kids = [.lam t] by rfl]
  simp only
  unfold argsC
  rw [if_pos (by rfl)]
  rcases term_fn h M (p + 1) s with h2 | ⟨q, h2⟩
  · rw [show (Tr.pi (.pi natF natF) (allF (.lam (.var 1 [xT 0])))).kid 0 = .pi natF natF by rfl, h2]
    simp only
    have ha := sub_all (N := 99999997) (x := eraseT natF) (y := eraseT natF) (s := s) (h.flatN (by omega)) hs (by omega) h0
    unfold leftC
    rw [show (Tr.pi (.pi natF natF) (allF (.lam (.var 1 [xT 0])))).kid 0 = .pi natF natF by rfl, show (Tr.pi (.pi natF natF) (allF (.lam (.var 1 [xT 0])))).kid 1 = allF (.lam (.var 1 [xT 0])) by rfl, arrow_erase]
    generalize subT 100000000 (.lam t) (Tr.arrow (eraseT natF) (eraseT natF)) (allF (.lam (.var 1 [xT 0]))) 0 s = r at ha
    obtain ⟨r1, r2⟩ := r
    rcases ha with ha | ha
    · simp only at ha; subst ha
      simp only
      unfold argsC
      exact .inl rfl
    · simp only at ha; subst ha
      exact .inr ⟨_, rfl⟩
  · rw [show (Tr.pi (.pi natF natF) (allF (.lam (.var 1 [xT 0])))).kid 0 = .pi natF natF by rfl, h2]; exact .inr ⟨q, rfl⟩
theorem SumT.nat_size {n k : Nat} {m t u : Tr} (h : SumT n m k t u) : u.size = m.size + k := by
  induction h with
  | z => rfl
  | s _ ih => rw [size_s, ih]; omega
theorem ListT.kind {n k : Nat} {t : Tr} (h : ListT n k t) : t.kind = 6 := by cases h <;> rfl
theorem SumT.kind {n k : Nat} {m t u : Tr} (h : SumT n m k t u) : t.kind = 6 := by cases h <;> rfl
theorem NatT.kind {n : Nat} {t : Tr} (h : NatT n t) : t.kind ≠ 4 := (found_nat h 0 0 0).2
/-- What is drawn has its family. -/
theorem judged_found {n : Nat} {m a : Tr} (hn : n ≤ 1000) (h : JudgedT n m a) : m.kind = 4 ∨ (a.kind ≠ 2 ∧ ∀ (M : Nat) (p s : Int), s ≤ 1000 → Fin (foundC (termC numbersL M (ctxN n)) numbersL (ctxN n) m p s) a) := by
  cases h with
  | fn => exact .inl rfl
  | list hk hl hs => exact .inr ⟨by simp [vecF, Tr.fm, Tr.kind], fun M p s _ => (found_list hl (by omega) M p s).1.fin⟩
  | sum hk hm hms hl hs => exact .inr ⟨by simp [plusF, Tr.fm, Tr.kind], fun M p s _ => (found_sum hn hm hms hl (by omega) (by rw [hl.nat_size]; omega) (by omega) M p s).1.fin⟩
  | mk ht hs => exact .inr ⟨by simp [allF, Tr.fm, Tr.kind], fun M p s h0 => found_mk hn ht hs M p s h0⟩
  | num ht hs => exact .inr ⟨by simp [natF, Tr.fm, Tr.kind], fun M p s _ => (found_nat ht M p s).1.fin⟩
theorem judged_stands {n : Nat} {m a : Tr} (hn : n ≤ 1000) (h : JudgedT n m a) (M : Nat) (p s : Int) (hs : s ≤ 1000) : Fin (termC numbersL M (ctxN n) m a p s) () := by
  rcases judged_found hn h with h4 | ⟨h2, hf⟩
  · cases h with
    | fn ht => exact (term_fn ht M p s).fin
    | list _ hl => rw [hl.kind] at h4; cases h4
    | sum _ _ _ hl => rw [hl.kind] at h4; cases h4
    | mk => cases h4
    | num ht => exact absurd h4 ht.kind
  · cases M with
    | zero => exact .inl rfl
    | succ M =>
      unfold termC
      by_cases h4 : m.kind = 4
      · cases h with
        | fn ht => exact absurd rfl h2
        | list _ hl => rw [hl.kind] at h4; cases h4
        | sum _ _ _ hl => rw [hl.kind] at h4; cases h4
        | mk => cases h4
        | num ht => exact absurd h4 ht.kind
      · rw [if_neg h4, if_neg h2]
        have := hf M p s hs
        generalize foundC (termC numbersL M (ctxN n)) numbersL (ctxN n) m p s = r at this
        obtain ⟨r1, r2⟩ := r
        rcases this with ha | ⟨q, ha⟩
        · simp only at ha; subst ha; simp only; rw [if_pos trivial]; exact .inl rfl
        · simp only at ha; subst ha; exact .inr ⟨q, rfl⟩
end Go.H
/- How deep a check may go at most does not count where it is deep enough; what is put into a drawn judgement leaves one. -/
namespace Go.H
open Go
set_option linter.unusedVariables false
set_option linter.unusedSimpArgs false

/-! ### What is put for a number -/
theorem NatT.lift {n : Nat} {t : Tr} (h : NatT n t) : ∀ (d b : Nat), n ≤ 1000000 → b ≤ 1000000 → d ≤ n → n + t.size ≤ 1000000 → NatT (n + b) (t.lift d b) := by
  induction h with
  | @var n i h0 h1 =>
    intro d b hn hb hd hs
    unfold xT
    rw [lift_var]
    split
    · rw [W_in (by omega)]; exact NatT.var (by omega) (by omega)
    · exact NatT.var h0 (by omega)
  | z => intro d b hn hb hd hs; unfold zT; rw [lift_const (by omega)]; exact NatT.z
  | @s n t ht ih =>
    intro d b hn hb hd hs
    rw [size_s] at hs
    rw [lift_s (by omega)]; exact NatT.s (ih d b hn hb hd (by omega))
  | @it n t u ht hu iht ihu =>
    intro d b hn hb hd hs
    rw [size_const] at hs
    simp only [Tr.sizes, List.map_cons, List.map_nil, List.sum_cons, List.sum_nil, size_lam] at hs
    rw [lift_const (by omega)]
    simp only [List.map_cons, List.map_nil]
    rw [lift_lam (by omega)]
    refine NatT.it ?_ (ihu d b hn hb hd (by omega))
    have := iht (d + 1) b (by omega) hb (by omega) (by omega)
    rw [show n + 1 + b = n + b + 1 by omega] at this
    exact this
theorem NatT.sb {u : Tr} {N : Nat} {t : Tr} (h : NatT N t) : ∀ (d k : Nat), N = k + 1 + d → NatT k u → u.size ≤ 1000 → N + t.size ≤ 100000 → NatT (k + d) (sbT u t d) := by
  induction h with
  | @var n i h0 h1 =>
    intro d k hN hu hus hs
    unfold xT
    rw [sbT_var]
    split
    · exact hu.lift 0 d (by omega) (by omega) (by omega) (by omega)
    · split
      · rw [W_in (by omega)]; exact NatT.var (by omega) (by omega)
      · exact NatT.var h0 (by omega)
  | z => intro d k hN hu hus hs; rw [sb_z (by omega)]; exact NatT.z
  | @s n t ht ih =>
    intro d k hN hu hus hs
    rw [size_s] at hs
    rw [sb_s (by omega)]; exact NatT.s (ih d k hN hu hus (by omega))
  | @it n t w ht hw iht ihw =>
    intro d k hN hu hus hs
    rw [size_const] at hs
    simp only [Tr.sizes, List.map_cons, List.map_nil, List.sum_cons, List.sum_nil, size_lam] at hs
    rw [sbT_const (by omega)]
    simp only [List.map_cons, List.map_nil]
    rw [sbT_lam (by omega)]
    refine NatT.it ?_ (ihw d k hN hu hus (by omega))
    have := iht (d + 1) k (by omega) hu hus (by omega)
    rw [show k + (d + 1) = k + d + 1 by omega] at this
    exact this
/-- Nothing on the way is too big where the end is not. -/
theorem high_kid {t x : Tr} (h : t.big = false) (hx : x ∈ t.kids) : x.big = false := by
  unfold Tr.big at h ⊢
  simp only [Bool.or_eq_false_iff, Bool.not_eq_false'] at h ⊢
  refine ⟨?_, high_kids h.2 hx⟩
  have h1 := h.1
  unfold Tr.small at h1 ⊢
  have := Tr.kid_size hx
  simp only [decide_eq_true_eq] at h1 ⊢
  omega
theorem kidsT_exact {f : Nat → Tr → Int → (Int ⊕ Tr) × Int} {g : Nat → Tr → Tr} : ∀ (l : List Tr) (i : Nat) (s : Int), (∀ (j : Nat) (x : Tr), l[j]? = some x → f (i + j) x s = (.inr (g (i + j) x), s)) → kidsT f i l s = (.inr (l.mapIdx fun j x => g (i + j) x), s)
  | [], _, _, _ => rfl
  | x :: r, i, s, h => by
    unfold kidsT
    have h1 := h 0 x rfl
    rw [Nat.add_zero] at h1
    rw [h1]
    simp only
    rw [kidsT_exact (g := g) r (i + 1) s (fun j y hy => by rw [show i + 1 + j = i + (j + 1) by omega]; exact h (j + 1) y (by simpa using hy))]
    simp only
    rw [List.mapIdx_cons]
    simp only [Nat.add_zero]
    congr 3
    congr 1
    funext j y
    rw [show i + 1 + j = i + (j + 1) by omega]
theorem subT_exact : ∀ (N : Nat) (m a t : Tr) (n s : Int), Flat t → t.size ≤ N → (sbT m t n).big = false → subT N m a t n s = (.inr (sbT m t n), s)
  | 0, m, a, t, n, s, _, hN, _ => absurd hN (by rw [Tr.size_kids]; omega)
  | N + 1, m, a, t, n, s, hf, hN, hb => by
    rw [sbT_eq] at hb ⊢
    unfold subT
    by_cases hv : t.kind = 5 ∧ t.n = n
    · rw [if_pos hv] at hb ⊢
      rw [hf.bare hv.1]
      simp only [kidsT]
      rw [if_pos hv, if_neg (by rw [hb]; decide)]
      rfl
    · rw [if_neg hv] at hb ⊢
      rw [kidsT_exact (f := fun i x s => subT N m a x (W (n + t.under i)) s) (g := fun i x => sbT m x (W (n + t.under i))) t.kids 0 s (fun j x hx => by
        have hm := List.mem_of_getElem? hx
        have := Tr.kid_size hm
        refine subT_exact N m a x _ s (hf.kids x hm) (by omega) (high_kid hb ?_)
        show _ ∈ t.kids.mapIdx _
        rw [List.mem_mapIdx]
        obtain ⟨hj, he⟩ := List.getElem?_eq_some_iff.1 hx
        exact ⟨j, hj, by rw [he]; simp⟩)]
      simp only [Nat.zero_add]
      rw [if_neg hv, if_neg (by rw [hb]; decide)]
end Go.H
/- The forms of what is drawn; a number is put into it. -/
namespace Go.H
open Go
set_option linter.unusedVariables false
set_option linter.unusedSimpArgs false

theorem isArg_false (x : Tr) : Tr.isArg false x = x.isTerm false := by unfold Tr.isArg; rw [if_neg (by simp)]
theorem term_const {w : List UInt8} {ks : List Tr} (hw : nameOK w = true) (h : ∀ x ∈ ks, x.isTerm false = true) : (Tr.const w ks).isTerm false = true := by
  rw [Tr.isTerm_eq, if_neg (show ¬ (Tr.const w ks).kind = 4 by simp [Tr.const, Tr.kind]), if_neg (show ¬ ((Tr.const w ks).kind = 5 ∨ (Tr.const w ks).kind = 7) by simp [Tr.const, Tr.kind]), if_pos (show (Tr.const w ks).kind = 6 by rfl)]
  rw [show (Tr.const w ks).n = 0 by rfl, show (Tr.const w ks).name = w by rfl, show (Tr.const w ks).kids = ks by rfl, hw]
  simp only [decide_true, Bool.true_and, List.all_eq_true]
  exact fun x hx => by rw [isArg_false]; exact h x hx
theorem term_lam' {t : Tr} (h : t.isTerm false = true) : (Tr.lam t).isTerm false = true := by
  rw [Tr.isTerm_eq, if_pos (show (Tr.lam t).kind = 4 by rfl)]
  rw [show (Tr.lam t).kids = [t] by rfl, show (Tr.lam t).bare 1 = true by rfl]
  simp [h]
theorem term_x {i : Int} (h0 : 0 ≤ i) (h1 : i ≤ 100) : (xT i).isTerm false = true := by
  rw [Tr.isTerm_eq, if_neg (show ¬ (xT i).kind = 4 by simp [xT, Tr.var, Tr.kind]), if_pos (show (xT i).kind = 5 ∨ (xT i).kind = 7 from .inl rfl)]
  rw [show (xT i).n = i by rfl, show (xT i).name = [] by rfl, show (xT i).kids = [] by rfl]
  simp [h0, h1]
theorem NatT.term {n : Nat} {t : Tr} (h : NatT n t) : n + t.size ≤ 101 → t.isTerm false = true := by
  induction h with
  | var h0 h1 => exact fun hs => term_x h0 (by omega)
  | z => exact fun _ => term_const (by rfl) (by simp)
  | s ht ih =>
    intro hs
    rw [size_s] at hs
    exact term_const (by rfl) (by simpa using ih (by omega))
  | it ht hu iht ihu =>
    intro hs
    rw [size_const] at hs
    simp only [Tr.sizes, List.map_cons, List.map_nil, List.sum_cons, List.sum_nil, size_lam] at hs
    refine term_const (by rfl) ?_
    simp only [List.forall_mem_cons]
    exact ⟨term_lam' (iht (by omega)), ihu (by omega), by simp⟩
theorem ListT.sb {n k : Nat} {t u : Tr} (hu : NatT n u) (hus : u.size ≤ 1000) (h : ListT (n + 1) k t) : n + 1 + t.size ≤ 100000 → ListT n k (sbT u t 0) := by
  induction h with
  | nil => intro _; rw [sbT_const (by omega)]; exact ListT.nil
  | @cons k x t hx ht ih =>
    intro hs
    rw [size_const] at hs
    simp only [Tr.sizes, List.map_cons, List.map_nil, List.sum_cons, List.sum_nil, size_lam] at hs
    rw [sbT_const (by omega)]
    simp only [List.map_cons, List.map_nil]
    rw [sbT_count (by omega)]
    exact ListT.cons (hx.sb 0 n rfl hu hus (by omega)) (ih (by omega))
theorem SumT.sb {n k : Nat} {m t w u : Tr} (hu : NatT n u) (hus : u.size ≤ 1000) (h : SumT (n + 1) m k t w) : n + 1 + t.size ≤ 100000 → SumT n (sbT u m 0) k (sbT u t 0) (sbT u w 0) := by
  induction h with
  | z => intro _; rw [sbT_const (by omega)]; exact SumT.z
  | @s k t w ht ih =>
    intro hs
    rw [size_const] at hs
    simp only [Tr.sizes, List.map_cons, List.map_nil, List.sum_cons, List.sum_nil, size_lam] at hs
    rw [sbT_const (by omega), sb_s (by omega)]
    simp only [List.map_cons, List.map_nil]
    rw [sbT_count (by omega)]
    exact SumT.s (ih (by omega))
theorem ListT.flat {n k : Nat} {t : Tr} (h : ListT n k t) : Flat t := by
  induction h with
  | nil => exact flat_const (by simp)
  | cons hx ht ih => exact flat_const (by simp [flat_count, hx.flat', ih])
theorem SumT.flat {n k : Nat} {m t w : Tr} (hm : NatT n m) (h : SumT n m k t w) : Flat t := by
  induction h with
  | z => exact flat_const (by simp [hm.flat'])
  | s ht ih => exact flat_const (by simp [flat_count, hm.flat', (ht.nat hm).flat', ih])
theorem judged_flat {n : Nat} {m a : Tr} (h : JudgedT n m a) : Flat m ∧ Flat a := by
  cases h with
  | fn ht => exact ⟨flat_lam ht.flat', flat_pi flat_nat flat_nat⟩
  | list _ hl => exact ⟨hl.flat, flat_vec (flat_count _)⟩
  | sum _ hm _ hl => exact ⟨hl.flat hm, flat_plus (flat_count _) hm.flat' (hl.nat hm).flat'⟩
  | mk ht => exact ⟨flat_const (by simp [flat_lam ht.flat']), flat_fm (by simp [flat_lam ht.flat'])⟩
  | num ht => exact ⟨ht.flat', flat_nat⟩
/-- What is put for the first number leaves a judgement. -/
theorem judged_sb {n : Nat} {m a u : Tr} (hn : n ≤ 1000) (h : JudgedT (n + 1) m a) (hu : NatT n u) (hus : u.size ≤ 1000) (h1 : (sbT u m 0).size ≤ 1000) (h2 : (sbT u a 0).size ≤ 1000) : JudgedT n (sbT u m 0) (sbT u a 0) := by
  cases h with
  | @fn t ht hs =>
    rw [sbT_lam (by omega), size_lam] at h1
    rw [sbT_lam (by omega), sbT_pi (by omega), sb_nat (by omega), sb_nat (by omega)]
    exact JudgedT.fn (ht.sb 1 n (by omega) hu hus (by omega)) (by omega)
  | @list k t hk hl hs =>
    rw [sb_vec (by omega), sbT_count (by omega)]
    exact JudgedT.list hk (hl.sb hu hus (by omega)) h1
  | @sum k m' t w hk hm hms hl hs =>
    rw [sb_plus (by omega), size_plus] at h2
    rw [sb_plus (by omega), sbT_count (by omega)]
    exact JudgedT.sum hk (hm.sb 0 n rfl hu hus (by omega)) (by omega) (hl.sb hu hus (by omega)) h1
  | @mk t ht hs =>
    rw [sbT_const (by omega)] at h1
    simp only [List.map_cons, List.map_nil] at h1
    rw [sbT_lam (by omega), size_const] at h1
    simp only [Tr.sizes, List.map_cons, List.map_nil, List.sum_cons, List.sum_nil, size_lam] at h1
    rw [sbT_const (by omega)]
    unfold allF
    rw [sbT_fm (by omega)]
    simp only [List.map_cons, List.map_nil]
    rw [sbT_lam (by omega)]
    exact JudgedT.mk (ht.sb 1 n (by omega) hu hus (by omega)) (by omega)
  | @num t ht hs =>
    rw [sb_nat (by omega)]
    exact JudgedT.num (ht.sb 0 n rfl hu hus (by omega)) h1
end Go.H
/- Steps: a value that is at hand; a tree is stored; a drawn number. -/
namespace Go.H
open Go
set_option linter.unusedVariables false
set_option linter.unusedSimpArgs false
theorem qb_of {q : Option PV} {k : PV → Prop} {x : PV} (h : q = some x) (hk : k x) : qb q k := by rw [h]; exact hk
theorem store_tree {s : St} {v : Nat} {K : St → Prop} {k : Tr} {vs : List PV} (ev : s v = some (.cells vs)) (hl : vs.length = 4) (h : K (upd s v (.cells (tree k).cells))) : e_store s 4 (.ptr v 0) (tree k) K := by
  refine e_store_ptr ev (tree_cellOK k) (tree_ncells k) (tree_isJunk k) (by omega) ?_
  have : setRange vs 0 (tree k).cells = (tree k).cells := by
    rw [tree_cells]
    match vs, hl with
    | [a, b, c, d], _ => rfl
  rw [this]
  exact h
theorem new_tree {s : St} {t : Tr} {vs : List PV} {K : PV → St → Prop} (hl : vs.length = 4) (h : ∀ v, s v = none → K (.ptr v 0) (upd s v (.cells (tree t).cells))) : e_alloc s vs fun v st => e_store st 4 v (tree t) fun st => K v st := by
  intro v hv
  refine store_tree (upd_same _ _ _) hl ?_
  rw [upd_upd]
  exact h v hv
theorem load_tree {s : St} {v : Nat} {t : Tr} (h : s v = some (.cells (tree t).cells)) : q_load s true 4 (.ptr v 0) = some (tree t) := by simp [q_load_p h]
theorem lit_1 (a : Tr) : q_lit 4 1 0 [] [(0, tree a)] = some (.sl 4 true [tree a]) := by simp
theorem lit_2 (a b : Tr) : q_lit 4 2 0 [] [(0, tree a), (1, tree b)] = some (.sl 4 true [tree a, tree b]) := by simp
theorem lit_3 (a b c : Tr) : q_lit 4 3 0 [] [(0, tree a), (1, tree b), (2, tree c)] = some (.sl 4 true [tree a, tree b, tree c]) := by simp
theorem lit_4 (a b c d : Tr) : q_lit 4 4 0 [] [(0, tree a), (1, tree b), (2, tree c), (3, tree d)] = some (.sl 4 true [tree a, tree b, tree c, tree d]) := by simp
/-- How large a drawn number is at most. -/
def natS : Nat → Nat
  | 0 => 1
  | d + 1 => 2 + 2 * natS d
theorem natS_pos (d : Nat) : 1 ≤ natS d := by cases d <;> simp only [natS] <;> omega
def natK : Nat → Nat
  | 0 => 2
  | d + 1 => 2 + 2 * natK d
theorem natK_pos (d : Nat) : 2 ≤ natK d := by cases d <;> simp only [natK] <;> omega
def natD (n d : Nat) (t : Tr) : Prop := NatT n t ∧ t.size ≤ natS d
end Go.H
/- What the law about drawn judgements asks: the answers of the check. -/
namespace Go.H
open Go
set_option linter.unusedVariables false
set_option linter.unusedSimpArgs false

/-- A check that comes out right. -/
theorem checkedT_zero {sig : List Dc} {ctx : List Tr} {form : Bool} {f : Fz} (h : (checkedT sig ctx form f).1 = 0) : ¬ (sig.length > 4096 ∨ ctx.length > 4096) ∧ ctxOKT sig ctx = true ∧ form = true ∧ f.1 = 0 := by
  unfold checkedT at h
  split at h
  · cases h
  · rename_i hl
    split at h
    · cases h
    · rename_i hc
      rw [Bool.not_eq_false, Bool.and_eq_true] at hc
      exact ⟨hl, hc.1, hc.2, h⟩
theorem fin_cases {r : (Fz ⊕ Unit) × Int} (h : Fin r ()) : faultOf r = (0, 0) ∨ (faultOf r).1 = 11 := by
  obtain ⟨x, k⟩ := r
  rcases h with h | ⟨q, h⟩
  · simp only at h; subst h; exact .inl rfl
  · simp only at h; subst h; exact .inr rfl
end Go.H
/- A number is put into what is drawn: the answer, its form. -/
namespace Go.H
open Go
set_option linter.unusedVariables false
set_option linter.unusedSimpArgs false

def natB : Tr := .mk 9 0 wNat []
theorem natB_simple : natB.simpleOK = true := by kernel_rfl
theorem small_of {t : Tr} (h : t.size ≤ 150) : t.small = true := by unfold Tr.small; exact decide_eq_true h
/-- A small number is put into a flat tree that is right. -/
theorem substT_flat {n : Nat} {u t : Tr} (hn : n ≤ 2) (hu : natD n 2 u) (hf : Flat t) (hr : t.rightOK = true) (hs : t.size ≤ 150) : (substT u natB t = .inr (sbT u t 0) ∧ (sbT u t 0).big = false) ∨ substT u natB t = .inl 11 := by
  have hus : u.size ≤ 10 := hu.2
  have h1 : u.termOK = true := by unfold Tr.termOK; rw [small_of (by omega), hu.1.term (by omega)]; rfl
  unfold substT
  rw [h1, natB_simple, hr]
  rw [if_neg (by decide)]
  rcases subT_flat 100000000 u natB t 0 0 hf (by omega) with h | h
  · refine .inl ⟨by rw [h], subT_small 100000000 u natB t 0 0 _ _ h⟩
  · exact .inr (by rw [h])
/-- The simple type does not hang on what is put for a number. -/
theorem erase_sb {n : Nat} {u a : Tr} (hn : n ≤ 2) (hu : natD n 2 u) (hf : Flat a) (hfam : a.famOK = true) (h : substT u natB a = .inr (sbT u a 0)) : eraseT (sbT u a 0) = eraseT a ∧ (sbT u a 0).famOK = true := by
  have hus : u.size ≤ 10 := hu.2
  have h1 : u.termOK = true := by unfold Tr.termOK; rw [small_of (by omega), hu.1.term (by omega)]; rfl
  have hff := famOK_ff hfam
  unfold substT at h
  rw [h1, natB_simple, show a.rightOK = true by unfold Tr.rightOK; rw [hfam]; simp] at h
  rw [if_neg (by decide)] at h
  generalize hr : subT 100000000 u natB a 0 0 = r at h
  obtain ⟨x, k⟩ := r
  simp only at h
  subst h
  have hs := subT_small _ _ _ _ _ _ _ _ hr
  have := subT_fam 100000000 u natB a 0 0 (sbT u a 0) k (by unfold Tr.termOK at h1; rw [Bool.and_eq_true] at h1; exact h1.2) hff.1 (by omega) (by have := hff.2; omega) hr
  refine ⟨this.2, ?_⟩
  unfold Tr.famOK
  rw [small_of (small_size hs), this.1]; rfl
end Go.H
/- A number is a number: nothing on the way is too big. A drawn family stands. -/
namespace Go.H
open Go
set_option linter.unusedVariables false
set_option linter.unusedSimpArgs false

theorem leftC_exact {t a : Tr} {p s : Int} (hf : Flat (a.kid 1)) (hs : (a.kid 1).size ≤ 100000000) (hb : (sbT t (a.kid 1) 0).big = false) : leftC t a p s = (.inr (sbT t (a.kid 1) 0), s) := by
  unfold leftC
  rw [subT_exact 100000000 t (eraseT (a.kid 0)) (a.kid 1) 0 s hf hs hb]
theorem argsC_exact {f : Tr → Tr → Int → Int → (Fz ⊕ Unit) × Int} {x : Tr} {r : List Tr} {A B c : Tr} {p s : Int} (hf : f x A p s = (.inr (), s)) (hB : Flat B) (hs : B.size ≤ 100000000) (hb : (sbT x B 0).big = false)
    (hr : ∀ p', argsC f r (sbT x B 0) p' s = (.inr c, s)) : argsC f (x :: r) (.pi A B) p s = (.inr c, s) := by
  unfold argsC
  rw [if_pos (by rfl), show (Tr.pi A B).kid 0 = A by rfl, hf]
  simp only
  rw [leftC_exact (t := x) (a := .pi A B) (p := p) (s := s) hB hs hb]
  exact hr _
theorem foundC_exact {f : Tr → Tr → Int → Int → (Fz ⊕ Unit) × Int} {ctx : List Tr} {w : List UInt8} {ks : List Tr} {A c : Tr} {p s : Int} (hd : declaredT numbersL w false = some A) (hc : c.kind = 3) (ha : ∀ p', argsC f ks A p' s = (.inr c, s)) :
    foundC f numbersL ctx (.const w ks) p s = (.inr c, s) := by
  unfold foundC
  have h1 : headC numbersL ctx (.const w ks) = .inr A := by
    unfold headC
    rw [if_neg (show ¬ (Tr.const w ks).kind = 5 by simp [Tr.const, Tr.kind]), if_pos (show (Tr.const w ks).kind = 6 by rfl), show (Tr.const w ks).name = w by rfl, hd]
  rw [h1, show (Tr.const w ks).kids = ks by rfl]
  simp only
  rw [ha (p + 1)]
  simp only
  rw [if_pos hc]
theorem termC_exact {sig : List Dc} {m : Nat} {ctx : List Tr} {t a : Tr} {p s : Int} (h4 : t.kind ≠ 4) (h2 : a.kind ≠ 2) (h : ∀ m', foundC (termC sig m' ctx) sig ctx t p s = (.inr a, s)) : termC sig m ctx t a p s = (.inr (), s) := by
  cases m with
  | zero => rfl
  | succ m =>
    unfold termC
    rw [if_neg h4, if_neg h2, h m]
    simp
theorem nat_small : natF.big = false := by kernel_rfl
theorem natnat_small : (Tr.pi natF natF).big = false := by kernel_rfl
theorem found_nat_exact {n : Nat} {t : Tr} (h : NatT n t) : ∀ (M : Nat) (p s : Int), foundC (termC numbersL M (ctxN n)) numbersL (ctxN n) t p s = (.inr natF, s) := by
  induction h with
  | @var n i h0 h1 =>
    intro M p s
    rcases found_var (f := termC numbersL M (ctxN n)) h0 h1 p s with h | ⟨q, h⟩
    · exact h
    · exfalso
      unfold foundC at h
      have e1 : ((ctxN n)[(((ctxN n).length : Int) - 1 - (xT i).n).toNat]?).getD noTree = natF := by
        unfold ctxN
        rw [List.length_replicate, List.getElem?_replicate, if_pos (by show ((n : Int) - 1 - i).toNat < n; omega)]
        rfl
      have hh : headC numbersL (ctxN n) (xT i) = .inr natF := by
        unfold headC
        rw [if_pos (by rfl), e1, lift_nat, if_neg (by show ¬ i ≥ ((ctxN n).length : Int); unfold ctxN; rw [List.length_replicate]; omega), if_neg (by rw [nat_small]; decide)]
      rw [hh, show (xT i).kids = [] by rfl] at h
      simp only [argsC] at h
      rw [if_pos (show natF.kind = 3 by rfl)] at h
      simp at h
  | z => exact fun M p s => foundC_exact (A := natF) rfl rfl fun p' => rfl
  | @s n t ht ih =>
    refine fun M p s => foundC_exact (A := .pi natF natF) rfl rfl fun p' => ?_
    refine argsC_exact (termC_exact (found_nat ht 0 0 0).2 (by decide) fun m' => ih m' _ _) flat_nat (by rw [size_nat]; omega) (by rw [sb_nat (by omega)]; exact nat_small) fun p2 => ?_
    rw [sb_nat (by omega)]; rfl
  | @it n t u ht hu iht ihu =>
    refine fun M p s => foundC_exact (A := .pi (.pi natF natF) (.pi natF natF)) rfl rfl fun p' => ?_
    have eb : sbT (Tr.lam t) (.pi natF natF) 0 = .pi natF natF := by rw [sbT_pi (by omega), sb_nat (by omega), sb_nat (by omega)]
    refine argsC_exact ?_ (flat_pi flat_nat flat_nat) (by rw [size_pi, size_nat]; omega) (by rw [eb]; exact natnat_small) fun p2 => ?_
    · cases M with
      | zero => rfl
      | succ M =>
        unfold termC
        rw [if_pos (by rfl), if_pos (by rfl), show (Tr.pi natF natF).kid 0 = natF by rfl, show (Tr.pi natF natF).kid 1 = natF by rfl, show (Tr.lam t).kid 0 = t by rfl, ctxN_more]
        exact termC_exact (found_nat ht 0 0 0).2 (by decide) fun m' => iht m' _ _
    · rw [eb]
      refine argsC_exact (termC_exact (found_nat hu 0 0 0).2 (by decide) fun m' => ihu m' _ _) flat_nat (by rw [size_nat]; omega) (by rw [sb_nat (by omega)]; exact nat_small) fun p3 => ?_
      rw [sb_nat (by omega)]; rfl
theorem term_nat_exact {n : Nat} {t : Tr} (h : NatT n t) (M : Nat) (p s : Int) : termC numbersL M (ctxN n) t natF p s = (.inr (), s) :=
  termC_exact (found_nat h 0 0 0).2 (by decide) fun m' => found_nat_exact h m' _ _
theorem term_fn_exact {n : Nat} {t : Tr} (h : NatT (n + 1) t) (M : Nat) (p s : Int) : termC numbersL M (ctxN n) (.lam t) (.pi natF natF) p s = (.inr (), s) := by
  cases M with
  | zero => rfl
  | succ M =>
    unfold termC
    rw [if_pos (by rfl), if_pos (by rfl), show (Tr.pi natF natF).kid 0 = natF by rfl, show (Tr.pi natF natF).kid 1 = natF by rfl, show (Tr.lam t).kid 0 = t by rfl, ctxN_more]
    exact term_nat_exact h _ _ _
end Go.H
/- A drawn family stands in its context. -/
namespace Go.H
open Go
set_option linter.unusedVariables false
set_option linter.unusedSimpArgs false

theorem flat_typ : Flat Tr.typ := Flat.of _ (fun h => by simp [Tr.typ, Tr.kind] at h) (fun x hx => by simp [Tr.typ, Tr.kids] at hx)
theorem size_typ : Tr.typ.size = 1 := by rw [Tr.size_kids]; simp [Tr.typ, Tr.kids, Tr.sizes]
theorem sb_typ (m : Tr) (n : Int) : sbT m .typ n = .typ := by rw [sbT_eq]; simp [Tr.typ, Tr.kind, Tr.n, Tr.name, Tr.kids]
theorem typ_small : Tr.typ.big = false := by kernel_rfl
theorem typ1_small : (Tr.pi natF .typ).big = false := by kernel_rfl
theorem typ2_small : (Tr.pi natF (.pi natF .typ)).big = false := by kernel_rfl
theorem famC_exact {sig : List Dc} {m : Nat} {ctx : List Tr} {w : List UInt8} {ks : List Tr} {A l : Tr} {p s : Int} (hd : declaredT sig w true = some A) (hl : l.kind = 1) (ha : ∀ m' p', argsC (termC sig m' ctx) ks A p' s = (.inr l, s)) :
    famC sig m ctx (.fm w ks) p s = (.inr (), s) := by
  cases m with
  | zero => rfl
  | succ m =>
    unfold famC
    rw [if_neg (show ¬ (Tr.fm w ks).kind = 2 by simp [Tr.fm, Tr.kind]), if_pos (show (Tr.fm w ks).kind = 3 by rfl), show (Tr.fm w ks).name = w by rfl, hd, show (Tr.fm w ks).kids = ks by rfl]
    simp only
    rw [ha m (p + 1)]
    simp only
    rw [if_pos hl]
theorem fam_nat (ctx : List Tr) (m : Nat) (p s : Int) : famC numbersL m ctx natF p s = (.inr (), s) := famC_exact (A := .typ) (l := .typ) rfl rfl fun m' p' => rfl
theorem judged_due {n : Nat} {m a : Tr} (h : JudgedT n m a) (M : Nat) (p s : Int) : famC numbersL M (ctxN n) a p s = (.inr (), s) := by
  cases h with
  | fn =>
    cases M with
    | zero => rfl
    | succ M =>
      unfold famC
      rw [if_pos (show (Tr.pi natF natF).kind = 2 by rfl), show (Tr.pi natF natF).kid 0 = natF by rfl, show (Tr.pi natF natF).kid 1 = natF by rfl, fam_nat]
      exact fam_nat _ _ _ _
  | @list k t hk hl hs =>
    refine famC_exact (A := .pi natF .typ) (l := .typ) rfl rfl fun m' p' => ?_
    refine argsC_exact (term_nat_exact (cntT_nat n k) _ _ _) flat_typ (by rw [size_typ]; omega) (by rw [sb_typ]; exact typ_small) fun p2 => ?_
    rw [sb_typ]; rfl
  | @sum k m t u hk hm hms hl hs =>
    refine famC_exact (A := .pi natF (.pi natF (.pi natF .typ))) (l := .typ) rfl rfl fun m' p' => ?_
    have e2 : ∀ x, sbT x (.pi natF (.pi natF .typ)) 0 = .pi natF (.pi natF .typ) := fun x => by rw [sbT_pi (by omega), sb_nat (by omega), sbT_pi (by omega), sb_nat (by omega), sb_typ]
    have e1 : ∀ x, sbT x (.pi natF .typ) 0 = .pi natF .typ := fun x => by rw [sbT_pi (by omega), sb_nat (by omega), sb_typ]
    refine argsC_exact (term_nat_exact (cntT_nat n k) _ _ _) (flat_pi flat_nat (flat_pi flat_nat flat_typ)) (by simp only [size_pi, size_nat, size_typ]; omega) (by rw [e2]; exact typ2_small) fun p2 => ?_
    rw [e2]
    refine argsC_exact (term_nat_exact hm _ _ _) (flat_pi flat_nat flat_typ) (by simp only [size_pi, size_nat, size_typ]; omega) (by rw [e1]; exact typ1_small) fun p3 => ?_
    rw [e1]
    refine argsC_exact (term_nat_exact (hl.nat hm) _ _ _) flat_typ (by rw [size_typ]; omega) (by rw [sb_typ]; exact typ_small) fun p4 => ?_
    rw [sb_typ]; rfl
  | @mk t ht hs =>
    refine famC_exact (A := .pi (.pi natF natF) .typ) (l := .typ) rfl rfl fun m' p' => ?_
    refine argsC_exact (term_fn_exact ht _ _ _) flat_typ (by rw [size_typ]; omega) (by rw [sb_typ]; exact typ_small) fun p2 => ?_
    rw [sb_typ]; rfl
  | num => exact fam_nat _ _ _ _
theorem ctxN_right (n : Nat) (hn : n ≤ 3) : ctxOKT numbersL (ctxN n) = true :=
  match n, hn with
  | 0, _ => (by kernel_rfl : ctxOKT numbersL (ctxN 0) = true)
  | 1, _ => (by kernel_rfl : ctxOKT numbersL (ctxN 1) = true)
  | 2, _ => (by kernel_rfl : ctxOKT numbersL (ctxN 2) = true)
  | 3, _ => (by kernel_rfl : ctxOKT numbersL (ctxN 3) = true)
  | _ + 4, h => absurd h (by omega)
end Go.H
/- What is left of a drawn judgement behind a number that is put is accepted, or too big. -/
namespace Go.H
open Go
set_option linter.unusedVariables false
set_option linter.unusedSimpArgs false

theorem sub_out {n : Nat} {u t : Tr} (hn : n ≤ 2) (hu : natD n 2 u) (h : substT u natB t = .inr (sbT u t 0)) : (sbT u t 0).big = false ∧ (t.isTerm false = true → t.size ≤ 150 → (sbT u t 0).termOK = true) := by
  have hus : u.size ≤ 10 := hu.2
  have hut := hu.1.term (by omega)
  unfold substT at h
  split at h
  · cases h
  · generalize hr : subT 100000000 u natB t 0 0 = r at h
    obtain ⟨x, k⟩ := r
    simp only at h
    subst h
    have hs := subT_small _ _ _ _ _ _ _ _ hr
    refine ⟨hs, fun ht hsz => ?_⟩
    unfold Tr.termOK
    rw [small_of (small_size hs), subT_term _ _ _ _ _ _ _ _ hut ht (by omega) (by omega) hr]; rfl
theorem sb_check {n : Nat} {u m a : Tr} (hn : n ≤ 1) (h : JudgedT (n + 1) m a) (hu : natD n 2 u) (hm : m.termOK = true) (ha : a.famOK = true) (h1 : substT u natB m = .inr (sbT u m 0)) (h2 : substT u natB a = .inr (sbT u a 0)) :
    (checkedT numbersL (ctxN n) ((sbT u m 0).termOK && dueT numbersL (ctxN n) (sbT u a 0)) (faultOf (termC numbersL 900000 (ctxN n) (sbT u m 0) (sbT u a 0) 0 0))).1 = 0 ∨
    (checkedT numbersL (ctxN n) ((sbT u m 0).termOK && dueT numbersL (ctxN n) (sbT u a 0)) (faultOf (termC numbersL 900000 (ctxN n) (sbT u m 0) (sbT u a 0) 0 0))).1 = 11 := by
  have hm' := hm
  unfold Tr.termOK Tr.small at hm'
  rw [Bool.and_eq_true, decide_eq_true_eq] at hm'
  have hus : u.size ≤ 10 := hu.2
  have o1 := sub_out (by omega) hu h1
  have o2 := sub_out (by omega) hu h2
  have z1 := small_size o1.1
  have z2 := small_size o2.1
  have hj := judged_sb (by omega) h hu.1 (by omega) (by omega) (by omega)
  have hy := erase_sb (by omega) hu (judged_flat h).2 ha h2
  have hl : ¬ (numbersL.length > 4096 ∨ (ctxN n).length > 4096) := by simp [numbersL, ctxN]; omega
  unfold checkedT
  rw [if_neg hl, ctxN_right n (by omega), o1.2 hm'.2 hm'.1]
  have hd : dueT numbersL (ctxN n) (sbT u a 0) = true := by
    unfold dueT famFaultT
    rw [hy.2, judged_due hj]
    rfl
  rw [hd, if_neg (by decide)]
  rcases fin_cases (judged_stands (by omega) hj 900000 0 0 (by omega)) with h | h
  · exact .inl (by rw [h])
  · exact .inr h
end Go.H
/- Local variables of a walk: which block holds what. -/
namespace Go.H
open Go
set_option linter.unusedVariables false
set_option linter.unusedSimpArgs false

/-- A struct of so many cells. -/
def Box (n : Nat) (y : PV) : Prop := ∃ cs, y = .agg cs ∧ cs.length = n ∧ cs.all PV.cellOK = true
theorem Box.tree (t : Tr) : Box 4 (tree t) := by
  rw [tree_eq]
  exact ⟨_, rfl, rfl, rfl⟩
theorem Box.len {n : Nat} {y : PV} (h : Box n y) : y.cells.length = n := by obtain ⟨cs, rfl, h, _⟩ := h; exact h
/-- What a walk has made: blocks that hold a struct each, and blocks that wait for it. -/
structure Held (st w : St) (L : List (Nat × PV)) (P : List (Nat × List PV)) : Prop where
  sub : Sub st w
  got : ∀ x ∈ L, w x.1 = some (.cells x.2.cells)
  zat : ∀ x ∈ P, w x.1 = some (.cells x.2)
  nd : (L.map (·.1) ++ P.map (·.1)).Nodup
  out : ∀ b ∈ L.map (·.1) ++ P.map (·.1), st b = none
theorem Held.start (st : St) : Held st st [] [] := ⟨Sub.refl st, by simp, by simp, by simp, by simp⟩
theorem Held.some_of {st w : St} {L : List (Nat × PV)} {P : List (Nat × List PV)} (h : Held st w L P) {b : Nat} (hb : b ∈ L.map (·.1) ++ P.map (·.1)) : ∃ o, w b = some o := by
  rw [List.mem_append] at hb
  rcases hb with hb | hb
  · obtain ⟨x, hx, rfl⟩ := List.mem_map.1 hb; exact ⟨_, h.got x hx⟩
  · obtain ⟨x, hx, rfl⟩ := List.mem_map.1 hb; exact ⟨_, h.zat x hx⟩
theorem Held.alloc {st w : St} {L : List (Nat × PV)} {P : List (Nat × List PV)} {z : List PV} {K : PV → St → Prop} (h : Held st w L P) (hk : ∀ v w', Held st w' L (P ++ [(v, z)]) → K (.ptr v 0) w') : e_alloc w z K := fun v hv => by
  have ne : ∀ b ∈ L.map (·.1) ++ P.map (·.1), b ≠ v := fun b hb e => by
    obtain ⟨o, ho⟩ := h.some_of hb
    rw [e, hv] at ho; cases ho
  refine hk v _ ⟨h.sub.put (h.sub.isNone hv), fun x hx => ?_, fun x hx => ?_, ?_, fun b hb => ?_⟩
  · rw [upd_ne _ _ (ne _ (List.mem_append_left _ (List.mem_map_of_mem hx)))]
    exact h.got x hx
  · rw [List.mem_append, List.mem_singleton] at hx
    rcases hx with hx | rfl
    · rw [upd_ne _ _ (ne _ (List.mem_append_right _ (List.mem_map_of_mem hx)))]
      exact h.zat x hx
    · exact upd_same _ _ _
  · rw [List.map_append, ← List.append_assoc, List.nodup_append]
    refine ⟨h.nd, by simp, fun a ha b hb => ?_⟩
    simp only [List.map_cons, List.map_nil, List.mem_singleton] at hb
    rw [hb]
    exact ne a ha
  · rw [List.map_append, ← List.append_assoc, List.mem_append] at hb
    rcases hb with hb | hb
    · exact h.out b hb
    · simp only [List.map_cons, List.map_nil, List.mem_singleton] at hb
      rw [hb]
      exact h.sub.isNone hv
theorem Held.store {st w : St} {L : List (Nat × PV)} {P : List (Nat × List PV)} {z : List PV} {v n : Nat} {y : PV} {K : St → Prop} (h : Held st w L ((v, z) :: P)) (hy : Box n y) (hz : z.length = n) (hk : ∀ w', Held st w' ((v, y) :: L) P → K w') :
    e_store w n (.ptr v 0) y K := by
  obtain ⟨cs, rfl, hl, hc⟩ := hy
  refine e_store_ptr (h.zat (v, z) (by simp)) hc hl rfl (by show 0 + n ≤ z.length; omega) ?_
  have e : setRange z 0 (PV.agg cs).cells = cs := by
    unfold setRange
    show z.take 0 ++ cs ++ z.drop (0 + cs.length) = cs
    rw [List.take_zero, List.nil_append, List.drop_of_length_le (by omega), List.append_nil]
  rw [e]
  have nd := h.nd
  rw [List.map_cons, List.nodup_append] at nd
  obtain ⟨n1, n2, n3⟩ := nd
  rw [List.nodup_cons] at n2
  refine hk _ ⟨fun c o hc => ?_, fun x hx => ?_, fun x hx => ?_, ?_, fun b hb => ?_⟩
  · have : c ≠ v := fun e => by
      have := h.out v (by simp)
      rw [e, this] at hc; cases hc
    rw [upd_ne _ _ this]
    exact h.sub c o hc
  · rcases List.mem_cons.1 hx with rfl | hx
    · exact upd_same _ _ _
    · rw [upd_ne _ _ (n3 _ (List.mem_map_of_mem hx) v (by simp))]
      exact h.got x hx
  · rw [upd_ne _ _ (fun e => n2.1 (by rw [show v = x.1 from e.symm]; exact List.mem_map.2 ⟨x, hx, rfl⟩))]
    exact h.zat x (by simp [hx])
  · rw [List.map_cons, List.cons_append, List.nodup_cons, List.nodup_append, List.mem_append]
    refine ⟨fun hm => ?_, n1, n2.2, fun a ha b hb => n3 a ha b (by simp [hb])⟩
    rcases hm with hm | hm
    · exact n3 v hm v (by simp) rfl
    · exact n2.1 hm
  · refine h.out b ?_
    simp only [List.map_cons, List.cons_append, List.mem_cons, List.mem_append] at hb ⊢
    rcases hb with hb | hb | hb
    · exact .inr (.inl hb)
    · exact .inl hb
    · exact .inr (.inr hb)
theorem Held.load {st w : St} {L : List (Nat × PV)} {P : List (Nat × List PV)} {v n : Nat} {y : PV} (h : Held st w L P) (hy : Box n y) (hv : (v, y) ∈ L) : q_load w true n (.ptr v 0) = some y := by
  obtain ⟨cs, rfl, hl, _⟩ := hy
  have := h.got _ hv
  rw [q_load_ptr this]
  show takeV true n (cs.drop 0) = _
  rw [List.drop_zero]
  show (if n ≤ cs.length then some (PV.agg (cs.take n)) else none) = _
  rw [if_pos (by omega), List.take_of_length_le (by omega)]
theorem Held.new {st w : St} {L : List (Nat × PV)} {z : List PV} {n : Nat} {y : PV} {K : PV → St → Prop} (h : Held st w L []) (hy : Box n y) (hz : z.length = n) (hk : ∀ v w', Held st w' ((v, y) :: L) [] → K (.ptr v 0) w') :
    e_alloc w z fun v st => e_store st n v y fun st => K v st :=
  h.alloc fun v w' h' => h'.store hy hz fun w'' h'' => hk v w'' h''
theorem Held.news {st w : St} {L : List (Nat × PV)} {t : Tr} {z : List PV} {K : PV → St → Prop} (h : Held st w L []) (hz : z.length = 4) (hk : ∀ v w', Held st w' ((v, tree t) :: L) [] → K (.ptr v 0) w') :
    e_alloc w z fun v st => e_store st 4 v (tree t) fun st => K v st := h.new (Box.tree t) hz hk
theorem Held.ld {st w : St} {L : List (Nat × PV)} {P : List (Nat × List PV)} {v : Nat} {t : Tr} (h : Held st w L P) (hv : (v, tree t) ∈ L) : q_load w true 4 (.ptr v 0) = some (tree t) := h.load (Box.tree t) hv
theorem Held.two {st w : St} {L : List (Nat × PV)} {s t : Tr} {z : List PV} {K : PV → PV → St → Prop} (h : Held st w L []) (hz : z.length = 4) (hk : ∀ v u w', Held st w' ((u, tree t) :: (v, tree s) :: L) [] → K (.ptr v 0) (.ptr u 0) w') :
    e_alloc w z fun v st => e_alloc st z fun u st => e_store st 4 v (tree s) fun st => e_store st 4 u (tree t) fun st => K v u st :=
  h.alloc fun v w1 h1 => h1.alloc fun u w2 h2 => h2.store (Box.tree s) hz fun w3 h3 => h3.store (Box.tree t) hz fun w4 h4 => hk v u w4 h4
end Go.H
