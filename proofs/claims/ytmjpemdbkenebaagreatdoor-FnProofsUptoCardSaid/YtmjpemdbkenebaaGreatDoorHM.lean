/- Part of a proof that the program answers as the reference does: HPure44, HPure24, HPure25, HPure23, HPure26, HPure27, HPure28, HPure29, HPure30, HPure32, HHeld, HFm, HPure33, HPure34, HPure43, HPure35, HPure36, HPure37, HPure38, HPure45, HHeldS, HWalk, HFreeze, HPure48, HPure40, HPure41, HPure42, HPure50, HPure49, HPure51. -/
import Derived.Test.YtmjpemdbkenebaaGreatDoorHP
namespace Go.H
open Go
set_option linter.unusedVariables false

def tType : Tr := .mk 1 0 [] []
def tFam (s : List UInt8) (ks : List Tr) : Tr := .mk 3 0 s ks
def tPi (a b : Tr) : Tr := .mk 2 0 [] [a, b]
def tFun2 (s : List UInt8) : Tr := tPi (tFam s []) (tPi (tFam s []) (tFam s []))
def tx (n : Int) : Tr := .var n []
def zq4c : List Dc :=
 let o := tFam [111] []
 let pf (a : Tr) : Tr := tFam [112, 102] [a]
 let and (a b : Tr) : Tr := .const [97, 110, 100] [a, b]
 let imp (a b : Tr) : Tr := .const [105, 109, 112] [a, b]
 [⟨[111], true, tType⟩, ⟨[112, 48], false, o⟩, ⟨[112, 49], false, o⟩, ⟨[112, 50], false, o⟩, ⟨[112, 51], false, o⟩, ⟨[112, 52], false, o⟩, ⟨[112, 53], false, o⟩,
  ⟨[98, 111, 116], false, o⟩, ⟨[97, 110, 100], false, tFun2 [111]⟩, ⟨[105, 109, 112], false, tFun2 [111]⟩, ⟨[112, 102], true, tPi o tType⟩,
  ⟨[97, 110, 100, 73], false, tPi o (tPi o (tPi (pf (tx 1)) (tPi (pf (tx 1)) (pf (and (tx 3) (tx 2))))))⟩,
  ⟨[102, 115, 116], false, tPi o (tPi o (tPi (pf (and (tx 1) (tx 0))) (pf (tx 2))))⟩,
  ⟨[115, 110, 100], false, tPi o (tPi o (tPi (pf (and (tx 1) (tx 0))) (pf (tx 1))))⟩,
  ⟨[102, 117, 110, 73], false, tPi o (tPi o (tPi (tPi (pf (tx 1)) (pf (tx 1))) (pf (imp (tx 2) (tx 1)))))⟩,
  ⟨[117, 115, 101], false, tPi o (tPi o (tPi (pf (imp (tx 1) (tx 0))) (tPi (pf (tx 2)) (pf (tx 2)))))⟩,
  ⟨[98, 111, 116, 69], false, tPi o (tPi (pf (.const [98, 111, 116] [])) (pf (tx 1)))⟩]
end Go.H
namespace Go.H
open Go
set_option linter.unusedVariables false
set_option linter.unusedSimpArgs false

inductive Flat : Tr → Prop
 | of (t : Tr) : (t.kind = 5 → t.kids = []) → (∀ x ∈ t.kids, Flat x) → Flat t
theorem Flat.bare {t : Tr} (h : Flat t) : t.kind = 5 → t.kids = [] := by cases h; assumption
theorem Flat.kids {t : Tr} (h : Flat t) : ∀ x ∈ t.kids, Flat x := by cases h; assumption
def sbT (m t : Tr) (n : Int) : Tr :=
 if t.kind = 5 ∧ t.n = n then m.lift 0 n else .mk t.kind (if t.kind = 5 ∧ n < t.n then W (t.n - 1) else t.n) t.name (t.kids.attach.mapIdx fun i x => sbT m x.1 (W (n + t.under i)))
termination_by SizeOf.sizeOf t
decreasing_by exact Tr.kids_lt x.2
theorem zqlh (m t : Tr) (n : Int) : sbT m t n = if t.kind = 5 ∧ t.n = n then m.lift 0 n else .mk t.kind (if t.kind = 5 ∧ n < t.n then W (t.n - 1) else t.n) t.name (t.kids.mapIdx fun i x => sbT m x (W (n + t.under i))) := by
 rw [sbT, zq6k t.kids (fun i x => sbT m x (W (n + t.under i)))]
theorem kidsT_flat {f : Nat → Tr → Int → (Int ⊕ Tr) × Int} {g : Nat → Tr → Tr} : ∀ (l : List Tr) (i : Nat) (s : Int), (∀ (j : Nat) (x : Tr), x ∈ l → f j x s = (.inr (g j x), s) ∨ f j x s = (.inl 11, s)) →
  zqc3 f i l s = (.inr (l.mapIdx fun j x => g (i + j) x), s) ∨ zqc3 f i l s = (.inl 11, s)
 | [], _, _, _ => .inl rfl
 | x :: r, i, s, h => by
   unfold zqc3
   rcases h i x (by simp) with h1 | h1
   ·rw [h1]
    simp only
    rcases kidsT_flat (g := g) r (i + 1) s (fun j y hy => h j y (by simp [hy])) with h2 | h2
    ·rw [h2]
     refine .inl ?_
     rw [List.mapIdx_cons]
     simp only [Nat.add_zero]
     congr 3
     congr 1
     funext j y
     rw [show i + 1 + j = i + (j + 1) by omega]
    ·rw [h2]; exact .inr rfl
   ·rw [h1]; exact .inr rfl
theorem subT_flat : ∀ (N : Nat) (m a t : Tr) (n s : Int), Flat t → t.size ≤ N → subT N m a t n s = (.inr (sbT m t n), s) ∨ subT N m a t n s = (.inl 11, s)
 | 0, m, a, t, n, s, _, hN => absurd hN (by rw [Tr.size_kids]; omega)
 | N + 1, m, a, t, n, s, hf, hN => by
   have hk := kidsT_flat (f := fun i x s => subT N m a x (W (n + t.under i)) s) (g := fun i x => sbT m x (W (n + t.under i))) t.kids 0 s (fun j x hx => subT_flat N m a x _ s (hf.kids x hx) (by
    have := Tr.kid_size hx
    omega))
   unfold subT
   rcases hk with h | h
   ·rw [h]
    simp only
    by_cases hv : t.kind = 5 ∧ t.n = n
    ·rw [if_pos hv, zqlh, if_pos hv]
     by_cases hb : (m.lift 0 n).big = true
     ·rw [if_pos hb]; exact .inr rfl
     ·rw [if_neg hb, hf.bare hv.1]
      simp only [List.mapIdx_nil, redT]
      exact .inl trivial
    ·rw [if_neg hv, zqlh, if_neg hv]
     simp only [Nat.zero_add]
     by_cases hb : (Tr.mk t.kind (if t.kind = 5 ∧ n < t.n then W (t.n - 1) else t.n) t.name (t.kids.mapIdx fun i x => sbT m x (W (n + t.under i)))).big = true
     ·rw [if_pos hb]; exact .inr rfl
     ·rw [if_neg hb]; exact .inl rfl
   ·rw [h]; exact .inr rfl
end Go.H
namespace Go.H
open Go
set_option linter.unusedVariables false
set_option linter.unusedSimpArgs false

inductive FlatN : Tr → Prop
 | of (t : Tr) : (t.kind = 5 → t = Tr.var t.n [] ∧ 0 ≤ t.n ∧ t.n ≤ 1000000) → (∀ x ∈ t.kids, FlatN x) → FlatN t
theorem sbT_var (m : Tr) (k n : Int) : sbT m (Tr.var k []) n = if k = n then m.lift 0 n else Tr.var (if n < k then W (k - 1) else k) [] := by
 rw [zqlh]; simp [Tr.var, Tr.kind, Tr.n, Tr.name, Tr.kids]
end Go.H
namespace Go.H
open Go
set_option linter.unusedVariables false
set_option linter.unusedSimpArgs false

end Go.H
namespace Go.H
open Go
set_option linter.unusedVariables false
set_option linter.unusedSimpArgs false

def Tr.fm (s : List UInt8) (ks : List Tr) : Tr := .mk 3 0 s ks
def Tr.pi (a b : Tr) : Tr := .mk 2 0 [] [a, b]
def Tr.typ : Tr := .mk 1 0 [] []
def wNat : List UInt8 := [110, 97, 116]
def wZ : List UInt8 := [122]
def wS : List UInt8 := [115]
def wVec : List UInt8 := [118, 101, 99]
def wNil : List UInt8 := [110, 105, 108]
def wCons : List UInt8 := [99, 111, 110, 115]
def wPlus : List UInt8 := [112, 108, 117, 115]
def wPz : List UInt8 := [112, 122]
def wPs : List UInt8 := [112, 115]
def wIt : List UInt8 := [105, 116]
def wAll : List UInt8 := [97, 108, 108]
def wMk : List UInt8 := [109, 107]
def natF : Tr := .fm wNat []
def zT : Tr := .const wZ []
def sT (t : Tr) : Tr := .const wS [t]
def xT (n : Int) : Tr := .var n []
def vecF (k : Tr) : Tr := .fm wVec [k]
def plusF (a b c : Tr) : Tr := .fm wPlus [a, b, c]
def allF (f : Tr) : Tr := .fm wAll [f]
inductive NatT : Nat → Tr → Prop
 | var {n : Nat} {i : Int} : 0 ≤ i → i < n → NatT n (xT i)
 | z {n : Nat} : NatT n zT
 | s {n : Nat} {t : Tr} : NatT n t → NatT n (sT t)
 | it {n : Nat} {t u : Tr} : NatT (n + 1) t → NatT n u → NatT n (.const wIt [.lam t, u])
def cntT : Nat → Tr
 | 0 => zT
 | k + 1 => sT (cntT k)
inductive ListT (n : Nat) : Nat → Tr → Prop
 | nil : ListT n 0 (.const wNil [])
 | cons {k : Nat} {x t : Tr} : NatT n x → ListT n k t → ListT n (k + 1) (.const wCons [cntT k, x, t])
inductive SumT (n : Nat) (m : Tr) : Nat → Tr → Tr → Prop
 | z : SumT n m 0 (.const wPz [m]) m
 | s {k : Nat} {t u : Tr} : SumT n m k t u → SumT n m (k + 1) (.const wPs [cntT k, m, u, t]) (sT u)
inductive JudgedT (n : Nat) : Tr → Tr → Prop
 | fn {t : Tr} : NatT (n + 1) t → t.size ≤ 1000 → JudgedT n (.lam t) (.pi natF natF)
 | list {k : Nat} {t : Tr} : k ≤ 1000 → ListT n k t → t.size ≤ 1000 → JudgedT n t (vecF (cntT k))
 | sum {k : Nat} {m t u : Tr} : k ≤ 1000 → NatT n m → m.size ≤ 1000 → SumT n m k t u → t.size ≤ 1000 → JudgedT n t (plusF (cntT k) m u)
 | mk {t : Tr} : NatT (n + 1) t → t.size ≤ 1000 → JudgedT n (.const wMk [.lam t]) (allF (.lam t))
 | num {t : Tr} : NatT n t → t.size ≤ 1000 → JudgedT n t natF

theorem zq8u {α β : Type} (f : α → β) (l : List α) : (l.mapIdx fun _ x => f x) = l.map f := by
 induction l with
 | nil => rfl
 | cons x r ih => rw [List.mapIdx_cons, ih]; rfl
section
variable {n : Int} (h : 0 ≤ n ∧ n ≤ 1000000000)
include h
theorem sbT_fm (m : Tr) (s : List UInt8) (ks : List Tr) : sbT m (.fm s ks) n = .fm s (ks.map fun x => sbT m x n) := by
 rw [zqlh]
 simp only [Tr.fm, Tr.kind, Tr.n, Tr.name, Tr.kids, Tr.under]
 simp [W_in (show -9223372036854775808 ≤ n ∧ n ≤ 9223372036854775807 by omega), zq8u]
theorem zqc9 (m : Tr) (s : List UInt8) (ks : List Tr) : sbT m (.const s ks) n = .const s (ks.map fun x => sbT m x n) := by
 rw [zqlh]
 simp only [Tr.const, Tr.kind, Tr.n, Tr.name, Tr.kids, Tr.under]
 simp [W_in (show -9223372036854775808 ≤ n ∧ n ≤ 9223372036854775807 by omega), zq8u]
theorem sbT_lam (m t : Tr) : sbT m (.lam t) n = .lam (sbT m t (n + 1)) := by
 rw [zqlh]
 simp only [Tr.lam, Tr.kind, Tr.n, Tr.name, Tr.kids, Tr.under]
 simp [W_in (show -9223372036854775808 ≤ n + 1 ∧ n + 1 ≤ 9223372036854775807 by omega)]
theorem zqt (m a b : Tr) : sbT m (.pi a b) n = .pi (sbT m a n) (sbT m b (n + 1)) := by
 rw [zqlh]
 simp only [Tr.pi, Tr.kind, Tr.n, Tr.name, Tr.kids, Tr.under]
 simp [W_in (show -9223372036854775808 ≤ n ∧ n ≤ 9223372036854775807 by omega), W_in (show -9223372036854775808 ≤ n + 1 ∧ n + 1 ≤ 9223372036854775807 by omega)]
theorem zq8w (b : Int) (s : List UInt8) (ks : List Tr) : (Tr.const s ks).lift n b = .const s (ks.map fun x => x.lift n b) := by
 rw [Tr.lift_eq]
 simp only [Tr.const, Tr.kind, Tr.n, Tr.name, Tr.kids, Tr.under]
 simp [W_in (show -9223372036854775808 ≤ n ∧ n ≤ 9223372036854775807 by omega), zq8u]
theorem lift_lam (b : Int) (t : Tr) : (Tr.lam t).lift n b = .lam (t.lift (n + 1) b) := by
 rw [Tr.lift_eq]
 simp only [Tr.lam, Tr.kind, Tr.n, Tr.name, Tr.kids, Tr.under]
 simp [W_in (show -9223372036854775808 ≤ n + 1 ∧ n + 1 ≤ 9223372036854775807 by omega)]
end
end Go.H
namespace Go.H
open Go
set_option linter.unusedVariables false
set_option linter.unusedSimpArgs false

def Out {α : Type} (r : (Fz ⊕ α) × Int) (x : α) (s : Int) : Prop := r = (.inr x, s) ∨ ∃ q, r = (.inl (11, q), s)
theorem flat_fm {s : List UInt8} {ks : List Tr} (h : ∀ x ∈ ks, Flat x) : Flat (.fm s ks) := Flat.of _ (fun h => by simp [Tr.fm, Tr.kind] at h) (by simpa [Tr.fm, Tr.kids] using h)
theorem zq5j {s : List UInt8} {ks : List Tr} (h : ∀ x ∈ ks, Flat x) : Flat (.const s ks) := Flat.of _ (fun h => by simp [Tr.const, Tr.kind] at h) (by simpa [Tr.const, Tr.kids] using h)
theorem zq2h {a b : Tr} (ha : Flat a) (hb : Flat b) : Flat (.pi a b) := Flat.of _ (fun h => by simp [Tr.pi, Tr.kind] at h) (by simp [Tr.pi, Tr.kids, ha, hb])
theorem flat_lam {t : Tr} (ha : Flat t) : Flat (.lam t) := Flat.of _ (fun h => by simp [Tr.lam, Tr.kind] at h) (by simp [Tr.lam, Tr.kids, ha])
theorem zq42 (n : Int) : Flat (xT n) := Flat.of _ (fun _ => rfl) (fun x hx => by simp [xT, Tr.var, Tr.kids] at hx)
theorem size_fm (s : List UInt8) (ks : List Tr) : (Tr.fm s ks).size = 1 + Tr.sizes ks := by rw [Tr.size_kids]; rfl
theorem zq2b (s : List UInt8) (ks : List Tr) : (Tr.const s ks).size = 1 + Tr.sizes ks := by rw [Tr.size_kids]; rfl
theorem zq3d (a b : Tr) : (Tr.pi a b).size = 1 + (a.size + b.size) := by rw [Tr.size_kids]; simp [Tr.pi, Tr.kids, Tr.sizes]
theorem size_lam (a : Tr) : (Tr.lam a).size = 1 + a.size := by rw [Tr.size_kids]; simp [Tr.lam, Tr.kids, Tr.sizes]
theorem zq7y (n : Int) : (xT n).size = 1 := by rw [Tr.size_kids]; simp [xT, Tr.var, Tr.kids, Tr.sizes]
section
variable {n : Int} (h : 0 ≤ n ∧ n ≤ 1000000000)
include h
end
theorem sb_hit (m : Tr) (n : Int) : sbT m (xT n) n = m.lift 0 n := by unfold xT; rw [sbT_var, if_pos rfl]
theorem sb_low (m : Tr) {k n : Int} (h : k < n) : sbT m (xT k) n = xT k := by unfold xT; rw [sbT_var, if_neg (by omega), if_neg (by omega)]
theorem leftC_flat {t a : Tr} {p s : Int} (hf : Flat (a.kid 1)) (hs : (a.kid 1).size ≤ 100000000) : Out (leftC t a p s) (sbT t (a.kid 1) 0) s := by
 unfold leftC
 rcases subT_flat 100000000 t (zq2x (a.kid 0)) (a.kid 1) 0 s hf hs with h | h
 ·rw [h]; exact .inl rfl
 ·rw [h]; exact .inr ⟨p, rfl⟩
theorem zq2k {f : Tr → Tr → Int → Int → (Fz ⊕ Unit) × Int} {x : Tr} {r : List Tr} {A B c : Tr} {p s : Int} (hf : Out (f x A p s) () s) (hB : Flat B) (hs : B.size ≤ 100000000)
  (hr : ∀ p', Out (zqh0 f r (sbT x B 0) p' s) c s) : Out (zqh0 f (x :: r) (.pi A B) p s) c s := by
 unfold zqh0
 rw [if_pos (by rfl), show (Tr.pi A B).kid 0 = A by rfl]
 rcases hf with h | ⟨q, h⟩
 ·rw [h]
  simp only
  rcases leftC_flat (t := x) (a := .pi A B) (p := p) (s := s) hB hs with h2 | ⟨q, h2⟩
  ·rw [h2]; exact hr _
  ·rw [h2]; exact .inr ⟨q, rfl⟩
 ·rw [h]; exact .inr ⟨q, rfl⟩
theorem zqa2 (f : Tr → Tr → Int → Int → (Fz ⊕ Unit) × Int) (a : Tr) (p s : Int) : Out (zqh0 f [] a p s) a s := .inl rfl
theorem zq30 {sig : List Dc} {m : Nat} {ctx : List Tr} {t a : Tr} {p s : Int} (h4 : t.kind ≠ 4) (h2 : a.kind ≠ 2) (h : ∀ m', Out (zq97 (zqab sig m' ctx) sig ctx t p s) a s) : Out (zqab sig m ctx t a p s) () s := by
 cases m with
 | zero => exact .inl rfl
 | succ m =>
   unfold zqab
   rw [if_neg h4, if_neg h2]
   rcases h m with h | ⟨q, h⟩
   ·rw [h]; simp only; rw [if_pos trivial]; exact .inl rfl
   ·rw [h]; exact .inr ⟨q, rfl⟩
end Go.H
namespace Go.H
open Go
set_option linter.unusedVariables false
set_option linter.unusedSimpArgs false

end Go.H
namespace Go.H
open Go
set_option linter.unusedVariables false
set_option linter.unusedSimpArgs false

theorem high_kid {t x : Tr} (h : t.big = false) (hx : x ∈ t.kids) : x.big = false := by
 unfold Tr.big at h ⊢
 simp only [Bool.or_eq_false_iff, Bool.not_eq_false'] at h ⊢
 refine ⟨?_, zqcm h.2 hx⟩
 have h1 := h.1
 unfold Tr.small at h1 ⊢
 have := Tr.kid_size hx
 simp only [decide_eq_true_eq] at h1 ⊢
 omega
theorem zqkk {f : Nat → Tr → Int → (Int ⊕ Tr) × Int} {g : Nat → Tr → Tr} : ∀ (l : List Tr) (i : Nat) (s : Int), (∀ (j : Nat) (x : Tr), l[j]? = some x → f (i + j) x s = (.inr (g (i + j) x), s)) → zqc3 f i l s = (.inr (l.mapIdx fun j x => g (i + j) x), s)
 | [], _, _, _ => rfl
 | x :: r, i, s, h => by
   unfold zqc3
   have h1 := h 0 x rfl
   rw [Nat.add_zero] at h1
   rw [h1]
   simp only
   rw [zqkk (g := g) r (i + 1) s (fun j y hy => by rw [show i + 1 + j = i + (j + 1) by omega]; exact h (j + 1) y (by simpa using hy))]
   simp only
   rw [List.mapIdx_cons]
   simp only [Nat.add_zero]
   congr 3
   congr 1
   funext j y
   rw [show i + 1 + j = i + (j + 1) by omega]
theorem subT_exact : ∀ (N : Nat) (m a t : Tr) (n s : Int), Flat t → t.size ≤ N → (sbT m t n).big = false → subT N m a t n s = (.inr (sbT m t n), s)
 | 0, m, a, t, n, s, _, hN, _ => absurd hN (by rw [Tr.size_kids]; omega)
 | N + 1, m, a, t, n, s, hf, hN, hb => by
   rw [zqlh] at hb ⊢
   unfold subT
   by_cases hv : t.kind = 5 ∧ t.n = n
   ·rw [if_pos hv] at hb ⊢
    rw [hf.bare hv.1]
    simp only [zqc3]
    rw [if_pos hv, if_neg (by rw [hb]; decide)]
    rfl
   ·rw [if_neg hv] at hb ⊢
    rw [zqkk (f := fun i x s => subT N m a x (W (n + t.under i)) s) (g := fun i x => sbT m x (W (n + t.under i))) t.kids 0 s (fun j x hx => by
     have hm := List.mem_of_getElem? hx
     have := Tr.kid_size hm
     refine subT_exact N m a x _ s (hf.kids x hm) (by omega) (high_kid hb ?_)
     show _ ∈ t.kids.mapIdx _
     rw [List.mem_mapIdx]
     obtain ⟨hj, he⟩ := List.getElem?_eq_some_iff.1 hx
     exact ⟨j, hj, by rw [he]; simp⟩)]
    simp only [Nat.zero_add]
    rw [if_neg hv, if_neg (by rw [hb]; decide)]
end Go.H
namespace Go.H
open Go
set_option linter.unusedVariables false
set_option linter.unusedSimpArgs false

theorem zqkm (x : Tr) : Tr.isArg false x = x.isTerm false := by unfold Tr.isArg; rw [if_neg (by simp)]
theorem zq3c {w : List UInt8} {ks : List Tr} (hw : zq8t w = true) (h : ∀ x ∈ ks, x.isTerm false = true) : (Tr.const w ks).isTerm false = true := by
 rw [Tr.isTerm_eq, if_neg (show ¬ (Tr.const w ks).kind = 4 by simp [Tr.const, Tr.kind]), if_neg (show ¬ ((Tr.const w ks).kind = 5 ∨ (Tr.const w ks).kind = 7) by simp [Tr.const, Tr.kind]), if_pos (show (Tr.const w ks).kind = 6 by rfl)]
 rw [show (Tr.const w ks).n = 0 by rfl, show (Tr.const w ks).name = w by rfl, show (Tr.const w ks).kids = ks by rfl, hw]
 simp only [decide_true, Bool.true_and, List.all_eq_true]
 exact fun x hx => by rw [zqkm]; exact h x hx
theorem term_lam' {t : Tr} (h : t.isTerm false = true) : (Tr.lam t).isTerm false = true := by
 rw [Tr.isTerm_eq, if_pos (show (Tr.lam t).kind = 4 by rfl)]
 rw [show (Tr.lam t).kids = [t] by rfl, show (Tr.lam t).bare 1 = true by rfl]
 simp [h]
theorem term_x {i : Int} (h0 : 0 ≤ i) (h1 : i ≤ 100) : (xT i).isTerm false = true := by
 rw [Tr.isTerm_eq, if_neg (show ¬ (xT i).kind = 4 by simp [xT, Tr.var, Tr.kind]), if_pos (show (xT i).kind = 5 ∨ (xT i).kind = 7 from .inl rfl)]
 rw [show (xT i).n = i by rfl, show (xT i).name = [] by rfl, show (xT i).kids = [] by rfl]
 simp [h0, h1]
theorem fam_fm {w : List UInt8} {ks : List Tr} (hw : zq8t w = true) (h : ∀ x ∈ ks, x.isTerm false = true) : (Tr.fm w ks).isFam false = true := by
 rw [Tr.isFam_head (show (Tr.fm w ks).kind = 3 by rfl)]
 rw [show (Tr.fm w ks).n = 0 by rfl, show (Tr.fm w ks).name = w by rfl, show (Tr.fm w ks).kids = ks by rfl, hw]
 simp only [decide_true, Bool.true_and, Bool.not_false, List.all_eq_true]
 exact fun x hx => by rw [zqkm]; exact h x hx
end Go.H
namespace Go.H
open Go
set_option linter.unusedVariables false
set_option linter.unusedSimpArgs false
theorem zq3 {q : Option PV} {k : PV → Prop} {x : PV} (h : q = some x) (hk : k x) : qb q k := by rw [h]; exact hk
end Go.H
namespace Go.H
open Go
set_option linter.unusedVariables false
set_option linter.unusedSimpArgs false

def Box (n : Nat) (y : PV) : Prop := ∃ cs, y = .agg cs ∧ cs.length = n ∧ cs.all PV.cellOK = true
theorem Box.tree (t : Tr) : Box 4 (tree t) := by
 rw [zq5b]
 exact ⟨_, rfl, rfl, rfl⟩
structure Held (st w : St) (L : List (Nat × PV)) (P : List (Nat × List PV)) : Prop where
 sub : Sub st w
 got : ∀ x ∈ L, w x.1 = some (.cells x.2.cells)
 zat : ∀ x ∈ P, w x.1 = some (.cells x.2)
 nd : (L.map (·.1) ++ P.map (·.1)).Nodup
 out : ∀ b ∈ L.map (·.1) ++ P.map (·.1), st b = none
theorem Held.start (st : St) : Held st st [] [] := ⟨Sub.refl st, by simp, by simp, by simp, by simp⟩
theorem Held.some_of {st w : St} {L : List (Nat × PV)} {P : List (Nat × List PV)} (h : Held st w L P) {b : Nat} (hb : b ∈ L.map (·.1) ++ P.map (·.1)) : ∃ o, w b = some o := by
 rw [List.mem_append] at hb
 rcases hb with hb | hb
 ·obtain ⟨x, hx, rfl⟩ := List.mem_map.1 hb; exact ⟨_, h.got x hx⟩
 ·obtain ⟨x, hx, rfl⟩ := List.mem_map.1 hb; exact ⟨_, h.zat x hx⟩
theorem Held.alloc {st w : St} {L : List (Nat × PV)} {P : List (Nat × List PV)} {z : List PV} {K : PV → St → Prop} (h : Held st w L P) (hk : ∀ v w', Held st w' L (P ++ [(v, z)]) → K (.ptr v 0) w') : zq8 w z K := fun v hv => by
 have ne : ∀ b ∈ L.map (·.1) ++ P.map (·.1), b ≠ v := fun b hb e => by
  obtain ⟨o, ho⟩ := h.some_of hb
  rw [e, hv] at ho; cases ho
 refine hk v _ ⟨h.sub.put (h.sub.isNone hv), fun x hx => ?_, fun x hx => ?_, ?_, fun b hb => ?_⟩
 ·rw [zq7 _ _ (ne _ (List.mem_append_left _ (List.mem_map_of_mem hx)))]
  exact h.got x hx
 ·rw [List.mem_append, List.mem_singleton] at hx
  rcases hx with hx | rfl
  ·rw [zq7 _ _ (ne _ (List.mem_append_right _ (List.mem_map_of_mem hx)))]
   exact h.zat x hx
  ·exact zq2 _ _ _
 ·rw [List.map_append, ← List.append_assoc, List.nodup_append]
  refine ⟨h.nd, by simp, fun a ha b hb => ?_⟩
  simp only [List.map_cons, List.map_nil, List.mem_singleton] at hb
  rw [hb]
  exact ne a ha
 ·rw [List.map_append, ← List.append_assoc, List.mem_append] at hb
  rcases hb with hb | hb
  ·exact h.out b hb
  ·simp only [List.map_cons, List.map_nil, List.mem_singleton] at hb
   rw [hb]
   exact h.sub.isNone hv
theorem Held.store {st w : St} {L : List (Nat × PV)} {P : List (Nat × List PV)} {z : List PV} {v n : Nat} {y : PV} {K : St → Prop} (h : Held st w L ((v, z) :: P)) (hy : Box n y) (hz : z.length = n) (hk : ∀ w', Held st w' ((v, y) :: L) P → K w') :
  zq4 w n (.ptr v 0) y K := by
 obtain ⟨cs, rfl, hl, hc⟩ := hy
 refine zq13 (h.zat (v, z) (by simp)) hc hl rfl (by show 0 + n ≤ z.length; omega) ?_
 have e : zqg z 0 (PV.agg cs).cells = cs := by
  unfold zqg
  show z.take 0 ++ cs ++ z.drop (0 + cs.length) = cs
  rw [List.take_zero, List.nil_append, List.drop_of_length_le (by omega), List.append_nil]
 rw [e]
 have nd := h.nd
 rw [List.map_cons, List.nodup_append] at nd
 obtain ⟨n1, n2, n3⟩ := nd
 rw [List.nodup_cons] at n2
 refine hk _ ⟨fun c o hc => ?_, fun x hx => ?_, fun x hx => ?_, ?_, fun b hb => ?_⟩
 ·have : c ≠ v := fun e => by
   have := h.out v (by simp)
   rw [e, this] at hc; cases hc
  rw [zq7 _ _ this]
  exact h.sub c o hc
 ·rcases List.mem_cons.1 hx with rfl | hx
  ·exact zq2 _ _ _
  ·rw [zq7 _ _ (n3 _ (List.mem_map_of_mem hx) v (by simp))]
   exact h.got x hx
 ·rw [zq7 _ _ (fun e => n2.1 (by rw [show v = x.1 from e.symm]; exact List.mem_map.2 ⟨x, hx, rfl⟩))]
  exact h.zat x (by simp [hx])
 ·rw [List.map_cons, List.cons_append, List.nodup_cons, List.nodup_append, List.mem_append]
  refine ⟨fun hm => ?_, n1, n2.2, fun a ha b hb => n3 a ha b (by simp [hb])⟩
  rcases hm with hm | hm
  ·exact n3 v hm v (by simp) rfl
  ·exact n2.1 hm
 ·refine h.out b ?_
  simp only [List.map_cons, List.cons_append, List.mem_cons, List.mem_append] at hb ⊢
  rcases hb with hb | hb | hb
  ·exact .inr (.inl hb)
  ·exact .inl hb
  ·exact .inr (.inr hb)
theorem Held.load {st w : St} {L : List (Nat × PV)} {P : List (Nat × List PV)} {v n : Nat} {y : PV} (h : Held st w L P) (hy : Box n y) (hv : (v, y) ∈ L) : zq0 w true n (.ptr v 0) = some y := by
 obtain ⟨cs, rfl, hl, _⟩ := hy
 have := h.got _ hv
 rw [zqp this]
 show zq3n true n (cs.drop 0) = _
 rw [List.drop_zero]
 show (if n ≤ cs.length then some (PV.agg (cs.take n)) else none) = _
 rw [if_pos (by omega), List.take_of_length_le (by omega)]
theorem Held.new {st w : St} {L : List (Nat × PV)} {z : List PV} {n : Nat} {y : PV} {K : PV → St → Prop} (h : Held st w L []) (hy : Box n y) (hz : z.length = n) (hk : ∀ v w', Held st w' ((v, y) :: L) [] → K (.ptr v 0) w') :
  zq8 w z fun v st => zq4 st n v y fun st => K v st :=
 h.alloc fun v w' h' => h'.store hy hz fun w'' h'' => hk v w'' h''
theorem Held.news {st w : St} {L : List (Nat × PV)} {t : Tr} {z : List PV} {K : PV → St → Prop} (h : Held st w L []) (hz : z.length = 4) (hk : ∀ v w', Held st w' ((v, tree t) :: L) [] → K (.ptr v 0) w') :
  zq8 w z fun v st => zq4 st 4 v (tree t) fun st => K v st := h.new (Box.tree t) hz hk
theorem Held.ld {st w : St} {L : List (Nat × PV)} {P : List (Nat × List PV)} {v : Nat} {t : Tr} (h : Held st w L P) (hv : (v, tree t) ∈ L) : zq0 w true 4 (.ptr v 0) = some (tree t) := h.load (Box.tree t) hv
end Go.H
namespace Go.H
open Go
set_option linter.unusedVariables false
set_option linter.unusedSimpArgs false

inductive Fm where
 | atom (n : Nat)
 | bot
 | and (a b : Fm)
 | imp (a b : Fm)
 deriving DecidableEq
namespace Fm
def kind : Fm → Int | atom _ => 1 | bot => 4 | and _ _ => 2 | imp _ _ => 3
def num : Fm → Int | atom n => n | _ => 0
def kids : Fm → List Fm | and a b => [a, b] | imp a b => [a, b] | _ => []
def size : Fm → Nat | and a b => 1 + a.size + b.size | imp a b => 1 + a.size + b.size | _ => 1
def ok : Fm → Bool | atom n => decide (n < 6) | bot => true | and a b => a.ok && b.ok | imp a b => a.ok && b.ok
theorem size_pos (f : Fm) : 0 < f.size := by cases f <;> simp [size] <;> omega
theorem ext_of : ∀ {f g : Fm}, f.kind = g.kind → f.num = g.num → f.kids = g.kids → f = g
 | atom n, atom m, _, h, _ => by simp only [num] at h; rw [show n = m by omega]
 | bot, bot, _, _, _ => rfl
 | and a b, and c d, _, _, h => by simp only [kids, List.cons.injEq, and_true] at h; rw [h.1, h.2]
 | imp a b, imp c d, _, _, h => by simp only [kids, List.cons.injEq, and_true] at h; rw [h.1, h.2]
 | atom _, bot, h, _, _ => by simp [kind] at h
 | atom _, and _ _, h, _, _ => by simp [kind] at h
 | atom _, imp _ _, h, _, _ => by simp [kind] at h
 | bot, atom _, h, _, _ => by simp [kind] at h
 | bot, and _ _, h, _, _ => by simp [kind] at h
 | bot, imp _ _, h, _, _ => by simp [kind] at h
 | and _ _, atom _, h, _, _ => by simp [kind] at h
 | and _ _, bot, h, _, _ => by simp [kind] at h
 | and _ _, imp _ _, h, _, _ => by simp [kind] at h
 | imp _ _, atom _, h, _, _ => by simp [kind] at h
 | imp _ _, bot, h, _, _ => by simp [kind] at h
 | imp _ _, and _ _, h, _, _ => by simp [kind] at h
theorem ind {M : Fm → Prop} (h : ∀ f : Fm, (∀ x ∈ f.kids, M x) → M f) : ∀ f : Fm, M f
 | atom n => h _ (by simp [kids])
 | bot => h _ (by simp [kids])
 | and a b => h _ (by simp only [kids, List.forall_mem_cons]; exact ⟨ind h a, ind h b, by simp⟩)
 | imp a b => h _ (by simp only [kids, List.forall_mem_cons]; exact ⟨ind h a, ind h b, by simp⟩)
end Fm
def fm : Fm → PV
 | .atom n => .agg [.int .i64 1, .int .i64 n, .sl 3 false []]
 | .bot => .agg [.int .i64 4, .int .i64 0, .sl 3 false []]
 | .and a b => .agg [.int .i64 2, .int .i64 0, .sl 3 false [fm a, fm b]]
 | .imp a b => .agg [.int .i64 3, .int .i64 0, .sl 3 false [fm a, fm b]]
def fms (fs : List Fm) : PV := .sl 3 false (fs.map fm)
theorem fm_eq (f : Fm) : fm f = .agg [.int .i64 f.kind, .int .i64 f.num, .sl 3 false (f.kids.map fm)] := by cases f <;> rfl
theorem zq6p (f : Fm) : (fm f).cells = [.int .i64 f.kind, .int .i64 f.num, .sl 3 false (f.kids.map fm)] := by rw [fm_eq]; rfl
@[simp] theorem zqm (f : Fm) : (fm f).isJunk = false := by rw [fm_eq]; rfl
@[simp] theorem fm_isAgg (f : Fm) : (fm f).isAgg = true := by rw [fm_eq]; rfl
@[simp] theorem zqd4 (f : Fm) : (fm f).ncells = 3 := by rw [fm_eq]; rfl
@[simp] theorem zq9z (f : Fm) : (fm f).cells.all PV.cellOK = true := by rw [zq6p]; rfl
@[simp] theorem fm_len (f : Fm) : (fm f).cells.length = 3 := by rw [zq6p]; rfl
@[simp] theorem fm_cellOK' (f : Fm) : (∀ x ∈ (fm f).cells, x.cellOK = true) ↔ True := by
  have := zq9z f
  rw [List.all_eq_true] at this
  simpa using this
@[simp high] theorem takeV_fm (f : Fm) : zq3n true 3 (fm f).cells = some (fm f) := by rw [zq6p, fm_eq]; rfl
@[simp] theorem fm_f0 (f : Fm) (n : Nat) : zq3n false n (fm f).cells = some (.int .i64 f.kind) := by rw [zq6p]; rfl
@[simp] theorem fm_f1 (f : Fm) (n : Nat) : zq3n false n ((fm f).cells.tail) = some (.int .i64 f.num) := by rw [zq6p]; rfl
@[simp] theorem fm_f1' (f : Fm) (n : Nat) : zq3n false n ((fm f).cells.drop 1) = some (.int .i64 f.num) := by rw [zq6p]; rfl
@[simp] theorem fm_f2 (f : Fm) (n : Nat) : zq3n false n ((fm f).cells.drop 2) = some (.sl 3 false (f.kids.map fm)) := by rw [zq6p]; rfl
@[simp] theorem fm_agg (f : Fm) : PV.agg (fm f).cells = fm f := by rw [zq6p, fm_eq]
@[simp] theorem fm_set (f : Fm) (a b c : PV) : zqg [a, b, c] 0 (fm f).cells = (fm f).cells := by rw [zq6p]; rfl
theorem zq81 {fs : List Fm} {i : Nat} {f : Fm} (k : IntKind) (h : fs[i]? = some f) : q_ia 3 (.sl 3 false (fs.map fm)) (.int k (i : Int)) = some (.ref (fm f).cells) := by
 obtain ⟨hi, rfl⟩ := List.getElem?_eq_some_iff.1 h
 simp [q_ia, hi]
theorem zql0 (st : St) (k n : Int) (e : Nat) (b : Bool) (ks : List Fm) (f : Fm) (hf : k = f.kind ∧ n = f.num ∧ ks = f.kids) (h : e = 3 ∨ ks = []) : Conv [.agg [.int .i64 k, .int .i64 n, .sl e b (ks.map fm)]] st [fm f] st := by
 obtain ⟨rfl, rfl, rfl⟩ := hf
 rw [fm_eq]
 exact Conv.agg (Conv.cons (Conv.refl _ _) (Conv.cons (Conv.refl _ _) (Conv.sl_to st e 3 b _ (by rcases h with h | h; exact .inl h; exact .inr (by simp [h]))))) rfl rfl
theorem Box.fm (f : Fm) : Box 3 (fm f) := by rw [fm_eq]; exact ⟨_, rfl, rfl, rfl⟩
theorem Held.ldf {st w : St} {L : List (Nat × PV)} {P : List (Nat × List PV)} {v : Nat} {f : Fm} (h : Held st w L P) (hv : (v, Go.H.fm f) ∈ L) : zq0 w true 3 (.ptr v 0) = some (Go.H.fm f) := h.load (Box.fm f) hv
theorem load_fm {s : St} {v : Nat} {f : Fm} (h : s v = some (.cells (fm f).cells)) : zq0 s true 3 (.ptr v 0) = some (fm f) := by simp [zq6 h]

inductive Pf where
 | hyp (n : Nat)
 | andI (a b : Fm) (p q : Pf)
 | fst (a b : Fm) (p : Pf)
 | snd (a b : Fm) (p : Pf)
 | funI (a b : Fm) (p : Pf)
 | use (a b : Fm) (p q : Pf)
 | botE (a : Fm) (p : Pf)
 deriving DecidableEq
namespace Pf
def kind : Pf → Int | hyp _ => 1 | andI .. => 2 | fst .. => 3 | snd .. => 4 | funI .. => 5 | use .. => 6 | botE .. => 7
def num : Pf → Int | hyp n => n | _ => 0
def forms : Pf → List Fm | hyp _ => [] | andI a b _ _ => [a, b] | fst a b _ => [a, b] | snd a b _ => [a, b] | funI a b _ => [a, b] | use a b _ _ => [a, b] | botE a _ => [a]
def kids : Pf → List Pf | hyp _ => [] | andI _ _ p q => [p, q] | fst _ _ p => [p] | snd _ _ p => [p] | funI _ _ p => [p] | use _ _ p q => [p, q] | botE _ p => [p]
theorem ind {M : Pf → Prop} (h : ∀ p : Pf, (∀ x ∈ p.kids, M x) → M p) : ∀ p : Pf, M p
 | hyp n => h _ (by simp [kids])
 | andI a b p q => h _ (by simp only [kids, List.forall_mem_cons]; exact ⟨ind h p, ind h q, by simp⟩)
 | fst a b p => h _ (by simp only [kids, List.forall_mem_cons]; exact ⟨ind h p, by simp⟩)
 | snd a b p => h _ (by simp only [kids, List.forall_mem_cons]; exact ⟨ind h p, by simp⟩)
 | funI a b p => h _ (by simp only [kids, List.forall_mem_cons]; exact ⟨ind h p, by simp⟩)
 | use a b p q => h _ (by simp only [kids, List.forall_mem_cons]; exact ⟨ind h p, ind h q, by simp⟩)
 | botE a p => h _ (by simp only [kids, List.forall_mem_cons]; exact ⟨ind h p, by simp⟩)
def count : Pf → Nat
 | hyp _ => 1
 | andI a b p q => 1 + a.size + b.size + p.count + q.count
 | fst a b p => 1 + a.size + b.size + p.count
 | snd a b p => 1 + a.size + b.size + p.count
 | funI a b p => 1 + a.size + b.size + p.count
 | use a b p q => 1 + a.size + b.size + p.count + q.count
 | botE a p => 1 + a.size + p.count
def size : Pf → Nat
 | hyp _ => 1
 | andI _ _ p q => 1 + p.size + q.size
 | fst _ _ p => 1 + p.size
 | snd _ _ p => 1 + p.size
 | funI _ _ p => 1 + p.size
 | use _ _ p q => 1 + p.size + q.size
 | botE _ p => 1 + p.size
def ok : Pf → Bool
 | hyp n => decide (n ≤ 100)
 | andI a b p q => a.ok && b.ok && p.ok && q.ok
 | fst a b p => a.ok && b.ok && p.ok
 | snd a b p => a.ok && b.ok && p.ok
 | funI a b p => a.ok && b.ok && p.ok
 | use a b p q => a.ok && b.ok && p.ok && q.ok
 | botE a p => a.ok && p.ok
def fok : Pf → Bool
 | hyp _ => true
 | andI a b p q => a.ok && b.ok && p.fok && q.fok
 | fst a b p => a.ok && b.ok && p.fok
 | snd a b p => a.ok && b.ok && p.fok
 | funI a b p => a.ok && b.ok && p.fok
 | use a b p q => a.ok && b.ok && p.fok && q.fok
 | botE a p => a.ok && p.fok
def hok : Pf → Bool
 | hyp n => decide (n ≤ 100)
 | andI _ _ p q => p.hok && q.hok
 | fst _ _ p => p.hok
 | snd _ _ p => p.hok
 | funI _ _ p => p.hok
 | use _ _ p q => p.hok && q.hok
 | botE _ p => p.hok
theorem ok_of {p : Pf} (h : p.fok = true) (h' : p.hok = true) : p.ok = true := by
 induction p with
 | hyp n => exact h'
 | andI a b p q i1 i2 => simp only [fok, hok, ok, Bool.and_eq_true] at h h' ⊢; exact ⟨⟨h.1.1, i1 h.1.2 h'.1⟩, i2 h.2 h'.2⟩
 | fst a b p i1 => simp only [fok, hok, ok, Bool.and_eq_true] at h h' ⊢; exact ⟨h.1, i1 h.2 h'⟩
 | snd a b p i1 => simp only [fok, hok, ok, Bool.and_eq_true] at h h' ⊢; exact ⟨h.1, i1 h.2 h'⟩
 | funI a b p i1 => simp only [fok, hok, ok, Bool.and_eq_true] at h h' ⊢; exact ⟨h.1, i1 h.2 h'⟩
 | use a b p q i1 i2 => simp only [fok, hok, ok, Bool.and_eq_true] at h h' ⊢; exact ⟨⟨h.1.1, i1 h.1.2 h'.1⟩, i2 h.2 h'.2⟩
 | botE a p i1 => simp only [fok, hok, ok, Bool.and_eq_true] at h h' ⊢; exact ⟨h.1, i1 h.2 h'⟩
end Pf
def pf : Pf → PV
 | .hyp n => .agg [.int .i64 1, .int .i64 n, .sl 3 false [], .sl 4 false []]
 | .andI a b p q => .agg [.int .i64 2, .int .i64 0, .sl 3 false [fm a, fm b], .sl 4 false [pf p, pf q]]
 | .fst a b p => .agg [.int .i64 3, .int .i64 0, .sl 3 false [fm a, fm b], .sl 4 false [pf p]]
 | .snd a b p => .agg [.int .i64 4, .int .i64 0, .sl 3 false [fm a, fm b], .sl 4 false [pf p]]
 | .funI a b p => .agg [.int .i64 5, .int .i64 0, .sl 3 false [fm a, fm b], .sl 4 false [pf p]]
 | .use a b p q => .agg [.int .i64 6, .int .i64 0, .sl 3 false [fm a, fm b], .sl 4 false [pf p, pf q]]
 | .botE a p => .agg [.int .i64 7, .int .i64 0, .sl 3 false [fm a], .sl 4 false [pf p]]
theorem pf_eq (p : Pf) : pf p = .agg [.int .i64 p.kind, .int .i64 p.num, .sl 3 false (p.forms.map fm), .sl 4 false (p.kids.map pf)] := by cases p <;> rfl
theorem zq5e (p : Pf) : (pf p).cells = [.int .i64 p.kind, .int .i64 p.num, .sl 3 false (p.forms.map fm), .sl 4 false (p.kids.map pf)] := by rw [pf_eq]; rfl
@[simp] theorem zq31 (p : Pf) : (pf p).isJunk = false := by rw [pf_eq]; rfl
@[simp] theorem pf_isAgg (p : Pf) : (pf p).isAgg = true := by rw [pf_eq]; rfl
@[simp] theorem pf_ncells (p : Pf) : (pf p).ncells = 4 := by rw [pf_eq]; rfl
@[simp] theorem zqlk (p : Pf) : (pf p).cells.all PV.cellOK = true := by rw [zq5e]; rfl
@[simp] theorem pf_len (p : Pf) : (pf p).cells.length = 4 := by rw [zq5e]; rfl
@[simp] theorem pf_cellOK' (p : Pf) : (∀ x ∈ (pf p).cells, x.cellOK = true) ↔ True := by
  have := zqlk p
  rw [List.all_eq_true] at this
  simpa using this
@[simp high] theorem takeV_pf (p : Pf) : zq3n true 4 (pf p).cells = some (pf p) := by rw [zq5e, pf_eq]; rfl
@[simp] theorem pf_f0 (p : Pf) (n : Nat) : zq3n false n (pf p).cells = some (.int .i64 p.kind) := by rw [zq5e]; rfl
@[simp] theorem pf_f1 (p : Pf) (n : Nat) : zq3n false n ((pf p).cells.tail) = some (.int .i64 p.num) := by rw [zq5e]; rfl
@[simp] theorem pf_f1' (p : Pf) (n : Nat) : zq3n false n ((pf p).cells.drop 1) = some (.int .i64 p.num) := by rw [zq5e]; rfl
@[simp] theorem pf_f2 (p : Pf) (n : Nat) : zq3n false n ((pf p).cells.drop 2) = some (.sl 3 false (p.forms.map fm)) := by rw [zq5e]; rfl
@[simp] theorem pf_f3 (p : Pf) (n : Nat) : zq3n false n ((pf p).cells.drop 3) = some (.sl 4 false (p.kids.map pf)) := by rw [zq5e]; rfl
@[simp] theorem pf_agg (p : Pf) : PV.agg (pf p).cells = pf p := by rw [zq5e, pf_eq]
theorem zqlt {ps : List Pf} {i : Nat} {p : Pf} (k : IntKind) (h : ps[i]? = some p) : q_ia 4 (.sl 4 false (ps.map pf)) (.int k (i : Int)) = some (.ref (pf p).cells) := by
 obtain ⟨hi, rfl⟩ := List.getElem?_eq_some_iff.1 h
 simp [q_ia, hi]
theorem zqfp (st : St) (k n : Int) (e e' : Nat) (b b' : Bool) (fs : List Fm) (ks : List Pf) (p : Pf) (hp : k = p.kind ∧ n = p.num ∧ fs = p.forms ∧ ks = p.kids) (h : e = 3 ∨ fs = []) (h' : e' = 4 ∨ ks = []) :
  Conv [.agg [.int .i64 k, .int .i64 n, .sl e b (fs.map fm), .sl e' b' (ks.map pf)]] st [pf p] st := by
 obtain ⟨rfl, rfl, rfl, rfl⟩ := hp
 rw [pf_eq]
 exact Conv.agg (Conv.cons (Conv.refl _ _) (Conv.cons (Conv.refl _ _) (Conv.cons (Conv.sl_to st e 3 b _ (by rcases h with h | h; exact .inl h; exact .inr (by simp [h]))) (Conv.sl_to st e' 4 b' _ (by rcases h' with h | h; exact .inl h; exact .inr (by simp [h])))))) rfl rfl
theorem Box.pf (p : Pf) : Box 4 (pf p) := by rw [pf_eq]; exact ⟨_, rfl, rfl, rfl⟩
theorem Held.ldp {st w : St} {L : List (Nat × PV)} {P : List (Nat × List PV)} {v : Nat} {p : Pf} (h : Held st w L P) (hv : (v, Go.H.pf p) ∈ L) : zq0 w true 4 (.ptr v 0) = some (Go.H.pf p) := h.load (Box.pf p) hv
theorem load_pf {s : St} {v : Nat} {p : Pf} (h : s v = some (.cells (pf p).cells)) : zq0 s true 4 (.ptr v 0) = some (pf p) := by simp [zq6 h]
end Go.H
namespace Go.H
open Go
set_option linter.unusedVariables false
set_option linter.unusedSimpArgs false

end Go.H
namespace Go.H
open Go
set_option linter.unusedVariables false
set_option linter.unusedSimpArgs false

theorem small_of {t : Tr} (h : t.size ≤ 150) : t.small = true := by unfold Tr.small; exact decide_eq_true h
end Go.H
namespace Go.H
open Go
set_option linter.unusedVariables false
set_option linter.unusedSimpArgs false

inductive Prv : List Fm → Pf → Fm → Prop
 | hyp {G : List Fm} {n : Nat} {f : Fm} : G[n]? = some f → Prv G (.hyp n) f
 | andI {G : List Fm} {a b : Fm} {p q : Pf} : Prv G p a → Prv G q b → Prv G (.andI a b p q) (.and a b)
 | fst {G : List Fm} {a b : Fm} {p : Pf} : Prv G p (.and a b) → Prv G (.fst a b p) a
 | snd {G : List Fm} {a b : Fm} {p : Pf} : Prv G p (.and a b) → Prv G (.snd a b p) b
 | funI {G : List Fm} {a b : Fm} {p : Pf} : Prv (a :: G) p b → Prv G (.funI a b p) (.imp a b)
 | use {G : List Fm} {a b : Fm} {p q : Pf} : Prv G p (.imp a b) → Prv G q a → Prv G (.use a b p q) b
 | botE {G : List Fm} {a : Fm} {p : Pf} : Prv G p .bot → Prv G (.botE a p) a
def Pf.lift : Pf → Nat → Nat → Pf
 | .hyp n, k, b => .hyp (if k ≤ n then n + b else n)
 | .andI x y p q, k, b => .andI x y (p.lift k b) (q.lift k b)
 | .fst x y p, k, b => .fst x y (p.lift k b)
 | .snd x y p, k, b => .snd x y (p.lift k b)
 | .funI x y p, k, b => .funI x y (p.lift (k + 1) b)
 | .use x y p q, k, b => .use x y (p.lift k b) (q.lift k b)
 | .botE x p, k, b => .botE x (p.lift k b)
def wAtom (n : Nat) : List UInt8 := [112, UInt8.ofNat (48 + n)]
def wBot : List UInt8 := [98, 111, 116]
def wAnd : List UInt8 := [97, 110, 100]
def wImp : List UInt8 := [105, 109, 112]
def wPf : List UInt8 := [112, 102]
def wAndI : List UInt8 := [97, 110, 100, 73]
def wFst : List UInt8 := [102, 115, 116]
def wSnd : List UInt8 := [115, 110, 100]
def wFunI : List UInt8 := [102, 117, 110, 73]
def wUse : List UInt8 := [117, 115, 101]
def wBotE : List UInt8 := [98, 111, 116, 69]
def fmT : Fm → Tr
 | .atom n => .const (wAtom n) []
 | .bot => .const wBot []
 | .and a b => .const wAnd [fmT a, fmT b]
 | .imp a b => .const wImp [fmT a, fmT b]
def pfT : Pf → Tr
 | .hyp n => .var n []
 | .andI a b p q => .const wAndI [fmT a, fmT b, pfT p, pfT q]
 | .fst a b p => .const wFst [fmT a, fmT b, pfT p]
 | .snd a b p => .const wSnd [fmT a, fmT b, pfT p]
 | .funI a b p => .const wFunI [fmT a, fmT b, .lam (pfT p)]
 | .use a b p q => .const wUse [fmT a, fmT b, pfT p, pfT q]
 | .botE a p => .const wBotE [fmT a, pfT p]
theorem zq1b : ∀ f : Fm, (fmT f).size = f.size
 | .atom n => by unfold fmT Fm.size; rw [zq2b]; rfl
 | .bot => by unfold fmT Fm.size; rw [zq2b]; rfl
 | .and a b => by unfold fmT Fm.size; rw [zq2b]; simp only [Tr.sizes, List.map_cons, List.map_nil, List.sum_cons, List.sum_nil, zq1b]; omega
 | .imp a b => by unfold fmT Fm.size; rw [zq2b]; simp only [Tr.sizes, List.map_cons, List.map_nil, List.sum_cons, List.sum_nil, zq1b]; omega
theorem pfT_size : ∀ p : Pf, p.count ≤ (pfT p).size ∧ (pfT p).size ≤ 2 * p.count := by
 intro p
 induction p with
 | hyp n => unfold pfT Pf.count; rw [show (Tr.var (n : Int) []).size = 1 by rw [Tr.size_kids]; rfl]; omega
 | andI a b p q i1 i2 => unfold pfT Pf.count; rw [zq2b]; simp only [Tr.sizes, List.map_cons, List.map_nil, List.sum_cons, List.sum_nil, zq1b]; omega
 | fst a b p i1 => unfold pfT Pf.count; rw [zq2b]; simp only [Tr.sizes, List.map_cons, List.map_nil, List.sum_cons, List.sum_nil, zq1b]; omega
 | snd a b p i1 => unfold pfT Pf.count; rw [zq2b]; simp only [Tr.sizes, List.map_cons, List.map_nil, List.sum_cons, List.sum_nil, zq1b]; omega
 | funI a b p i1 => unfold pfT Pf.count; rw [zq2b]; simp only [Tr.sizes, List.map_cons, List.map_nil, List.sum_cons, List.sum_nil, zq1b, size_lam]; omega
 | use a b p q i1 i2 => unfold pfT Pf.count; rw [zq2b]; simp only [Tr.sizes, List.map_cons, List.map_nil, List.sum_cons, List.sum_nil, zq1b]; omega
 | botE a p i1 => unfold pfT Pf.count; rw [zq2b]; simp only [Tr.sizes, List.map_cons, List.map_nil, List.sum_cons, List.sum_nil, zq1b]; omega
section
variable {n : Int} (h : 0 ≤ n ∧ n ≤ 1000000000)
include h
theorem zq84 (b : Int) : ∀ f : Fm, (fmT f).lift n b = fmT f
 | .atom k => by unfold fmT; rw [zq8w h]; rfl
 | .bot => by unfold fmT; rw [zq8w h]; rfl
 | .and x y => by unfold fmT; rw [zq8w h]; simp only [List.map_cons, List.map_nil, zq84 b x, zq84 b y]
 | .imp x y => by unfold fmT; rw [zq8w h]; simp only [List.map_cons, List.map_nil, zq84 b x, zq84 b y]
theorem zqq (m : Tr) : ∀ f : Fm, sbT m (fmT f) n = fmT f
 | .atom k => by unfold fmT; rw [zqc9 h]; rfl
 | .bot => by unfold fmT; rw [zqc9 h]; rfl
 | .and x y => by unfold fmT; rw [zqc9 h]; simp only [List.map_cons, List.map_nil, zqq m x, zqq m y]
 | .imp x y => by unfold fmT; rw [zqc9 h]; simp only [List.map_cons, List.map_nil, zqq m x, zqq m y]
end
end Go.H
namespace Go.H
open Go
set_option linter.unusedVariables false
set_option linter.unusedSimpArgs false

theorem leftC_exact {t a : Tr} {p s : Int} (hf : Flat (a.kid 1)) (hs : (a.kid 1).size ≤ 100000000) (hb : (sbT t (a.kid 1) 0).big = false) : leftC t a p s = (.inr (sbT t (a.kid 1) 0), s) := by
 unfold leftC
 rw [subT_exact 100000000 t (zq2x (a.kid 0)) (a.kid 1) 0 s hf hs hb]
theorem zq7v {f : Tr → Tr → Int → Int → (Fz ⊕ Unit) × Int} {x : Tr} {r : List Tr} {A B c : Tr} {p s : Int} (hf : f x A p s = (.inr (), s)) (hB : Flat B) (hs : B.size ≤ 100000000) (hb : (sbT x B 0).big = false)
  (hr : ∀ p', zqh0 f r (sbT x B 0) p' s = (.inr c, s)) : zqh0 f (x :: r) (.pi A B) p s = (.inr c, s) := by
 unfold zqh0
 rw [if_pos (by rfl), show (Tr.pi A B).kid 0 = A by rfl, hf]
 simp only
 rw [leftC_exact (t := x) (a := .pi A B) (p := p) (s := s) hB hs hb]
 exact hr _
theorem zq6w {sig : List Dc} {m : Nat} {ctx : List Tr} {t a : Tr} {p s : Int} (h4 : t.kind ≠ 4) (h2 : a.kind ≠ 2) (h : ∀ m', zq97 (zqab sig m' ctx) sig ctx t p s = (.inr a, s)) : zqab sig m ctx t a p s = (.inr (), s) := by
 cases m with
 | zero => rfl
 | succ m =>
   unfold zqab
   rw [if_neg h4, if_neg h2, h m]
   simp
end Go.H
namespace Go.H
open Go
set_option linter.unusedVariables false
set_option linter.unusedSimpArgs false

theorem flat_typ : Flat Tr.typ := Flat.of _ (fun h => by simp [Tr.typ, Tr.kind] at h) (fun x hx => by simp [Tr.typ, Tr.kids] at hx)
theorem size_typ : Tr.typ.size = 1 := by rw [Tr.size_kids]; simp [Tr.typ, Tr.kids, Tr.sizes]
theorem sb_typ (m : Tr) (n : Int) : sbT m .typ n = .typ := by rw [zqlh]; simp [Tr.typ, Tr.kind, Tr.n, Tr.name, Tr.kids]
theorem typ_small : Tr.typ.big = false := by kernel_rfl
theorem famC_exact {sig : List Dc} {m : Nat} {ctx : List Tr} {w : List UInt8} {ks : List Tr} {A l : Tr} {p s : Int} (hd : zq2p sig w true = some A) (hl : l.kind = 1) (ha : ∀ m' p', zqh0 (zqab sig m' ctx) ks A p' s = (.inr l, s)) :
  famC sig m ctx (.fm w ks) p s = (.inr (), s) := by
 cases m with
 | zero => rfl
 | succ m =>
   unfold famC
   rw [if_neg (show ¬ (Tr.fm w ks).kind = 2 by simp [Tr.fm, Tr.kind]), if_pos (show (Tr.fm w ks).kind = 3 by rfl), show (Tr.fm w ks).name = w by rfl, hd, show (Tr.fm w ks).kids = ks by rfl]
   simp only
   rw [ha m (p + 1)]
   simp only
   rw [if_pos hl]
end Go.H
namespace Go.H
open Go
set_option linter.unusedVariables false
set_option linter.unusedSimpArgs false

end Go.H
namespace Go.H
open Go
set_option linter.unusedVariables false
set_option linter.unusedSimpArgs false

theorem high_of {t : Tr} (h5 : t.kind ≠ 5) (h : ∀ x ∈ t.kids, x.high = false) : t.high = false := by
 rw [Tr.high_eq, decide_eq_false h5, Bool.false_and, Bool.false_or, List.any_eq_false]
 exact fun x hx => by rw [h x hx]; decide
end Go.H
namespace Go.H
open Go
set_option linter.unusedVariables false
set_option linter.unusedSimpArgs false

theorem zq68 {sig : List Dc} {f : Tr → Tr → Int → Int → (Fz ⊕ Unit) × Int} {ctx : List Tr} {w : List UInt8} {ks : List Tr} {A c : Tr} {p s : Int} (hd : zq2p sig w false = some A) (hc : c.kind = 3) (ha : ∀ p', zqh0 f ks A p' s = (.inr c, s)) :
  zq97 f sig ctx (.const w ks) p s = (.inr c, s) := by
 unfold zq97
 have h1 : headC sig ctx (.const w ks) = .inr A := by
  unfold headC
  rw [if_neg (show ¬ (Tr.const w ks).kind = 5 by simp [Tr.const, Tr.kind]), if_pos (show (Tr.const w ks).kind = 6 by rfl), show (Tr.const w ks).name = w by rfl, hd]
 rw [h1, show (Tr.const w ks).kids = ks by rfl]
 simp only
 rw [ha (p + 1)]
 simp only
 rw [if_pos hc]
def oF : Tr := .fm [111] []
theorem atom_declared {n : Nat} (h : n < 6) : zq2p zq4c (wAtom n) false = some oF := by
 match n, h with
 | 0, _ => rfl
 | 1, _ => rfl
 | 2, _ => rfl
 | 3, _ => rfl
 | 4, _ => rfl
 | 5, _ => rfl
theorem sb_o (m : Tr) {n : Int} (h : 0 ≤ n ∧ n ≤ 1000000000) : sbT m oF n = oF := by unfold oF; rw [sbT_fm h]; rfl
theorem zqi1 : Flat oF := Flat.of _ (fun h => by simp [oF, Tr.fm, Tr.kind] at h) (fun x hx => by simp [oF, Tr.fm, Tr.kids] at hx)
theorem zq5c : oF.size = 1 := by kernel_rfl
theorem o_small : oF.big = false := by kernel_rfl
theorem oo_small : (Tr.pi oF oF).big = false := by kernel_rfl
theorem zqi0 (f : Fm) : (fmT f).kind = 6 := by cases f <;> rfl
theorem found_form {ctx : List Tr} : ∀ (f : Fm), f.ok = true → ∀ (M : Nat) (p s : Int), zq97 (zqab zq4c M ctx) zq4c ctx (fmT f) p s = (.inr oF, s) := by
 intro f
 induction f with
 | atom n =>
   intro h M p s
   simp only [Fm.ok, decide_eq_true_eq] at h
   exact zq68 (atom_declared h) rfl fun p' => rfl
 | bot => exact fun _ M p s => zq68 (A := oF) (by kernel_rfl) rfl fun p' => rfl
 | and a b ia ib =>
   intro h M p s
   simp only [Fm.ok, Bool.and_eq_true] at h
   refine zq68 (A := .pi oF (.pi oF oF)) (by kernel_rfl) rfl fun p' => ?_
   have e1 : ∀ x, sbT x (.pi oF oF) 0 = .pi oF oF := fun x => by rw [zqt (by omega), sb_o x (by omega), sb_o x (by omega)]
   refine zq7v (zq6w (by rw [zqi0]; decide) (by decide) fun m' => ia h.1 m' _ _) (zq2h zqi1 zqi1) (by rw [zq3d, zq5c]; omega) (by rw [e1]; exact oo_small) fun p2 => ?_
   rw [e1]
   refine zq7v (zq6w (by rw [zqi0]; decide) (by decide) fun m' => ib h.2 m' _ _) zqi1 (by rw [zq5c]; omega) (by rw [sb_o _ (by omega)]; exact o_small) fun p3 => ?_
   rw [sb_o _ (by omega)]; rfl
 | imp a b ia ib =>
   intro h M p s
   simp only [Fm.ok, Bool.and_eq_true] at h
   refine zq68 (A := .pi oF (.pi oF oF)) (by kernel_rfl) rfl fun p' => ?_
   have e1 : ∀ x, sbT x (.pi oF oF) 0 = .pi oF oF := fun x => by rw [zqt (by omega), sb_o x (by omega), sb_o x (by omega)]
   refine zq7v (zq6w (by rw [zqi0]; decide) (by decide) fun m' => ia h.1 m' _ _) (zq2h zqi1 zqi1) (by rw [zq3d, zq5c]; omega) (by rw [e1]; exact oo_small) fun p2 => ?_
   rw [e1]
   refine zq7v (zq6w (by rw [zqi0]; decide) (by decide) fun m' => ib h.2 m' _ _) zqi1 (by rw [zq5c]; omega) (by rw [sb_o _ (by omega)]; exact o_small) fun p3 => ?_
   rw [sb_o _ (by omega)]; rfl
theorem zq3g {ctx : List Tr} {f : Fm} (h : f.ok = true) (M : Nat) (p s : Int) : zqab zq4c M ctx (fmT f) oF p s = (.inr (), s) :=
 zq6w (by rw [zqi0]; decide) (by decide) fun m' => found_form f h m' _ _
theorem fmT_name (n : Nat) (h : n < 6) : zq8t (wAtom n) = true := by
 match n, h with
 | 0, _ => rfl
 | 1, _ => rfl
 | 2, _ => rfl
 | 3, _ => rfl
 | 4, _ => rfl
 | 5, _ => rfl
theorem zq4g : ∀ f : Fm, f.ok = true → (fmT f).isTerm false = true := by
 intro f
 induction f with
 | atom n => intro h; simp only [Fm.ok, decide_eq_true_eq] at h; exact zq3c (fmT_name n h) (by simp)
 | bot => exact fun _ => zq3c (by rfl) (by simp)
 | and a b ia ib =>
   intro h
   simp only [Fm.ok, Bool.and_eq_true] at h
   refine zq3c (by rfl) ?_
   simp only [List.forall_mem_cons]
   exact ⟨ia h.1, ib h.2, by simp⟩
 | imp a b ia ib =>
   intro h
   simp only [Fm.ok, Bool.and_eq_true] at h
   refine zq3c (by rfl) ?_
   simp only [List.forall_mem_cons]
   exact ⟨ia h.1, ib h.2, by simp⟩
end Go.H
namespace Go.H
open Go
set_option linter.unusedVariables false
set_option linter.unusedSimpArgs false

structure HS (bs : List UInt8) (M : Int) (b : Nat) (st w : St) (L : List (Nat × PV)) (P : List (Nat × List PV)) : Prop where
 src : Src bs M b w
 ar : zq16 b st w
 got : ∀ x ∈ L, w x.1 = some (.cells x.2.cells)
 zat : ∀ x ∈ P, w x.1 = some (.cells x.2)
 nd : (L.map (·.1) ++ P.map (·.1)).Nodup
 out : ∀ c ∈ L.map (·.1) ++ P.map (·.1), c ≠ b ∧ st c = none
section
variable {bs : List UInt8} {M : Int} {b : Nat} {st w : St} {L : List (Nat × PV)} {P : List (Nat × List PV)}
theorem Src.some {bs : List UInt8} {M : Int} {b : Nat} {st : St} (h : Src bs M b st) : ∃ o, st b = some o := by
 obtain ⟨a, s, h1, _⟩ := h.is
 exact ⟨_, h1⟩
theorem zq16.refl' (b : Nat) (st : St) : zq16 b st st := fun _ _ _ h => h
theorem HS.start (h : Src bs M b st) : HS bs M b st st [] [] := ⟨h, zq16.refl' b st, by simp, by simp, by simp, by simp⟩
theorem HS.some_of (h : HS bs M b st w L P) {c : Nat} (hb : c ∈ L.map (·.1) ++ P.map (·.1)) : ∃ o, w c = some o := by
 rw [List.mem_append] at hb
 rcases hb with hb | hb
 ·obtain ⟨x, hx, rfl⟩ := List.mem_map.1 hb; exact ⟨_, h.got x hx⟩
 ·obtain ⟨x, hx, rfl⟩ := List.mem_map.1 hb; exact ⟨_, h.zat x hx⟩
theorem HS.alloc {z : List PV} {K : PV → St → Prop} (h : HS bs M b st w L P) (hk : ∀ v w', HS bs M b st w' L (P ++ [(v, z)]) → K (.ptr v 0) w') : zq8 w z K := fun v hv => by
 have ne : ∀ c ∈ L.map (·.1) ++ P.map (·.1), c ≠ v := fun c hc e => by
  obtain ⟨o, ho⟩ := h.some_of hc
  rw [e, hv] at ho; cases ho
 have vb : v ≠ b := fun e => by
  obtain ⟨o, ho⟩ := h.src.some
  rw [← e, hv] at ho; cases ho
 have sv : st v = none := by
  cases hs : st v with
  | none => rfl
  | some o => have := h.ar v o vb hs; rw [hv] at this; cases this
 refine hk v _ ⟨?_, fun c o hc h0 => ?_, fun x hx => ?_, fun x hx => ?_, ?_, fun c hc => ?_⟩
 ·obtain ⟨a, s, h1, h2⟩ := h.src.is
  exact ⟨a, s, by rw [zq7 _ _ (Ne.symm vb)]; exact h1, h2⟩
 ·have : c ≠ v := fun e => by rw [e, sv] at h0; cases h0
  rw [zq7 _ _ this]
  exact h.ar c o hc h0
 ·rw [zq7 _ _ (ne _ (List.mem_append_left _ (List.mem_map_of_mem hx)))]
  exact h.got x hx
 ·rw [List.mem_append, List.mem_singleton] at hx
  rcases hx with hx | rfl
  ·rw [zq7 _ _ (ne _ (List.mem_append_right _ (List.mem_map_of_mem hx)))]
   exact h.zat x hx
  ·exact zq2 _ _ _
 ·rw [List.map_append, ← List.append_assoc, List.nodup_append]
  refine ⟨h.nd, by simp, fun a ha b hb => ?_⟩
  simp only [List.map_cons, List.map_nil, List.mem_singleton] at hb
  rw [hb]
  exact ne a ha
 ·rw [List.map_append, ← List.append_assoc, List.mem_append] at hc
  rcases hc with hc | hc
  ·exact h.out c hc
  ·simp only [List.map_cons, List.map_nil, List.mem_singleton] at hc
   rw [hc]
   exact ⟨vb, sv⟩
theorem HS.store {z : List PV} {v n : Nat} {y : PV} {K : St → Prop} (h : HS bs M b st w L ((v, z) :: P)) (hy : Box n y) (hz : z.length = n) (hk : ∀ w', HS bs M b st w' ((v, y) :: L) P → K w') :
  zq4 w n (.ptr v 0) y K := by
 obtain ⟨cs, rfl, hl, hc⟩ := hy
 refine zq13 (h.zat (v, z) (by simp)) hc hl rfl (by show 0 + n ≤ z.length; omega) ?_
 have e : zqg z 0 (PV.agg cs).cells = cs := by
  unfold zqg
  show z.take 0 ++ cs ++ z.drop (0 + cs.length) = cs
  rw [List.take_zero, List.nil_append, List.drop_of_length_le (by omega), List.append_nil]
 rw [e]
 have nd := h.nd
 rw [List.map_cons, List.nodup_append] at nd
 obtain ⟨n1, n2, n3⟩ := nd
 rw [List.nodup_cons] at n2
 obtain ⟨vb, sv⟩ := h.out v (by simp)
 refine hk _ ⟨?_, fun c o hc h0 => ?_, fun x hx => ?_, fun x hx => ?_, ?_, fun b hb => ?_⟩
 ·obtain ⟨a, s, h1, h2⟩ := h.src.is
  exact ⟨a, s, by rw [zq7 _ _ (Ne.symm vb)]; exact h1, h2⟩
 ·have : c ≠ v := fun e => by rw [e, sv] at h0; cases h0
  rw [zq7 _ _ this]
  exact h.ar c o hc h0
 ·rcases List.mem_cons.1 hx with rfl | hx
  ·exact zq2 _ _ _
  ·rw [zq7 _ _ (n3 _ (List.mem_map_of_mem hx) v (by simp))]
   exact h.got x hx
 ·rw [zq7 _ _ (fun e => n2.1 (by rw [show v = x.1 from e.symm]; exact List.mem_map.2 ⟨x, hx, rfl⟩))]
  exact h.zat x (by simp [hx])
 ·rw [List.map_cons, List.cons_append, List.nodup_cons, List.nodup_append, List.mem_append]
  refine ⟨fun hm => ?_, n1, n2.2, fun a ha b hb => n3 a ha b (by simp [hb])⟩
  rcases hm with hm | hm
  ·exact n3 v hm v (by simp) rfl
  ·exact n2.1 hm
 ·refine h.out b ?_
  simp only [List.map_cons, List.cons_append, List.mem_cons, List.mem_append] at hb ⊢
  rcases hb with hb | hb | hb
  ·exact .inr (.inl hb)
  ·exact .inl hb
  ·exact .inr (.inr hb)
theorem HS.load {v n : Nat} {y : PV} (h : HS bs M b st w L P) (hy : Box n y) (hv : (v, y) ∈ L) : zq0 w true n (.ptr v 0) = some y := by
 obtain ⟨cs, rfl, hl, _⟩ := hy
 have := h.got _ hv
 rw [zqp this]
 show zq3n true n (cs.drop 0) = _
 rw [List.drop_zero]
 show (if n ≤ cs.length then some (PV.agg (cs.take n)) else none) = _
 rw [if_pos (by omega), List.take_of_length_le (by omega)]
theorem HS.perm {P' : List (Nat × List PV)} (h : HS bs M b st w L P) (hp : P.Perm P') : HS bs M b st w L P' :=
 ⟨h.src, h.ar, h.got, fun x hx => h.zat x (hp.mem_iff.2 hx), ((List.Perm.append_left _ (hp.map _)).nodup_iff).1 h.nd, fun b hb => h.out b ((List.Perm.append_left _ (hp.map _)).mem_iff.2 hb)⟩
theorem HS.store3 {p q : Nat × List PV} {z : List PV} {v n : Nat} {y : PV} {K : St → Prop} (h : HS bs M b st w L (p :: q :: (v, z) :: P)) (hy : Box n y) (hz : z.length = n) (hk : ∀ w', HS bs M b st w' ((v, y) :: L) (p :: q :: P) → K w') : zq4 w n (.ptr v 0) y K :=
 (h.perm ((List.Perm.cons _ (List.Perm.swap _ _ _)).trans (List.Perm.swap _ _ _))).store hy hz hk
theorem HS.ldf {v : Nat} {f : Fm} (h : HS bs M b st w L P) (hv : (v, Go.H.fm f) ∈ L) : zq0 w true 3 (.ptr v 0) = some (Go.H.fm f) := h.load (Box.fm f) hv
theorem HS.ldp {v : Nat} {p : Pf} (h : HS bs M b st w L P) (hv : (v, Go.H.pf p) ∈ L) : zq0 w true 4 (.ptr v 0) = some (Go.H.pf p) := h.load (Box.pf p) hv
theorem HS.pair {p q : Nat × List PV} {x : Pf} {f : Fm} {z z' : List PV} {K : PV → PV → St → Prop} (h : HS bs M b st w L [p, q]) (hz : z.length = 4) (hz' : z'.length = 3) (hk : ∀ v u w', HS bs M b st w' ((u, fm f) :: (v, pf x) :: L) [p, q] → K (.ptr v 0) (.ptr u 0) w') :
  zq8 w z fun v st => zq8 st z' fun u st => zq4 st 4 v (pf x) fun st => zq4 st 3 u (fm f) fun st => K v u st :=
 h.alloc fun v w1 h1 => h1.alloc fun u w2 h2 => HS.store3 h2 (Box.pf x) hz fun w3 h3 => HS.store3 h3 (Box.fm f) hz' fun w4 h4 => hk v u w4 h4
theorem HS.drew {Q : PV → Prop} {M' : Int} {Pr : Program} {g : FuncId} {us : List PV} {K Kp : PV → St → Prop} (h : HS bs M b st w L P) (hc : zq5 Pr g us w (Drew bs M' b Q w)) (hk : ∀ p w', Q p → HS bs M' b st w' L P → K p w') : zqb Pr g us w K Kp :=
 zq78 hc fun p o hq hs => hk p _ hq ⟨hs, fun c oc hcb h0 => by rw [zq7 _ _ hcb]; exact h.ar c oc hcb h0,
  fun x hx => by rw [zq7 _ _ (h.out x.1 (List.mem_append_left _ (List.mem_map_of_mem hx))).1]; exact h.got x hx,
  fun x hx => by rw [zq7 _ _ (h.out x.1 (List.mem_append_right _ (List.mem_map_of_mem hx))).1]; exact h.zat x hx, h.nd, h.out⟩
theorem HS.fin {Q : PV → Prop} {p : PV} (h : HS bs M b st w L P) (hq : Q p) : retR (Drew bs M b Q st) p w := Drew.fin hq h.src h.ar
theorem HS.mono {M' : Int} (h : HS bs M b st w L P) (hm : M ≤ M') : HS bs M' b st w L P := ⟨h.src.mono hm, h.ar, h.got, h.zat, h.nd, h.out⟩
theorem HS.sub (h : HS bs M b st w L P) (hb : st b = none) : Sub st w := fun c o hc => h.ar c o (fun e => by rw [e, hb] at hc; cases hc) hc
theorem Held.perm {P' : List (Nat × List PV)} (h : Held st w L P) (hp : P.Perm P') : Held st w L P' :=
 ⟨h.sub, h.got, fun x hx => h.zat x (hp.mem_iff.2 hx), ((List.Perm.append_left _ (hp.map _)).nodup_iff).1 h.nd, fun b hb => h.out b ((List.Perm.append_left _ (hp.map _)).mem_iff.2 hb)⟩
theorem Held.store2 {p : Nat × List PV} {z : List PV} {v n : Nat} {y : PV} {K : St → Prop} (h : Held st w L (p :: (v, z) :: P)) (hy : Box n y) (hz : z.length = n) (hk : ∀ w', Held st w' ((v, y) :: L) (p :: P) → K w') : zq4 w n (.ptr v 0) y K :=
 (h.perm (List.Perm.swap _ _ _)).store hy hz hk
theorem Held.store3 {p q : Nat × List PV} {z : List PV} {v n : Nat} {y : PV} {K : St → Prop} (h : Held st w L (p :: q :: (v, z) :: P)) (hy : Box n y) (hz : z.length = n) (hk : ∀ w', Held st w' ((v, y) :: L) (p :: q :: P) → K w') : zq4 w n (.ptr v 0) y K :=
 (h.perm ((List.Perm.cons _ (List.Perm.swap _ _ _)).trans (List.Perm.swap _ _ _))).store hy hz hk
theorem Held.again {v : Nat} {x y : PV} (h : Held st w ((v, x) :: L) P) : Held st (upd w v (.cells y.cells)) ((v, y) :: L) P := by
 have nd := h.nd
 rw [List.map_cons, List.cons_append, List.nodup_cons] at nd
 refine ⟨fun c o hc => ?_, fun z hz => ?_, fun z hz => ?_, by simpa using h.nd, fun b hb => h.out b (by simpa using hb)⟩
 ·have : c ≠ v := fun e => by
   have := h.out v (by simp)
   rw [e, this] at hc; cases hc
  rw [zq7 _ _ this]
  exact h.sub c o hc
 ·rcases List.mem_cons.1 hz with rfl | hz
  ·exact zq2 _ _ _
  ·rw [zq7 _ _ (fun e => nd.1 (by rw [← show z.1 = v from e]; exact List.mem_append_left _ (List.mem_map.2 ⟨z, hz, rfl⟩)))]
   exact h.got z (by simp [hz])
 ·rw [zq7 _ _ (fun e => nd.1 (by rw [← show z.1 = v from e]; exact List.mem_append_right _ (List.mem_map.2 ⟨z, hz, rfl⟩)))]
  exact h.zat z hz
theorem Held.grow {w' : St} (h : Held st w L P) (hs : Sub w w') : Held st w' L P := ⟨h.sub.trans hs, fun x hx => hs _ _ (h.got x hx), fun x hx => hs _ _ (h.zat x hx), h.nd, h.out⟩
theorem HS.top {v n : Nat} {y : PV} (h : HS bs M b st w ((v, y) :: L) P) (hy : Box n y) : zq0 w true n (.ptr v 0) = some y := h.load hy (by simp)
theorem Held.top {v n : Nat} {y : PV} (h : Held st w ((v, y) :: L) P) (hy : Box n y) : zq0 w true n (.ptr v 0) = some y := h.load hy (by simp)
theorem zqbh {R : Res → St → Prop} {p p' : PV} {s s' : St} (hc : Conv [p] s [p'] s') (h : retR R p' s') : retR R p s := by
 obtain ⟨p2, s2, h1, h2⟩ := h
 exact ⟨p2, s2, hc.trans h1, h2⟩
theorem HS.begun {Pr : Program} {g : FuncId} {us : List PV} {s0 s : St} {K Kp : PV → St → Prop} (h : Held s0 s L P) (hc : zq5 Pr g us s (Begun bs s)) (hk : ∀ b w', s0 b = none → HS bs 0 b s0 w' L P → K (.ptr b 0) w') : zqb Pr g us s K Kp :=
 callK_begun hc fun b o hb hs => by
  have hs0 := h.sub.isNone hb
  have ne : ∀ c ∈ L.map (·.1) ++ P.map (·.1), c ≠ b := fun c hc e => by
   obtain ⟨o, ho⟩ := h.some_of hc
   rw [e, hb] at ho; cases ho
  refine hk b _ hs0 ⟨hs, fun c oc hcb h0 => by rw [zq7 _ _ hcb]; exact h.sub c oc h0,
   fun x hx => by rw [zq7 _ _ (ne x.1 (List.mem_append_left _ (List.mem_map_of_mem hx)))]; exact h.got x hx,
   fun x hx => by rw [zq7 _ _ (ne x.1 (List.mem_append_right _ (List.mem_map_of_mem hx)))]; exact h.zat x hx, h.nd, fun c hc => ⟨ne c hc, h.out c hc⟩⟩
end
end Go.H
namespace Go.H
open Go
set_option linter.unusedVariables false
set_option linter.unusedSimpArgs false

theorem cbr_t {b : Bool} {X Y : Prop} (h : b = true) (hx : X) : cb (.bool b) fun c => br c X Y := by subst h; exact hx
theorem zqis {b : Bool} {X Y : Prop} (h : b = false) (hy : Y) : cb (.bool b) fun c => br c X Y := by subst h; exact hy
theorem zq1t {c : Prop} [Decidable c] {X Y : Prop} (h1 : c → X) (h2 : ¬ c → Y) : cb (.bool (decide c)) fun b => br b X Y := zql h1 h2
theorem zq3y {F : List PV → St → (List PV → St → Prop) → Prop} {ls : List PV} {st : St} (h : F ls st (hFix F)) : hFix F ls st := fun X h1 h2 => h1 ls st (hFix F) (fun l s hl => hl X h1 h2) h
theorem zqaj {B : List PV → St → Prop} {F : (List PV → St → Prop) → Prop} (h : ∀ J : List PV → St → Prop, (∀ ls st, B ls st → J ls st) → F J) : hJ B F := zq52 h
theorem lfm (s : St) (f : Fm) : zq0 s true 3 (.ref (fm f).cells) = some (fm f) := by simp
theorem lpf (s : St) (p : Pf) : zq0 s true 4 (.ref (pf p).cells) = some (pf p) := by simp
theorem ltr (s : St) (t : Tr) : zq0 s true 4 (.ref (tree t).cells) = some (tree t) := by simp
theorem qinc {i : Nat} (h : (i : Int) ≤ 1000000000000000) : zqc .add (.int .i64 (i : Int)) (.int .i64 1) = some (.int .i64 ((i + 1 : Nat) : Int)) := by
 rw [zq7z, q_add, zqs (by omega) (by omega)]; rfl
theorem qdec {n : Int} (h : -1000000000000000 ≤ n ∧ n ≤ 1000000000000000) : zqc .sub (.int .i64 n) (.int .i64 1) = some (.int .i64 (n - 1)) := by
 rw [zq7z, q_sub, zqs (by omega) (by omega)]
end Go.H
namespace Go.H
open Go
set_option linter.unusedVariables false
set_option linter.unusedSimpArgs false

theorem rx_freeze {w : World} {st : St} {b n cap esz : Nat} {xs : List PV} (hg : Good w st) (hb : st b = some (.vec esz xs cap)) (hn : xs.length = n) {us : List Value} (h : RX (Cw w st) (.vsl b n cap) us) : RX (Cw w (del st b)) (.sl esz false xs) us := by
 obtain ⟨arr, t, r1, r2, r3, r4, r5, r6, r7⟩ := hg b _ hb
 simp only [RX] at h ⊢
 subst h
 refine ⟨_, _, _, rfl, hn.symm, by omega, r3, (fun h => by cases h), r6, .inr ⟨b, 0, arr.toList.take (xs.length * esz), rfl, fun j v hj => ⟨?_, zq6q st b⟩, RXs.mono (Evo.sub (zqal st b)).cw _ _ r7⟩⟩
 rw [Nat.zero_add, zq1z r1]
 rw [List.getElem?_take] at hj
 split at hj
 ·exact hj
 ·cases hj
theorem RCs.swap {C C' : Nat → Nat → Value → Prop} (hC : ∀ b o v, C b o v → C' b o v) {p p' : PV} (hp : ∀ us, RX C p us → RX C' p' us) : ∀ (pre post : List PV) (us : List Value), RCs C (pre ++ p :: post) us → RCs C' (pre ++ p' :: post) us
 | [], post, us, h => by
   simp only [List.nil_append, RCs] at h ⊢
   obtain ⟨v, vs, rfl, h1, h2⟩ := h
   exact ⟨v, vs, rfl, hp _ h1, RCs.mono hC _ _ h2⟩
 | q :: pre, post, us, h => by
   simp only [List.cons_append, RCs] at h ⊢
   obtain ⟨v, vs, rfl, h1, h2⟩ := h
   exact ⟨v, vs, rfl, h1.mono hC, RCs.swap hC hp pre post vs h2⟩
theorem Conv.cell {ls : List PV} {st : St} {v b n cap esz : Nat} {pre post : List PV} {xs : List PV} (hv : st v = some (.cells (pre ++ .vsl b n cap :: post))) (hb : st b = some (.vec esz xs cap)) (hn : xs.length = n) :
  Conv ls st ls (upd (del st b) v (.cells (pre ++ .sl esz false xs :: post))) := fun w hg => by
 have ne : v ≠ b := fun e => by rw [e, hb] at hv; cases hv
 have hC : ∀ c o u, Cw w st c o u → Cw w (upd (del st b) v (.cells (pre ++ .sl esz false xs :: post))) c o u := fun c o u ⟨h1, h2⟩ => by
  have hc : c ≠ v := fun e => by rw [e, hv] at h2; cases h2
  refine ⟨h1, ?_⟩
  rw [zq7 _ _ hc]
  unfold del
  split
  ·rfl
  ·exact h2
 have hC2 : ∀ c o u, Cw w (del st b) c o u → Cw w (upd (del st b) v (.cells (pre ++ .sl esz false xs :: post))) c o u := fun c o u ⟨h1, h2⟩ => by
  have hc : c ≠ v := fun e => by
   rw [e] at h2
   unfold del at h2
   rw [if_neg ne, hv] at h2; cases h2
  exact ⟨h1, by rw [zq7 _ _ hc]; exact h2⟩
 refine ⟨fun c o hc => ?_, ⟨rfl, rfl, rfl, Nat.le_refl _, fun c hc hn => ⟨rfl, ?_⟩⟩, fun vals h => h.mono hC⟩
 ·by_cases hcv : c = v
  ·subst hcv
   rw [zq2] at hc
   cases hc
   obtain ⟨arr, t, r1, r2⟩ := hg c _ hv
   exact ⟨arr, t, r1, RCs.swap hC (fun us hu => RX.mono hC2 _ _ (rx_freeze hg hb hn hu)) pre post _ r2⟩
  ·rw [zq7 _ _ hcv] at hc
   unfold del at hc
   split at hc
   ·cases hc
   ·exact (hg c o hc).mono hC rfl
 ·have hcv : c ≠ v := fun e => by rw [e, hv] at hn; cases hn
  rw [zq7 _ _ hcv]
  unfold del
  split
  ·rfl
  ·exact hn
theorem rx_empty {C : Nat → Nat → Value → Prop} {e e' : Nat} {f f' : Bool} {us : List Value} (h : RX C (.sl e f []) us) (hf : f' = true → f = true) : RX C (.sl e' f' []) us := by
 simp only [RX] at h ⊢
 obtain ⟨a, n, cap, rfl, h3, h4, h5, h6, h7, h8⟩ := h
 exact ⟨_, _, _, rfl, h3, h4, h5, (fun h => h6 (hf h)), (fun x hx => by cases hx), .inl trivial⟩
theorem Conv.cellTo {ls : List PV} {st : St} {v : Nat} {pre post : List PV} {p p' : PV} (hv : st v = some (.cells (pre ++ p :: post))) (hp : ∀ (C : Nat → Nat → Value → Prop) us, RX C p us → RX C p' us) :
  Conv ls st ls (upd st v (.cells (pre ++ p' :: post))) := fun w hg => by
 have hC : ∀ c o u, Cw w st c o u → Cw w (upd st v (.cells (pre ++ p' :: post))) c o u := fun c o u ⟨h1, h2⟩ => by
  have hc : c ≠ v := fun e => by rw [e, hv] at h2; cases h2
  exact ⟨h1, by rw [zq7 _ _ hc]; exact h2⟩
 refine ⟨fun c o hc => ?_, ⟨rfl, rfl, rfl, Nat.le_refl _, fun c hc hn => ⟨rfl, ?_⟩⟩, fun vals h => h.mono hC⟩
 ·by_cases hcv : c = v
  ·subst hcv
   rw [zq2] at hc
   cases hc
   obtain ⟨arr, t, r1, r2⟩ := hg c _ hv
   exact ⟨arr, t, r1, RCs.swap hC (fun us hu => RX.mono hC _ _ (hp _ us hu)) pre post _ r2⟩
  ·rw [zq7 _ _ hcv] at hc
   exact (hg c o hc).mono hC rfl
 ·have hcv : c ≠ v := fun e => by rw [e, hv] at hn; cases hn
  rw [zq7 _ _ hcv]; exact hn
theorem Grow.cell {ls : List PV} {base s : St} {v esz : Nat} {acc : List PV} {p : PV} {pre post : List PV} (h : Grow base esz acc p s) (hv : base v = some (.cells (pre ++ p :: post))) :
  Conv ls s ls (upd base v (.cells (pre ++ .sl esz false acc :: post))) := by
 rcases h with ⟨rfl, ⟨e, rfl⟩, rfl⟩ | ⟨b, cap, rfl, hcap, hn, rfl⟩
 ·exact Conv.cellTo hv fun C us hu => rx_empty hu (fun h => by cases h)
 ·have hne : v ≠ b := fun e => by rw [e, hn] at hv; cases hv
  have hv' : upd base b (.vec esz acc cap) v = some (.cells (pre ++ .vsl b acc.length cap :: post)) := by rw [zq7 _ _ hne]; exact hv
  have := Conv.cell (ls := ls) hv' (zq2 _ _ _) rfl
  rw [del_upd _ _ _ hn] at this
  exact this
end Go.H
namespace Go.H
open Go
set_option linter.unusedVariables false
set_option linter.unusedSimpArgs false

def Pf.le (B : Nat) : Pf → Prop
 | .hyp n => n ≤ B
 | .andI _ _ p q => p.le B ∧ q.le B
 | .fst _ _ p => p.le B
 | .snd _ _ p => p.le B
 | .funI _ _ p => p.le B
 | .use _ _ p q => p.le B ∧ q.le B
 | .botE _ p => p.le B
end Go.H
namespace Go.H
open Go
set_option linter.unusedVariables false
set_option linter.unusedSimpArgs false

def tyOf (cs : List Ty) (w : List UInt8) : Option Tr := match cs with
 | [] => none
 | x :: r => if x.name = w then some x.type else tyOf r w
def Tr.hole (n : Int) (ks : List Tr) : Tr := .mk 7 n [] ks
mutual
inductive LT (cs : List Ty) (hs : List Tr) : List Tr → Tr → Tr → Prop
 | lam {ctx : List Tr} {t x y : Tr} : LT cs hs (x :: ctx) t y → LT cs hs ctx (.lam t) (.arrow x y)
 | var {ctx : List Tr} {n : Nat} {ks : List Tr} {b : Tr} {s : List UInt8} : ctx[n]? = some b → LS cs hs ctx ks b (.base s) → LT cs hs ctx (.var (n : Int) ks) (.base s)
 | hole {ctx : List Tr} {n : Nat} {ks : List Tr} {b : Tr} {s : List UInt8} : hs[n]? = some b → LS cs hs ctx ks b (.base s) → LT cs hs ctx (.hole (n : Int) ks) (.base s)
 | const {ctx : List Tr} {w : List UInt8} {ks : List Tr} {b : Tr} {s : List UInt8} : tyOf cs w = some b → LS cs hs ctx ks b (.base s) → LT cs hs ctx (.const w ks) (.base s)
inductive LS (cs : List Ty) (hs : List Tr) : List Tr → List Tr → Tr → Tr → Prop
 | nil {ctx : List Tr} {a : Tr} : LS cs hs ctx [] a a
 | cons {ctx : List Tr} {k x y c : Tr} {ks : List Tr} : LT cs hs ctx k x → LS cs hs ctx ks y c → LS cs hs ctx (k :: ks) (.arrow x y) c
end
section
variable {cs : List Ty} {hs : List Tr}
theorem lift_varK {f b : Int} (hf : 0 ≤ f ∧ f ≤ 1000000000) (n : Int) (ks : List Tr) : (Tr.var n ks).lift f b = .var (if f ≤ n then W (n + b) else n) (ks.map fun x => x.lift f b) := by
 rw [Tr.lift_eq]
 simp only [Tr.var, Tr.kind, Tr.n, Tr.name, Tr.kids, Tr.under]
 simp [W_in (show -9223372036854775808 ≤ f ∧ f ≤ 9223372036854775807 by omega), zq8u]
theorem lift_holeK {f b : Int} (hf : 0 ≤ f ∧ f ≤ 1000000000) (n : Int) (ks : List Tr) : (Tr.hole n ks).lift f b = .hole n (ks.map fun x => x.lift f b) := by
 rw [Tr.lift_eq]
 simp only [Tr.hole, Tr.kind, Tr.n, Tr.name, Tr.kids, Tr.under]
 simp [W_in (show -9223372036854775808 ≤ f ∧ f ≤ 9223372036854775807 by omega), zq8u]
theorem size_varK (n : Int) (ks : List Tr) : (Tr.var n ks).size = 1 + Tr.sizes ks := by rw [Tr.size_kids]; rfl
theorem size_holeK (n : Int) (ks : List Tr) : (Tr.hole n ks).size = 1 + Tr.sizes ks := by rw [Tr.size_kids]; rfl
theorem zqk9 (x : Tr) (r : List Tr) : Tr.sizes (x :: r) = x.size + Tr.sizes r := by simp [Tr.sizes]
theorem getK_app {α : Type} {D P G : List α} {n : Nat} {b : α} (h : (D ++ G)[n]? = some b) : (D ++ (P ++ G))[if D.length ≤ n then n + P.length else n]? = some b := by
 by_cases hn : D.length ≤ n
 ·rw [if_pos hn]
  rw [List.getElem?_append_right hn] at h
  rw [List.getElem?_append_right (by omega), List.getElem?_append_right (by omega), show n + P.length - D.length - P.length = n - D.length by omega]
  exact h
 ·rw [if_neg hn]
  rw [List.getElem?_append_left (by omega)] at h
  rw [List.getElem?_append_left (by omega)]
  exact h
mutual
theorem LT.lift' {ctx : List Tr} {t a : Tr} (h : LT cs hs ctx t a) (D P G : List Tr) (hc : ctx = D ++ G) (hb : D.length + P.length + G.length + t.size ≤ 1000000000) : LT cs hs (D ++ (P ++ G)) (t.lift D.length P.length) a := by
 match h with
 | .lam (t := t) (x := x) h =>
   rw [size_lam] at hb
   rw [lift_lam (by omega)]
   have := LT.lift' h (x :: D) P G (by rw [hc]; rfl) (by simp only [List.length_cons]; omega)
   simp only [List.length_cons, Int.natCast_add, Int.cast_ofNat_Int] at this
   exact .lam this
 | .var (n := n) (ks := ks) hn hk =>
   rw [size_varK] at hb
   rw [lift_varK (by omega)]
   rw [hc] at hn
   have hlt : n < D.length + G.length := by
    have := (List.getElem?_eq_some_iff.1 hn).1
    simpa using this
   have e : (if (D.length : Int) ≤ (n : Int) then W ((n : Int) + P.length) else (n : Int)) = (((if D.length ≤ n then n + P.length else n) : Nat) : Int) := by
    by_cases hd : D.length ≤ n
    ·rw [if_pos hd, if_pos (by omega), W_in (by omega)]; omega
    ·rw [if_neg hd, if_neg (by omega)]
   rw [e]
   exact .var (getK_app hn) (LS.lift' hk D P G hc (by omega))
 | .hole hn hk =>
   rw [size_holeK] at hb
   rw [lift_holeK (by omega)]
   exact .hole hn (LS.lift' hk D P G hc (by omega))
 | .const hn hk =>
   rw [zq2b] at hb
   rw [zq8w (by omega)]
   exact .const hn (LS.lift' hk D P G hc (by omega))
termination_by structural h
theorem LS.lift' {ctx : List Tr} {ks : List Tr} {b c : Tr} (h : LS cs hs ctx ks b c) (D P G : List Tr) (hc : ctx = D ++ G) (hb : D.length + P.length + G.length + Tr.sizes ks ≤ 1000000000) : LS cs hs (D ++ (P ++ G)) (ks.map fun x => x.lift D.length P.length) b c := by
 match h with
 | .nil => exact .nil
 | .cons h1 h2 =>
   rw [zqk9] at hb
   exact .cons (LT.lift' h1 D P G hc (by omega)) (LS.lift' h2 D P G hc (by omega))
termination_by structural h
end
end
end Go.H
namespace Go.H
open Go
set_option linter.unusedVariables false
set_option linter.unusedSimpArgs false

section
variable {cs : List Ty} {hs : List Tr}
mutual
theorem LT.lamy {ctx : List Tr} {t a : Tr} (h : LT cs hs ctx t a) : t.lamy = true := by
 match h with
 | .lam h => rw [Tr.lamy_eq]; simp [Tr.lam, Tr.kids, Tr.kind, LT.lamy h]
 | .var _ h => rw [Tr.lamy_eq]; simpa [Tr.var, Tr.kids, Tr.kind] using LS.lamy h
 | .hole _ h => rw [Tr.lamy_eq]; simpa [Tr.hole, Tr.kids, Tr.kind] using LS.lamy h
 | .const _ h => rw [Tr.lamy_eq]; simpa [Tr.const, Tr.kids, Tr.kind] using LS.lamy h
termination_by structural h
theorem LS.lamy {ctx : List Tr} {ks : List Tr} {b c : Tr} (h : LS cs hs ctx ks b c) : ∀ x ∈ ks, x.lamy = true := by
 match h with
 | .nil => simp
 | .cons h1 h2 => simp only [List.forall_mem_cons]; exact ⟨LT.lamy h1, LS.lamy h2⟩
termination_by structural h
end
end
end Go.H
namespace Go.H
open Go
set_option linter.unusedVariables false
set_option linter.unusedSimpArgs false

theorem tyGo_of {w : List UInt8} {b : Tr} : ∀ (l : List Ty) (i : Nat), tyOf l w = some b → ∃ j : Nat, j < l.length ∧ tyGo w i l = ((i + j : Nat) : Int) ∧ (l[j]?).map Ty.type = some b
 | [], i, h => by simp [tyOf] at h
 | x :: r, i, h => by
   unfold tyOf at h
   unfold tyGo
   split at h
   ·rename_i hx
    rw [if_pos hx]
    injection h with h
    exact ⟨0, by simp, by simp, by simpa using h⟩
   ·rename_i hx
    rw [if_neg hx]
    obtain ⟨j, h1, h2, h3⟩ := tyGo_of r (i + 1) h
    exact ⟨j + 1, by simpa using h1, by rw [h2]; congr 1; omega, by simpa using h3⟩
section
variable {cs : List Ty} {hs : List Tr}
mutual
theorem LT.typed {ctx : List Tr} {t a : Tr} (h : LT cs hs ctx t a) (N : Nat) (hN : t.size ≤ N) : typedT cs hs N ctx.reverse t a = 0 := by
 match N, h with
 | 0, h => rfl
 | N + 1, .lam (t := u) (x := x) (y := y) h =>
   rw [size_lam] at hN
   unfold typedT
   rw [if_pos (show (Tr.lam u).kind = 4 by rfl), if_pos (show (Tr.arrow x y).kind = 10 by rfl), show (Tr.arrow x y).kid 0 = x by rfl, show (Tr.arrow x y).kid 1 = y by rfl, show (Tr.lam u).kid 0 = u by rfl, ← List.reverse_cons]
   exact LT.typed h N (by omega)
 | N + 1, .var (n := n) (ks := ks) (b := b) (s := s) hn hk =>
   rw [size_varK] at hN
   have hlt := (List.getElem?_eq_some_iff.1 hn).1
   unfold typedT
   have hh : zqbk cs ctx.reverse hs (.var (n : Int) ks) = .inr b := by
    unfold zqbk
    rw [if_pos (show (Tr.var (n : Int) ks).kind = 5 by rfl), show (Tr.var (n : Int) ks).n = n by rfl, List.length_reverse, if_neg (by omega), show ((ctx.length : Int) - 1 - n).toNat = ctx.length - 1 - n by omega, List.getElem?_reverse (by omega),
     show ctx.length - 1 - (ctx.length - 1 - n) = n by omega, hn]
    rfl
   rw [if_neg (show ¬ (Tr.var (n : Int) ks).kind = 4 by simp [Tr.var, Tr.kind]), if_neg (show ¬ (Tr.base s).kind = 10 by simp [Tr.base, Tr.kind]), hh]
   simp only
   rw [show (Tr.var (n : Int) ks).kids = ks by rfl, LS.typed hk N (by omega)]
   simp [endType, Tr.base, Tr.kind]
 | N + 1, .hole (n := n) (ks := ks) (b := b) (s := s) hn hk =>
   rw [size_holeK] at hN
   have hlt := (List.getElem?_eq_some_iff.1 hn).1
   unfold typedT
   have hh : zqbk cs ctx.reverse hs (.hole (n : Int) ks) = .inr b := by
    unfold zqbk
    rw [if_neg (show ¬ (Tr.hole (n : Int) ks).kind = 5 by simp [Tr.hole, Tr.kind]), if_pos (show (Tr.hole (n : Int) ks).kind = 7 by rfl), show (Tr.hole (n : Int) ks).n = n by rfl, if_neg (by omega), show ((n : Int)).toNat = n by omega, hn]
    rfl
   rw [if_neg (show ¬ (Tr.hole (n : Int) ks).kind = 4 by simp [Tr.hole, Tr.kind]), if_neg (show ¬ (Tr.base s).kind = 10 by simp [Tr.base, Tr.kind]), hh]
   simp only
   rw [show (Tr.hole (n : Int) ks).kids = ks by rfl, LS.typed hk N (by omega)]
   simp [endType, Tr.base, Tr.kind]
 | N + 1, .const (w := w) (ks := ks) (b := b) (s := s) hn hk =>
   rw [zq2b] at hN
   obtain ⟨j, h1, h2, h3⟩ := tyGo_of cs 0 hn
   unfold typedT
   have hh : zqbk cs ctx.reverse hs (.const w ks) = .inr b := by
    unfold zqbk
    rw [if_neg (show ¬ (Tr.const w ks).kind = 5 by simp [Tr.const, Tr.kind]), if_neg (show ¬ (Tr.const w ks).kind = 7 by simp [Tr.const, Tr.kind]), show (Tr.const w ks).name = w by rfl, show tyAt cs w = (j : Int) by unfold tyAt; rw [h2]; simp,
     if_neg (by omega), show ((j : Int)).toNat = j by omega, h3]
    rfl
   rw [if_neg (show ¬ (Tr.const w ks).kind = 4 by simp [Tr.const, Tr.kind]), if_neg (show ¬ (Tr.base s).kind = 10 by simp [Tr.base, Tr.kind]), hh]
   simp only
   rw [show (Tr.const w ks).kids = ks by rfl, LS.typed hk N (by omega)]
   simp [endType, Tr.base, Tr.kind]
termination_by structural h
theorem LS.typed {ctx : List Tr} {ks : List Tr} {b c : Tr} (h : LS cs hs ctx ks b c) (N : Nat) (hN : Tr.sizes ks ≤ N) : zqmp (typedT cs hs N ctx.reverse) ks b = .inr c := by
 match h with
 | .nil => rfl
 | .cons (k := k) (x := x) (y := y) (ks := ks) h1 h2 =>
   rw [zqk9] at hN
   unfold zqmp
   rw [if_pos (show (Tr.arrow x y).kind = 10 by rfl), show (Tr.arrow x y).kid 0 = x by rfl, show (Tr.arrow x y).kid 1 = y by rfl, if_pos (LT.typed h1 N (by omega))]
   exact LS.typed h2 N (by omega)
termination_by structural h
end
end
end Go.H
namespace Go.H
open Go
set_option linter.unusedVariables false
set_option linter.unusedSimpArgs false

inductive Nice : Nat → List UInt8 → Tr → Prop
 | base {s : List UInt8} : (s = sNat ∨ s = sO) → Nice 0 s (.base s)
 | arr {j k : Nat} {s' s : List UInt8} {x y : Tr} : Nice j s' x → Nice k s y → k + 1 ≤ 4 → Nice (k + 1) s (.arrow x y)
structure Hd where
 kd : Int
 n : Int
 nm : List UInt8
 ty : Tr
inductive HeadOf (cs : List Ty) (hs ctx : List Tr) : Hd → Prop
 | var {n : Nat} {b : Tr} : ctx[n]? = some b → HeadOf cs hs ctx ⟨5, n, [], b⟩
 | hole {n : Nat} {b : Tr} : hs[n]? = some b → HeadOf cs hs ctx ⟨7, n, [], b⟩
 | const {w : List UInt8} {b : Tr} : tyOf cs w = some b → HeadOf cs hs ctx ⟨6, 0, w, b⟩
def GivesV (st : St) (Q : PV → Prop) : Res → St → Prop := fun r s => s = st ∧ ∃ p, r = .ret p ∧ Q p
theorem callK_givesV {P : Program} {g : FuncId} {us : List PV} {st : St} {Q : PV → Prop} {K Kp : PV → St → Prop} (hc : zq5 P g us st (GivesV st Q)) (hk : ∀ p, Q p → K p st) : zqb P g us st K Kp := by
 refine zq15 hc (fun p s h => ?_) (fun p s h => ?_)
 ·obtain ⟨rfl, q, h, hq⟩ := h
  cases h
  exact hk _ hq
 ·obtain ⟨_, _, h, _⟩ := h
  cases h

def Two (s0 : St) (xs ys : List PV) (p1 p2 : PV) (s : St) : Prop := ∃ s1, Grow s0 4 xs p1 s1 ∧ Grow s1 4 ys p2 s
theorem hFix_cv {F : List PV → St → (List PV → St → Prop) → Prop} {ls ls' : List PV} {st st' : St} (hc : Conv ls st ls' st') (h : hFix F ls' st') : hFix F ls st := fun X h1 h2 => h2 _ _ _ _ hc (h X h1 h2)
theorem hFix_nat {F : List PV → St → (List PV → St → Prop) → Prop} (I : Nat → List PV → St → Prop) (step : ∀ n ls st, I n ls st → (∀ m ls' st', m < n → I m ls' st' → hFix F ls' st') → F ls st (hFix F)) : ∀ n ls st, I n ls st → hFix F ls st := by
 intro n
 induction n using Nat.strongRecOn with
 | _ n ih => exact fun ls st h => zq3y (step n ls st h fun m ls' st' hm hi => ih m hm ls' st' hi)

section
variable {w s : St} {v : Nat} {h : Hd} {ks : List Tr} {p : PV}
end
end Go.H
namespace Go.H
open Go
set_option linter.unusedVariables false
set_option linter.unusedSimpArgs false

theorem Prv.size {G : List Fm} {p : Pf} {f : Fm} (h : Prv G p f) (hG : ∀ x ∈ G, x.size ≤ 150) (hp : p.count ≤ 150) : f.size ≤ 150 := by
 cases h with
 | hyp h => exact hG _ (List.mem_of_getElem? h)
 | _ => simp only [Pf.count] at hp; first | (simp only [Fm.size]; omega) | omega
theorem zq12 : ∀ f : Fm, Flat (fmT f) := by
 intro f
 induction f with
 | atom n => exact Flat.of _ (fun h => by simp [fmT, Tr.const, Tr.kind] at h) (fun x hx => by simp [fmT, Tr.const, Tr.kids] at hx)
 | bot => exact Flat.of _ (fun h => by simp [fmT, Tr.const, Tr.kind] at h) (fun x hx => by simp [fmT, Tr.const, Tr.kids] at hx)
 | and a b ia ib => exact Flat.of _ (fun h => by simp [fmT, Tr.const, Tr.kind] at h) (fun x hx => by simp [fmT, Tr.const, Tr.kids] at hx; rcases hx with rfl | rfl <;> assumption)
 | imp a b ia ib => exact Flat.of _ (fun h => by simp [fmT, Tr.const, Tr.kind] at h) (fun x hx => by simp [fmT, Tr.const, Tr.kids] at hx; rcases hx with rfl | rfl <;> assumption)
theorem pfT_flat : ∀ p : Pf, Flat (pfT p) := by
 intro p
 induction p with
 | hyp n => exact Flat.of _ (fun _ => rfl) (fun x hx => by simp [pfT, Tr.var, Tr.kids] at hx)
 | andI a b p q i1 i2 => exact zq5j (by simp only [List.forall_mem_cons]; exact ⟨zq12 a, zq12 b, i1, i2, by simp⟩)
 | fst a b p i1 => exact zq5j (by simp only [List.forall_mem_cons]; exact ⟨zq12 a, zq12 b, i1, by simp⟩)
 | snd a b p i1 => exact zq5j (by simp only [List.forall_mem_cons]; exact ⟨zq12 a, zq12 b, i1, by simp⟩)
 | funI a b p i1 => exact zq5j (by simp only [List.forall_mem_cons]; exact ⟨zq12 a, zq12 b, flat_lam i1, by simp⟩)
 | use a b p q i1 i2 => exact zq5j (by simp only [List.forall_mem_cons]; exact ⟨zq12 a, zq12 b, i1, i2, by simp⟩)
 | botE a p i1 => exact zq5j (by simp only [List.forall_mem_cons]; exact ⟨zq12 a, i1, by simp⟩)
theorem pfT_term : ∀ p : Pf, p.ok = true → (pfT p).isTerm false = true := by
 intro p
 induction p with
 | hyp n => intro h; simp only [Pf.ok, decide_eq_true_eq] at h; exact term_x (i := (n : Int)) (by omega) (by omega)
 | andI a b p q i1 i2 =>
   intro h
   simp only [Pf.ok, Bool.and_eq_true] at h
   refine zq3c (by rfl) ?_
   simp only [List.forall_mem_cons]
   exact ⟨zq4g a h.1.1.1, zq4g b h.1.1.2, i1 h.1.2, i2 h.2, by simp⟩
 | fst a b p i1 =>
   intro h
   simp only [Pf.ok, Bool.and_eq_true] at h
   refine zq3c (by rfl) ?_
   simp only [List.forall_mem_cons]
   exact ⟨zq4g a h.1.1, zq4g b h.1.2, i1 h.2, by simp⟩
 | snd a b p i1 =>
   intro h
   simp only [Pf.ok, Bool.and_eq_true] at h
   refine zq3c (by rfl) ?_
   simp only [List.forall_mem_cons]
   exact ⟨zq4g a h.1.1, zq4g b h.1.2, i1 h.2, by simp⟩
 | funI a b p i1 =>
   intro h
   simp only [Pf.ok, Bool.and_eq_true] at h
   refine zq3c (by rfl) ?_
   simp only [List.forall_mem_cons]
   exact ⟨zq4g a h.1.1, zq4g b h.1.2, term_lam' (i1 h.2), by simp⟩
 | use a b p q i1 i2 =>
   intro h
   simp only [Pf.ok, Bool.and_eq_true] at h
   refine zq3c (by rfl) ?_
   simp only [List.forall_mem_cons]
   exact ⟨zq4g a h.1.1.1, zq4g b h.1.1.2, i1 h.1.2, i2 h.2, by simp⟩
 | botE a p i1 =>
   intro h
   simp only [Pf.ok, Bool.and_eq_true] at h
   refine zq3c (by rfl) ?_
   simp only [List.forall_mem_cons]
   exact ⟨zq4g a h.1, i1 h.2, by simp⟩
theorem pfT_big {p : Pf} (hp : p.ok = true) : (pfT p).big = decide (150 < (pfT p).size) := by
 unfold Tr.big
 rw [term_high _ (pfT_term p hp)]
 unfold Tr.small
 by_cases h : (pfT p).size ≤ 150
 ·rw [decide_eq_true h, decide_eq_false (by omega)]; rfl
 ·rw [decide_eq_false h, decide_eq_true (by omega)]; rfl
end Go.H
namespace Go.H
open Go
set_option linter.unusedVariables false
set_option linter.unusedSimpArgs false

def pfF (a : Tr) : Tr := .fm wPf [a]
def twoT (w : List UInt8) (a b : Tr) : Tr := .const w [a, b]
def judg (f : Fm) : Tr := pfF (fmT f)
def ctxJ (G : List Fm) : List Tr := G.reverse.map judg
section
variable {n : Int} (h : 0 ≤ n ∧ n ≤ 1000000000)
include h
theorem zq2l (m t : Tr) : sbT m (pfF t) n = pfF (sbT m t n) := by unfold pfF; rw [sbT_fm h]; rfl
theorem zqu (m : Tr) (w : List UInt8) (a b : Tr) : sbT m (twoT w a b) n = twoT w (sbT m a n) (sbT m b n) := by unfold twoT; rw [zqc9 h]; rfl
end
theorem hit0 (a : Fm) : sbT (fmT a) (xT 0) 0 = fmT a := (sb_hit (fmT a) 0).trans (zq84 (by omega) _ a)
theorem hit1 (a : Fm) : sbT (fmT a) (xT 1) (0 + 1) = fmT a := (sb_hit (fmT a) 1).trans (zq84 (by omega) _ a)
theorem hit2 (a : Fm) : sbT (fmT a) (xT 2) (0 + 1 + 1) = fmT a := (sb_hit (fmT a) 2).trans (zq84 (by omega) _ a)
theorem hit3 (a : Fm) : sbT (fmT a) (xT 3) (0 + 1 + 1 + 1) = fmT a := (sb_hit (fmT a) 3).trans (zq84 (by omega) _ a)
theorem low0 (m : Tr) : sbT m (xT 0) (0 + 1) = xT 0 := sb_low m (by omega)
theorem low1 (m : Tr) : sbT m (xT 1) (0 + 1 + 1) = xT 1 := sb_low m (by omega)
theorem low2 (m : Tr) : sbT m (xT 2) (0 + 1 + 1 + 1) = xT 2 := sb_low m (by omega)
theorem zq18 {t : Tr} (h : Flat t) : Flat (pfF t) := flat_fm (by simp [h])
theorem zq4h {w : List UInt8} {a b : Tr} (ha : Flat a) (hb : Flat b) : Flat (twoT w a b) := zq5j (by simp [ha, hb])
theorem zq3o (t : Tr) : (pfF t).size = 1 + t.size := by unfold pfF; rw [size_fm]; simp [Tr.sizes]
theorem zq2j (w : List UInt8) (a b : Tr) : (twoT w a b).size = 1 + a.size + b.size := by unfold twoT; rw [zq2b]; simp [Tr.sizes]; omega
theorem zqbj (t : Tr) : (pfF t).kind ≠ 2 := by simp [pfF, Tr.fm, Tr.kind]
theorem judg_lift (f : Fm) (b : Int) : (judg f).lift 0 b = judg f := by
 unfold judg pfF Tr.fm
 rw [Tr.lift_eq]
 have w0 : W 0 = 0 := W_in (by omega)
 simp [Tr.kind, Tr.n, Tr.name, Tr.kids, Tr.under, w0, zq84 (show (0 : Int) ≤ 0 ∧ (0 : Int) ≤ 1000000000 by omega)]
theorem zqgy (f : Fm) : (judg f).size = 1 + f.size := by unfold judg; rw [zq3o, zq1b]
theorem zq3r {sig : List Dc} {f : Tr → Tr → Int → Int → (Fz ⊕ Unit) × Int} {ctx : List Tr} {w : List UInt8} {ks : List Tr} {A c : Tr} {p s : Int} (hd : zq2p sig w false = some A) (hc : c.kind = 3) (ha : ∀ p', Out (zqh0 f ks A p' s) c s) :
  Out (zq97 f sig ctx (.const w ks) p s) c s := by
 unfold zq97
 have h1 : headC sig ctx (.const w ks) = .inr A := by
  unfold headC
  rw [if_neg (show ¬ (Tr.const w ks).kind = 5 by simp [Tr.const, Tr.kind]), if_pos (show (Tr.const w ks).kind = 6 by rfl), show (Tr.const w ks).name = w by rfl, hd]
 rw [h1, show (Tr.const w ks).kids = ks by rfl]
 simp only
 rcases ha (p + 1) with h | ⟨q, h⟩
 ·rw [h]; simp only; rw [if_pos hc]; exact .inl rfl
 ·rw [h]; exact .inr ⟨q, rfl⟩
theorem zq80 (p : Pf) : (pfT p).kind ≠ 4 := by cases p <;> simp [pfT, Tr.var, Tr.const, Tr.kind]
theorem judg_kind (f : Fm) : (judg f).kind = 3 := rfl
theorem found_proof {G : List Fm} {p : Pf} {f : Fm} (h : Prv G p f) : p.ok = true → p.count ≤ 100000 → ∀ (M : Nat) (q s : Int), Out (zq97 (zqab zq4c M (ctxJ G)) zq4c (ctxJ G) (pfT p) q s) (judg f) s := by
 induction h with
 | @hyp G n f hn =>
   intro _ _ M q s
   have hlt := (List.getElem?_eq_some_iff.1 hn).1
   have hlen : (ctxJ G).length = G.length := by simp [ctxJ]
   unfold zq97
   have e1 : ((ctxJ G)[(((ctxJ G).length : Int) - 1 - (pfT (.hyp n)).n).toNat]?).getD zq8l = judg f := by
    rw [hlen, show ((G.length : Int) - 1 - (pfT (.hyp n)).n).toNat = G.length - 1 - n by show ((G.length : Int) - 1 - (n : Int)).toNat = _; omega]
    unfold ctxJ
    rw [List.getElem?_map, List.getElem?_reverse (by omega), show G.length - 1 - (G.length - 1 - n) = n by omega, hn]
    rfl
   unfold headC
   rw [if_pos (by rfl), e1, judg_lift, if_neg (by rw [hlen]; show ¬ (n : Int) ≥ (G.length : Int); omega)]
   cases hb : (judg f).big with
   | true => rw [if_pos rfl]; exact .inr ⟨q, rfl⟩
   | false => rw [if_neg (by decide)]; exact .inl rfl
 | @andI G a b p q _ _ i1 i2 =>
   intro ho hc M pos s
   simp only [Pf.ok, Bool.and_eq_true] at ho
   simp only [Pf.count] at hc
   refine zq3r (A := (.pi oF (.pi oF (.pi (pfF (xT 1)) (.pi (pfF (xT 1)) (pfF (twoT wAnd (xT 3) (xT 2)))))))) (by kernel_rfl) rfl fun p' => ?_
   refine zq2k (.inl (zq3g ho.1.1.1 _ _ _)) (zq2h zqi1 (zq2h (zq18 (zq42 1)) (zq2h (zq18 (zq42 1)) (zq18 (zq4h (zq42 3) (zq42 2)))))) (by simp only [zq3d, zq3o, zq2j, zq7y, zq5c, zq1b, Fm.size]; omega) fun p0 => ?_
   rw [show sbT (fmT a) (.pi oF (.pi (pfF (xT 1)) (.pi (pfF (xT 1)) (pfF (twoT wAnd (xT 3) (xT 2)))))) 0 = (.pi oF (.pi (pfF (fmT a)) (.pi (pfF (xT 1)) (pfF (twoT wAnd (fmT a) (xT 2)))))) by simp only [zqt (show (0 : Int) ≤ 0 ∧ (0 : Int) ≤ 1000000000 by omega), zq2l (show (0 : Int) ≤ 0 ∧ (0 : Int) ≤ 1000000000 by omega), zqu (show (0 : Int) ≤ 0 ∧ (0 : Int) ≤ 1000000000 by omega), sb_o _ (show (0 : Int) ≤ 0 ∧ (0 : Int) ≤ 1000000000 by omega), zqq (show (0 : Int) ≤ 0 ∧ (0 : Int) ≤ 1000000000 by omega), zqt (show (0 : Int) ≤ (0 + 1) ∧ ((0 + 1) : Int) ≤ 1000000000 by omega), zq2l (show (0 : Int) ≤ (0 + 1) ∧ ((0 + 1) : Int) ≤ 1000000000 by omega), zqu (show (0 : Int) ≤ (0 + 1) ∧ ((0 + 1) : Int) ≤ 1000000000 by omega), sb_o _ (show (0 : Int) ≤ (0 + 1) ∧ ((0 + 1) : Int) ≤ 1000000000 by omega), zqq (show (0 : Int) ≤ (0 + 1) ∧ ((0 + 1) : Int) ≤ 1000000000 by omega), zqt (show (0 : Int) ≤ (0 + 1 + 1) ∧ ((0 + 1 + 1) : Int) ≤ 1000000000 by omega), zq2l (show (0 : Int) ≤ (0 + 1 + 1) ∧ ((0 + 1 + 1) : Int) ≤ 1000000000 by omega), zqu (show (0 : Int) ≤ (0 + 1 + 1) ∧ ((0 + 1 + 1) : Int) ≤ 1000000000 by omega), sb_o _ (show (0 : Int) ≤ (0 + 1 + 1) ∧ ((0 + 1 + 1) : Int) ≤ 1000000000 by omega), zqq (show (0 : Int) ≤ (0 + 1 + 1) ∧ ((0 + 1 + 1) : Int) ≤ 1000000000 by omega), zqt (show (0 : Int) ≤ (0 + 1 + 1 + 1) ∧ ((0 + 1 + 1 + 1) : Int) ≤ 1000000000 by omega), zq2l (show (0 : Int) ≤ (0 + 1 + 1 + 1) ∧ ((0 + 1 + 1 + 1) : Int) ≤ 1000000000 by omega), zqu (show (0 : Int) ≤ (0 + 1 + 1 + 1) ∧ ((0 + 1 + 1 + 1) : Int) ≤ 1000000000 by omega), sb_o _ (show (0 : Int) ≤ (0 + 1 + 1 + 1) ∧ ((0 + 1 + 1 + 1) : Int) ≤ 1000000000 by omega), zqq (show (0 : Int) ≤ (0 + 1 + 1 + 1) ∧ ((0 + 1 + 1 + 1) : Int) ≤ 1000000000 by omega), hit0, hit1, hit2, hit3, low0, low1, low2]]
   refine zq2k (.inl (zq3g ho.1.1.2 _ _ _)) (zq2h (zq18 (zq12 a)) (zq2h (zq18 (zq42 1)) (zq18 (zq4h (zq12 a) (zq42 2))))) (by simp only [zq3d, zq3o, zq2j, zq7y, zq5c, zq1b, Fm.size]; omega) fun p1 => ?_
   rw [show sbT (fmT b) (.pi (pfF (fmT a)) (.pi (pfF (xT 1)) (pfF (twoT wAnd (fmT a) (xT 2))))) 0 = (.pi (pfF (fmT a)) (.pi (pfF (fmT b)) (pfF (twoT wAnd (fmT a) (fmT b))))) by simp only [zqt (show (0 : Int) ≤ 0 ∧ (0 : Int) ≤ 1000000000 by omega), zq2l (show (0 : Int) ≤ 0 ∧ (0 : Int) ≤ 1000000000 by omega), zqu (show (0 : Int) ≤ 0 ∧ (0 : Int) ≤ 1000000000 by omega), sb_o _ (show (0 : Int) ≤ 0 ∧ (0 : Int) ≤ 1000000000 by omega), zqq (show (0 : Int) ≤ 0 ∧ (0 : Int) ≤ 1000000000 by omega), zqt (show (0 : Int) ≤ (0 + 1) ∧ ((0 + 1) : Int) ≤ 1000000000 by omega), zq2l (show (0 : Int) ≤ (0 + 1) ∧ ((0 + 1) : Int) ≤ 1000000000 by omega), zqu (show (0 : Int) ≤ (0 + 1) ∧ ((0 + 1) : Int) ≤ 1000000000 by omega), sb_o _ (show (0 : Int) ≤ (0 + 1) ∧ ((0 + 1) : Int) ≤ 1000000000 by omega), zqq (show (0 : Int) ≤ (0 + 1) ∧ ((0 + 1) : Int) ≤ 1000000000 by omega), zqt (show (0 : Int) ≤ (0 + 1 + 1) ∧ ((0 + 1 + 1) : Int) ≤ 1000000000 by omega), zq2l (show (0 : Int) ≤ (0 + 1 + 1) ∧ ((0 + 1 + 1) : Int) ≤ 1000000000 by omega), zqu (show (0 : Int) ≤ (0 + 1 + 1) ∧ ((0 + 1 + 1) : Int) ≤ 1000000000 by omega), sb_o _ (show (0 : Int) ≤ (0 + 1 + 1) ∧ ((0 + 1 + 1) : Int) ≤ 1000000000 by omega), zqq (show (0 : Int) ≤ (0 + 1 + 1) ∧ ((0 + 1 + 1) : Int) ≤ 1000000000 by omega), zqt (show (0 : Int) ≤ (0 + 1 + 1 + 1) ∧ ((0 + 1 + 1 + 1) : Int) ≤ 1000000000 by omega), zq2l (show (0 : Int) ≤ (0 + 1 + 1 + 1) ∧ ((0 + 1 + 1 + 1) : Int) ≤ 1000000000 by omega), zqu (show (0 : Int) ≤ (0 + 1 + 1 + 1) ∧ ((0 + 1 + 1 + 1) : Int) ≤ 1000000000 by omega), sb_o _ (show (0 : Int) ≤ (0 + 1 + 1 + 1) ∧ ((0 + 1 + 1 + 1) : Int) ≤ 1000000000 by omega), zqq (show (0 : Int) ≤ (0 + 1 + 1 + 1) ∧ ((0 + 1 + 1 + 1) : Int) ≤ 1000000000 by omega), hit0, hit1, hit2, hit3, low0, low1, low2]]
   refine zq2k (zq30 (zq80 p) (zqbj _) fun m' => i1 ho.1.2 (by omega) m' _ _) (zq2h (zq18 (zq12 b)) (zq18 (zq4h (zq12 a) (zq12 b)))) (by simp only [zq3d, zq3o, zq2j, zq7y, zq5c, zq1b, Fm.size]; omega) fun p2 => ?_
   rw [show sbT (pfT p) (.pi (pfF (fmT b)) (pfF (twoT wAnd (fmT a) (fmT b)))) 0 = (.pi (pfF (fmT b)) (pfF (twoT wAnd (fmT a) (fmT b)))) by simp only [zqt (show (0 : Int) ≤ 0 ∧ (0 : Int) ≤ 1000000000 by omega), zq2l (show (0 : Int) ≤ 0 ∧ (0 : Int) ≤ 1000000000 by omega), zqu (show (0 : Int) ≤ 0 ∧ (0 : Int) ≤ 1000000000 by omega), sb_o _ (show (0 : Int) ≤ 0 ∧ (0 : Int) ≤ 1000000000 by omega), zqq (show (0 : Int) ≤ 0 ∧ (0 : Int) ≤ 1000000000 by omega), zqt (show (0 : Int) ≤ (0 + 1) ∧ ((0 + 1) : Int) ≤ 1000000000 by omega), zq2l (show (0 : Int) ≤ (0 + 1) ∧ ((0 + 1) : Int) ≤ 1000000000 by omega), zqu (show (0 : Int) ≤ (0 + 1) ∧ ((0 + 1) : Int) ≤ 1000000000 by omega), sb_o _ (show (0 : Int) ≤ (0 + 1) ∧ ((0 + 1) : Int) ≤ 1000000000 by omega), zqq (show (0 : Int) ≤ (0 + 1) ∧ ((0 + 1) : Int) ≤ 1000000000 by omega), zqt (show (0 : Int) ≤ (0 + 1 + 1) ∧ ((0 + 1 + 1) : Int) ≤ 1000000000 by omega), zq2l (show (0 : Int) ≤ (0 + 1 + 1) ∧ ((0 + 1 + 1) : Int) ≤ 1000000000 by omega), zqu (show (0 : Int) ≤ (0 + 1 + 1) ∧ ((0 + 1 + 1) : Int) ≤ 1000000000 by omega), sb_o _ (show (0 : Int) ≤ (0 + 1 + 1) ∧ ((0 + 1 + 1) : Int) ≤ 1000000000 by omega), zqq (show (0 : Int) ≤ (0 + 1 + 1) ∧ ((0 + 1 + 1) : Int) ≤ 1000000000 by omega), zqt (show (0 : Int) ≤ (0 + 1 + 1 + 1) ∧ ((0 + 1 + 1 + 1) : Int) ≤ 1000000000 by omega), zq2l (show (0 : Int) ≤ (0 + 1 + 1 + 1) ∧ ((0 + 1 + 1 + 1) : Int) ≤ 1000000000 by omega), zqu (show (0 : Int) ≤ (0 + 1 + 1 + 1) ∧ ((0 + 1 + 1 + 1) : Int) ≤ 1000000000 by omega), sb_o _ (show (0 : Int) ≤ (0 + 1 + 1 + 1) ∧ ((0 + 1 + 1 + 1) : Int) ≤ 1000000000 by omega), zqq (show (0 : Int) ≤ (0 + 1 + 1 + 1) ∧ ((0 + 1 + 1 + 1) : Int) ≤ 1000000000 by omega), hit0, hit1, hit2, hit3, low0, low1, low2]]
   refine zq2k (zq30 (zq80 q) (zqbj _) fun m' => i2 ho.2 (by omega) m' _ _) (zq18 (zq4h (zq12 a) (zq12 b))) (by simp only [zq3d, zq3o, zq2j, zq7y, zq5c, zq1b, Fm.size]; omega) fun p3 => ?_
   rw [show sbT (pfT q) (pfF (twoT wAnd (fmT a) (fmT b))) 0 = (pfF (twoT wAnd (fmT a) (fmT b))) by simp only [zqt (show (0 : Int) ≤ 0 ∧ (0 : Int) ≤ 1000000000 by omega), zq2l (show (0 : Int) ≤ 0 ∧ (0 : Int) ≤ 1000000000 by omega), zqu (show (0 : Int) ≤ 0 ∧ (0 : Int) ≤ 1000000000 by omega), sb_o _ (show (0 : Int) ≤ 0 ∧ (0 : Int) ≤ 1000000000 by omega), zqq (show (0 : Int) ≤ 0 ∧ (0 : Int) ≤ 1000000000 by omega), zqt (show (0 : Int) ≤ (0 + 1) ∧ ((0 + 1) : Int) ≤ 1000000000 by omega), zq2l (show (0 : Int) ≤ (0 + 1) ∧ ((0 + 1) : Int) ≤ 1000000000 by omega), zqu (show (0 : Int) ≤ (0 + 1) ∧ ((0 + 1) : Int) ≤ 1000000000 by omega), sb_o _ (show (0 : Int) ≤ (0 + 1) ∧ ((0 + 1) : Int) ≤ 1000000000 by omega), zqq (show (0 : Int) ≤ (0 + 1) ∧ ((0 + 1) : Int) ≤ 1000000000 by omega), zqt (show (0 : Int) ≤ (0 + 1 + 1) ∧ ((0 + 1 + 1) : Int) ≤ 1000000000 by omega), zq2l (show (0 : Int) ≤ (0 + 1 + 1) ∧ ((0 + 1 + 1) : Int) ≤ 1000000000 by omega), zqu (show (0 : Int) ≤ (0 + 1 + 1) ∧ ((0 + 1 + 1) : Int) ≤ 1000000000 by omega), sb_o _ (show (0 : Int) ≤ (0 + 1 + 1) ∧ ((0 + 1 + 1) : Int) ≤ 1000000000 by omega), zqq (show (0 : Int) ≤ (0 + 1 + 1) ∧ ((0 + 1 + 1) : Int) ≤ 1000000000 by omega), zqt (show (0 : Int) ≤ (0 + 1 + 1 + 1) ∧ ((0 + 1 + 1 + 1) : Int) ≤ 1000000000 by omega), zq2l (show (0 : Int) ≤ (0 + 1 + 1 + 1) ∧ ((0 + 1 + 1 + 1) : Int) ≤ 1000000000 by omega), zqu (show (0 : Int) ≤ (0 + 1 + 1 + 1) ∧ ((0 + 1 + 1 + 1) : Int) ≤ 1000000000 by omega), sb_o _ (show (0 : Int) ≤ (0 + 1 + 1 + 1) ∧ ((0 + 1 + 1 + 1) : Int) ≤ 1000000000 by omega), zqq (show (0 : Int) ≤ (0 + 1 + 1 + 1) ∧ ((0 + 1 + 1 + 1) : Int) ≤ 1000000000 by omega), hit0, hit1, hit2, hit3, low0, low1, low2]]
   exact zqa2 _ _ _ _
 | @fst G a b p _ i1 =>
   intro ho hc M pos s
   simp only [Pf.ok, Bool.and_eq_true] at ho
   simp only [Pf.count] at hc
   refine zq3r (A := (.pi oF (.pi oF (.pi (pfF (twoT wAnd (xT 1) (xT 0))) (pfF (xT 2)))))) (by kernel_rfl) rfl fun p' => ?_
   refine zq2k (.inl (zq3g ho.1.1 _ _ _)) (zq2h zqi1 (zq2h (zq18 (zq4h (zq42 1) (zq42 0))) (zq18 (zq42 2)))) (by simp only [zq3d, zq3o, zq2j, zq7y, zq5c, zq1b, Fm.size]; omega) fun p0 => ?_
   rw [show sbT (fmT a) (.pi oF (.pi (pfF (twoT wAnd (xT 1) (xT 0))) (pfF (xT 2)))) 0 = (.pi oF (.pi (pfF (twoT wAnd (fmT a) (xT 0))) (pfF (fmT a)))) by simp only [zqt (show (0 : Int) ≤ 0 ∧ (0 : Int) ≤ 1000000000 by omega), zq2l (show (0 : Int) ≤ 0 ∧ (0 : Int) ≤ 1000000000 by omega), zqu (show (0 : Int) ≤ 0 ∧ (0 : Int) ≤ 1000000000 by omega), sb_o _ (show (0 : Int) ≤ 0 ∧ (0 : Int) ≤ 1000000000 by omega), zqq (show (0 : Int) ≤ 0 ∧ (0 : Int) ≤ 1000000000 by omega), zqt (show (0 : Int) ≤ (0 + 1) ∧ ((0 + 1) : Int) ≤ 1000000000 by omega), zq2l (show (0 : Int) ≤ (0 + 1) ∧ ((0 + 1) : Int) ≤ 1000000000 by omega), zqu (show (0 : Int) ≤ (0 + 1) ∧ ((0 + 1) : Int) ≤ 1000000000 by omega), sb_o _ (show (0 : Int) ≤ (0 + 1) ∧ ((0 + 1) : Int) ≤ 1000000000 by omega), zqq (show (0 : Int) ≤ (0 + 1) ∧ ((0 + 1) : Int) ≤ 1000000000 by omega), zqt (show (0 : Int) ≤ (0 + 1 + 1) ∧ ((0 + 1 + 1) : Int) ≤ 1000000000 by omega), zq2l (show (0 : Int) ≤ (0 + 1 + 1) ∧ ((0 + 1 + 1) : Int) ≤ 1000000000 by omega), zqu (show (0 : Int) ≤ (0 + 1 + 1) ∧ ((0 + 1 + 1) : Int) ≤ 1000000000 by omega), sb_o _ (show (0 : Int) ≤ (0 + 1 + 1) ∧ ((0 + 1 + 1) : Int) ≤ 1000000000 by omega), zqq (show (0 : Int) ≤ (0 + 1 + 1) ∧ ((0 + 1 + 1) : Int) ≤ 1000000000 by omega), zqt (show (0 : Int) ≤ (0 + 1 + 1 + 1) ∧ ((0 + 1 + 1 + 1) : Int) ≤ 1000000000 by omega), zq2l (show (0 : Int) ≤ (0 + 1 + 1 + 1) ∧ ((0 + 1 + 1 + 1) : Int) ≤ 1000000000 by omega), zqu (show (0 : Int) ≤ (0 + 1 + 1 + 1) ∧ ((0 + 1 + 1 + 1) : Int) ≤ 1000000000 by omega), sb_o _ (show (0 : Int) ≤ (0 + 1 + 1 + 1) ∧ ((0 + 1 + 1 + 1) : Int) ≤ 1000000000 by omega), zqq (show (0 : Int) ≤ (0 + 1 + 1 + 1) ∧ ((0 + 1 + 1 + 1) : Int) ≤ 1000000000 by omega), hit0, hit1, hit2, hit3, low0, low1, low2]]
   refine zq2k (.inl (zq3g ho.1.2 _ _ _)) (zq2h (zq18 (zq4h (zq12 a) (zq42 0))) (zq18 (zq12 a))) (by simp only [zq3d, zq3o, zq2j, zq7y, zq5c, zq1b, Fm.size]; omega) fun p1 => ?_
   rw [show sbT (fmT b) (.pi (pfF (twoT wAnd (fmT a) (xT 0))) (pfF (fmT a))) 0 = (.pi (pfF (twoT wAnd (fmT a) (fmT b))) (pfF (fmT a))) by simp only [zqt (show (0 : Int) ≤ 0 ∧ (0 : Int) ≤ 1000000000 by omega), zq2l (show (0 : Int) ≤ 0 ∧ (0 : Int) ≤ 1000000000 by omega), zqu (show (0 : Int) ≤ 0 ∧ (0 : Int) ≤ 1000000000 by omega), sb_o _ (show (0 : Int) ≤ 0 ∧ (0 : Int) ≤ 1000000000 by omega), zqq (show (0 : Int) ≤ 0 ∧ (0 : Int) ≤ 1000000000 by omega), zqt (show (0 : Int) ≤ (0 + 1) ∧ ((0 + 1) : Int) ≤ 1000000000 by omega), zq2l (show (0 : Int) ≤ (0 + 1) ∧ ((0 + 1) : Int) ≤ 1000000000 by omega), zqu (show (0 : Int) ≤ (0 + 1) ∧ ((0 + 1) : Int) ≤ 1000000000 by omega), sb_o _ (show (0 : Int) ≤ (0 + 1) ∧ ((0 + 1) : Int) ≤ 1000000000 by omega), zqq (show (0 : Int) ≤ (0 + 1) ∧ ((0 + 1) : Int) ≤ 1000000000 by omega), zqt (show (0 : Int) ≤ (0 + 1 + 1) ∧ ((0 + 1 + 1) : Int) ≤ 1000000000 by omega), zq2l (show (0 : Int) ≤ (0 + 1 + 1) ∧ ((0 + 1 + 1) : Int) ≤ 1000000000 by omega), zqu (show (0 : Int) ≤ (0 + 1 + 1) ∧ ((0 + 1 + 1) : Int) ≤ 1000000000 by omega), sb_o _ (show (0 : Int) ≤ (0 + 1 + 1) ∧ ((0 + 1 + 1) : Int) ≤ 1000000000 by omega), zqq (show (0 : Int) ≤ (0 + 1 + 1) ∧ ((0 + 1 + 1) : Int) ≤ 1000000000 by omega), zqt (show (0 : Int) ≤ (0 + 1 + 1 + 1) ∧ ((0 + 1 + 1 + 1) : Int) ≤ 1000000000 by omega), zq2l (show (0 : Int) ≤ (0 + 1 + 1 + 1) ∧ ((0 + 1 + 1 + 1) : Int) ≤ 1000000000 by omega), zqu (show (0 : Int) ≤ (0 + 1 + 1 + 1) ∧ ((0 + 1 + 1 + 1) : Int) ≤ 1000000000 by omega), sb_o _ (show (0 : Int) ≤ (0 + 1 + 1 + 1) ∧ ((0 + 1 + 1 + 1) : Int) ≤ 1000000000 by omega), zqq (show (0 : Int) ≤ (0 + 1 + 1 + 1) ∧ ((0 + 1 + 1 + 1) : Int) ≤ 1000000000 by omega), hit0, hit1, hit2, hit3, low0, low1, low2]]
   refine zq2k (zq30 (zq80 p) (zqbj _) fun m' => i1 ho.2 (by omega) m' _ _) (zq18 (zq12 a)) (by simp only [zq3d, zq3o, zq2j, zq7y, zq5c, zq1b, Fm.size]; omega) fun p2 => ?_
   rw [show sbT (pfT p) (pfF (fmT a)) 0 = (pfF (fmT a)) by simp only [zqt (show (0 : Int) ≤ 0 ∧ (0 : Int) ≤ 1000000000 by omega), zq2l (show (0 : Int) ≤ 0 ∧ (0 : Int) ≤ 1000000000 by omega), zqu (show (0 : Int) ≤ 0 ∧ (0 : Int) ≤ 1000000000 by omega), sb_o _ (show (0 : Int) ≤ 0 ∧ (0 : Int) ≤ 1000000000 by omega), zqq (show (0 : Int) ≤ 0 ∧ (0 : Int) ≤ 1000000000 by omega), zqt (show (0 : Int) ≤ (0 + 1) ∧ ((0 + 1) : Int) ≤ 1000000000 by omega), zq2l (show (0 : Int) ≤ (0 + 1) ∧ ((0 + 1) : Int) ≤ 1000000000 by omega), zqu (show (0 : Int) ≤ (0 + 1) ∧ ((0 + 1) : Int) ≤ 1000000000 by omega), sb_o _ (show (0 : Int) ≤ (0 + 1) ∧ ((0 + 1) : Int) ≤ 1000000000 by omega), zqq (show (0 : Int) ≤ (0 + 1) ∧ ((0 + 1) : Int) ≤ 1000000000 by omega), zqt (show (0 : Int) ≤ (0 + 1 + 1) ∧ ((0 + 1 + 1) : Int) ≤ 1000000000 by omega), zq2l (show (0 : Int) ≤ (0 + 1 + 1) ∧ ((0 + 1 + 1) : Int) ≤ 1000000000 by omega), zqu (show (0 : Int) ≤ (0 + 1 + 1) ∧ ((0 + 1 + 1) : Int) ≤ 1000000000 by omega), sb_o _ (show (0 : Int) ≤ (0 + 1 + 1) ∧ ((0 + 1 + 1) : Int) ≤ 1000000000 by omega), zqq (show (0 : Int) ≤ (0 + 1 + 1) ∧ ((0 + 1 + 1) : Int) ≤ 1000000000 by omega), zqt (show (0 : Int) ≤ (0 + 1 + 1 + 1) ∧ ((0 + 1 + 1 + 1) : Int) ≤ 1000000000 by omega), zq2l (show (0 : Int) ≤ (0 + 1 + 1 + 1) ∧ ((0 + 1 + 1 + 1) : Int) ≤ 1000000000 by omega), zqu (show (0 : Int) ≤ (0 + 1 + 1 + 1) ∧ ((0 + 1 + 1 + 1) : Int) ≤ 1000000000 by omega), sb_o _ (show (0 : Int) ≤ (0 + 1 + 1 + 1) ∧ ((0 + 1 + 1 + 1) : Int) ≤ 1000000000 by omega), zqq (show (0 : Int) ≤ (0 + 1 + 1 + 1) ∧ ((0 + 1 + 1 + 1) : Int) ≤ 1000000000 by omega), hit0, hit1, hit2, hit3, low0, low1, low2]]
   exact zqa2 _ _ _ _
 | @snd G a b p _ i1 =>
   intro ho hc M pos s
   simp only [Pf.ok, Bool.and_eq_true] at ho
   simp only [Pf.count] at hc
   refine zq3r (A := (.pi oF (.pi oF (.pi (pfF (twoT wAnd (xT 1) (xT 0))) (pfF (xT 1)))))) (by kernel_rfl) rfl fun p' => ?_
   refine zq2k (.inl (zq3g ho.1.1 _ _ _)) (zq2h zqi1 (zq2h (zq18 (zq4h (zq42 1) (zq42 0))) (zq18 (zq42 1)))) (by simp only [zq3d, zq3o, zq2j, zq7y, zq5c, zq1b, Fm.size]; omega) fun p0 => ?_
   rw [show sbT (fmT a) (.pi oF (.pi (pfF (twoT wAnd (xT 1) (xT 0))) (pfF (xT 1)))) 0 = (.pi oF (.pi (pfF (twoT wAnd (fmT a) (xT 0))) (pfF (xT 1)))) by simp only [zqt (show (0 : Int) ≤ 0 ∧ (0 : Int) ≤ 1000000000 by omega), zq2l (show (0 : Int) ≤ 0 ∧ (0 : Int) ≤ 1000000000 by omega), zqu (show (0 : Int) ≤ 0 ∧ (0 : Int) ≤ 1000000000 by omega), sb_o _ (show (0 : Int) ≤ 0 ∧ (0 : Int) ≤ 1000000000 by omega), zqq (show (0 : Int) ≤ 0 ∧ (0 : Int) ≤ 1000000000 by omega), zqt (show (0 : Int) ≤ (0 + 1) ∧ ((0 + 1) : Int) ≤ 1000000000 by omega), zq2l (show (0 : Int) ≤ (0 + 1) ∧ ((0 + 1) : Int) ≤ 1000000000 by omega), zqu (show (0 : Int) ≤ (0 + 1) ∧ ((0 + 1) : Int) ≤ 1000000000 by omega), sb_o _ (show (0 : Int) ≤ (0 + 1) ∧ ((0 + 1) : Int) ≤ 1000000000 by omega), zqq (show (0 : Int) ≤ (0 + 1) ∧ ((0 + 1) : Int) ≤ 1000000000 by omega), zqt (show (0 : Int) ≤ (0 + 1 + 1) ∧ ((0 + 1 + 1) : Int) ≤ 1000000000 by omega), zq2l (show (0 : Int) ≤ (0 + 1 + 1) ∧ ((0 + 1 + 1) : Int) ≤ 1000000000 by omega), zqu (show (0 : Int) ≤ (0 + 1 + 1) ∧ ((0 + 1 + 1) : Int) ≤ 1000000000 by omega), sb_o _ (show (0 : Int) ≤ (0 + 1 + 1) ∧ ((0 + 1 + 1) : Int) ≤ 1000000000 by omega), zqq (show (0 : Int) ≤ (0 + 1 + 1) ∧ ((0 + 1 + 1) : Int) ≤ 1000000000 by omega), zqt (show (0 : Int) ≤ (0 + 1 + 1 + 1) ∧ ((0 + 1 + 1 + 1) : Int) ≤ 1000000000 by omega), zq2l (show (0 : Int) ≤ (0 + 1 + 1 + 1) ∧ ((0 + 1 + 1 + 1) : Int) ≤ 1000000000 by omega), zqu (show (0 : Int) ≤ (0 + 1 + 1 + 1) ∧ ((0 + 1 + 1 + 1) : Int) ≤ 1000000000 by omega), sb_o _ (show (0 : Int) ≤ (0 + 1 + 1 + 1) ∧ ((0 + 1 + 1 + 1) : Int) ≤ 1000000000 by omega), zqq (show (0 : Int) ≤ (0 + 1 + 1 + 1) ∧ ((0 + 1 + 1 + 1) : Int) ≤ 1000000000 by omega), hit0, hit1, hit2, hit3, low0, low1, low2]]
   refine zq2k (.inl (zq3g ho.1.2 _ _ _)) (zq2h (zq18 (zq4h (zq12 a) (zq42 0))) (zq18 (zq42 1))) (by simp only [zq3d, zq3o, zq2j, zq7y, zq5c, zq1b, Fm.size]; omega) fun p1 => ?_
   rw [show sbT (fmT b) (.pi (pfF (twoT wAnd (fmT a) (xT 0))) (pfF (xT 1))) 0 = (.pi (pfF (twoT wAnd (fmT a) (fmT b))) (pfF (fmT b))) by simp only [zqt (show (0 : Int) ≤ 0 ∧ (0 : Int) ≤ 1000000000 by omega), zq2l (show (0 : Int) ≤ 0 ∧ (0 : Int) ≤ 1000000000 by omega), zqu (show (0 : Int) ≤ 0 ∧ (0 : Int) ≤ 1000000000 by omega), sb_o _ (show (0 : Int) ≤ 0 ∧ (0 : Int) ≤ 1000000000 by omega), zqq (show (0 : Int) ≤ 0 ∧ (0 : Int) ≤ 1000000000 by omega), zqt (show (0 : Int) ≤ (0 + 1) ∧ ((0 + 1) : Int) ≤ 1000000000 by omega), zq2l (show (0 : Int) ≤ (0 + 1) ∧ ((0 + 1) : Int) ≤ 1000000000 by omega), zqu (show (0 : Int) ≤ (0 + 1) ∧ ((0 + 1) : Int) ≤ 1000000000 by omega), sb_o _ (show (0 : Int) ≤ (0 + 1) ∧ ((0 + 1) : Int) ≤ 1000000000 by omega), zqq (show (0 : Int) ≤ (0 + 1) ∧ ((0 + 1) : Int) ≤ 1000000000 by omega), zqt (show (0 : Int) ≤ (0 + 1 + 1) ∧ ((0 + 1 + 1) : Int) ≤ 1000000000 by omega), zq2l (show (0 : Int) ≤ (0 + 1 + 1) ∧ ((0 + 1 + 1) : Int) ≤ 1000000000 by omega), zqu (show (0 : Int) ≤ (0 + 1 + 1) ∧ ((0 + 1 + 1) : Int) ≤ 1000000000 by omega), sb_o _ (show (0 : Int) ≤ (0 + 1 + 1) ∧ ((0 + 1 + 1) : Int) ≤ 1000000000 by omega), zqq (show (0 : Int) ≤ (0 + 1 + 1) ∧ ((0 + 1 + 1) : Int) ≤ 1000000000 by omega), zqt (show (0 : Int) ≤ (0 + 1 + 1 + 1) ∧ ((0 + 1 + 1 + 1) : Int) ≤ 1000000000 by omega), zq2l (show (0 : Int) ≤ (0 + 1 + 1 + 1) ∧ ((0 + 1 + 1 + 1) : Int) ≤ 1000000000 by omega), zqu (show (0 : Int) ≤ (0 + 1 + 1 + 1) ∧ ((0 + 1 + 1 + 1) : Int) ≤ 1000000000 by omega), sb_o _ (show (0 : Int) ≤ (0 + 1 + 1 + 1) ∧ ((0 + 1 + 1 + 1) : Int) ≤ 1000000000 by omega), zqq (show (0 : Int) ≤ (0 + 1 + 1 + 1) ∧ ((0 + 1 + 1 + 1) : Int) ≤ 1000000000 by omega), hit0, hit1, hit2, hit3, low0, low1, low2]]
   refine zq2k (zq30 (zq80 p) (zqbj _) fun m' => i1 ho.2 (by omega) m' _ _) (zq18 (zq12 b)) (by simp only [zq3d, zq3o, zq2j, zq7y, zq5c, zq1b, Fm.size]; omega) fun p2 => ?_
   rw [show sbT (pfT p) (pfF (fmT b)) 0 = (pfF (fmT b)) by simp only [zqt (show (0 : Int) ≤ 0 ∧ (0 : Int) ≤ 1000000000 by omega), zq2l (show (0 : Int) ≤ 0 ∧ (0 : Int) ≤ 1000000000 by omega), zqu (show (0 : Int) ≤ 0 ∧ (0 : Int) ≤ 1000000000 by omega), sb_o _ (show (0 : Int) ≤ 0 ∧ (0 : Int) ≤ 1000000000 by omega), zqq (show (0 : Int) ≤ 0 ∧ (0 : Int) ≤ 1000000000 by omega), zqt (show (0 : Int) ≤ (0 + 1) ∧ ((0 + 1) : Int) ≤ 1000000000 by omega), zq2l (show (0 : Int) ≤ (0 + 1) ∧ ((0 + 1) : Int) ≤ 1000000000 by omega), zqu (show (0 : Int) ≤ (0 + 1) ∧ ((0 + 1) : Int) ≤ 1000000000 by omega), sb_o _ (show (0 : Int) ≤ (0 + 1) ∧ ((0 + 1) : Int) ≤ 1000000000 by omega), zqq (show (0 : Int) ≤ (0 + 1) ∧ ((0 + 1) : Int) ≤ 1000000000 by omega), zqt (show (0 : Int) ≤ (0 + 1 + 1) ∧ ((0 + 1 + 1) : Int) ≤ 1000000000 by omega), zq2l (show (0 : Int) ≤ (0 + 1 + 1) ∧ ((0 + 1 + 1) : Int) ≤ 1000000000 by omega), zqu (show (0 : Int) ≤ (0 + 1 + 1) ∧ ((0 + 1 + 1) : Int) ≤ 1000000000 by omega), sb_o _ (show (0 : Int) ≤ (0 + 1 + 1) ∧ ((0 + 1 + 1) : Int) ≤ 1000000000 by omega), zqq (show (0 : Int) ≤ (0 + 1 + 1) ∧ ((0 + 1 + 1) : Int) ≤ 1000000000 by omega), zqt (show (0 : Int) ≤ (0 + 1 + 1 + 1) ∧ ((0 + 1 + 1 + 1) : Int) ≤ 1000000000 by omega), zq2l (show (0 : Int) ≤ (0 + 1 + 1 + 1) ∧ ((0 + 1 + 1 + 1) : Int) ≤ 1000000000 by omega), zqu (show (0 : Int) ≤ (0 + 1 + 1 + 1) ∧ ((0 + 1 + 1 + 1) : Int) ≤ 1000000000 by omega), sb_o _ (show (0 : Int) ≤ (0 + 1 + 1 + 1) ∧ ((0 + 1 + 1 + 1) : Int) ≤ 1000000000 by omega), zqq (show (0 : Int) ≤ (0 + 1 + 1 + 1) ∧ ((0 + 1 + 1 + 1) : Int) ≤ 1000000000 by omega), hit0, hit1, hit2, hit3, low0, low1, low2]]
   exact zqa2 _ _ _ _
 | @funI G a b p _ i1 =>
   intro ho hc M pos s
   simp only [Pf.ok, Bool.and_eq_true] at ho
   simp only [Pf.count] at hc
   refine zq3r (A := (.pi oF (.pi oF (.pi (.pi (pfF (xT 1)) (pfF (xT 1))) (pfF (twoT wImp (xT 2) (xT 1))))))) (by kernel_rfl) rfl fun p' => ?_
   refine zq2k (.inl (zq3g ho.1.1 _ _ _)) (zq2h zqi1 (zq2h (zq2h (zq18 (zq42 1)) (zq18 (zq42 1))) (zq18 (zq4h (zq42 2) (zq42 1))))) (by simp only [zq3d, zq3o, zq2j, zq7y, zq5c, zq1b, Fm.size]; omega) fun p0 => ?_
   rw [show sbT (fmT a) (.pi oF (.pi (.pi (pfF (xT 1)) (pfF (xT 1))) (pfF (twoT wImp (xT 2) (xT 1))))) 0 = (.pi oF (.pi (.pi (pfF (fmT a)) (pfF (xT 1))) (pfF (twoT wImp (fmT a) (xT 1))))) by simp only [zqt (show (0 : Int) ≤ 0 ∧ (0 : Int) ≤ 1000000000 by omega), zq2l (show (0 : Int) ≤ 0 ∧ (0 : Int) ≤ 1000000000 by omega), zqu (show (0 : Int) ≤ 0 ∧ (0 : Int) ≤ 1000000000 by omega), sb_o _ (show (0 : Int) ≤ 0 ∧ (0 : Int) ≤ 1000000000 by omega), zqq (show (0 : Int) ≤ 0 ∧ (0 : Int) ≤ 1000000000 by omega), zqt (show (0 : Int) ≤ (0 + 1) ∧ ((0 + 1) : Int) ≤ 1000000000 by omega), zq2l (show (0 : Int) ≤ (0 + 1) ∧ ((0 + 1) : Int) ≤ 1000000000 by omega), zqu (show (0 : Int) ≤ (0 + 1) ∧ ((0 + 1) : Int) ≤ 1000000000 by omega), sb_o _ (show (0 : Int) ≤ (0 + 1) ∧ ((0 + 1) : Int) ≤ 1000000000 by omega), zqq (show (0 : Int) ≤ (0 + 1) ∧ ((0 + 1) : Int) ≤ 1000000000 by omega), zqt (show (0 : Int) ≤ (0 + 1 + 1) ∧ ((0 + 1 + 1) : Int) ≤ 1000000000 by omega), zq2l (show (0 : Int) ≤ (0 + 1 + 1) ∧ ((0 + 1 + 1) : Int) ≤ 1000000000 by omega), zqu (show (0 : Int) ≤ (0 + 1 + 1) ∧ ((0 + 1 + 1) : Int) ≤ 1000000000 by omega), sb_o _ (show (0 : Int) ≤ (0 + 1 + 1) ∧ ((0 + 1 + 1) : Int) ≤ 1000000000 by omega), zqq (show (0 : Int) ≤ (0 + 1 + 1) ∧ ((0 + 1 + 1) : Int) ≤ 1000000000 by omega), zqt (show (0 : Int) ≤ (0 + 1 + 1 + 1) ∧ ((0 + 1 + 1 + 1) : Int) ≤ 1000000000 by omega), zq2l (show (0 : Int) ≤ (0 + 1 + 1 + 1) ∧ ((0 + 1 + 1 + 1) : Int) ≤ 1000000000 by omega), zqu (show (0 : Int) ≤ (0 + 1 + 1 + 1) ∧ ((0 + 1 + 1 + 1) : Int) ≤ 1000000000 by omega), sb_o _ (show (0 : Int) ≤ (0 + 1 + 1 + 1) ∧ ((0 + 1 + 1 + 1) : Int) ≤ 1000000000 by omega), zqq (show (0 : Int) ≤ (0 + 1 + 1 + 1) ∧ ((0 + 1 + 1 + 1) : Int) ≤ 1000000000 by omega), hit0, hit1, hit2, hit3, low0, low1, low2]]
   refine zq2k (.inl (zq3g ho.1.2 _ _ _)) (zq2h (zq2h (zq18 (zq12 a)) (zq18 (zq42 1))) (zq18 (zq4h (zq12 a) (zq42 1)))) (by simp only [zq3d, zq3o, zq2j, zq7y, zq5c, zq1b, Fm.size]; omega) fun p1 => ?_
   rw [show sbT (fmT b) (.pi (.pi (pfF (fmT a)) (pfF (xT 1))) (pfF (twoT wImp (fmT a) (xT 1)))) 0 = (.pi (.pi (pfF (fmT a)) (pfF (fmT b))) (pfF (twoT wImp (fmT a) (fmT b)))) by simp only [zqt (show (0 : Int) ≤ 0 ∧ (0 : Int) ≤ 1000000000 by omega), zq2l (show (0 : Int) ≤ 0 ∧ (0 : Int) ≤ 1000000000 by omega), zqu (show (0 : Int) ≤ 0 ∧ (0 : Int) ≤ 1000000000 by omega), sb_o _ (show (0 : Int) ≤ 0 ∧ (0 : Int) ≤ 1000000000 by omega), zqq (show (0 : Int) ≤ 0 ∧ (0 : Int) ≤ 1000000000 by omega), zqt (show (0 : Int) ≤ (0 + 1) ∧ ((0 + 1) : Int) ≤ 1000000000 by omega), zq2l (show (0 : Int) ≤ (0 + 1) ∧ ((0 + 1) : Int) ≤ 1000000000 by omega), zqu (show (0 : Int) ≤ (0 + 1) ∧ ((0 + 1) : Int) ≤ 1000000000 by omega), sb_o _ (show (0 : Int) ≤ (0 + 1) ∧ ((0 + 1) : Int) ≤ 1000000000 by omega), zqq (show (0 : Int) ≤ (0 + 1) ∧ ((0 + 1) : Int) ≤ 1000000000 by omega), zqt (show (0 : Int) ≤ (0 + 1 + 1) ∧ ((0 + 1 + 1) : Int) ≤ 1000000000 by omega), zq2l (show (0 : Int) ≤ (0 + 1 + 1) ∧ ((0 + 1 + 1) : Int) ≤ 1000000000 by omega), zqu (show (0 : Int) ≤ (0 + 1 + 1) ∧ ((0 + 1 + 1) : Int) ≤ 1000000000 by omega), sb_o _ (show (0 : Int) ≤ (0 + 1 + 1) ∧ ((0 + 1 + 1) : Int) ≤ 1000000000 by omega), zqq (show (0 : Int) ≤ (0 + 1 + 1) ∧ ((0 + 1 + 1) : Int) ≤ 1000000000 by omega), zqt (show (0 : Int) ≤ (0 + 1 + 1 + 1) ∧ ((0 + 1 + 1 + 1) : Int) ≤ 1000000000 by omega), zq2l (show (0 : Int) ≤ (0 + 1 + 1 + 1) ∧ ((0 + 1 + 1 + 1) : Int) ≤ 1000000000 by omega), zqu (show (0 : Int) ≤ (0 + 1 + 1 + 1) ∧ ((0 + 1 + 1 + 1) : Int) ≤ 1000000000 by omega), sb_o _ (show (0 : Int) ≤ (0 + 1 + 1 + 1) ∧ ((0 + 1 + 1 + 1) : Int) ≤ 1000000000 by omega), zqq (show (0 : Int) ≤ (0 + 1 + 1 + 1) ∧ ((0 + 1 + 1 + 1) : Int) ≤ 1000000000 by omega), hit0, hit1, hit2, hit3, low0, low1, low2]]
   refine zq2k (?_ : Out (zqab zq4c M (ctxJ G) (.lam (pfT p)) (.pi (judg a) (judg b)) p1 s) () s) (zq18 (zq4h (zq12 a) (zq12 b))) (by simp only [zq3d, zq3o, zq2j, zq7y, zq5c, zq1b, Fm.size]; omega) fun p2 => ?_
   ·cases M with
    | zero => exact .inl rfl
    | succ M =>
      unfold zqab
      rw [if_pos (by rfl), if_pos (by rfl), show (Tr.pi (judg a) (judg b)).kid 0 = judg a by rfl, show (Tr.pi (judg a) (judg b)).kid 1 = judg b by rfl, show (Tr.lam (pfT p)).kid 0 = pfT p by rfl, show ctxJ G ++ [judg a] = ctxJ (a :: G) by simp [ctxJ]]
      exact zq30 (zq80 p) (by rw [judg_kind]; decide) fun m' => i1 ho.2 (by omega) m' _ _
   rw [show sbT (.lam (pfT p)) (pfF (twoT wImp (fmT a) (fmT b))) 0 = (pfF (twoT wImp (fmT a) (fmT b))) by simp only [zqt (show (0 : Int) ≤ 0 ∧ (0 : Int) ≤ 1000000000 by omega), zq2l (show (0 : Int) ≤ 0 ∧ (0 : Int) ≤ 1000000000 by omega), zqu (show (0 : Int) ≤ 0 ∧ (0 : Int) ≤ 1000000000 by omega), sb_o _ (show (0 : Int) ≤ 0 ∧ (0 : Int) ≤ 1000000000 by omega), zqq (show (0 : Int) ≤ 0 ∧ (0 : Int) ≤ 1000000000 by omega), zqt (show (0 : Int) ≤ (0 + 1) ∧ ((0 + 1) : Int) ≤ 1000000000 by omega), zq2l (show (0 : Int) ≤ (0 + 1) ∧ ((0 + 1) : Int) ≤ 1000000000 by omega), zqu (show (0 : Int) ≤ (0 + 1) ∧ ((0 + 1) : Int) ≤ 1000000000 by omega), sb_o _ (show (0 : Int) ≤ (0 + 1) ∧ ((0 + 1) : Int) ≤ 1000000000 by omega), zqq (show (0 : Int) ≤ (0 + 1) ∧ ((0 + 1) : Int) ≤ 1000000000 by omega), zqt (show (0 : Int) ≤ (0 + 1 + 1) ∧ ((0 + 1 + 1) : Int) ≤ 1000000000 by omega), zq2l (show (0 : Int) ≤ (0 + 1 + 1) ∧ ((0 + 1 + 1) : Int) ≤ 1000000000 by omega), zqu (show (0 : Int) ≤ (0 + 1 + 1) ∧ ((0 + 1 + 1) : Int) ≤ 1000000000 by omega), sb_o _ (show (0 : Int) ≤ (0 + 1 + 1) ∧ ((0 + 1 + 1) : Int) ≤ 1000000000 by omega), zqq (show (0 : Int) ≤ (0 + 1 + 1) ∧ ((0 + 1 + 1) : Int) ≤ 1000000000 by omega), zqt (show (0 : Int) ≤ (0 + 1 + 1 + 1) ∧ ((0 + 1 + 1 + 1) : Int) ≤ 1000000000 by omega), zq2l (show (0 : Int) ≤ (0 + 1 + 1 + 1) ∧ ((0 + 1 + 1 + 1) : Int) ≤ 1000000000 by omega), zqu (show (0 : Int) ≤ (0 + 1 + 1 + 1) ∧ ((0 + 1 + 1 + 1) : Int) ≤ 1000000000 by omega), sb_o _ (show (0 : Int) ≤ (0 + 1 + 1 + 1) ∧ ((0 + 1 + 1 + 1) : Int) ≤ 1000000000 by omega), zqq (show (0 : Int) ≤ (0 + 1 + 1 + 1) ∧ ((0 + 1 + 1 + 1) : Int) ≤ 1000000000 by omega), hit0, hit1, hit2, hit3, low0, low1, low2]]
   exact zqa2 _ _ _ _
 | @use G a b p q _ _ i1 i2 =>
   intro ho hc M pos s
   simp only [Pf.ok, Bool.and_eq_true] at ho
   simp only [Pf.count] at hc
   refine zq3r (A := (.pi oF (.pi oF (.pi (pfF (twoT wImp (xT 1) (xT 0))) (.pi (pfF (xT 2)) (pfF (xT 2))))))) (by kernel_rfl) rfl fun p' => ?_
   refine zq2k (.inl (zq3g ho.1.1.1 _ _ _)) (zq2h zqi1 (zq2h (zq18 (zq4h (zq42 1) (zq42 0))) (zq2h (zq18 (zq42 2)) (zq18 (zq42 2))))) (by simp only [zq3d, zq3o, zq2j, zq7y, zq5c, zq1b, Fm.size]; omega) fun p0 => ?_
   rw [show sbT (fmT a) (.pi oF (.pi (pfF (twoT wImp (xT 1) (xT 0))) (.pi (pfF (xT 2)) (pfF (xT 2))))) 0 = (.pi oF (.pi (pfF (twoT wImp (fmT a) (xT 0))) (.pi (pfF (fmT a)) (pfF (xT 2))))) by simp only [zqt (show (0 : Int) ≤ 0 ∧ (0 : Int) ≤ 1000000000 by omega), zq2l (show (0 : Int) ≤ 0 ∧ (0 : Int) ≤ 1000000000 by omega), zqu (show (0 : Int) ≤ 0 ∧ (0 : Int) ≤ 1000000000 by omega), sb_o _ (show (0 : Int) ≤ 0 ∧ (0 : Int) ≤ 1000000000 by omega), zqq (show (0 : Int) ≤ 0 ∧ (0 : Int) ≤ 1000000000 by omega), zqt (show (0 : Int) ≤ (0 + 1) ∧ ((0 + 1) : Int) ≤ 1000000000 by omega), zq2l (show (0 : Int) ≤ (0 + 1) ∧ ((0 + 1) : Int) ≤ 1000000000 by omega), zqu (show (0 : Int) ≤ (0 + 1) ∧ ((0 + 1) : Int) ≤ 1000000000 by omega), sb_o _ (show (0 : Int) ≤ (0 + 1) ∧ ((0 + 1) : Int) ≤ 1000000000 by omega), zqq (show (0 : Int) ≤ (0 + 1) ∧ ((0 + 1) : Int) ≤ 1000000000 by omega), zqt (show (0 : Int) ≤ (0 + 1 + 1) ∧ ((0 + 1 + 1) : Int) ≤ 1000000000 by omega), zq2l (show (0 : Int) ≤ (0 + 1 + 1) ∧ ((0 + 1 + 1) : Int) ≤ 1000000000 by omega), zqu (show (0 : Int) ≤ (0 + 1 + 1) ∧ ((0 + 1 + 1) : Int) ≤ 1000000000 by omega), sb_o _ (show (0 : Int) ≤ (0 + 1 + 1) ∧ ((0 + 1 + 1) : Int) ≤ 1000000000 by omega), zqq (show (0 : Int) ≤ (0 + 1 + 1) ∧ ((0 + 1 + 1) : Int) ≤ 1000000000 by omega), zqt (show (0 : Int) ≤ (0 + 1 + 1 + 1) ∧ ((0 + 1 + 1 + 1) : Int) ≤ 1000000000 by omega), zq2l (show (0 : Int) ≤ (0 + 1 + 1 + 1) ∧ ((0 + 1 + 1 + 1) : Int) ≤ 1000000000 by omega), zqu (show (0 : Int) ≤ (0 + 1 + 1 + 1) ∧ ((0 + 1 + 1 + 1) : Int) ≤ 1000000000 by omega), sb_o _ (show (0 : Int) ≤ (0 + 1 + 1 + 1) ∧ ((0 + 1 + 1 + 1) : Int) ≤ 1000000000 by omega), zqq (show (0 : Int) ≤ (0 + 1 + 1 + 1) ∧ ((0 + 1 + 1 + 1) : Int) ≤ 1000000000 by omega), hit0, hit1, hit2, hit3, low0, low1, low2]]
   refine zq2k (.inl (zq3g ho.1.1.2 _ _ _)) (zq2h (zq18 (zq4h (zq12 a) (zq42 0))) (zq2h (zq18 (zq12 a)) (zq18 (zq42 2)))) (by simp only [zq3d, zq3o, zq2j, zq7y, zq5c, zq1b, Fm.size]; omega) fun p1 => ?_
   rw [show sbT (fmT b) (.pi (pfF (twoT wImp (fmT a) (xT 0))) (.pi (pfF (fmT a)) (pfF (xT 2)))) 0 = (.pi (pfF (twoT wImp (fmT a) (fmT b))) (.pi (pfF (fmT a)) (pfF (fmT b)))) by simp only [zqt (show (0 : Int) ≤ 0 ∧ (0 : Int) ≤ 1000000000 by omega), zq2l (show (0 : Int) ≤ 0 ∧ (0 : Int) ≤ 1000000000 by omega), zqu (show (0 : Int) ≤ 0 ∧ (0 : Int) ≤ 1000000000 by omega), sb_o _ (show (0 : Int) ≤ 0 ∧ (0 : Int) ≤ 1000000000 by omega), zqq (show (0 : Int) ≤ 0 ∧ (0 : Int) ≤ 1000000000 by omega), zqt (show (0 : Int) ≤ (0 + 1) ∧ ((0 + 1) : Int) ≤ 1000000000 by omega), zq2l (show (0 : Int) ≤ (0 + 1) ∧ ((0 + 1) : Int) ≤ 1000000000 by omega), zqu (show (0 : Int) ≤ (0 + 1) ∧ ((0 + 1) : Int) ≤ 1000000000 by omega), sb_o _ (show (0 : Int) ≤ (0 + 1) ∧ ((0 + 1) : Int) ≤ 1000000000 by omega), zqq (show (0 : Int) ≤ (0 + 1) ∧ ((0 + 1) : Int) ≤ 1000000000 by omega), zqt (show (0 : Int) ≤ (0 + 1 + 1) ∧ ((0 + 1 + 1) : Int) ≤ 1000000000 by omega), zq2l (show (0 : Int) ≤ (0 + 1 + 1) ∧ ((0 + 1 + 1) : Int) ≤ 1000000000 by omega), zqu (show (0 : Int) ≤ (0 + 1 + 1) ∧ ((0 + 1 + 1) : Int) ≤ 1000000000 by omega), sb_o _ (show (0 : Int) ≤ (0 + 1 + 1) ∧ ((0 + 1 + 1) : Int) ≤ 1000000000 by omega), zqq (show (0 : Int) ≤ (0 + 1 + 1) ∧ ((0 + 1 + 1) : Int) ≤ 1000000000 by omega), zqt (show (0 : Int) ≤ (0 + 1 + 1 + 1) ∧ ((0 + 1 + 1 + 1) : Int) ≤ 1000000000 by omega), zq2l (show (0 : Int) ≤ (0 + 1 + 1 + 1) ∧ ((0 + 1 + 1 + 1) : Int) ≤ 1000000000 by omega), zqu (show (0 : Int) ≤ (0 + 1 + 1 + 1) ∧ ((0 + 1 + 1 + 1) : Int) ≤ 1000000000 by omega), sb_o _ (show (0 : Int) ≤ (0 + 1 + 1 + 1) ∧ ((0 + 1 + 1 + 1) : Int) ≤ 1000000000 by omega), zqq (show (0 : Int) ≤ (0 + 1 + 1 + 1) ∧ ((0 + 1 + 1 + 1) : Int) ≤ 1000000000 by omega), hit0, hit1, hit2, hit3, low0, low1, low2]]
   refine zq2k (zq30 (zq80 p) (zqbj _) fun m' => i1 ho.1.2 (by omega) m' _ _) (zq2h (zq18 (zq12 a)) (zq18 (zq12 b))) (by simp only [zq3d, zq3o, zq2j, zq7y, zq5c, zq1b, Fm.size]; omega) fun p2 => ?_
   rw [show sbT (pfT p) (.pi (pfF (fmT a)) (pfF (fmT b))) 0 = (.pi (pfF (fmT a)) (pfF (fmT b))) by simp only [zqt (show (0 : Int) ≤ 0 ∧ (0 : Int) ≤ 1000000000 by omega), zq2l (show (0 : Int) ≤ 0 ∧ (0 : Int) ≤ 1000000000 by omega), zqu (show (0 : Int) ≤ 0 ∧ (0 : Int) ≤ 1000000000 by omega), sb_o _ (show (0 : Int) ≤ 0 ∧ (0 : Int) ≤ 1000000000 by omega), zqq (show (0 : Int) ≤ 0 ∧ (0 : Int) ≤ 1000000000 by omega), zqt (show (0 : Int) ≤ (0 + 1) ∧ ((0 + 1) : Int) ≤ 1000000000 by omega), zq2l (show (0 : Int) ≤ (0 + 1) ∧ ((0 + 1) : Int) ≤ 1000000000 by omega), zqu (show (0 : Int) ≤ (0 + 1) ∧ ((0 + 1) : Int) ≤ 1000000000 by omega), sb_o _ (show (0 : Int) ≤ (0 + 1) ∧ ((0 + 1) : Int) ≤ 1000000000 by omega), zqq (show (0 : Int) ≤ (0 + 1) ∧ ((0 + 1) : Int) ≤ 1000000000 by omega), zqt (show (0 : Int) ≤ (0 + 1 + 1) ∧ ((0 + 1 + 1) : Int) ≤ 1000000000 by omega), zq2l (show (0 : Int) ≤ (0 + 1 + 1) ∧ ((0 + 1 + 1) : Int) ≤ 1000000000 by omega), zqu (show (0 : Int) ≤ (0 + 1 + 1) ∧ ((0 + 1 + 1) : Int) ≤ 1000000000 by omega), sb_o _ (show (0 : Int) ≤ (0 + 1 + 1) ∧ ((0 + 1 + 1) : Int) ≤ 1000000000 by omega), zqq (show (0 : Int) ≤ (0 + 1 + 1) ∧ ((0 + 1 + 1) : Int) ≤ 1000000000 by omega), zqt (show (0 : Int) ≤ (0 + 1 + 1 + 1) ∧ ((0 + 1 + 1 + 1) : Int) ≤ 1000000000 by omega), zq2l (show (0 : Int) ≤ (0 + 1 + 1 + 1) ∧ ((0 + 1 + 1 + 1) : Int) ≤ 1000000000 by omega), zqu (show (0 : Int) ≤ (0 + 1 + 1 + 1) ∧ ((0 + 1 + 1 + 1) : Int) ≤ 1000000000 by omega), sb_o _ (show (0 : Int) ≤ (0 + 1 + 1 + 1) ∧ ((0 + 1 + 1 + 1) : Int) ≤ 1000000000 by omega), zqq (show (0 : Int) ≤ (0 + 1 + 1 + 1) ∧ ((0 + 1 + 1 + 1) : Int) ≤ 1000000000 by omega), hit0, hit1, hit2, hit3, low0, low1, low2]]
   refine zq2k (zq30 (zq80 q) (zqbj _) fun m' => i2 ho.2 (by omega) m' _ _) (zq18 (zq12 b)) (by simp only [zq3d, zq3o, zq2j, zq7y, zq5c, zq1b, Fm.size]; omega) fun p3 => ?_
   rw [show sbT (pfT q) (pfF (fmT b)) 0 = (pfF (fmT b)) by simp only [zqt (show (0 : Int) ≤ 0 ∧ (0 : Int) ≤ 1000000000 by omega), zq2l (show (0 : Int) ≤ 0 ∧ (0 : Int) ≤ 1000000000 by omega), zqu (show (0 : Int) ≤ 0 ∧ (0 : Int) ≤ 1000000000 by omega), sb_o _ (show (0 : Int) ≤ 0 ∧ (0 : Int) ≤ 1000000000 by omega), zqq (show (0 : Int) ≤ 0 ∧ (0 : Int) ≤ 1000000000 by omega), zqt (show (0 : Int) ≤ (0 + 1) ∧ ((0 + 1) : Int) ≤ 1000000000 by omega), zq2l (show (0 : Int) ≤ (0 + 1) ∧ ((0 + 1) : Int) ≤ 1000000000 by omega), zqu (show (0 : Int) ≤ (0 + 1) ∧ ((0 + 1) : Int) ≤ 1000000000 by omega), sb_o _ (show (0 : Int) ≤ (0 + 1) ∧ ((0 + 1) : Int) ≤ 1000000000 by omega), zqq (show (0 : Int) ≤ (0 + 1) ∧ ((0 + 1) : Int) ≤ 1000000000 by omega), zqt (show (0 : Int) ≤ (0 + 1 + 1) ∧ ((0 + 1 + 1) : Int) ≤ 1000000000 by omega), zq2l (show (0 : Int) ≤ (0 + 1 + 1) ∧ ((0 + 1 + 1) : Int) ≤ 1000000000 by omega), zqu (show (0 : Int) ≤ (0 + 1 + 1) ∧ ((0 + 1 + 1) : Int) ≤ 1000000000 by omega), sb_o _ (show (0 : Int) ≤ (0 + 1 + 1) ∧ ((0 + 1 + 1) : Int) ≤ 1000000000 by omega), zqq (show (0 : Int) ≤ (0 + 1 + 1) ∧ ((0 + 1 + 1) : Int) ≤ 1000000000 by omega), zqt (show (0 : Int) ≤ (0 + 1 + 1 + 1) ∧ ((0 + 1 + 1 + 1) : Int) ≤ 1000000000 by omega), zq2l (show (0 : Int) ≤ (0 + 1 + 1 + 1) ∧ ((0 + 1 + 1 + 1) : Int) ≤ 1000000000 by omega), zqu (show (0 : Int) ≤ (0 + 1 + 1 + 1) ∧ ((0 + 1 + 1 + 1) : Int) ≤ 1000000000 by omega), sb_o _ (show (0 : Int) ≤ (0 + 1 + 1 + 1) ∧ ((0 + 1 + 1 + 1) : Int) ≤ 1000000000 by omega), zqq (show (0 : Int) ≤ (0 + 1 + 1 + 1) ∧ ((0 + 1 + 1 + 1) : Int) ≤ 1000000000 by omega), hit0, hit1, hit2, hit3, low0, low1, low2]]
   exact zqa2 _ _ _ _
 | @botE G a p _ i1 =>
   intro ho hc M pos s
   simp only [Pf.ok, Bool.and_eq_true] at ho
   simp only [Pf.count] at hc
   refine zq3r (A := (.pi oF (.pi (pfF (fmT .bot)) (pfF (xT 1))))) (by kernel_rfl) rfl fun p' => ?_
   refine zq2k (.inl (zq3g ho.1 _ _ _)) (zq2h (zq18 (zq12 .bot)) (zq18 (zq42 1))) (by simp only [zq3d, zq3o, zq2j, zq7y, zq5c, zq1b, Fm.size]; omega) fun p0 => ?_
   rw [show sbT (fmT a) (.pi (pfF (fmT .bot)) (pfF (xT 1))) 0 = (.pi (pfF (fmT .bot)) (pfF (fmT a))) by simp only [zqt (show (0 : Int) ≤ 0 ∧ (0 : Int) ≤ 1000000000 by omega), zq2l (show (0 : Int) ≤ 0 ∧ (0 : Int) ≤ 1000000000 by omega), zqu (show (0 : Int) ≤ 0 ∧ (0 : Int) ≤ 1000000000 by omega), sb_o _ (show (0 : Int) ≤ 0 ∧ (0 : Int) ≤ 1000000000 by omega), zqq (show (0 : Int) ≤ 0 ∧ (0 : Int) ≤ 1000000000 by omega), zqt (show (0 : Int) ≤ (0 + 1) ∧ ((0 + 1) : Int) ≤ 1000000000 by omega), zq2l (show (0 : Int) ≤ (0 + 1) ∧ ((0 + 1) : Int) ≤ 1000000000 by omega), zqu (show (0 : Int) ≤ (0 + 1) ∧ ((0 + 1) : Int) ≤ 1000000000 by omega), sb_o _ (show (0 : Int) ≤ (0 + 1) ∧ ((0 + 1) : Int) ≤ 1000000000 by omega), zqq (show (0 : Int) ≤ (0 + 1) ∧ ((0 + 1) : Int) ≤ 1000000000 by omega), zqt (show (0 : Int) ≤ (0 + 1 + 1) ∧ ((0 + 1 + 1) : Int) ≤ 1000000000 by omega), zq2l (show (0 : Int) ≤ (0 + 1 + 1) ∧ ((0 + 1 + 1) : Int) ≤ 1000000000 by omega), zqu (show (0 : Int) ≤ (0 + 1 + 1) ∧ ((0 + 1 + 1) : Int) ≤ 1000000000 by omega), sb_o _ (show (0 : Int) ≤ (0 + 1 + 1) ∧ ((0 + 1 + 1) : Int) ≤ 1000000000 by omega), zqq (show (0 : Int) ≤ (0 + 1 + 1) ∧ ((0 + 1 + 1) : Int) ≤ 1000000000 by omega), zqt (show (0 : Int) ≤ (0 + 1 + 1 + 1) ∧ ((0 + 1 + 1 + 1) : Int) ≤ 1000000000 by omega), zq2l (show (0 : Int) ≤ (0 + 1 + 1 + 1) ∧ ((0 + 1 + 1 + 1) : Int) ≤ 1000000000 by omega), zqu (show (0 : Int) ≤ (0 + 1 + 1 + 1) ∧ ((0 + 1 + 1 + 1) : Int) ≤ 1000000000 by omega), sb_o _ (show (0 : Int) ≤ (0 + 1 + 1 + 1) ∧ ((0 + 1 + 1 + 1) : Int) ≤ 1000000000 by omega), zqq (show (0 : Int) ≤ (0 + 1 + 1 + 1) ∧ ((0 + 1 + 1 + 1) : Int) ≤ 1000000000 by omega), hit0, hit1, hit2, hit3, low0, low1, low2]]
   refine zq2k (zq30 (zq80 p) (zqbj _) fun m' => i1 ho.2 (by omega) m' _ _) (zq18 (zq12 a)) (by simp only [zq3d, zq3o, zq2j, zq7y, zq5c, zq1b, Fm.size]; omega) fun p1 => ?_
   rw [show sbT (pfT p) (pfF (fmT a)) 0 = (pfF (fmT a)) by simp only [zqt (show (0 : Int) ≤ 0 ∧ (0 : Int) ≤ 1000000000 by omega), zq2l (show (0 : Int) ≤ 0 ∧ (0 : Int) ≤ 1000000000 by omega), zqu (show (0 : Int) ≤ 0 ∧ (0 : Int) ≤ 1000000000 by omega), sb_o _ (show (0 : Int) ≤ 0 ∧ (0 : Int) ≤ 1000000000 by omega), zqq (show (0 : Int) ≤ 0 ∧ (0 : Int) ≤ 1000000000 by omega), zqt (show (0 : Int) ≤ (0 + 1) ∧ ((0 + 1) : Int) ≤ 1000000000 by omega), zq2l (show (0 : Int) ≤ (0 + 1) ∧ ((0 + 1) : Int) ≤ 1000000000 by omega), zqu (show (0 : Int) ≤ (0 + 1) ∧ ((0 + 1) : Int) ≤ 1000000000 by omega), sb_o _ (show (0 : Int) ≤ (0 + 1) ∧ ((0 + 1) : Int) ≤ 1000000000 by omega), zqq (show (0 : Int) ≤ (0 + 1) ∧ ((0 + 1) : Int) ≤ 1000000000 by omega), zqt (show (0 : Int) ≤ (0 + 1 + 1) ∧ ((0 + 1 + 1) : Int) ≤ 1000000000 by omega), zq2l (show (0 : Int) ≤ (0 + 1 + 1) ∧ ((0 + 1 + 1) : Int) ≤ 1000000000 by omega), zqu (show (0 : Int) ≤ (0 + 1 + 1) ∧ ((0 + 1 + 1) : Int) ≤ 1000000000 by omega), sb_o _ (show (0 : Int) ≤ (0 + 1 + 1) ∧ ((0 + 1 + 1) : Int) ≤ 1000000000 by omega), zqq (show (0 : Int) ≤ (0 + 1 + 1) ∧ ((0 + 1 + 1) : Int) ≤ 1000000000 by omega), zqt (show (0 : Int) ≤ (0 + 1 + 1 + 1) ∧ ((0 + 1 + 1 + 1) : Int) ≤ 1000000000 by omega), zq2l (show (0 : Int) ≤ (0 + 1 + 1 + 1) ∧ ((0 + 1 + 1 + 1) : Int) ≤ 1000000000 by omega), zqu (show (0 : Int) ≤ (0 + 1 + 1 + 1) ∧ ((0 + 1 + 1 + 1) : Int) ≤ 1000000000 by omega), sb_o _ (show (0 : Int) ≤ (0 + 1 + 1 + 1) ∧ ((0 + 1 + 1 + 1) : Int) ≤ 1000000000 by omega), zqq (show (0 : Int) ≤ (0 + 1 + 1 + 1) ∧ ((0 + 1 + 1 + 1) : Int) ≤ 1000000000 by omega), hit0, hit1, hit2, hit3, low0, low1, low2]]
   exact zqa2 _ _ _ _
theorem judg_due {ctx : List Tr} {f : Fm} (h : f.ok = true) (M : Nat) (p s : Int) : famC zq4c M ctx (judg f) p s = (.inr (), s) := by
 unfold judg pfF
 refine famC_exact (A := .pi oF .typ) (l := .typ) (by kernel_rfl) rfl fun m' p' => ?_
 refine zq7v (zq3g h _ _ _) flat_typ (by rw [size_typ]; omega) (by rw [sb_typ]; exact typ_small) fun p2 => ?_
 rw [sb_typ]; rfl
theorem judg_fam {f : Fm} (h : f.ok = true) (hs : f.size ≤ 149) : (judg f).famOK = true := by
 unfold Tr.famOK
 rw [small_of (by rw [zqgy]; omega), Bool.true_and]
 unfold judg pfF
 refine fam_fm (by rfl) ?_
 simp only [List.forall_mem_cons]
 exact ⟨zq4g f h, by simp⟩
theorem ctxGoJ {ctx : List Tr} : ∀ (l : List Fm) (i : Nat), (∀ f ∈ l, f.ok = true ∧ f.size ≤ 149) → ctxGo zq4c ctx i (l.map judg) = true
 | [], i, _ => rfl
 | f :: r, i, h => by
   simp only [List.map_cons, ctxGo]
   have hf := h f (by simp)
   rw [judg_fam hf.1 hf.2, ctxGoJ r (i + 1) fun g hg => h g (by simp [hg])]
   unfold zq85
   rw [judg_due hf.1]
   rfl
theorem logic_right : sigOKT zq4c = true := by
 have hc : zqen zq4c [] = true := by kernel_rfl
 unfold zqen at hc
 rw [Bool.and_eq_true, Bool.and_eq_true] at hc
 exact hc.1.2
theorem ctxJ_right {G : List Fm} (h : ∀ f ∈ G, f.ok = true ∧ f.size ≤ 149) (hl : G.length ≤ 12) : zqen zq4c (ctxJ G) = true := by
 unfold zqen
 rw [logic_right]
 have : ctxGo zq4c (ctxJ G) 0 (ctxJ G) = true := ctxGoJ G.reverse 0 fun f hf => h f (by simpa using hf)
 rw [this]
 simp [ctxJ]; omega
theorem proof_checked {G : List Fm} {p : Pf} {f : Fm} (h : Prv G p f) (ho : p.ok = true) (hG : ∀ g ∈ G, g.ok = true ∧ g.size ≤ 149) (hl : G.length ≤ 12) (hf : f.ok = true) (hfs : f.size ≤ 149) (hs : (pfT p).size ≤ 150) :
  (zq98 zq4c (ctxJ G) ((pfT p).termOK && dueT zq4c (ctxJ G) (judg f)) (zqfn (zqab zq4c 900000 (ctxJ G) (pfT p) (judg f) 0 0))).1 = 0 ∨
  (zq98 zq4c (ctxJ G) ((pfT p).termOK && dueT zq4c (ctxJ G) (judg f)) (zqfn (zqab zq4c 900000 (ctxJ G) (pfT p) (judg f) 0 0))).1 = 11 := by
 have hc := (pfT_size p).1
 have ht : (pfT p).termOK = true := by unfold Tr.termOK; rw [small_of hs, pfT_term p ho]; rfl
 have hd : dueT zq4c (ctxJ G) (judg f) = true := by
  unfold dueT zq85
  rw [judg_fam hf hfs, judg_due hf]; rfl
 unfold zq98
 rw [if_neg (by simp [zq4c, ctxJ]; omega), ctxJ_right hG hl, ht, hd, if_neg (by decide)]
 rcases zq30 (zq80 p) (by rw [judg_kind]; decide) (fun m' => found_proof h ho (by omega) m' 0 0) (m := 900000) with e | ⟨q, e⟩
 ·rw [e]; exact .inl rfl
 ·rw [e]; exact .inr rfl
end Go.H
