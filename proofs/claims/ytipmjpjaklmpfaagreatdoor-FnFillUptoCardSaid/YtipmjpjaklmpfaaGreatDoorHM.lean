/- Part of a proof that the program answers as the reference does: HPure24, HPure25, HPure23, HPure26, HPure27, HPure40, HPure28, HPure29, HPure41, HPure42, HPure30, HPure32, HHeld, HFm, HHeldS, HFreeze, HWalk, HPure50, HPure52, HPure53, HPure54, HPure55. -/
import Derived.Test.YtipmjpjaklmpfaaGreatDoorHP
namespace Go.H
open Go
set_option linter.unusedVariables false
set_option linter.unusedSimpArgs false

inductive Flat : Tr → Prop
  | of (t : Tr) : (t.kind = 5 → t.kids = []) → (∀ x ∈ t.kids, Flat x) → Flat t
theorem Flat.bare {t : Tr} (h : Flat t) : t.kind = 5 → t.kids = [] := by cases h; assumption
theorem Flat.kids {t : Tr} (h : Flat t) : ∀ x ∈ t.kids, Flat x := by cases h; assumption
def sbT (m t : Tr) (n : Int) : Tr :=
  if t.kind = 5 ∧ t.n = n then m.lift 0 n else .mk t.kind (if t.kind = 5 ∧ n < t.n then W (t.n - 1) else t.n) t.name (t.kids.attach.mapIdx fun i x => sbT m x.1 (W (n + t.under i)))
termination_by SizeOf.sizeOf t
decreasing_by exact Tr.kids_lt x.2
theorem sbT_eq (m t : Tr) (n : Int) : sbT m t n = if t.kind = 5 ∧ t.n = n then m.lift 0 n else .mk t.kind (if t.kind = 5 ∧ n < t.n then W (t.n - 1) else t.n) t.name (t.kids.mapIdx fun i x => sbT m x (W (n + t.under i))) := by
  rw [sbT, attach_mapIdx t.kids (fun i x => sbT m x (W (n + t.under i)))]
theorem kidsT_flat {f : Nat → Tr → Int → (Int ⊕ Tr) × Int} {g : Nat → Tr → Tr} : ∀ (l : List Tr) (i : Nat) (s : Int), (∀ (j : Nat) (x : Tr), x ∈ l → f j x s = (.inr (g j x), s) ∨ f j x s = (.inl 11, s)) →
    kidsT f i l s = (.inr (l.mapIdx fun j x => g (i + j) x), s) ∨ kidsT f i l s = (.inl 11, s)
  | [], _, _, _ => .inl rfl
  | x :: r, i, s, h => by
    unfold kidsT
    rcases h i x (by simp) with h1 | h1
    · rw [h1]
      simp only
      rcases kidsT_flat (g := g) r (i + 1) s (fun j y hy => h j y (by simp [hy])) with h2 | h2
      · rw [h2]
        refine .inl ?_
        rw [List.mapIdx_cons]
        simp only [Nat.add_zero]
        congr 3
        congr 1
        funext j y
        rw [show i + 1 + j = i + (j + 1) by omega]
      · rw [h2]; exact .inr rfl
    · rw [h1]; exact .inr rfl
theorem subT_flat : ∀ (N : Nat) (m a t : Tr) (n s : Int), Flat t → t.size ≤ N → subT N m a t n s = (.inr (sbT m t n), s) ∨ subT N m a t n s = (.inl 11, s)
  | 0, m, a, t, n, s, _, hN => absurd hN (by rw [Tr.size_kids]; omega)
  | N + 1, m, a, t, n, s, hf, hN => by
    have hk := kidsT_flat (f := fun i x s => subT N m a x (W (n + t.under i)) s) (g := fun i x => sbT m x (W (n + t.under i))) t.kids 0 s (fun j x hx => subT_flat N m a x _ s (hf.kids x hx) (by
      have := Tr.kid_size hx
      omega))
    unfold subT
    rcases hk with h | h
    · rw [h]
      simp only
      by_cases hv : t.kind = 5 ∧ t.n = n
      · rw [if_pos hv, sbT_eq, if_pos hv]
        by_cases hb : (m.lift 0 n).big = true
        · rw [if_pos hb]; exact .inr rfl
        · rw [if_neg hb, hf.bare hv.1]
          simp only [List.mapIdx_nil, redT]
          exact .inl trivial
      · rw [if_neg hv, sbT_eq, if_neg hv]
        simp only [Nat.zero_add]
        by_cases hb : (Tr.mk t.kind (if t.kind = 5 ∧ n < t.n then W (t.n - 1) else t.n) t.name (t.kids.mapIdx fun i x => sbT m x (W (n + t.under i)))).big = true
        · rw [if_pos hb]; exact .inr rfl
        · rw [if_neg hb]; exact .inl rfl
    · rw [h]; exact .inr rfl
end Go.H
namespace Go.H
open Go
set_option linter.unusedVariables false
set_option linter.unusedSimpArgs false

inductive FlatN : Tr → Prop
  | of (t : Tr) : (t.kind = 5 → t = Tr.var t.n [] ∧ 0 ≤ t.n ∧ t.n ≤ 1000000) → (∀ x ∈ t.kids, FlatN x) → FlatN t
theorem FlatN.v {t : Tr} (h : FlatN t) : t.kind = 5 → t = Tr.var t.n [] ∧ 0 ≤ t.n ∧ t.n ≤ 1000000 := by cases h; assumption
theorem FlatN.kids {t : Tr} (h : FlatN t) : ∀ x ∈ t.kids, FlatN x := by cases h; assumption
theorem FlatN.flat {t : Tr} : FlatN t → Flat t := by
  induction t using Tr.ind with
  | _ t ih => exact fun h => Flat.of t (fun h5 => by rw [(h.v h5).1]; rfl) (fun x hx => ih x hx (h.kids x hx))
theorem lift_var (n f b : Int) : (Tr.var n []).lift f b = Tr.var (if f ≤ n then W (n + b) else n) [] := by
  rw [Tr.lift_eq]; simp [Tr.var, Tr.kind, Tr.n, Tr.name, Tr.kids]
theorem sbT_var (m : Tr) (k n : Int) : sbT m (Tr.var k []) n = if k = n then m.lift 0 n else Tr.var (if n < k then W (k - 1) else k) [] := by
  rw [sbT_eq]; simp [Tr.var, Tr.kind, Tr.n, Tr.name, Tr.kids]
end Go.H
namespace Go.H
open Go
set_option linter.unusedVariables false
set_option linter.unusedSimpArgs false

end Go.H
namespace Go.H
open Go
set_option linter.unusedVariables false
set_option linter.unusedSimpArgs false

def Tr.fm (s : List UInt8) (ks : List Tr) : Tr := .mk 3 0 s ks
def Tr.pi (a b : Tr) : Tr := .mk 2 0 [] [a, b]
def Tr.typ : Tr := .mk 1 0 [] []
def wNat : List UInt8 := [110, 97, 116]
def wZ : List UInt8 := [122]
def wS : List UInt8 := [115]
def wVec : List UInt8 := [118, 101, 99]
def wNil : List UInt8 := [110, 105, 108]
def wCons : List UInt8 := [99, 111, 110, 115]
def wPlus : List UInt8 := [112, 108, 117, 115]
def wPz : List UInt8 := [112, 122]
def wPs : List UInt8 := [112, 115]
def wIt : List UInt8 := [105, 116]
def wAll : List UInt8 := [97, 108, 108]
def wMk : List UInt8 := [109, 107]
def natF : Tr := .fm wNat []
def zT : Tr := .const wZ []
def sT (t : Tr) : Tr := .const wS [t]
def xT (n : Int) : Tr := .var n []
def vecF (k : Tr) : Tr := .fm wVec [k]
def plusF (a b c : Tr) : Tr := .fm wPlus [a, b, c]
def allF (f : Tr) : Tr := .fm wAll [f]
def numbersL : List Dc :=
  [⟨wNat, true, .typ⟩, ⟨wZ, false, natF⟩, ⟨wS, false, .pi natF natF⟩, ⟨wVec, true, .pi natF .typ⟩, ⟨wNil, false, vecF zT⟩,
   ⟨wCons, false, .pi natF (.pi natF (.pi (vecF (xT 1)) (vecF (sT (xT 2)))))⟩, ⟨wPlus, true, .pi natF (.pi natF (.pi natF .typ))⟩,
   ⟨wPz, false, .pi natF (plusF zT (xT 0) (xT 0))⟩,
   ⟨wPs, false, .pi natF (.pi natF (.pi natF (.pi (plusF (xT 2) (xT 1) (xT 0)) (plusF (sT (xT 3)) (xT 2) (sT (xT 1))))))⟩,
   ⟨wIt, false, .pi (.pi natF natF) (.pi natF natF)⟩, ⟨wAll, true, .pi (.pi natF natF) .typ⟩,
   ⟨wMk, false, .pi (.pi natF natF) (allF (.lam (.var 1 [xT 0])))⟩]
inductive NatT : Nat → Tr → Prop
  | var {n : Nat} {i : Int} : 0 ≤ i → i < n → NatT n (xT i)
  | z {n : Nat} : NatT n zT
  | s {n : Nat} {t : Tr} : NatT n t → NatT n (sT t)
  | it {n : Nat} {t u : Tr} : NatT (n + 1) t → NatT n u → NatT n (.const wIt [.lam t, u])
def cntT : Nat → Tr
  | 0 => zT
  | k + 1 => sT (cntT k)
inductive ListT (n : Nat) : Nat → Tr → Prop
  | nil : ListT n 0 (.const wNil [])
  | cons {k : Nat} {x t : Tr} : NatT n x → ListT n k t → ListT n (k + 1) (.const wCons [cntT k, x, t])
inductive SumT (n : Nat) (m : Tr) : Nat → Tr → Tr → Prop
  | z : SumT n m 0 (.const wPz [m]) m
  | s {k : Nat} {t u : Tr} : SumT n m k t u → SumT n m (k + 1) (.const wPs [cntT k, m, u, t]) (sT u)
inductive JudgedT (n : Nat) : Tr → Tr → Prop
  | fn {t : Tr} : NatT (n + 1) t → t.size ≤ 1000 → JudgedT n (.lam t) (.pi natF natF)
  | list {k : Nat} {t : Tr} : k ≤ 1000 → ListT n k t → t.size ≤ 1000 → JudgedT n t (vecF (cntT k))
  | sum {k : Nat} {m t u : Tr} : k ≤ 1000 → NatT n m → m.size ≤ 1000 → SumT n m k t u → t.size ≤ 1000 → JudgedT n t (plusF (cntT k) m u)
  | mk {t : Tr} : NatT (n + 1) t → t.size ≤ 1000 → JudgedT n (.const wMk [.lam t]) (allF (.lam t))
  | num {t : Tr} : NatT n t → t.size ≤ 1000 → JudgedT n t natF

theorem mapIdx_map {α β : Type} (f : α → β) (l : List α) : (l.mapIdx fun _ x => f x) = l.map f := by
  induction l with
  | nil => rfl
  | cons x r ih => rw [List.mapIdx_cons, ih]; rfl
section
variable {n : Int} (h : 0 ≤ n ∧ n ≤ 1000000000)
include h
theorem sbT_fm (m : Tr) (s : List UInt8) (ks : List Tr) : sbT m (.fm s ks) n = .fm s (ks.map fun x => sbT m x n) := by
  rw [sbT_eq]
  simp only [Tr.fm, Tr.kind, Tr.n, Tr.name, Tr.kids, Tr.under]
  simp [W_in (show -9223372036854775808 ≤ n ∧ n ≤ 9223372036854775807 by omega), mapIdx_map]
theorem sbT_const (m : Tr) (s : List UInt8) (ks : List Tr) : sbT m (.const s ks) n = .const s (ks.map fun x => sbT m x n) := by
  rw [sbT_eq]
  simp only [Tr.const, Tr.kind, Tr.n, Tr.name, Tr.kids, Tr.under]
  simp [W_in (show -9223372036854775808 ≤ n ∧ n ≤ 9223372036854775807 by omega), mapIdx_map]
theorem sbT_lam (m t : Tr) : sbT m (.lam t) n = .lam (sbT m t (n + 1)) := by
  rw [sbT_eq]
  simp only [Tr.lam, Tr.kind, Tr.n, Tr.name, Tr.kids, Tr.under]
  simp [W_in (show -9223372036854775808 ≤ n + 1 ∧ n + 1 ≤ 9223372036854775807 by omega)]
theorem sbT_pi (m a b : Tr) : sbT m (.pi a b) n = .pi (sbT m a n) (sbT m b (n + 1)) := by
  rw [sbT_eq]
  simp only [Tr.pi, Tr.kind, Tr.n, Tr.name, Tr.kids, Tr.under]
  simp [W_in (show -9223372036854775808 ≤ n ∧ n ≤ 9223372036854775807 by omega), W_in (show -9223372036854775808 ≤ n + 1 ∧ n + 1 ≤ 9223372036854775807 by omega)]
theorem lift_const (b : Int) (s : List UInt8) (ks : List Tr) : (Tr.const s ks).lift n b = .const s (ks.map fun x => x.lift n b) := by
  rw [Tr.lift_eq]
  simp only [Tr.const, Tr.kind, Tr.n, Tr.name, Tr.kids, Tr.under]
  simp [W_in (show -9223372036854775808 ≤ n ∧ n ≤ 9223372036854775807 by omega), mapIdx_map]
theorem lift_lam (b : Int) (t : Tr) : (Tr.lam t).lift n b = .lam (t.lift (n + 1) b) := by
  rw [Tr.lift_eq]
  simp only [Tr.lam, Tr.kind, Tr.n, Tr.name, Tr.kids, Tr.under]
  simp [W_in (show -9223372036854775808 ≤ n + 1 ∧ n + 1 ≤ 9223372036854775807 by omega)]
theorem sbT_count (m : Tr) (k : Nat) : sbT m (cntT k) n = cntT k := by
  induction k with
  | zero => unfold cntT zT; rw [sbT_const h]; rfl
  | succ k ih => unfold cntT sT; rw [sbT_const h]; simp [ih]
end
theorem NatT.more {n m : Nat} {t : Tr} (h : NatT n t) (hm : n ≤ m) : NatT m t := by
  induction h generalizing m with
  | var h0 h1 => exact .var h0 (by omega)
  | z => exact .z
  | s _ ih => exact .s (ih hm)
  | it _ _ i1 i2 => exact .it (i1 (by omega)) (i2 hm)
end Go.H
namespace Go.H
open Go
set_option linter.unusedVariables false
set_option linter.unusedSimpArgs false

def Out {α : Type} (r : (Fz ⊕ α) × Int) (x : α) (s : Int) : Prop := r = (.inr x, s) ∨ ∃ q, r = (.inl (11, q), s)
theorem flat_fm {s : List UInt8} {ks : List Tr} (h : ∀ x ∈ ks, Flat x) : Flat (.fm s ks) := Flat.of _ (fun h => by simp [Tr.fm, Tr.kind] at h) (by simpa [Tr.fm, Tr.kids] using h)
theorem flat_const {s : List UInt8} {ks : List Tr} (h : ∀ x ∈ ks, Flat x) : Flat (.const s ks) := Flat.of _ (fun h => by simp [Tr.const, Tr.kind] at h) (by simpa [Tr.const, Tr.kids] using h)
theorem flat_pi {a b : Tr} (ha : Flat a) (hb : Flat b) : Flat (.pi a b) := Flat.of _ (fun h => by simp [Tr.pi, Tr.kind] at h) (by simp [Tr.pi, Tr.kids, ha, hb])
theorem flat_lam {t : Tr} (ha : Flat t) : Flat (.lam t) := Flat.of _ (fun h => by simp [Tr.lam, Tr.kind] at h) (by simp [Tr.lam, Tr.kids, ha])
theorem flat_x (n : Int) : Flat (xT n) := Flat.of _ (fun _ => rfl) (fun x hx => by simp [xT, Tr.var, Tr.kids] at hx)
theorem flat_nat : Flat natF := flat_fm (by simp)
theorem flat_z : Flat zT := flat_const (by simp)
theorem flat_s {t : Tr} (h : Flat t) : Flat (sT t) := flat_const (by simpa using h)
theorem flat_count : ∀ k, Flat (cntT k)
  | 0 => flat_z
  | k + 1 => flat_s (flat_count k)
theorem size_fm (s : List UInt8) (ks : List Tr) : (Tr.fm s ks).size = 1 + Tr.sizes ks := by rw [Tr.size_kids]; rfl
theorem size_const (s : List UInt8) (ks : List Tr) : (Tr.const s ks).size = 1 + Tr.sizes ks := by rw [Tr.size_kids]; rfl
theorem size_pi (a b : Tr) : (Tr.pi a b).size = 1 + (a.size + b.size) := by rw [Tr.size_kids]; simp [Tr.pi, Tr.kids, Tr.sizes]
theorem size_lam (a : Tr) : (Tr.lam a).size = 1 + a.size := by rw [Tr.size_kids]; simp [Tr.lam, Tr.kids, Tr.sizes]
theorem size_nat : natF.size = 1 := by unfold natF; rw [size_fm]; rfl
theorem size_s (t : Tr) : (sT t).size = 1 + t.size := by unfold sT; rw [size_const]; simp [Tr.sizes]
section
variable {n : Int} (h : 0 ≤ n ∧ n ≤ 1000000000)
include h
theorem sb_nat (m : Tr) : sbT m natF n = natF := by unfold natF; rw [sbT_fm h]; rfl
theorem sb_s (m t : Tr) : sbT m (sT t) n = sT (sbT m t n) := by unfold sT; rw [sbT_const h]; rfl
theorem sb_z (m : Tr) : sbT m zT n = zT := by unfold zT; rw [sbT_const h]; rfl
theorem lift_s (b : Int) (t : Tr) : (sT t).lift n b = sT (t.lift n b) := by unfold sT; rw [lift_const h]; rfl
end
theorem leftC_flat {t a : Tr} {p s : Int} (hf : Flat (a.kid 1)) (hs : (a.kid 1).size ≤ 100000000) : Out (leftC t a p s) (sbT t (a.kid 1) 0) s := by
  unfold leftC
  rcases subT_flat 100000000 t (eraseT (a.kid 0)) (a.kid 1) 0 s hf hs with h | h
  · rw [h]; exact .inl rfl
  · rw [h]; exact .inr ⟨p, rfl⟩
theorem argsC_pi {f : Tr → Tr → Int → Int → (Fz ⊕ Unit) × Int} {x : Tr} {r : List Tr} {A B c : Tr} {p s : Int} (hf : Out (f x A p s) () s) (hB : Flat B) (hs : B.size ≤ 100000000)
    (hr : ∀ p', Out (argsC f r (sbT x B 0) p' s) c s) : Out (argsC f (x :: r) (.pi A B) p s) c s := by
  unfold argsC
  rw [if_pos (by rfl), show (Tr.pi A B).kid 0 = A by rfl]
  rcases hf with h | ⟨q, h⟩
  · rw [h]
    simp only
    rcases leftC_flat (t := x) (a := .pi A B) (p := p) (s := s) hB hs with h2 | ⟨q, h2⟩
    · rw [h2]; exact hr _
    · rw [h2]; exact .inr ⟨q, rfl⟩
  · rw [h]; exact .inr ⟨q, rfl⟩
theorem argsC_end (f : Tr → Tr → Int → Int → (Fz ⊕ Unit) × Int) (a : Tr) (p s : Int) : Out (argsC f [] a p s) a s := .inl rfl
def ctxN (n : Nat) : List Tr := List.replicate n natF
theorem ctxN_more (n : Nat) : ctxN n ++ [natF] = ctxN (n + 1) := List.replicate_succ'.symm
theorem foundC_const {f : Tr → Tr → Int → Int → (Fz ⊕ Unit) × Int} {ctx : List Tr} {w : List UInt8} {ks : List Tr} {A c : Tr} {p s : Int} (hd : declaredT numbersL w false = some A) (hc : c.kind = 3) (ha : ∀ p', Out (argsC f ks A p' s) c s) :
    Out (foundC f numbersL ctx (.const w ks) p s) c s := by
  unfold foundC
  have h1 : headC numbersL ctx (.const w ks) = .inr A := by
    unfold headC
    rw [if_neg (show ¬ (Tr.const w ks).kind = 5 by simp [Tr.const, Tr.kind]), if_pos (show (Tr.const w ks).kind = 6 by rfl), show (Tr.const w ks).name = w by rfl, hd]
  rw [h1, show (Tr.const w ks).kids = ks by rfl]
  simp only
  rcases ha (p + 1) with h | ⟨q, h⟩
  · rw [h]; simp only; rw [if_pos hc]; exact .inl rfl
  · rw [h]; exact .inr ⟨q, rfl⟩
theorem termC_found {sig : List Dc} {m : Nat} {ctx : List Tr} {t a : Tr} {p s : Int} (h4 : t.kind ≠ 4) (h2 : a.kind ≠ 2) (h : ∀ m', Out (foundC (termC sig m' ctx) sig ctx t p s) a s) : Out (termC sig m ctx t a p s) () s := by
  cases m with
  | zero => exact .inl rfl
  | succ m =>
    unfold termC
    rw [if_neg h4, if_neg h2]
    rcases h m with h | ⟨q, h⟩
    · rw [h]; simp only; rw [if_pos trivial]; exact .inl rfl
    · rw [h]; exact .inr ⟨q, rfl⟩
theorem lift_nat (f b : Int) : natF.lift f b = natF := by
  unfold natF Tr.fm
  rw [Tr.lift_eq]
  simp [Tr.kind, Tr.n, Tr.name, Tr.kids]
theorem found_var {f : Tr → Tr → Int → Int → (Fz ⊕ Unit) × Int} {n : Nat} {i : Int} (h0 : 0 ≤ i) (h1 : i < n) (p s : Int) : Out (foundC f numbersL (ctxN n) (xT i) p s) natF s := by
  unfold foundC
  have e1 : ((ctxN n)[(((ctxN n).length : Int) - 1 - (xT i).n).toNat]?).getD noTree = natF := by
    unfold ctxN
    rw [List.length_replicate, List.getElem?_replicate, if_pos (by show ((n : Int) - 1 - i).toNat < n; omega)]
    rfl
  have hh : headC numbersL (ctxN n) (xT i) = .inr natF := by
    unfold headC
    rw [if_pos (by rfl), e1, lift_nat, if_neg (by show ¬ i ≥ ((ctxN n).length : Int); unfold ctxN; rw [List.length_replicate]; omega), if_neg (by rw [show natF.big = false by kernel_rfl]; decide)]
  rw [hh, show (xT i).kids = [] by rfl]
  exact .inl rfl
theorem found_nat {n : Nat} {t : Tr} (h : NatT n t) : ∀ (M : Nat) (p s : Int), Out (foundC (termC numbersL M (ctxN n)) numbersL (ctxN n) t p s) natF s ∧ t.kind ≠ 4 := by
  induction h with
  | var h0 h1 => exact fun M p s => ⟨found_var h0 h1 p s, by simp [xT, Tr.var, Tr.kind]⟩
  | z => exact fun M p s => ⟨foundC_const (A := natF) rfl rfl fun p' => argsC_end _ _ _ _, by simp [zT, Tr.const, Tr.kind]⟩
  | @s n t ht ih =>
    refine fun M p s => ⟨foundC_const (A := .pi natF natF) rfl rfl fun p' => ?_, by simp [sT, Tr.const, Tr.kind]⟩
    refine argsC_pi (termC_found (ih 0 0 0).2 (by decide) fun m' => (ih m' _ _).1) flat_nat (by rw [size_nat]; omega) fun p2 => ?_
    rw [sb_nat (by omega)]
    exact argsC_end _ _ _ _
  | @it n t u ht hu iht ihu =>
    refine fun M p s => ⟨foundC_const (A := .pi (.pi natF natF) (.pi natF natF)) rfl rfl fun p' => ?_, by simp [Tr.const, Tr.kind]⟩
    refine argsC_pi ?_ (flat_pi flat_nat flat_nat) (by rw [size_pi, size_nat]; omega) fun p2 => ?_
    · cases M with
      | zero => exact .inl rfl
      | succ M =>
        unfold termC
        rw [if_pos (by rfl), if_pos (by rfl), show (Tr.pi natF natF).kid 0 = natF by rfl, show (Tr.pi natF natF).kid 1 = natF by rfl, show (Tr.lam t).kid 0 = t by rfl, ctxN_more]
        exact termC_found (iht 0 0 0).2 (by decide) fun m' => (iht m' _ _).1
    · rw [sbT_pi (by omega), sb_nat (by omega), sb_nat (by omega)]
      refine argsC_pi (termC_found (ihu 0 0 0).2 (by decide) fun m' => (ihu m' _ _).1) flat_nat (by rw [size_nat]; omega) fun p3 => ?_
      rw [sb_nat (by omega)]
      exact argsC_end _ _ _ _
theorem NatT.flat' {n : Nat} {t : Tr} (h : NatT n t) : Flat t := by
  induction h with
  | var => exact flat_x _
  | z => exact flat_z
  | s _ ih => exact flat_s ih
  | it _ _ i1 i2 => exact flat_const (by simp [i2, flat_lam i1])
theorem SumT.nat {n k : Nat} {m t u : Tr} (hm : NatT n m) (h : SumT n m k t u) : NatT n u := by
  induction h with
  | z => exact hm
  | s _ ih => exact .s ih
end Go.H
namespace Go.H
open Go
set_option linter.unusedVariables false
set_option linter.unusedSimpArgs false

def tyOf (cs : List Ty) (w : List UInt8) : Option Tr := match cs with
  | [] => none
  | x :: r => if x.name = w then some x.type else tyOf r w
def Tr.hole (n : Int) (ks : List Tr) : Tr := .mk 7 n [] ks
mutual
inductive LT (cs : List Ty) (hs : List Tr) : List Tr → Tr → Tr → Prop
  | lam {ctx : List Tr} {t x y : Tr} : LT cs hs (x :: ctx) t y → LT cs hs ctx (.lam t) (.arrow x y)
  | var {ctx : List Tr} {n : Nat} {ks : List Tr} {b : Tr} {s : List UInt8} : ctx[n]? = some b → LS cs hs ctx ks b (.base s) → LT cs hs ctx (.var (n : Int) ks) (.base s)
  | hole {ctx : List Tr} {n : Nat} {ks : List Tr} {b : Tr} {s : List UInt8} : hs[n]? = some b → LS cs hs ctx ks b (.base s) → LT cs hs ctx (.hole (n : Int) ks) (.base s)
  | const {ctx : List Tr} {w : List UInt8} {ks : List Tr} {b : Tr} {s : List UInt8} : tyOf cs w = some b → LS cs hs ctx ks b (.base s) → LT cs hs ctx (.const w ks) (.base s)
inductive LS (cs : List Ty) (hs : List Tr) : List Tr → List Tr → Tr → Tr → Prop
  | nil {ctx : List Tr} {a : Tr} : LS cs hs ctx [] a a
  | cons {ctx : List Tr} {k x y c : Tr} {ks : List Tr} : LT cs hs ctx k x → LS cs hs ctx ks y c → LS cs hs ctx (k :: ks) (.arrow x y) c
end
section
variable {cs : List Ty} {hs : List Tr}
theorem LT.lam_inv {ctx : List Tr} {t a : Tr} (h : LT cs hs ctx t a) (hk : t.kind = 4) : ∃ u x y, t = .lam u ∧ a = .arrow x y ∧ LT cs hs (x :: ctx) u y := by
  cases h with
  | lam h => exact ⟨_, _, _, rfl, rfl, h⟩
  | var _ _ => simp [Tr.var, Tr.kind] at hk
  | hole _ _ => simp [Tr.hole, Tr.kind] at hk
  | const _ _ => simp [Tr.const, Tr.kind] at hk
theorem LT.arrow_inv {ctx : List Tr} {t x y : Tr} (h : LT cs hs ctx t (.arrow x y)) : ∃ u, t = .lam u ∧ LT cs hs (x :: ctx) u y := by
  generalize he : Tr.arrow x y = a at h
  cases h with
  | lam h => unfold Tr.arrow at he; injection he with _ _ _ h4; simp only [List.cons.injEq, and_true] at h4; obtain ⟨rfl, rfl⟩ := h4; exact ⟨_, rfl, h⟩
  | var _ _ => simp [Tr.arrow, Tr.base] at he
  | hole _ _ => simp [Tr.arrow, Tr.base] at he
  | const _ _ => simp [Tr.arrow, Tr.base] at he
theorem lift_varK {f b : Int} (hf : 0 ≤ f ∧ f ≤ 1000000000) (n : Int) (ks : List Tr) : (Tr.var n ks).lift f b = .var (if f ≤ n then W (n + b) else n) (ks.map fun x => x.lift f b) := by
  rw [Tr.lift_eq]
  simp only [Tr.var, Tr.kind, Tr.n, Tr.name, Tr.kids, Tr.under]
  simp [W_in (show -9223372036854775808 ≤ f ∧ f ≤ 9223372036854775807 by omega), mapIdx_map]
theorem lift_holeK {f b : Int} (hf : 0 ≤ f ∧ f ≤ 1000000000) (n : Int) (ks : List Tr) : (Tr.hole n ks).lift f b = .hole n (ks.map fun x => x.lift f b) := by
  rw [Tr.lift_eq]
  simp only [Tr.hole, Tr.kind, Tr.n, Tr.name, Tr.kids, Tr.under]
  simp [W_in (show -9223372036854775808 ≤ f ∧ f ≤ 9223372036854775807 by omega), mapIdx_map]
theorem size_varK (n : Int) (ks : List Tr) : (Tr.var n ks).size = 1 + Tr.sizes ks := by rw [Tr.size_kids]; rfl
theorem size_holeK (n : Int) (ks : List Tr) : (Tr.hole n ks).size = 1 + Tr.sizes ks := by rw [Tr.size_kids]; rfl
theorem sizes_consK (x : Tr) (r : List Tr) : Tr.sizes (x :: r) = x.size + Tr.sizes r := by simp [Tr.sizes]
theorem getK_app {α : Type} {D P G : List α} {n : Nat} {b : α} (h : (D ++ G)[n]? = some b) : (D ++ (P ++ G))[if D.length ≤ n then n + P.length else n]? = some b := by
  by_cases hn : D.length ≤ n
  · rw [if_pos hn]
    rw [List.getElem?_append_right hn] at h
    rw [List.getElem?_append_right (by omega), List.getElem?_append_right (by omega), show n + P.length - D.length - P.length = n - D.length by omega]
    exact h
  · rw [if_neg hn]
    rw [List.getElem?_append_left (by omega)] at h
    rw [List.getElem?_append_left (by omega)]
    exact h
mutual
theorem LT.lift' {ctx : List Tr} {t a : Tr} (h : LT cs hs ctx t a) (D P G : List Tr) (hc : ctx = D ++ G) (hb : D.length + P.length + G.length + t.size ≤ 1000000000) : LT cs hs (D ++ (P ++ G)) (t.lift D.length P.length) a := by
  match h with
  | .lam (t := t) (x := x) h =>
    rw [size_lam] at hb
    rw [lift_lam (by omega)]
    have := LT.lift' h (x :: D) P G (by rw [hc]; rfl) (by simp only [List.length_cons]; omega)
    simp only [List.length_cons, Int.natCast_add, Int.cast_ofNat_Int] at this
    exact .lam this
  | .var (n := n) (ks := ks) hn hk =>
    rw [size_varK] at hb
    rw [lift_varK (by omega)]
    rw [hc] at hn
    have hlt : n < D.length + G.length := by
      have := (List.getElem?_eq_some_iff.1 hn).1
      simpa using this
    have e : (if (D.length : Int) ≤ (n : Int) then W ((n : Int) + P.length) else (n : Int)) = (((if D.length ≤ n then n + P.length else n) : Nat) : Int) := by
      by_cases hd : D.length ≤ n
      · rw [if_pos hd, if_pos (by omega), W_in (by omega)]; omega
      · rw [if_neg hd, if_neg (by omega)]
    rw [e]
    exact .var (getK_app hn) (LS.lift' hk D P G hc (by omega))
  | .hole hn hk =>
    rw [size_holeK] at hb
    rw [lift_holeK (by omega)]
    exact .hole hn (LS.lift' hk D P G hc (by omega))
  | .const hn hk =>
    rw [size_const] at hb
    rw [lift_const (by omega)]
    exact .const hn (LS.lift' hk D P G hc (by omega))
termination_by structural h
theorem LS.lift' {ctx : List Tr} {ks : List Tr} {b c : Tr} (h : LS cs hs ctx ks b c) (D P G : List Tr) (hc : ctx = D ++ G) (hb : D.length + P.length + G.length + Tr.sizes ks ≤ 1000000000) : LS cs hs (D ++ (P ++ G)) (ks.map fun x => x.lift D.length P.length) b c := by
  match h with
  | .nil => exact .nil
  | .cons h1 h2 =>
    rw [sizes_consK] at hb
    exact .cons (LT.lift' h1 D P G hc (by omega)) (LS.lift' h2 D P G hc (by omega))
termination_by structural h
end
end
end Go.H
namespace Go.H
open Go
set_option linter.unusedVariables false
set_option linter.unusedSimpArgs false

def Fin {α : Type} (r : (Fz ⊕ α) × Int) (x : α) : Prop := r.1 = .inr x ∨ ∃ q, r.1 = .inl (11, q)
theorem Out.fin {α : Type} {r : (Fz ⊕ α) × Int} {x : α} {s : Int} (h : Out r x s) : Fin r x := by
  rcases h with h | ⟨q, h⟩
  · exact .inl (by rw [h])
  · exact .inr ⟨q, by rw [h]⟩
theorem ListT.kind {n k : Nat} {t : Tr} (h : ListT n k t) : t.kind = 6 := by cases h <;> rfl
theorem SumT.kind {n k : Nat} {m t u : Tr} (h : SumT n m k t u) : t.kind = 6 := by cases h <;> rfl
theorem NatT.kind {n : Nat} {t : Tr} (h : NatT n t) : t.kind ≠ 4 := (found_nat h 0 0 0).2
end Go.H
namespace Go.H
open Go
set_option linter.unusedVariables false
set_option linter.unusedSimpArgs false

theorem NatT.lift {n : Nat} {t : Tr} (h : NatT n t) : ∀ (d b : Nat), n ≤ 1000000 → b ≤ 1000000 → d ≤ n → n + t.size ≤ 1000000 → NatT (n + b) (t.lift d b) := by
  induction h with
  | @var n i h0 h1 =>
    intro d b hn hb hd hs
    unfold xT
    rw [lift_var]
    split
    · rw [W_in (by omega)]; exact NatT.var (by omega) (by omega)
    · exact NatT.var h0 (by omega)
  | z => intro d b hn hb hd hs; unfold zT; rw [lift_const (by omega)]; exact NatT.z
  | @s n t ht ih =>
    intro d b hn hb hd hs
    rw [size_s] at hs
    rw [lift_s (by omega)]; exact NatT.s (ih d b hn hb hd (by omega))
  | @it n t u ht hu iht ihu =>
    intro d b hn hb hd hs
    rw [size_const] at hs
    simp only [Tr.sizes, List.map_cons, List.map_nil, List.sum_cons, List.sum_nil, size_lam] at hs
    rw [lift_const (by omega)]
    simp only [List.map_cons, List.map_nil]
    rw [lift_lam (by omega)]
    refine NatT.it ?_ (ihu d b hn hb hd (by omega))
    have := iht (d + 1) b (by omega) hb (by omega) (by omega)
    rw [show n + 1 + b = n + b + 1 by omega] at this
    exact this
theorem NatT.sb {u : Tr} {N : Nat} {t : Tr} (h : NatT N t) : ∀ (d k : Nat), N = k + 1 + d → NatT k u → u.size ≤ 1000 → N + t.size ≤ 100000 → NatT (k + d) (sbT u t d) := by
  induction h with
  | @var n i h0 h1 =>
    intro d k hN hu hus hs
    unfold xT
    rw [sbT_var]
    split
    · exact hu.lift 0 d (by omega) (by omega) (by omega) (by omega)
    · split
      · rw [W_in (by omega)]; exact NatT.var (by omega) (by omega)
      · exact NatT.var h0 (by omega)
  | z => intro d k hN hu hus hs; rw [sb_z (by omega)]; exact NatT.z
  | @s n t ht ih =>
    intro d k hN hu hus hs
    rw [size_s] at hs
    rw [sb_s (by omega)]; exact NatT.s (ih d k hN hu hus (by omega))
  | @it n t w ht hw iht ihw =>
    intro d k hN hu hus hs
    rw [size_const] at hs
    simp only [Tr.sizes, List.map_cons, List.map_nil, List.sum_cons, List.sum_nil, size_lam] at hs
    rw [sbT_const (by omega)]
    simp only [List.map_cons, List.map_nil]
    rw [sbT_lam (by omega)]
    refine NatT.it ?_ (ihw d k hN hu hus (by omega))
    have := iht (d + 1) k (by omega) hu hus (by omega)
    rw [show k + (d + 1) = k + d + 1 by omega] at this
    exact this
end Go.H
namespace Go.H
open Go
set_option linter.unusedVariables false
set_option linter.unusedSimpArgs false

section
variable {cs : List Ty} {hs : List Tr}
mutual
theorem LT.lamy {ctx : List Tr} {t a : Tr} (h : LT cs hs ctx t a) : t.lamy = true := by
  match h with
  | .lam h => rw [Tr.lamy_eq]; simp [Tr.lam, Tr.kids, Tr.kind, LT.lamy h]
  | .var _ h => rw [Tr.lamy_eq]; simpa [Tr.var, Tr.kids, Tr.kind] using LS.lamy h
  | .hole _ h => rw [Tr.lamy_eq]; simpa [Tr.hole, Tr.kids, Tr.kind] using LS.lamy h
  | .const _ h => rw [Tr.lamy_eq]; simpa [Tr.const, Tr.kids, Tr.kind] using LS.lamy h
termination_by structural h
theorem LS.lamy {ctx : List Tr} {ks : List Tr} {b c : Tr} (h : LS cs hs ctx ks b c) : ∀ x ∈ ks, x.lamy = true := by
  match h with
  | .nil => simp
  | .cons h1 h2 => simp only [List.forall_mem_cons]; exact ⟨LT.lamy h1, LS.lamy h2⟩
termination_by structural h
end
def EndT (r : (Int ⊕ Tr) × Int) (ctx : List Tr) (b : Tr) (cs : List Ty) (hs : List Tr) : Prop := (∃ t k, r = (.inr t, k) ∧ LT cs hs ctx t b) ∨ ∃ c k, r = (.inl c, k) ∧ (c = 11 ∨ c = 17 ∨ c = 0)
theorem kidsT_typed {f : Nat → Tr → Int → (Int ⊕ Tr) × Int} {c1 c2 : List Tr} : ∀ {ks : List Tr} {b c : Tr}, LS cs hs c1 ks b c → ∀ (i : Nat) (s : Int), s ≤ 20000 → (∀ (j : Nat) (x : Tr) (s' : Int), x ∈ ks → s ≤ s' → s' ≤ 20000 → FineT (f j x s') s' ∧ ∀ y, LT cs hs c1 x y → EndT (f j x s') c2 y cs hs) →
    (∃ ys k, kidsT f i ks s = (.inr ys, k) ∧ LS cs hs c2 ys b c) ∨ ∃ e k, kidsT f i ks s = (.inl e, k) ∧ (e = 11 ∨ e = 17 ∨ e = 0)
  | [], b, c, h, i, s, hs', hf => by cases h; exact .inl ⟨[], s, rfl, .nil⟩
  | x :: r, b, c, h, i, s, hs', hf => by
    cases h with
    | @cons _ _ x1 y1 _ _ h1 h2 =>
      obtain ⟨hfine, hty⟩ := hf i x s (by simp) (by omega) hs'
      rw [kidsT]
      rcases hty x1 h1 with ⟨t, k, e, ht⟩ | ⟨cc, k, e, ht⟩
      · rw [e]
        simp only
        unfold FineT at hfine
        rw [e] at hfine
        obtain ⟨q1, q2, q3, q4⟩ := hfine
        simp only at q1 q2
        have q4 := q4 t rfl
        simp only at q4
        rcases kidsT_typed h2 (i + 1) k q4.2.2 (fun j z s' hz g1 g2 => hf j z s' (by simp [hz]) (by omega) g2) with ⟨ys, k2, e2, hy⟩ | ⟨e3, k2, e2, hy⟩
        · rw [e2]; exact .inl ⟨_, _, rfl, .cons ht hy⟩
        · rw [e2]; exact .inr ⟨_, _, rfl, hy⟩
      · rw [e]; exact .inr ⟨_, _, rfl, ht⟩
theorem redT_typed {sub : Tr → Tr → Tr → Int → (Int ⊕ Tr) × Int} {G : List Tr} : ∀ {ys : List Tr} {f a b : Tr} (s : Int), LS cs hs G ys a b → LT cs hs G f a → s ≤ 20000 → a.isSimple = true → f.big = false → (∀ x ∈ ys, x.big = false) →
    (∀ (x A g B : Tr) (s' : Int), LT cs hs G x A → LT cs hs (A :: G) g B → A.isSimple = true → x.big = false → g.size ≤ 150 → s < s' → s' ≤ 20000 → FineT (sub x A g s') s' ∧ EndT (sub x A g s') G B cs hs) → EndT (redT sub f a ys s) G b cs hs
  | [], f, a, b, s, h, hf, hs', ha, hfb, hyb, hsub => by cases h; exact .inl ⟨f, s, rfl, hf⟩
  | x :: r, f, a, b, s, h, hf, hs', ha, hfb, hyb, hsub => by
    cases h with
    | @cons _ _ x1 y1 _ _ h1 h2 =>
      obtain ⟨g, rfl, hg⟩ := hf.arrow_inv
      rw [redT, if_pos ⟨rfl, rfl⟩]
      obtain ⟨xx, yy, hxy, hx1, hy1⟩ := simple_kids ha rfl
      have hxy : x1 = xx ∧ y1 = yy := by simpa [Tr.arrow, Tr.kids] using hxy
      obtain ⟨rfl, rfl⟩ := hxy
      split
      · exact .inr ⟨17, _, rfl, .inr (.inl rfl)⟩
      · rename_i hst
        have hgs : g.size ≤ 150 := by
          have h1 : g.size < (Tr.lam g).size := Tr.kid_size (by simp [Tr.lam, Tr.kids])
          have := small_size hfb
          omega
        rw [show (Tr.arrow x1 y1).kid 0 = x1 by rfl, show (Tr.lam g).kid 0 = g by rfl, show (Tr.arrow x1 y1).kid 1 = y1 by rfl]
        obtain ⟨hfine, hend⟩ := hsub x x1 g y1 (s + 1) h1 hg hx1 (hyb x (by simp)) hgs (by omega) (by omega)
        rcases hend with ⟨t, k, e, ht⟩ | ⟨cc, k, e, ht⟩
        · rw [e]
          simp only
          unfold FineT at hfine
          rw [e] at hfine
          obtain ⟨q1, q2, q3, q4⟩ := hfine
          simp only at q1 q2
          have q4 := q4 t rfl
          simp only at q4
          exact redT_typed k h2 ht q4.2.2 hy1 q4.2.1 (fun z hz => hyb z (by simp [hz])) (fun x A g B s' p1 p2 p3 p4 p5 p6 p7 => hsub x A g B s' p1 p2 p3 p4 p5 (by omega) p7)
        · rw [e]; exact .inr ⟨_, _, rfl, ht⟩
theorem subT_ends : ∀ (N : Nat) (m A t B : Tr) (D G : List Tr) (s : Int), LT cs hs G m A → LT cs hs (D ++ A :: G) t B → A.isSimple = true → m.size ≤ 1000 → 0 ≤ s → s ≤ 20000 → (20001 - s) * 1000 + t.size ≤ N → (20001 - s) * 1000 + t.size + D.length + G.length ≤ 900000000 →
    EndT (subT N m A t D.length s) (D ++ G) B cs hs := by
  intro N
  induction N with
  | zero => intro m A t B D G s _ _ _ _ h0 h1 hN; have := t.size_pos; omega
  | succ N ih =>
    intro m A t B D G s hm ht hA hms h0 h1 hN hlen
    have htl := ht.lamy
    have hml := hm.lamy
    -- one kid
    have kid : ∀ (D' : List Tr) (x : Tr) (s' : Int), x ∈ t.kids → D'.length ≤ D.length + 1 → s ≤ s' → s' ≤ 20000 → FineT (subT N m A x D'.length s') s' ∧ ∀ y, LT cs hs (D' ++ A :: G) x y → EndT (subT N m A x D'.length s') (D' ++ G) y cs hs := fun D' x s' hx hD p1 p2 => by
      have hxs := Tr.kid_size hx
      exact ⟨subT_fine N m A x _ s' hml (Tr.lamy_kids htl hx) hA (by omega) p2 (by omega), fun y hy => ih m A x y D' G s' hm hy hA hms (by omega) p2 (by omega) (by omega)⟩
    -- a head with kids
    have head : ∀ (b : Tr), (∀ i : Nat, t.under i = 0) → LS cs hs (D ++ A :: G) t.kids b B →
        ((∃ ys k, kidsT (fun i x s => subT N m A x (W (D.length + t.under i)) s) 0 t.kids s = (.inr ys, k) ∧ LS cs hs (D ++ G) ys b B) ∨ ∃ e k, kidsT (fun i x s => subT N m A x (W (D.length + t.under i)) s) 0 t.kids s = (.inl e, k) ∧ (e = 11 ∨ e = 17 ∨ e = 0)) ∧
        (s ≤ (kidsT (fun i x s => subT N m A x (W (D.length + t.under i)) s) 0 t.kids s).2 ∧ ∀ ys, (kidsT (fun i x s => subT N m A x (W (D.length + t.under i)) s) 0 t.kids s).1 = .inr ys → (∀ y ∈ ys, y.big = false) ∧ (kidsT (fun i x s => subT N m A x (W (D.length + t.under i)) s) 0 t.kids s).2 ≤ 20000) := fun b hu hk => by
      have e : ∀ i : Nat, W ((D.length : Int) + t.under i) = D.length := fun i => by rw [hu i, Int.add_zero, W_in (by omega)]
      have hkf := kidsT_fine (f := fun i x s => subT N m A x (W (D.length + t.under i)) s) t.kids 0 s h1 (fun j x s' hx p1 p2 => by simp only [e]; exact (kid D x s' hx (by omega) p1 p2).1)
      refine ⟨kidsT_typed hk 0 s h1 fun j x s' hx p1 p2 => ?_, hkf.1, fun ys hy => ⟨fun y hyy => ((hkf.2.2.2 ys hy).2.1 y hyy).2, (hkf.2.2.2 ys hy).2.2⟩⟩
      simp only [e]
      exact kid D x s' hx (by omega) p1 p2
    rw [subT]
    -- what is made of a head that stays
    have stay : ∀ (b : Tr) (n' : Int), (∀ i : Nat, t.under i = 0) → LS cs hs (D ++ A :: G) t.kids b B → ¬ (t.kind = 5 ∧ t.n = D.length) → (if t.kind = 5 ∧ (D.length : Int) < t.n then W (t.n - 1) else t.n) = n' → (∀ ys, LS cs hs (D ++ G) ys b B → LT cs hs (D ++ G) (.mk t.kind n' t.name ys) B) →
        EndT (match kidsT (fun i x s => subT N m A x (W (D.length + t.under i)) s) 0 t.kids s with
          | (.inl c, s) => (.inl c, s)
          | (.inr ks, s) => if t.kind = 5 ∧ t.n = D.length then (if (m.lift 0 D.length).big = true then (.inl 11, s) else redT (fun x a f s => subT N x a f 0 s) (m.lift 0 D.length) A ks s)
            else if (Tr.mk t.kind (if t.kind = 5 ∧ (D.length : Int) < t.n then W (t.n - 1) else t.n) t.name ks).big = true then (.inl 11, s) else (.inr (.mk t.kind (if t.kind = 5 ∧ (D.length : Int) < t.n then W (t.n - 1) else t.n) t.name ks), s)) (D ++ G) B cs hs := fun b n' hu hk hne hn' hmk => by
      rcases (head b hu hk).1 with ⟨ys, k, e, hy⟩ | ⟨e1, k, e, hy⟩
      · rw [e]
        simp only
        rw [if_neg hne, hn']
        split
        · exact .inr ⟨11, _, rfl, .inl rfl⟩
        · exact .inl ⟨_, _, rfl, hmk ys hy⟩
      · rw [e]; exact .inr ⟨_, _, rfl, hy⟩
    cases ht with
    | @lam _ u x y hu =>
      have hund : (Tr.lam u).under ((0 : Nat) : Int) = 1 := by simp [Tr.under, Tr.lam, Tr.kind]
      have hw : W ((D.length : Int) + (Tr.lam u).under ((0 : Nat) : Int)) = ((x :: D).length : Int) := by rw [hund, W_in (by omega)]; simp
      rw [show (Tr.lam u).kids = [u] by rfl]
      simp only [kidsT, hw]
      have := (kid (x :: D) u s (by simp [Tr.lam, Tr.kids]) (by simp) (by omega) h1).2 y hu
      rcases this with ⟨t', k, e, ht⟩ | ⟨cc, k, e, ht⟩
      · rw [e]
        simp only
        rw [if_neg (show ¬ ((Tr.lam u).kind = 5 ∧ (Tr.lam u).n = D.length) from fun h => by simp [Tr.lam, Tr.kind] at h), if_neg (show ¬ ((Tr.lam u).kind = 5 ∧ (D.length : Int) < (Tr.lam u).n) from fun h => by simp [Tr.lam, Tr.kind] at h)]
        split
        · exact .inr ⟨11, _, rfl, .inl rfl⟩
        · exact .inl ⟨_, _, rfl, .lam ht⟩
      · rw [e]; exact .inr ⟨_, _, rfl, ht⟩
    | @var _ n ks b s' hn hk =>
      have hu : ∀ i : Nat, (Tr.var (n : Int) ks).under i = 0 := fun i => by simp [Tr.under, Tr.var, Tr.kind]
      by_cases hnd : n = D.length
      · subst hnd
        have hb : b = A := by
          rw [List.getElem?_append_right (by omega)] at hn
          simpa using hn.symm
        subst hb
        obtain ⟨hh, hge, hbig⟩ := head b hu hk
        rcases hh with ⟨ys, k, e, hy⟩ | ⟨e1, k, e, hy⟩
        · rw [e] at hbig hge ⊢
          simp only at hge ⊢
          have hbig := hbig ys rfl
          simp only at hbig
          rw [if_pos (show (Tr.var (D.length : Int) ks).kind = 5 ∧ (Tr.var (D.length : Int) ks).n = D.length from ⟨rfl, rfl⟩)]
          split
          · exact .inr ⟨11, _, rfl, .inl rfl⟩
          · rename_i hlb
            have hlift := LT.lift' hm [] D G rfl (by simp; omega)
            simp only [List.length_nil, List.nil_append, Int.natCast_zero] at hlift
            refine redT_typed k hy hlift hbig.2 hA (by simpa using hlb) hbig.1 fun x A' g B' s2 p1 p2 p3 p4 p5 p6 p7 => ?_
            have hxs := small_size p4
            refine ⟨subT_fine N x A' g 0 s2 p1.lamy p2.lamy p3 (by omega) p7 (by have := (Tr.var (D.length : Int) ks).size_pos; omega), ?_⟩
            have := ih x A' g B' [] (D ++ G) s2 p1 p2 p3 (by omega) (by omega) p7 (by have := (Tr.var (D.length : Int) ks).size_pos; omega) (by simp only [List.length_nil, List.length_append]; omega)
            simpa using this
        · rw [e]; exact .inr ⟨_, _, rfl, hy⟩
      · by_cases hlt : n < D.length
        · refine stay b n hu hk (fun h => hnd (by have := h.2; simp only [Tr.var, Tr.n] at this; omega)) ?_ fun ys hy => ?_
          · rw [if_neg (fun h => by have := h.2; simp only [Tr.var, Tr.n] at this; omega)]; rfl
          · refine .var ?_ hy
            rw [List.getElem?_append_left hlt] at hn ⊢
            exact hn
        · have hlen : n < D.length + (G.length + 1) := by
            have := (List.getElem?_eq_some_iff.1 hn).1
            simpa using this
          refine stay b ((n - 1 : Nat) : Int) hu hk (fun h => hnd (by have := h.2; simp only [Tr.var, Tr.n] at this; omega)) ?_ fun ys hy => ?_
          · rw [if_pos ⟨rfl, by simp only [Tr.var, Tr.n]; omega⟩]
            simp only [Tr.var, Tr.n]
            rw [W_in (by omega)]; omega
          · refine .var ?_ hy
            rw [List.getElem?_append_right (by omega)] at hn ⊢
            rw [show n - D.length = (n - 1 - D.length) + 1 by omega, List.getElem?_cons_succ] at hn
            exact hn
    | @hole _ n ks b s' hn hk =>
      refine stay b n (fun i => by simp [Tr.under, Tr.hole, Tr.kind]) hk (fun h => by have := h.1; simp [Tr.hole, Tr.kind] at this) ?_ fun ys hy => .hole hn hy
      rw [if_neg (fun h => by have := h.1; simp [Tr.hole, Tr.kind] at this)]; rfl
    | @const _ w ks b s' hn hk =>
      refine stay b 0 (fun i => by simp [Tr.under, Tr.const, Tr.kind]) hk (fun h => by have := h.1; simp [Tr.const, Tr.kind] at this) ?_ fun ys hy => .const hn hy
      rw [if_neg (fun h => by have := h.1; simp [Tr.const, Tr.kind] at this)]; rfl
end
end Go.H
namespace Go.H
open Go
set_option linter.unusedVariables false
set_option linter.unusedSimpArgs false

theorem tyGo_of {w : List UInt8} {b : Tr} : ∀ (l : List Ty) (i : Nat), tyOf l w = some b → ∃ j : Nat, j < l.length ∧ tyGo w i l = ((i + j : Nat) : Int) ∧ (l[j]?).map Ty.type = some b
  | [], i, h => by simp [tyOf] at h
  | x :: r, i, h => by
    unfold tyOf at h
    unfold tyGo
    split at h
    · rename_i hx
      rw [if_pos hx]
      injection h with h
      exact ⟨0, by simp, by simp, by simpa using h⟩
    · rename_i hx
      rw [if_neg hx]
      obtain ⟨j, h1, h2, h3⟩ := tyGo_of r (i + 1) h
      exact ⟨j + 1, by simpa using h1, by rw [h2]; congr 1; omega, by simpa using h3⟩
section
variable {cs : List Ty} {hs : List Tr}
mutual
theorem LT.typed {ctx : List Tr} {t a : Tr} (h : LT cs hs ctx t a) (N : Nat) (hN : t.size ≤ N) : typedT cs hs N ctx.reverse t a = 0 := by
  match N, h with
  | 0, h => rfl
  | N + 1, .lam (t := u) (x := x) (y := y) h =>
    rw [size_lam] at hN
    unfold typedT
    rw [if_pos (show (Tr.lam u).kind = 4 by rfl), if_pos (show (Tr.arrow x y).kind = 10 by rfl), show (Tr.arrow x y).kid 0 = x by rfl, show (Tr.arrow x y).kid 1 = y by rfl, show (Tr.lam u).kid 0 = u by rfl, ← List.reverse_cons]
    exact LT.typed h N (by omega)
  | N + 1, .var (n := n) (ks := ks) (b := b) (s := s) hn hk =>
    rw [size_varK] at hN
    have hlt := (List.getElem?_eq_some_iff.1 hn).1
    unfold typedT
    have hh : headType cs ctx.reverse hs (.var (n : Int) ks) = .inr b := by
      unfold headType
      rw [if_pos (show (Tr.var (n : Int) ks).kind = 5 by rfl), show (Tr.var (n : Int) ks).n = n by rfl, List.length_reverse, if_neg (by omega), show ((ctx.length : Int) - 1 - n).toNat = ctx.length - 1 - n by omega, List.getElem?_reverse (by omega),
        show ctx.length - 1 - (ctx.length - 1 - n) = n by omega, hn]
      rfl
    rw [if_neg (show ¬ (Tr.var (n : Int) ks).kind = 4 by simp [Tr.var, Tr.kind]), if_neg (show ¬ (Tr.base s).kind = 10 by simp [Tr.base, Tr.kind]), hh]
    simp only
    rw [show (Tr.var (n : Int) ks).kids = ks by rfl, LS.typed hk N (by omega)]
    simp [endType, Tr.base, Tr.kind]
  | N + 1, .hole (n := n) (ks := ks) (b := b) (s := s) hn hk =>
    rw [size_holeK] at hN
    have hlt := (List.getElem?_eq_some_iff.1 hn).1
    unfold typedT
    have hh : headType cs ctx.reverse hs (.hole (n : Int) ks) = .inr b := by
      unfold headType
      rw [if_neg (show ¬ (Tr.hole (n : Int) ks).kind = 5 by simp [Tr.hole, Tr.kind]), if_pos (show (Tr.hole (n : Int) ks).kind = 7 by rfl), show (Tr.hole (n : Int) ks).n = n by rfl, if_neg (by omega), show ((n : Int)).toNat = n by omega, hn]
      rfl
    rw [if_neg (show ¬ (Tr.hole (n : Int) ks).kind = 4 by simp [Tr.hole, Tr.kind]), if_neg (show ¬ (Tr.base s).kind = 10 by simp [Tr.base, Tr.kind]), hh]
    simp only
    rw [show (Tr.hole (n : Int) ks).kids = ks by rfl, LS.typed hk N (by omega)]
    simp [endType, Tr.base, Tr.kind]
  | N + 1, .const (w := w) (ks := ks) (b := b) (s := s) hn hk =>
    rw [size_const] at hN
    obtain ⟨j, h1, h2, h3⟩ := tyGo_of cs 0 hn
    unfold typedT
    have hh : headType cs ctx.reverse hs (.const w ks) = .inr b := by
      unfold headType
      rw [if_neg (show ¬ (Tr.const w ks).kind = 5 by simp [Tr.const, Tr.kind]), if_neg (show ¬ (Tr.const w ks).kind = 7 by simp [Tr.const, Tr.kind]), show (Tr.const w ks).name = w by rfl, show tyAt cs w = (j : Int) by unfold tyAt; rw [h2]; simp,
        if_neg (by omega), show ((j : Int)).toNat = j by omega, h3]
      rfl
    rw [if_neg (show ¬ (Tr.const w ks).kind = 4 by simp [Tr.const, Tr.kind]), if_neg (show ¬ (Tr.base s).kind = 10 by simp [Tr.base, Tr.kind]), hh]
    simp only
    rw [show (Tr.const w ks).kids = ks by rfl, LS.typed hk N (by omega)]
    simp [endType, Tr.base, Tr.kind]
termination_by structural h
theorem LS.typed {ctx : List Tr} {ks : List Tr} {b c : Tr} (h : LS cs hs ctx ks b c) (N : Nat) (hN : Tr.sizes ks ≤ N) : argsType (typedT cs hs N ctx.reverse) ks b = .inr c := by
  match h with
  | .nil => rfl
  | .cons (k := k) (x := x) (y := y) (ks := ks) h1 h2 =>
    rw [sizes_consK] at hN
    unfold argsType
    rw [if_pos (show (Tr.arrow x y).kind = 10 by rfl), show (Tr.arrow x y).kid 0 = x by rfl, show (Tr.arrow x y).kid 1 = y by rfl, if_pos (LT.typed h1 N (by omega))]
    exact LS.typed h2 N (by omega)
termination_by structural h
end
end
end Go.H
namespace Go.H
open Go
set_option linter.unusedVariables false
set_option linter.unusedSimpArgs false

theorem isArg_false (x : Tr) : Tr.isArg false x = x.isTerm false := by unfold Tr.isArg; rw [if_neg (by simp)]
theorem term_const {w : List UInt8} {ks : List Tr} (hw : nameOK w = true) (h : ∀ x ∈ ks, x.isTerm false = true) : (Tr.const w ks).isTerm false = true := by
  rw [Tr.isTerm_eq, if_neg (show ¬ (Tr.const w ks).kind = 4 by simp [Tr.const, Tr.kind]), if_neg (show ¬ ((Tr.const w ks).kind = 5 ∨ (Tr.const w ks).kind = 7) by simp [Tr.const, Tr.kind]), if_pos (show (Tr.const w ks).kind = 6 by rfl)]
  rw [show (Tr.const w ks).n = 0 by rfl, show (Tr.const w ks).name = w by rfl, show (Tr.const w ks).kids = ks by rfl, hw]
  simp only [decide_true, Bool.true_and, List.all_eq_true]
  exact fun x hx => by rw [isArg_false]; exact h x hx
theorem term_lam' {t : Tr} (h : t.isTerm false = true) : (Tr.lam t).isTerm false = true := by
  rw [Tr.isTerm_eq, if_pos (show (Tr.lam t).kind = 4 by rfl)]
  rw [show (Tr.lam t).kids = [t] by rfl, show (Tr.lam t).bare 1 = true by rfl]
  simp [h]
theorem term_x {i : Int} (h0 : 0 ≤ i) (h1 : i ≤ 100) : (xT i).isTerm false = true := by
  rw [Tr.isTerm_eq, if_neg (show ¬ (xT i).kind = 4 by simp [xT, Tr.var, Tr.kind]), if_pos (show (xT i).kind = 5 ∨ (xT i).kind = 7 from .inl rfl)]
  rw [show (xT i).n = i by rfl, show (xT i).name = [] by rfl, show (xT i).kids = [] by rfl]
  simp [h0, h1]
theorem NatT.term {n : Nat} {t : Tr} (h : NatT n t) : n + t.size ≤ 101 → t.isTerm false = true := by
  induction h with
  | var h0 h1 => exact fun hs => term_x h0 (by omega)
  | z => exact fun _ => term_const (by rfl) (by simp)
  | s ht ih =>
    intro hs
    rw [size_s] at hs
    exact term_const (by rfl) (by simpa using ih (by omega))
  | it ht hu iht ihu =>
    intro hs
    rw [size_const] at hs
    simp only [Tr.sizes, List.map_cons, List.map_nil, List.sum_cons, List.sum_nil, size_lam] at hs
    refine term_const (by rfl) ?_
    simp only [List.forall_mem_cons]
    exact ⟨term_lam' (iht (by omega)), ihu (by omega), by simp⟩
theorem ListT.sb {n k : Nat} {t u : Tr} (hu : NatT n u) (hus : u.size ≤ 1000) (h : ListT (n + 1) k t) : n + 1 + t.size ≤ 100000 → ListT n k (sbT u t 0) := by
  induction h with
  | nil => intro _; rw [sbT_const (by omega)]; exact ListT.nil
  | @cons k x t hx ht ih =>
    intro hs
    rw [size_const] at hs
    simp only [Tr.sizes, List.map_cons, List.map_nil, List.sum_cons, List.sum_nil, size_lam] at hs
    rw [sbT_const (by omega)]
    simp only [List.map_cons, List.map_nil]
    rw [sbT_count (by omega)]
    exact ListT.cons (hx.sb 0 n rfl hu hus (by omega)) (ih (by omega))
theorem SumT.sb {n k : Nat} {m t w u : Tr} (hu : NatT n u) (hus : u.size ≤ 1000) (h : SumT (n + 1) m k t w) : n + 1 + t.size ≤ 100000 → SumT n (sbT u m 0) k (sbT u t 0) (sbT u w 0) := by
  induction h with
  | z => intro _; rw [sbT_const (by omega)]; exact SumT.z
  | @s k t w ht ih =>
    intro hs
    rw [size_const] at hs
    simp only [Tr.sizes, List.map_cons, List.map_nil, List.sum_cons, List.sum_nil, size_lam] at hs
    rw [sbT_const (by omega), sb_s (by omega)]
    simp only [List.map_cons, List.map_nil]
    rw [sbT_count (by omega)]
    exact SumT.s (ih (by omega))
theorem ListT.flat {n k : Nat} {t : Tr} (h : ListT n k t) : Flat t := by
  induction h with
  | nil => exact flat_const (by simp)
  | cons hx ht ih => exact flat_const (by simp [flat_count, hx.flat', ih])
theorem SumT.flat {n k : Nat} {m t w : Tr} (hm : NatT n m) (h : SumT n m k t w) : Flat t := by
  induction h with
  | z => exact flat_const (by simp [hm.flat'])
  | s ht ih => exact flat_const (by simp [flat_count, hm.flat', (ht.nat hm).flat', ih])
end Go.H
namespace Go.H
open Go
set_option linter.unusedVariables false
set_option linter.unusedSimpArgs false
theorem qb_of {q : Option PV} {k : PV → Prop} {x : PV} (h : q = some x) (hk : k x) : qb q k := by rw [h]; exact hk
end Go.H
namespace Go.H
open Go
set_option linter.unusedVariables false
set_option linter.unusedSimpArgs false

def Box (n : Nat) (y : PV) : Prop := ∃ cs, y = .agg cs ∧ cs.length = n ∧ cs.all PV.cellOK = true
theorem Box.tree (t : Tr) : Box 4 (tree t) := by
  rw [tree_eq]
  exact ⟨_, rfl, rfl, rfl⟩
theorem Box.len {n : Nat} {y : PV} (h : Box n y) : y.cells.length = n := by obtain ⟨cs, rfl, h, _⟩ := h; exact h
structure Held (st w : St) (L : List (Nat × PV)) (P : List (Nat × List PV)) : Prop where
  sub : Sub st w
  got : ∀ x ∈ L, w x.1 = some (.cells x.2.cells)
  zat : ∀ x ∈ P, w x.1 = some (.cells x.2)
  nd : (L.map (·.1) ++ P.map (·.1)).Nodup
  out : ∀ b ∈ L.map (·.1) ++ P.map (·.1), st b = none
theorem Held.start (st : St) : Held st st [] [] := ⟨Sub.refl st, by simp, by simp, by simp, by simp⟩
theorem Held.some_of {st w : St} {L : List (Nat × PV)} {P : List (Nat × List PV)} (h : Held st w L P) {b : Nat} (hb : b ∈ L.map (·.1) ++ P.map (·.1)) : ∃ o, w b = some o := by
  rw [List.mem_append] at hb
  rcases hb with hb | hb
  · obtain ⟨x, hx, rfl⟩ := List.mem_map.1 hb; exact ⟨_, h.got x hx⟩
  · obtain ⟨x, hx, rfl⟩ := List.mem_map.1 hb; exact ⟨_, h.zat x hx⟩
theorem Held.alloc {st w : St} {L : List (Nat × PV)} {P : List (Nat × List PV)} {z : List PV} {K : PV → St → Prop} (h : Held st w L P) (hk : ∀ v w', Held st w' L (P ++ [(v, z)]) → K (.ptr v 0) w') : e_alloc w z K := fun v hv => by
  have ne : ∀ b ∈ L.map (·.1) ++ P.map (·.1), b ≠ v := fun b hb e => by
    obtain ⟨o, ho⟩ := h.some_of hb
    rw [e, hv] at ho; cases ho
  refine hk v _ ⟨h.sub.put (h.sub.isNone hv), fun x hx => ?_, fun x hx => ?_, ?_, fun b hb => ?_⟩
  · rw [upd_ne _ _ (ne _ (List.mem_append_left _ (List.mem_map_of_mem hx)))]
    exact h.got x hx
  · rw [List.mem_append, List.mem_singleton] at hx
    rcases hx with hx | rfl
    · rw [upd_ne _ _ (ne _ (List.mem_append_right _ (List.mem_map_of_mem hx)))]
      exact h.zat x hx
    · exact upd_same _ _ _
  · rw [List.map_append, ← List.append_assoc, List.nodup_append]
    refine ⟨h.nd, by simp, fun a ha b hb => ?_⟩
    simp only [List.map_cons, List.map_nil, List.mem_singleton] at hb
    rw [hb]
    exact ne a ha
  · rw [List.map_append, ← List.append_assoc, List.mem_append] at hb
    rcases hb with hb | hb
    · exact h.out b hb
    · simp only [List.map_cons, List.map_nil, List.mem_singleton] at hb
      rw [hb]
      exact h.sub.isNone hv
theorem Held.store {st w : St} {L : List (Nat × PV)} {P : List (Nat × List PV)} {z : List PV} {v n : Nat} {y : PV} {K : St → Prop} (h : Held st w L ((v, z) :: P)) (hy : Box n y) (hz : z.length = n) (hk : ∀ w', Held st w' ((v, y) :: L) P → K w') :
    e_store w n (.ptr v 0) y K := by
  obtain ⟨cs, rfl, hl, hc⟩ := hy
  refine e_store_ptr (h.zat (v, z) (by simp)) hc hl rfl (by show 0 + n ≤ z.length; omega) ?_
  have e : setRange z 0 (PV.agg cs).cells = cs := by
    unfold setRange
    show z.take 0 ++ cs ++ z.drop (0 + cs.length) = cs
    rw [List.take_zero, List.nil_append, List.drop_of_length_le (by omega), List.append_nil]
  rw [e]
  have nd := h.nd
  rw [List.map_cons, List.nodup_append] at nd
  obtain ⟨n1, n2, n3⟩ := nd
  rw [List.nodup_cons] at n2
  refine hk _ ⟨fun c o hc => ?_, fun x hx => ?_, fun x hx => ?_, ?_, fun b hb => ?_⟩
  · have : c ≠ v := fun e => by
      have := h.out v (by simp)
      rw [e, this] at hc; cases hc
    rw [upd_ne _ _ this]
    exact h.sub c o hc
  · rcases List.mem_cons.1 hx with rfl | hx
    · exact upd_same _ _ _
    · rw [upd_ne _ _ (n3 _ (List.mem_map_of_mem hx) v (by simp))]
      exact h.got x hx
  · rw [upd_ne _ _ (fun e => n2.1 (by rw [show v = x.1 from e.symm]; exact List.mem_map.2 ⟨x, hx, rfl⟩))]
    exact h.zat x (by simp [hx])
  · rw [List.map_cons, List.cons_append, List.nodup_cons, List.nodup_append, List.mem_append]
    refine ⟨fun hm => ?_, n1, n2.2, fun a ha b hb => n3 a ha b (by simp [hb])⟩
    rcases hm with hm | hm
    · exact n3 v hm v (by simp) rfl
    · exact n2.1 hm
  · refine h.out b ?_
    simp only [List.map_cons, List.cons_append, List.mem_cons, List.mem_append] at hb ⊢
    rcases hb with hb | hb | hb
    · exact .inr (.inl hb)
    · exact .inl hb
    · exact .inr (.inr hb)
theorem Held.load {st w : St} {L : List (Nat × PV)} {P : List (Nat × List PV)} {v n : Nat} {y : PV} (h : Held st w L P) (hy : Box n y) (hv : (v, y) ∈ L) : q_load w true n (.ptr v 0) = some y := by
  obtain ⟨cs, rfl, hl, _⟩ := hy
  have := h.got _ hv
  rw [q_load_ptr this]
  show takeV true n (cs.drop 0) = _
  rw [List.drop_zero]
  show (if n ≤ cs.length then some (PV.agg (cs.take n)) else none) = _
  rw [if_pos (by omega), List.take_of_length_le (by omega)]
theorem Held.new {st w : St} {L : List (Nat × PV)} {z : List PV} {n : Nat} {y : PV} {K : PV → St → Prop} (h : Held st w L []) (hy : Box n y) (hz : z.length = n) (hk : ∀ v w', Held st w' ((v, y) :: L) [] → K (.ptr v 0) w') :
    e_alloc w z fun v st => e_store st n v y fun st => K v st :=
  h.alloc fun v w' h' => h'.store hy hz fun w'' h'' => hk v w'' h''
theorem Held.news {st w : St} {L : List (Nat × PV)} {t : Tr} {z : List PV} {K : PV → St → Prop} (h : Held st w L []) (hz : z.length = 4) (hk : ∀ v w', Held st w' ((v, tree t) :: L) [] → K (.ptr v 0) w') :
    e_alloc w z fun v st => e_store st 4 v (tree t) fun st => K v st := h.new (Box.tree t) hz hk
theorem Held.ld {st w : St} {L : List (Nat × PV)} {P : List (Nat × List PV)} {v : Nat} {t : Tr} (h : Held st w L P) (hv : (v, tree t) ∈ L) : q_load w true 4 (.ptr v 0) = some (tree t) := h.load (Box.tree t) hv
theorem Held.two {st w : St} {L : List (Nat × PV)} {s t : Tr} {z : List PV} {K : PV → PV → St → Prop} (h : Held st w L []) (hz : z.length = 4) (hk : ∀ v u w', Held st w' ((u, tree t) :: (v, tree s) :: L) [] → K (.ptr v 0) (.ptr u 0) w') :
    e_alloc w z fun v st => e_alloc st z fun u st => e_store st 4 v (tree s) fun st => e_store st 4 u (tree t) fun st => K v u st :=
  h.alloc fun v w1 h1 => h1.alloc fun u w2 h2 => h2.store (Box.tree s) hz fun w3 h3 => h3.store (Box.tree t) hz fun w4 h4 => hk v u w4 h4
end Go.H
namespace Go.H
open Go
set_option linter.unusedVariables false
set_option linter.unusedSimpArgs false

inductive Fm where
  | atom (n : Nat)
  | bot
  | and (a b : Fm)
  | imp (a b : Fm)
  deriving DecidableEq
namespace Fm
def kind : Fm → Int | atom _ => 1 | bot => 4 | and _ _ => 2 | imp _ _ => 3
def num : Fm → Int | atom n => n | _ => 0
def kids : Fm → List Fm | and a b => [a, b] | imp a b => [a, b] | _ => []
def size : Fm → Nat | and a b => 1 + a.size + b.size | imp a b => 1 + a.size + b.size | _ => 1
def ok : Fm → Bool | atom n => decide (n < 6) | bot => true | and a b => a.ok && b.ok | imp a b => a.ok && b.ok
theorem size_pos (f : Fm) : 0 < f.size := by cases f <;> simp [size] <;> omega
theorem ind {M : Fm → Prop} (h : ∀ f : Fm, (∀ x ∈ f.kids, M x) → M f) : ∀ f : Fm, M f
  | atom n => h _ (by simp [kids])
  | bot => h _ (by simp [kids])
  | and a b => h _ (by simp only [kids, List.forall_mem_cons]; exact ⟨ind h a, ind h b, by simp⟩)
  | imp a b => h _ (by simp only [kids, List.forall_mem_cons]; exact ⟨ind h a, ind h b, by simp⟩)
end Fm
def fm : Fm → PV
  | .atom n => .agg [.int .i64 1, .int .i64 n, .sl 3 false []]
  | .bot => .agg [.int .i64 4, .int .i64 0, .sl 3 false []]
  | .and a b => .agg [.int .i64 2, .int .i64 0, .sl 3 false [fm a, fm b]]
  | .imp a b => .agg [.int .i64 3, .int .i64 0, .sl 3 false [fm a, fm b]]
theorem fm_eq (f : Fm) : fm f = .agg [.int .i64 f.kind, .int .i64 f.num, .sl 3 false (f.kids.map fm)] := by cases f <;> rfl
theorem fm_cells (f : Fm) : (fm f).cells = [.int .i64 f.kind, .int .i64 f.num, .sl 3 false (f.kids.map fm)] := by rw [fm_eq]; rfl
@[simp] theorem fm_isJunk (f : Fm) : (fm f).isJunk = false := by rw [fm_eq]; rfl
@[simp] theorem fm_isAgg (f : Fm) : (fm f).isAgg = true := by rw [fm_eq]; rfl
@[simp] theorem fm_ncells (f : Fm) : (fm f).ncells = 3 := by rw [fm_eq]; rfl
@[simp] theorem fm_cellOK (f : Fm) : (fm f).cells.all PV.cellOK = true := by rw [fm_cells]; rfl
@[simp] theorem fm_len (f : Fm) : (fm f).cells.length = 3 := by rw [fm_cells]; rfl
@[simp] theorem fm_cellOK' (f : Fm) : (∀ x ∈ (fm f).cells, x.cellOK = true) ↔ True := by
  have := fm_cellOK f
  rw [List.all_eq_true] at this
  simpa using this
@[simp high] theorem takeV_fm (f : Fm) : takeV true 3 (fm f).cells = some (fm f) := by rw [fm_cells, fm_eq]; rfl
@[simp] theorem fm_f0 (f : Fm) (n : Nat) : takeV false n (fm f).cells = some (.int .i64 f.kind) := by rw [fm_cells]; rfl
@[simp] theorem fm_f1 (f : Fm) (n : Nat) : takeV false n ((fm f).cells.tail) = some (.int .i64 f.num) := by rw [fm_cells]; rfl
@[simp] theorem fm_f1' (f : Fm) (n : Nat) : takeV false n ((fm f).cells.drop 1) = some (.int .i64 f.num) := by rw [fm_cells]; rfl
@[simp] theorem fm_f2 (f : Fm) (n : Nat) : takeV false n ((fm f).cells.drop 2) = some (.sl 3 false (f.kids.map fm)) := by rw [fm_cells]; rfl
@[simp] theorem fm_agg (f : Fm) : PV.agg (fm f).cells = fm f := by rw [fm_cells, fm_eq]
@[simp] theorem fm_set (f : Fm) (a b c : PV) : setRange [a, b, c] 0 (fm f).cells = (fm f).cells := by rw [fm_cells]; rfl
theorem Box.fm (f : Fm) : Box 3 (fm f) := by rw [fm_eq]; exact ⟨_, rfl, rfl, rfl⟩
theorem Held.ldf {st w : St} {L : List (Nat × PV)} {P : List (Nat × List PV)} {v : Nat} {f : Fm} (h : Held st w L P) (hv : (v, Go.H.fm f) ∈ L) : q_load w true 3 (.ptr v 0) = some (Go.H.fm f) := h.load (Box.fm f) hv
inductive Pf where
  | hyp (n : Nat)
  | andI (a b : Fm) (p q : Pf)
  | fst (a b : Fm) (p : Pf)
  | snd (a b : Fm) (p : Pf)
  | funI (a b : Fm) (p : Pf)
  | use (a b : Fm) (p q : Pf)
  | botE (a : Fm) (p : Pf)
  deriving DecidableEq
namespace Pf
def kind : Pf → Int | hyp _ => 1 | andI .. => 2 | fst .. => 3 | snd .. => 4 | funI .. => 5 | use .. => 6 | botE .. => 7
def num : Pf → Int | hyp n => n | _ => 0
def forms : Pf → List Fm | hyp _ => [] | andI a b _ _ => [a, b] | fst a b _ => [a, b] | snd a b _ => [a, b] | funI a b _ => [a, b] | use a b _ _ => [a, b] | botE a _ => [a]
def kids : Pf → List Pf | hyp _ => [] | andI _ _ p q => [p, q] | fst _ _ p => [p] | snd _ _ p => [p] | funI _ _ p => [p] | use _ _ p q => [p, q] | botE _ p => [p]
theorem ind {M : Pf → Prop} (h : ∀ p : Pf, (∀ x ∈ p.kids, M x) → M p) : ∀ p : Pf, M p
  | hyp n => h _ (by simp [kids])
  | andI a b p q => h _ (by simp only [kids, List.forall_mem_cons]; exact ⟨ind h p, ind h q, by simp⟩)
  | fst a b p => h _ (by simp only [kids, List.forall_mem_cons]; exact ⟨ind h p, by simp⟩)
  | snd a b p => h _ (by simp only [kids, List.forall_mem_cons]; exact ⟨ind h p, by simp⟩)
  | funI a b p => h _ (by simp only [kids, List.forall_mem_cons]; exact ⟨ind h p, by simp⟩)
  | use a b p q => h _ (by simp only [kids, List.forall_mem_cons]; exact ⟨ind h p, ind h q, by simp⟩)
  | botE a p => h _ (by simp only [kids, List.forall_mem_cons]; exact ⟨ind h p, by simp⟩)
def count : Pf → Nat
  | hyp _ => 1
  | andI a b p q => 1 + a.size + b.size + p.count + q.count
  | fst a b p => 1 + a.size + b.size + p.count
  | snd a b p => 1 + a.size + b.size + p.count
  | funI a b p => 1 + a.size + b.size + p.count
  | use a b p q => 1 + a.size + b.size + p.count + q.count
  | botE a p => 1 + a.size + p.count
def size : Pf → Nat
  | hyp _ => 1
  | andI _ _ p q => 1 + p.size + q.size
  | fst _ _ p => 1 + p.size
  | snd _ _ p => 1 + p.size
  | funI _ _ p => 1 + p.size
  | use _ _ p q => 1 + p.size + q.size
  | botE _ p => 1 + p.size
def ok : Pf → Bool
  | hyp n => decide (n ≤ 100)
  | andI a b p q => a.ok && b.ok && p.ok && q.ok
  | fst a b p => a.ok && b.ok && p.ok
  | snd a b p => a.ok && b.ok && p.ok
  | funI a b p => a.ok && b.ok && p.ok
  | use a b p q => a.ok && b.ok && p.ok && q.ok
  | botE a p => a.ok && p.ok
def hok : Pf → Bool
  | hyp n => decide (n ≤ 100)
  | andI _ _ p q => p.hok && q.hok
  | fst _ _ p => p.hok
  | snd _ _ p => p.hok
  | funI _ _ p => p.hok
  | use _ _ p q => p.hok && q.hok
  | botE _ p => p.hok
end Pf
def pf : Pf → PV
  | .hyp n => .agg [.int .i64 1, .int .i64 n, .sl 3 false [], .sl 4 false []]
  | .andI a b p q => .agg [.int .i64 2, .int .i64 0, .sl 3 false [fm a, fm b], .sl 4 false [pf p, pf q]]
  | .fst a b p => .agg [.int .i64 3, .int .i64 0, .sl 3 false [fm a, fm b], .sl 4 false [pf p]]
  | .snd a b p => .agg [.int .i64 4, .int .i64 0, .sl 3 false [fm a, fm b], .sl 4 false [pf p]]
  | .funI a b p => .agg [.int .i64 5, .int .i64 0, .sl 3 false [fm a, fm b], .sl 4 false [pf p]]
  | .use a b p q => .agg [.int .i64 6, .int .i64 0, .sl 3 false [fm a, fm b], .sl 4 false [pf p, pf q]]
  | .botE a p => .agg [.int .i64 7, .int .i64 0, .sl 3 false [fm a], .sl 4 false [pf p]]
theorem pf_eq (p : Pf) : pf p = .agg [.int .i64 p.kind, .int .i64 p.num, .sl 3 false (p.forms.map fm), .sl 4 false (p.kids.map pf)] := by cases p <;> rfl
theorem pf_cells (p : Pf) : (pf p).cells = [.int .i64 p.kind, .int .i64 p.num, .sl 3 false (p.forms.map fm), .sl 4 false (p.kids.map pf)] := by rw [pf_eq]; rfl
@[simp] theorem pf_isJunk (p : Pf) : (pf p).isJunk = false := by rw [pf_eq]; rfl
@[simp] theorem pf_isAgg (p : Pf) : (pf p).isAgg = true := by rw [pf_eq]; rfl
@[simp] theorem pf_ncells (p : Pf) : (pf p).ncells = 4 := by rw [pf_eq]; rfl
@[simp] theorem pf_cellOK (p : Pf) : (pf p).cells.all PV.cellOK = true := by rw [pf_cells]; rfl
@[simp] theorem pf_len (p : Pf) : (pf p).cells.length = 4 := by rw [pf_cells]; rfl
@[simp] theorem pf_cellOK' (p : Pf) : (∀ x ∈ (pf p).cells, x.cellOK = true) ↔ True := by
  have := pf_cellOK p
  rw [List.all_eq_true] at this
  simpa using this
@[simp high] theorem takeV_pf (p : Pf) : takeV true 4 (pf p).cells = some (pf p) := by rw [pf_cells, pf_eq]; rfl
@[simp] theorem pf_f0 (p : Pf) (n : Nat) : takeV false n (pf p).cells = some (.int .i64 p.kind) := by rw [pf_cells]; rfl
@[simp] theorem pf_f1 (p : Pf) (n : Nat) : takeV false n ((pf p).cells.tail) = some (.int .i64 p.num) := by rw [pf_cells]; rfl
@[simp] theorem pf_f1' (p : Pf) (n : Nat) : takeV false n ((pf p).cells.drop 1) = some (.int .i64 p.num) := by rw [pf_cells]; rfl
@[simp] theorem pf_f2 (p : Pf) (n : Nat) : takeV false n ((pf p).cells.drop 2) = some (.sl 3 false (p.forms.map fm)) := by rw [pf_cells]; rfl
@[simp] theorem pf_f3 (p : Pf) (n : Nat) : takeV false n ((pf p).cells.drop 3) = some (.sl 4 false (p.kids.map pf)) := by rw [pf_cells]; rfl
@[simp] theorem pf_agg (p : Pf) : PV.agg (pf p).cells = pf p := by rw [pf_cells, pf_eq]
theorem Box.pf (p : Pf) : Box 4 (pf p) := by rw [pf_eq]; exact ⟨_, rfl, rfl, rfl⟩
theorem Held.ldp {st w : St} {L : List (Nat × PV)} {P : List (Nat × List PV)} {v : Nat} {p : Pf} (h : Held st w L P) (hv : (v, Go.H.pf p) ∈ L) : q_load w true 4 (.ptr v 0) = some (Go.H.pf p) := h.load (Box.pf p) hv
end Go.H
namespace Go.H
open Go
set_option linter.unusedVariables false
set_option linter.unusedSimpArgs false

structure HS (bs : List UInt8) (M : Int) (b : Nat) (st w : St) (L : List (Nat × PV)) (P : List (Nat × List PV)) : Prop where
  src : Src bs M b w
  ar : Around b st w
  got : ∀ x ∈ L, w x.1 = some (.cells x.2.cells)
  zat : ∀ x ∈ P, w x.1 = some (.cells x.2)
  nd : (L.map (·.1) ++ P.map (·.1)).Nodup
  out : ∀ c ∈ L.map (·.1) ++ P.map (·.1), c ≠ b ∧ st c = none
section
variable {bs : List UInt8} {M : Int} {b : Nat} {st w : St} {L : List (Nat × PV)} {P : List (Nat × List PV)}
theorem Src.some {bs : List UInt8} {M : Int} {b : Nat} {st : St} (h : Src bs M b st) : ∃ o, st b = some o := by
  obtain ⟨a, s, h1, _⟩ := h.is
  exact ⟨_, h1⟩
theorem Around.refl' (b : Nat) (st : St) : Around b st st := fun _ _ _ h => h
theorem HS.start (h : Src bs M b st) : HS bs M b st st [] [] := ⟨h, Around.refl' b st, by simp, by simp, by simp, by simp⟩
theorem HS.some_of (h : HS bs M b st w L P) {c : Nat} (hb : c ∈ L.map (·.1) ++ P.map (·.1)) : ∃ o, w c = some o := by
  rw [List.mem_append] at hb
  rcases hb with hb | hb
  · obtain ⟨x, hx, rfl⟩ := List.mem_map.1 hb; exact ⟨_, h.got x hx⟩
  · obtain ⟨x, hx, rfl⟩ := List.mem_map.1 hb; exact ⟨_, h.zat x hx⟩
theorem HS.alloc {z : List PV} {K : PV → St → Prop} (h : HS bs M b st w L P) (hk : ∀ v w', HS bs M b st w' L (P ++ [(v, z)]) → K (.ptr v 0) w') : e_alloc w z K := fun v hv => by
  have ne : ∀ c ∈ L.map (·.1) ++ P.map (·.1), c ≠ v := fun c hc e => by
    obtain ⟨o, ho⟩ := h.some_of hc
    rw [e, hv] at ho; cases ho
  have vb : v ≠ b := fun e => by
    obtain ⟨o, ho⟩ := h.src.some
    rw [← e, hv] at ho; cases ho
  have sv : st v = none := by
    cases hs : st v with
    | none => rfl
    | some o => have := h.ar v o vb hs; rw [hv] at this; cases this
  refine hk v _ ⟨?_, fun c o hc h0 => ?_, fun x hx => ?_, fun x hx => ?_, ?_, fun c hc => ?_⟩
  · obtain ⟨a, s, h1, h2⟩ := h.src.is
    exact ⟨a, s, by rw [upd_ne _ _ (Ne.symm vb)]; exact h1, h2⟩
  · have : c ≠ v := fun e => by rw [e, sv] at h0; cases h0
    rw [upd_ne _ _ this]
    exact h.ar c o hc h0
  · rw [upd_ne _ _ (ne _ (List.mem_append_left _ (List.mem_map_of_mem hx)))]
    exact h.got x hx
  · rw [List.mem_append, List.mem_singleton] at hx
    rcases hx with hx | rfl
    · rw [upd_ne _ _ (ne _ (List.mem_append_right _ (List.mem_map_of_mem hx)))]
      exact h.zat x hx
    · exact upd_same _ _ _
  · rw [List.map_append, ← List.append_assoc, List.nodup_append]
    refine ⟨h.nd, by simp, fun a ha b hb => ?_⟩
    simp only [List.map_cons, List.map_nil, List.mem_singleton] at hb
    rw [hb]
    exact ne a ha
  · rw [List.map_append, ← List.append_assoc, List.mem_append] at hc
    rcases hc with hc | hc
    · exact h.out c hc
    · simp only [List.map_cons, List.map_nil, List.mem_singleton] at hc
      rw [hc]
      exact ⟨vb, sv⟩
theorem HS.store {z : List PV} {v n : Nat} {y : PV} {K : St → Prop} (h : HS bs M b st w L ((v, z) :: P)) (hy : Box n y) (hz : z.length = n) (hk : ∀ w', HS bs M b st w' ((v, y) :: L) P → K w') :
    e_store w n (.ptr v 0) y K := by
  obtain ⟨cs, rfl, hl, hc⟩ := hy
  refine e_store_ptr (h.zat (v, z) (by simp)) hc hl rfl (by show 0 + n ≤ z.length; omega) ?_
  have e : setRange z 0 (PV.agg cs).cells = cs := by
    unfold setRange
    show z.take 0 ++ cs ++ z.drop (0 + cs.length) = cs
    rw [List.take_zero, List.nil_append, List.drop_of_length_le (by omega), List.append_nil]
  rw [e]
  have nd := h.nd
  rw [List.map_cons, List.nodup_append] at nd
  obtain ⟨n1, n2, n3⟩ := nd
  rw [List.nodup_cons] at n2
  obtain ⟨vb, sv⟩ := h.out v (by simp)
  refine hk _ ⟨?_, fun c o hc h0 => ?_, fun x hx => ?_, fun x hx => ?_, ?_, fun b hb => ?_⟩
  · obtain ⟨a, s, h1, h2⟩ := h.src.is
    exact ⟨a, s, by rw [upd_ne _ _ (Ne.symm vb)]; exact h1, h2⟩
  · have : c ≠ v := fun e => by rw [e, sv] at h0; cases h0
    rw [upd_ne _ _ this]
    exact h.ar c o hc h0
  · rcases List.mem_cons.1 hx with rfl | hx
    · exact upd_same _ _ _
    · rw [upd_ne _ _ (n3 _ (List.mem_map_of_mem hx) v (by simp))]
      exact h.got x hx
  · rw [upd_ne _ _ (fun e => n2.1 (by rw [show v = x.1 from e.symm]; exact List.mem_map.2 ⟨x, hx, rfl⟩))]
    exact h.zat x (by simp [hx])
  · rw [List.map_cons, List.cons_append, List.nodup_cons, List.nodup_append, List.mem_append]
    refine ⟨fun hm => ?_, n1, n2.2, fun a ha b hb => n3 a ha b (by simp [hb])⟩
    rcases hm with hm | hm
    · exact n3 v hm v (by simp) rfl
    · exact n2.1 hm
  · refine h.out b ?_
    simp only [List.map_cons, List.cons_append, List.mem_cons, List.mem_append] at hb ⊢
    rcases hb with hb | hb | hb
    · exact .inr (.inl hb)
    · exact .inl hb
    · exact .inr (.inr hb)
theorem HS.load {v n : Nat} {y : PV} (h : HS bs M b st w L P) (hy : Box n y) (hv : (v, y) ∈ L) : q_load w true n (.ptr v 0) = some y := by
  obtain ⟨cs, rfl, hl, _⟩ := hy
  have := h.got _ hv
  rw [q_load_ptr this]
  show takeV true n (cs.drop 0) = _
  rw [List.drop_zero]
  show (if n ≤ cs.length then some (PV.agg (cs.take n)) else none) = _
  rw [if_pos (by omega), List.take_of_length_le (by omega)]
theorem HS.perm {P' : List (Nat × List PV)} (h : HS bs M b st w L P) (hp : P.Perm P') : HS bs M b st w L P' :=
  ⟨h.src, h.ar, h.got, fun x hx => h.zat x (hp.mem_iff.2 hx), ((List.Perm.append_left _ (hp.map _)).nodup_iff).1 h.nd, fun b hb => h.out b ((List.Perm.append_left _ (hp.map _)).mem_iff.2 hb)⟩
theorem HS.store2 {p : Nat × List PV} {z : List PV} {v n : Nat} {y : PV} {K : St → Prop} (h : HS bs M b st w L (p :: (v, z) :: P)) (hy : Box n y) (hz : z.length = n) (hk : ∀ w', HS bs M b st w' ((v, y) :: L) (p :: P) → K w') : e_store w n (.ptr v 0) y K :=
  (h.perm (List.Perm.swap _ _ _)).store hy hz hk
theorem HS.store3 {p q : Nat × List PV} {z : List PV} {v n : Nat} {y : PV} {K : St → Prop} (h : HS bs M b st w L (p :: q :: (v, z) :: P)) (hy : Box n y) (hz : z.length = n) (hk : ∀ w', HS bs M b st w' ((v, y) :: L) (p :: q :: P) → K w') : e_store w n (.ptr v 0) y K :=
  (h.perm ((List.Perm.cons _ (List.Perm.swap _ _ _)).trans (List.Perm.swap _ _ _))).store hy hz hk
theorem HS.ldf {v : Nat} {f : Fm} (h : HS bs M b st w L P) (hv : (v, Go.H.fm f) ∈ L) : q_load w true 3 (.ptr v 0) = some (Go.H.fm f) := h.load (Box.fm f) hv
theorem HS.ldp {v : Nat} {p : Pf} (h : HS bs M b st w L P) (hv : (v, Go.H.pf p) ∈ L) : q_load w true 4 (.ptr v 0) = some (Go.H.pf p) := h.load (Box.pf p) hv
theorem HS.pair {p q : Nat × List PV} {x : Pf} {f : Fm} {z z' : List PV} {K : PV → PV → St → Prop} (h : HS bs M b st w L [p, q]) (hz : z.length = 4) (hz' : z'.length = 3) (hk : ∀ v u w', HS bs M b st w' ((u, fm f) :: (v, pf x) :: L) [p, q] → K (.ptr v 0) (.ptr u 0) w') :
    e_alloc w z fun v st => e_alloc st z' fun u st => e_store st 4 v (pf x) fun st => e_store st 3 u (fm f) fun st => K v u st :=
  h.alloc fun v w1 h1 => h1.alloc fun u w2 h2 => HS.store3 h2 (Box.pf x) hz fun w3 h3 => HS.store3 h3 (Box.fm f) hz' fun w4 h4 => hk v u w4 h4
theorem HS.drew {Q : PV → Prop} {M' : Int} {Pr : Program} {g : FuncId} {us : List PV} {K Kp : PV → St → Prop} (h : HS bs M b st w L P) (hc : HCalls Pr g us w (Drew bs M' b Q w)) (hk : ∀ p w', Q p → HS bs M' b st w' L P → K p w') : callK Pr g us w K Kp :=
  callK_drew hc fun p o hq hs => hk p _ hq ⟨hs, fun c oc hcb h0 => by rw [upd_ne _ _ hcb]; exact h.ar c oc hcb h0,
    fun x hx => by rw [upd_ne _ _ (h.out x.1 (List.mem_append_left _ (List.mem_map_of_mem hx))).1]; exact h.got x hx,
    fun x hx => by rw [upd_ne _ _ (h.out x.1 (List.mem_append_right _ (List.mem_map_of_mem hx))).1]; exact h.zat x hx, h.nd, h.out⟩
theorem HS.fin {Q : PV → Prop} {p : PV} (h : HS bs M b st w L P) (hq : Q p) : retR (Drew bs M b Q st) p w := Drew.fin hq h.src h.ar
theorem HS.mono {M' : Int} (h : HS bs M b st w L P) (hm : M ≤ M') : HS bs M' b st w L P := ⟨h.src.mono hm, h.ar, h.got, h.zat, h.nd, h.out⟩
theorem HS.sub (h : HS bs M b st w L P) (hb : st b = none) : Sub st w := fun c o hc => h.ar c o (fun e => by rw [e, hb] at hc; cases hc) hc
theorem Held.perm {P' : List (Nat × List PV)} (h : Held st w L P) (hp : P.Perm P') : Held st w L P' :=
  ⟨h.sub, h.got, fun x hx => h.zat x (hp.mem_iff.2 hx), ((List.Perm.append_left _ (hp.map _)).nodup_iff).1 h.nd, fun b hb => h.out b ((List.Perm.append_left _ (hp.map _)).mem_iff.2 hb)⟩
theorem Held.store2 {p : Nat × List PV} {z : List PV} {v n : Nat} {y : PV} {K : St → Prop} (h : Held st w L (p :: (v, z) :: P)) (hy : Box n y) (hz : z.length = n) (hk : ∀ w', Held st w' ((v, y) :: L) (p :: P) → K w') : e_store w n (.ptr v 0) y K :=
  (h.perm (List.Perm.swap _ _ _)).store hy hz hk
theorem Held.store3 {p q : Nat × List PV} {z : List PV} {v n : Nat} {y : PV} {K : St → Prop} (h : Held st w L (p :: q :: (v, z) :: P)) (hy : Box n y) (hz : z.length = n) (hk : ∀ w', Held st w' ((v, y) :: L) (p :: q :: P) → K w') : e_store w n (.ptr v 0) y K :=
  (h.perm ((List.Perm.cons _ (List.Perm.swap _ _ _)).trans (List.Perm.swap _ _ _))).store hy hz hk
theorem Held.again {v : Nat} {x y : PV} (h : Held st w ((v, x) :: L) P) : Held st (upd w v (.cells y.cells)) ((v, y) :: L) P := by
  have nd := h.nd
  rw [List.map_cons, List.cons_append, List.nodup_cons] at nd
  refine ⟨fun c o hc => ?_, fun z hz => ?_, fun z hz => ?_, by simpa using h.nd, fun b hb => h.out b (by simpa using hb)⟩
  · have : c ≠ v := fun e => by
      have := h.out v (by simp)
      rw [e, this] at hc; cases hc
    rw [upd_ne _ _ this]
    exact h.sub c o hc
  · rcases List.mem_cons.1 hz with rfl | hz
    · exact upd_same _ _ _
    · rw [upd_ne _ _ (fun e => nd.1 (by rw [← show z.1 = v from e]; exact List.mem_append_left _ (List.mem_map.2 ⟨z, hz, rfl⟩)))]
      exact h.got z (by simp [hz])
  · rw [upd_ne _ _ (fun e => nd.1 (by rw [← show z.1 = v from e]; exact List.mem_append_right _ (List.mem_map.2 ⟨z, hz, rfl⟩)))]
    exact h.zat z hz
theorem Held.grow {w' : St} (h : Held st w L P) (hs : Sub w w') : Held st w' L P := ⟨h.sub.trans hs, fun x hx => hs _ _ (h.got x hx), fun x hx => hs _ _ (h.zat x hx), h.nd, h.out⟩
theorem HS.top {v n : Nat} {y : PV} (h : HS bs M b st w ((v, y) :: L) P) (hy : Box n y) : q_load w true n (.ptr v 0) = some y := h.load hy (by simp)
theorem Held.top {v n : Nat} {y : PV} (h : Held st w ((v, y) :: L) P) (hy : Box n y) : q_load w true n (.ptr v 0) = some y := h.load hy (by simp)
theorem retR_via {R : Res → St → Prop} {p p' : PV} {s s' : St} (hc : Conv [p] s [p'] s') (h : retR R p' s') : retR R p s := by
  obtain ⟨p2, s2, h1, h2⟩ := h
  exact ⟨p2, s2, hc.trans h1, h2⟩
theorem HS.begun {Pr : Program} {g : FuncId} {us : List PV} {s0 s : St} {K Kp : PV → St → Prop} (h : Held s0 s L P) (hc : HCalls Pr g us s (Begun bs s)) (hk : ∀ b w', s0 b = none → HS bs 0 b s0 w' L P → K (.ptr b 0) w') : callK Pr g us s K Kp :=
  callK_begun hc fun b o hb hs => by
    have hs0 := h.sub.isNone hb
    have ne : ∀ c ∈ L.map (·.1) ++ P.map (·.1), c ≠ b := fun c hc e => by
      obtain ⟨o, ho⟩ := h.some_of hc
      rw [e, hb] at ho; cases ho
    refine hk b _ hs0 ⟨hs, fun c oc hcb h0 => by rw [upd_ne _ _ hcb]; exact h.sub c oc h0,
      fun x hx => by rw [upd_ne _ _ (ne x.1 (List.mem_append_left _ (List.mem_map_of_mem hx)))]; exact h.got x hx,
      fun x hx => by rw [upd_ne _ _ (ne x.1 (List.mem_append_right _ (List.mem_map_of_mem hx)))]; exact h.zat x hx, h.nd, fun c hc => ⟨ne c hc, h.out c hc⟩⟩
end
end Go.H
namespace Go.H
open Go
set_option linter.unusedVariables false
set_option linter.unusedSimpArgs false

theorem rx_freeze {w : World} {st : St} {b n cap esz : Nat} {xs : List PV} (hg : Good w st) (hb : st b = some (.vec esz xs cap)) (hn : xs.length = n) {us : List Value} (h : RX (Cw w st) (.vsl b n cap) us) : RX (Cw w (del st b)) (.sl esz false xs) us := by
  obtain ⟨arr, t, r1, r2, r3, r4, r5, r6, r7⟩ := hg b _ hb
  simp only [RX] at h ⊢
  subst h
  refine ⟨_, _, _, rfl, hn.symm, by omega, r3, (fun h => by cases h), r6, .inr ⟨b, 0, arr.toList.take (xs.length * esz), rfl, fun j v hj => ⟨?_, del_same st b⟩, RXs.mono (Evo.sub (del_sub st b)).cw _ _ r7⟩⟩
  rw [Nat.zero_add, cell_of_heap r1]
  rw [List.getElem?_take] at hj
  split at hj
  · exact hj
  · cases hj
theorem RCs.swap {C C' : Nat → Nat → Value → Prop} (hC : ∀ b o v, C b o v → C' b o v) {p p' : PV} (hp : ∀ us, RX C p us → RX C' p' us) : ∀ (pre post : List PV) (us : List Value), RCs C (pre ++ p :: post) us → RCs C' (pre ++ p' :: post) us
  | [], post, us, h => by
    simp only [List.nil_append, RCs] at h ⊢
    obtain ⟨v, vs, rfl, h1, h2⟩ := h
    exact ⟨v, vs, rfl, hp _ h1, RCs.mono hC _ _ h2⟩
  | q :: pre, post, us, h => by
    simp only [List.cons_append, RCs] at h ⊢
    obtain ⟨v, vs, rfl, h1, h2⟩ := h
    exact ⟨v, vs, rfl, h1.mono hC, RCs.swap hC hp pre post vs h2⟩
theorem Conv.cell {ls : List PV} {st : St} {v b n cap esz : Nat} {pre post : List PV} {xs : List PV} (hv : st v = some (.cells (pre ++ .vsl b n cap :: post))) (hb : st b = some (.vec esz xs cap)) (hn : xs.length = n) :
    Conv ls st ls (upd (del st b) v (.cells (pre ++ .sl esz false xs :: post))) := fun w hg => by
  have ne : v ≠ b := fun e => by rw [e, hb] at hv; cases hv
  have hC : ∀ c o u, Cw w st c o u → Cw w (upd (del st b) v (.cells (pre ++ .sl esz false xs :: post))) c o u := fun c o u ⟨h1, h2⟩ => by
    have hc : c ≠ v := fun e => by rw [e, hv] at h2; cases h2
    refine ⟨h1, ?_⟩
    rw [upd_ne _ _ hc]
    unfold del
    split
    · rfl
    · exact h2
  have hC2 : ∀ c o u, Cw w (del st b) c o u → Cw w (upd (del st b) v (.cells (pre ++ .sl esz false xs :: post))) c o u := fun c o u ⟨h1, h2⟩ => by
    have hc : c ≠ v := fun e => by
      rw [e] at h2
      unfold del at h2
      rw [if_neg ne, hv] at h2; cases h2
    exact ⟨h1, by rw [upd_ne _ _ hc]; exact h2⟩
  refine ⟨fun c o hc => ?_, ⟨rfl, rfl, rfl, Nat.le_refl _, fun c hc hn => ⟨rfl, ?_⟩⟩, fun vals h => h.mono hC⟩
  · by_cases hcv : c = v
    · subst hcv
      rw [upd_same] at hc
      cases hc
      obtain ⟨arr, t, r1, r2⟩ := hg c _ hv
      exact ⟨arr, t, r1, RCs.swap hC (fun us hu => RX.mono hC2 _ _ (rx_freeze hg hb hn hu)) pre post _ r2⟩
    · rw [upd_ne _ _ hcv] at hc
      unfold del at hc
      split at hc
      · cases hc
      · exact (hg c o hc).mono hC rfl
  · have hcv : c ≠ v := fun e => by rw [e, hv] at hn; cases hn
    rw [upd_ne _ _ hcv]
    unfold del
    split
    · rfl
    · exact hn
theorem rx_empty {C : Nat → Nat → Value → Prop} {e e' : Nat} {f f' : Bool} {us : List Value} (h : RX C (.sl e f []) us) (hf : f' = true → f = true) : RX C (.sl e' f' []) us := by
  simp only [RX] at h ⊢
  obtain ⟨a, n, cap, rfl, h3, h4, h5, h6, h7, h8⟩ := h
  exact ⟨_, _, _, rfl, h3, h4, h5, (fun h => h6 (hf h)), (fun x hx => by cases hx), .inl trivial⟩
theorem Conv.cellTo {ls : List PV} {st : St} {v : Nat} {pre post : List PV} {p p' : PV} (hv : st v = some (.cells (pre ++ p :: post))) (hp : ∀ (C : Nat → Nat → Value → Prop) us, RX C p us → RX C p' us) :
    Conv ls st ls (upd st v (.cells (pre ++ p' :: post))) := fun w hg => by
  have hC : ∀ c o u, Cw w st c o u → Cw w (upd st v (.cells (pre ++ p' :: post))) c o u := fun c o u ⟨h1, h2⟩ => by
    have hc : c ≠ v := fun e => by rw [e, hv] at h2; cases h2
    exact ⟨h1, by rw [upd_ne _ _ hc]; exact h2⟩
  refine ⟨fun c o hc => ?_, ⟨rfl, rfl, rfl, Nat.le_refl _, fun c hc hn => ⟨rfl, ?_⟩⟩, fun vals h => h.mono hC⟩
  · by_cases hcv : c = v
    · subst hcv
      rw [upd_same] at hc
      cases hc
      obtain ⟨arr, t, r1, r2⟩ := hg c _ hv
      exact ⟨arr, t, r1, RCs.swap hC (fun us hu => RX.mono hC _ _ (hp _ us hu)) pre post _ r2⟩
    · rw [upd_ne _ _ hcv] at hc
      exact (hg c o hc).mono hC rfl
  · have hcv : c ≠ v := fun e => by rw [e, hv] at hn; cases hn
    rw [upd_ne _ _ hcv]; exact hn
theorem Grow.cell {ls : List PV} {base s : St} {v esz : Nat} {acc : List PV} {p : PV} {pre post : List PV} (h : Grow base esz acc p s) (hv : base v = some (.cells (pre ++ p :: post))) :
    Conv ls s ls (upd base v (.cells (pre ++ .sl esz false acc :: post))) := by
  rcases h with ⟨rfl, ⟨e, rfl⟩, rfl⟩ | ⟨b, cap, rfl, hcap, hn, rfl⟩
  · exact Conv.cellTo hv fun C us hu => rx_empty hu (fun h => by cases h)
  · have hne : v ≠ b := fun e => by rw [e, hn] at hv; cases hv
    have hv' : upd base b (.vec esz acc cap) v = some (.cells (pre ++ .vsl b acc.length cap :: post)) := by rw [upd_ne _ _ hne]; exact hv
    have := Conv.cell (ls := ls) hv' (upd_same _ _ _) rfl
    rw [del_upd _ _ _ hn] at this
    exact this
end Go.H
namespace Go.H
open Go
set_option linter.unusedVariables false
set_option linter.unusedSimpArgs false

theorem cbr_t {b : Bool} {X Y : Prop} (h : b = true) (hx : X) : cb (.bool b) fun c => br c X Y := by subst h; exact hx
theorem cbr_f {b : Bool} {X Y : Prop} (h : b = false) (hy : Y) : cb (.bool b) fun c => br c X Y := by subst h; exact hy
theorem cbr_dec {c : Prop} [Decidable c] {X Y : Prop} (h1 : c → X) (h2 : ¬ c → Y) : cb (.bool (decide c)) fun b => br b X Y := br_dec h1 h2
theorem hFix_step {F : List PV → St → (List PV → St → Prop) → Prop} {ls : List PV} {st : St} (h : F ls st (hFix F)) : hFix F ls st := fun X h1 h2 => h1 ls st (hFix F) (fun l s hl => hl X h1 h2) h
theorem ltr (s : St) (t : Tr) : q_load s true 4 (.ref (tree t).cells) = some (tree t) := by simp
theorem qinc {i : Nat} (h : (i : Int) ≤ 1000000000000000) : q_bin .add (.int .i64 (i : Int)) (.int .i64 1) = some (.int .i64 ((i + 1 : Nat) : Int)) := by
  rw [q_bin_int, q_add, wrap64 (by omega) (by omega)]; rfl
theorem qdec {n : Int} (h : -1000000000000000 ≤ n ∧ n ≤ 1000000000000000) : q_bin .sub (.int .i64 n) (.int .i64 1) = some (.int .i64 (n - 1)) := by
  rw [q_bin_int, q_sub, wrap64 (by omega) (by omega)]
end Go.H
namespace Go.H
open Go
set_option linter.unusedVariables false
set_option linter.unusedSimpArgs false

inductive Nice : Nat → List UInt8 → Tr → Prop
  | base {s : List UInt8} : (s = sNat ∨ s = sO) → Nice 0 s (.base s)
  | arr {j k : Nat} {s' s : List UInt8} {x y : Tr} : Nice j s' x → Nice k s y → k + 1 ≤ 4 → Nice (k + 1) s (.arrow x y)
def NiceT (t : Tr) : Prop := ∃ k s, Nice k s t
theorem Nice.le {k : Nat} {s : List UInt8} {t : Tr} (h : Nice k s t) : k ≤ 4 := by
  cases h with
  | base _ => omega
  | arr _ _ h => exact h
theorem Nice.name {k : Nat} {s : List UInt8} {t : Tr} (h : Nice k s t) : s = sNat ∨ s = sO := by
  induction h with
  | base h => exact h
  | arr _ _ _ _ ih => exact ih
theorem Nice.simple {k : Nat} {s : List UInt8} {t : Tr} (h : Nice k s t) : t.isSimple = true := by
  induction h with
  | base h => rcases h with rfl | rfl
              · exact base_simple nameOK_nat
              · exact base_simple nameOK_o
  | arr _ _ _ i1 i2 => exact arrow_simple i1 i2
theorem Nice.drawn : ∀ (d : Nat) (t : Tr), d ≤ 4 → drawnS d t → ∃ k s, k ≤ d ∧ Nice k s t
  | 0, t, _, h => by
    rcases h with rfl | rfl
    · exact ⟨0, _, Nat.le_refl _, .base (.inl rfl)⟩
    · exact ⟨0, _, Nat.le_refl _, .base (.inr rfl)⟩
  | d + 1, t, hd, h => by
    rcases h with (rfl | rfl) | ⟨x, y, hx, hy, rfl⟩
    · exact ⟨0, _, by omega, .base (.inl rfl)⟩
    · exact ⟨0, _, by omega, .base (.inr rfl)⟩
    · obtain ⟨j, s', hj, h1⟩ := Nice.drawn d x (by omega) hx
      obtain ⟨k, s, hk, h2⟩ := Nice.drawn d y (by omega) hy
      exact ⟨k + 1, s, by omega, .arr h1 h2 (by omega)⟩
theorem Nice.zero {s : List UInt8} {t : Tr} (h : Nice 0 s t) : t = .base s := by
  generalize hk : (0 : Nat) = k at h
  cases h with
  | base _ => rfl
  | arr _ _ _ => cases hk
theorem Nice.succ {k : Nat} {s : List UInt8} {t : Tr} (h : Nice (k + 1) s t) : ∃ j s' x y, t = .arrow x y ∧ Nice j s' x ∧ Nice k s y := by
  generalize hk : k + 1 = n at h
  cases h with
  | base _ => cases hk
  | @arr j k' s' _ x y h1 h2 _ =>
    have e : k = k' := by omega
    subst e
    exact ⟨_, _, _, _, rfl, h1, h2⟩
theorem Nice.kind {k : Nat} {s : List UInt8} {t : Tr} (h : Nice k s t) : t.kind = if k = 0 then 9 else 10 := by
  cases h with
  | base _ => rfl
  | arr _ _ _ => rw [if_neg (by omega)]; rfl
theorem someConsts_nice : ∀ x ∈ someConsts, NiceT x.type := by
  have n : Nice 0 sNat (.base sNat) := .base (.inl rfl)
  have o : Nice 0 sO (.base sO) := .base (.inr rfl)
  intro x hx
  simp only [someConsts, List.mem_cons, List.not_mem_nil, or_false] at hx
  rcases hx with rfl | rfl | rfl | rfl | rfl | rfl
  · exact ⟨_, _, n⟩
  · exact ⟨_, _, .arr n n (by omega)⟩
  · exact ⟨_, _, .arr n (.arr o o (by omega)) (by omega)⟩
  · exact ⟨_, _, o⟩
  · exact ⟨_, _, .arr (.arr n o (by omega)) o (by omega)⟩
  · exact ⟨_, _, .arr (.arr n n (by omega)) (.arr n n (by omega)) (by omega)⟩
theorem someConsts_bare {s : List UInt8} (h : s = sNat ∨ s = sO) : ∃ x ∈ someConsts, x.type = .base s := by
  rcases h with rfl | rfl
  · exact ⟨⟨[122], .base sNat⟩, by simp [someConsts], rfl⟩
  · exact ⟨⟨[97], .base sO⟩, by simp [someConsts], rfl⟩
theorem tyOf_get : ∀ (x : Ty), x ∈ someConsts → tyOf someConsts x.name = some x.type := by
  intro x hx
  simp only [someConsts, List.mem_cons, List.not_mem_nil, or_false] at hx
  rcases hx with rfl | rfl | rfl | rfl | rfl | rfl <;> rfl
def dC : Nat → Nat
  | 0 => 1
  | d + 1 => 1 + 4 * dC d
def dS : Nat → Nat
  | 0 => 1
  | d + 1 => 1 + 4 * (dS d + 4)
theorem LS.snoc {cs : List Ty} {hs : List Tr} {ctx : List Tr} : ∀ {ks : List Tr} {b x y k : Tr}, LS cs hs ctx ks b (.arrow x y) → LT cs hs ctx k x → LS cs hs ctx (ks ++ [k]) b y
  | [], b, x, y, k, h, hk => by cases h; exact .cons hk .nil
  | z :: r, b, x, y, k, h, hk => by
    cases h with
    | cons h1 h2 => exact .cons h1 (LS.snoc h2 hk)
structure Hd where
  kd : Int
  n : Int
  nm : List UInt8
  ty : Tr
def Hd.raw (h : Hd) : PV := .agg [.int .i64 h.kd, .int .i64 h.n, .str h.nm, .sl 0 true []]
inductive HeadOf (cs : List Ty) (hs ctx : List Tr) : Hd → Prop
  | var {n : Nat} {b : Tr} : ctx[n]? = some b → HeadOf cs hs ctx ⟨5, n, [], b⟩
  | hole {n : Nat} {b : Tr} : hs[n]? = some b → HeadOf cs hs ctx ⟨7, n, [], b⟩
  | const {w : List UInt8} {b : Tr} : tyOf cs w = some b → HeadOf cs hs ctx ⟨6, 0, w, b⟩
theorem HeadOf.term {cs : List Ty} {hs ctx : List Tr} {h : Hd} (hh : HeadOf cs hs ctx h) {ks : List Tr} {s : List UInt8} (hk : LS cs hs ctx ks h.ty (.base s)) : LT cs hs ctx (.mk h.kd h.n h.nm ks) (.base s) := by
  cases hh with
  | var h => exact .var h hk
  | hole h => exact .hole h hk
  | const h => exact .const h hk
theorem HeadOf.isTerm {hs ctx : List Tr} {h : Hd} (hh : HeadOf someConsts hs ctx h) (h1 : ctx.length ≤ 100) (h2 : hs.length ≤ 100) {ks : List Tr} (hk : ∀ x ∈ ks, x.isTerm false = true) : (Tr.mk h.kd h.n h.nm ks).isTerm false = true := by
  have hks : ks.all (Tr.isArg false) = true := by
    rw [List.all_eq_true]
    intro x hx
    have := hk x hx
    simp only [Tr.isArg, Bool.false_eq_true, false_and, if_false]
    exact this
  rw [Tr.isTerm_eq]
  cases hh with
  | @var n b h =>
    have := (List.getElem?_eq_some_iff.1 h).1
    rw [if_neg (by simp [Tr.kind]), if_pos (by simp [Tr.kind])]
    simp only [Tr.n, Tr.name, Tr.kids, hks, Bool.and_true, Bool.and_eq_true, decide_eq_true_eq]
    exact ⟨⟨decide_eq_true (show (0 : Int) ≤ (n : Int) by omega), decide_eq_true (show (n : Int) ≤ 100 by omega)⟩, trivial⟩
  | @hole n b h =>
    have := (List.getElem?_eq_some_iff.1 h).1
    rw [if_neg (by simp [Tr.kind]), if_pos (by simp [Tr.kind])]
    simp only [Tr.n, Tr.name, Tr.kids, hks, Bool.and_true, Bool.and_eq_true, decide_eq_true_eq]
    exact ⟨⟨decide_eq_true (show (0 : Int) ≤ (n : Int) by omega), decide_eq_true (show (n : Int) ≤ 100 by omega)⟩, trivial⟩
  | @const w b h =>
    rw [if_neg (by simp [Tr.kind]), if_neg (by simp [Tr.kind]), if_pos (by simp [Tr.kind])]
    simp only [Tr.n, Tr.name, Tr.kids, hks, Bool.and_true, Bool.and_eq_true, decide_eq_true_eq]
    refine ⟨trivial, ?_⟩
    simp only [someConsts, tyOf] at h
    repeat' (split at h)
    all_goals first | (rename_i hw; subst hw; decide) | (subst_vars; decide) | cases h
theorem Hd.box (h : Hd) : Box 4 h.raw := ⟨_, rfl, rfl, rfl⟩

theorem Held.put_at {st w : St} {L : List (Nat × PV)} {P : List (Nat × List PV)} {z : List PV} {b : Nat} (h : Held st w L P) (hb : w b = none) : Held st (upd w b (.cells z)) L (P ++ [(b, z)]) := by
  obtain ⟨v, hv, h'⟩ := h.alloc (z := z) (K := fun p w' => ∃ v, p = .ptr v 0 ∧ Held st w' L (P ++ [(v, z)])) (fun v w' h' => ⟨v, rfl, h'⟩) b hb
  cases hv
  exact h'

def GivesV (st : St) (Q : PV → Prop) : Res → St → Prop := fun r s => s = st ∧ ∃ p, r = .ret p ∧ Q p
theorem callK_givesV {P : Program} {g : FuncId} {us : List PV} {st : St} {Q : PV → Prop} {K Kp : PV → St → Prop} (hc : HCalls P g us st (GivesV st Q)) (hk : ∀ p, Q p → K p st) : callK P g us st K Kp := by
  refine callK_of hc (fun p s h => ?_) (fun p s h => ?_)
  · obtain ⟨rfl, q, h, hq⟩ := h
    cases h
    exact hk _ hq
  · obtain ⟨_, _, h, _⟩ := h
    cases h

theorem growUnder {s0 s1 s : St} {esz bytes e2 : Nat} {acc acc2 : List PV} {p1 p2 y y' : PV} {K : PV → St → Prop} (h1 : Grow s0 esz acc p1 s1) (h2 : Grow s1 e2 acc2 p2 s) (hy : Go.H.elems s esz y = some [y']) (hb : (acc.length + 1) * bytes ≤ 140737488355328)
    (hk : ∀ p' s1' s', Grow s0 esz (acc ++ [y']) p' s1' → Grow s1' e2 acc2 p2 s' → K p' s') : e_append s esz bytes p1 y K := by
  rcases h2 with ⟨rfl, ⟨e, rfl⟩, rfl⟩ | ⟨b2, cap2, rfl, hcap2, hn2, rfl⟩
  · exact h1.append hy (by simpa using hb) fun p' s' hg => hk p' s' s' hg (.inl ⟨rfl, ⟨e, rfl⟩, rfl⟩)
  · rcases h1 with ⟨rfl, ⟨e, rfl⟩, rfl⟩ | ⟨b1, cap1, rfl, hcap1, hn1, rfl⟩
    · have e1 : Go.H.elems (upd s1 b2 (.vec e2 acc2 cap2)) esz (.sl e true []) = some [] := by simp [Go.H.elems]
      unfold e_append
      rw [e1, hy]
      refine ⟨by simpa using hb, rfl, fun h => by simp at h, fun h => .inl fun b cap hb' hc => ?_⟩
      rcases hb' with hb' | hb'
      · cases hb'
      · have ne : b ≠ b2 := fun e => by rw [e, upd_same] at hb'; cases hb'
        rw [upd_ne _ _ ne] at hb'
        refine hk _ (upd s1 b (.vec esz [y'] cap)) _ (.inr ⟨b, cap, rfl, hc, hb', rfl⟩) ?_
        exact .inr ⟨b2, cap2, rfl, hcap2, by rw [upd_ne _ _ (Ne.symm ne)]; exact hn2, by
          show upd (upd s1 b2 _) b _ = _
          rw [upd_comm _ _ _ ne]; rfl⟩
    · have n12 : b1 ≠ b2 := fun e => by rw [← e, upd_same] at hn2; cases hn2
      have e1 : Go.H.elems (upd (upd s0 b1 (.vec esz acc cap1)) b2 (.vec e2 acc2 cap2)) esz (.vsl b1 acc.length cap1) = some acc := by simp [Go.H.elems, upd_ne _ _ n12, upd_same]
      unfold e_append
      rw [e1, hy]
      refine ⟨by simpa using hb, .inl fun b' cap' hb' hc => ?_⟩
      have hd : del (upd (upd s0 b1 (.vec esz acc cap1)) b2 (.vec e2 acc2 cap2)) b1 = upd s0 b2 (.vec e2 acc2 cap2) := by
        rw [upd_comm _ _ _ n12]
        refine del_upd _ _ _ ?_
        rw [upd_ne _ _ n12]; exact hn1
      have ne : b' ≠ b2 := by
        rcases hb' with hb' | hb'
        · cases hb'; exact n12
        · exact fun e => by rw [e, upd_same] at hb'; cases hb'
      have hf : s0 b' = none := by
        rcases hb' with hb' | hb'
        · cases hb'; exact hn1
        · rw [upd_ne _ _ ne] at hb'
          by_cases h : b' = b1
          · rw [h]; exact hn1
          · rwa [upd_ne _ _ h] at hb'
      refine hk _ (upd s0 b' (.vec esz (acc ++ [y']) cap')) _ (.inr ⟨b', cap', rfl, hc, hf, rfl⟩) ?_
      refine .inr ⟨b2, cap2, rfl, hcap2, ?_, ?_⟩
      · rw [upd_ne _ _ (Ne.symm ne)]
        by_cases h : b2 = b1
        · exact absurd h.symm n12
        · rwa [upd_ne _ _ h] at hn2
      · show upd (del _ b1) b' _ = _
        rw [hd, upd_comm _ _ _ ne]
def Two (s0 : St) (xs ys : List PV) (p1 p2 : PV) (s : St) : Prop := ∃ s1, Grow s0 4 xs p1 s1 ∧ Grow s1 4 ys p2 s
theorem Two.start (s0 : St) (e e' : Nat) : Two s0 [] [] (.sl e true []) (.sl e' true []) s0 := ⟨s0, Grow.nil _ _ _, Grow.nil _ _ _⟩
theorem Two.fst {s0 s : St} {xs ys : List PV} {p1 p2 x : PV} {K : PV → St → Prop} (h : Two s0 xs ys p1 p2 s) (hl : xs.length ≤ 100000) (hk : ∀ p' s', Two s0 (xs ++ [x]) ys p' p2 s' → K p' s') : e_append s 4 56 p1 (.sl 4 true [x]) K := by
  obtain ⟨s1, h1, h2⟩ := h
  exact growUnder h1 h2 (elems_sl _ _ _ _) (by omega) fun p' s1' s' g1 g2 => hk p' s' ⟨s1', g1, g2⟩
theorem Two.snd {s0 s : St} {xs ys : List PV} {p1 p2 y : PV} {K : PV → St → Prop} (h : Two s0 xs ys p1 p2 s) (hl : ys.length ≤ 100000) (hk : ∀ p' s', Two s0 xs (ys ++ [y]) p1 p' s' → K p' s') : e_append s 4 56 p2 (.sl 4 true [y]) K := by
  obtain ⟨s1, h1, h2⟩ := h
  exact h2.append (ys := [y]) (elems_sl _ _ _ _) (by simp; omega) fun p' s' g2 => hk p' s' ⟨s1, h1, g2⟩
theorem Two.sub {s0 s : St} {xs ys : List PV} {p1 p2 : PV} (h : Two s0 xs ys p1 p2 s) : Sub s0 s := by
  obtain ⟨s1, h1, h2⟩ := h
  exact h1.sub.trans h2.sub
theorem Two.freeze {s0 s : St} {xs ys : List PV} {p1 p2 : PV} (h : Two s0 xs ys p1 p2 s) (ls : List PV) : Conv (p1 :: p2 :: ls) s (.sl 4 false xs :: .sl 4 false ys :: ls) s0 := by
  obtain ⟨s1, h1, h2⟩ := h
  refine Conv.trans (s2 := s1) (l2 := p1 :: .sl 4 false ys :: ls) ?_ ?_
  · exact Conv.cons (Conv.sub h2.sub) (Conv.cons h2.freeze (Conv.sub h2.sub))
  · exact Conv.cons h1.freeze (Conv.sub h1.sub)
theorem hFix_cv {F : List PV → St → (List PV → St → Prop) → Prop} {ls ls' : List PV} {st st' : St} (hc : Conv ls st ls' st') (h : hFix F ls' st') : hFix F ls st := fun X h1 h2 => h2 _ _ _ _ hc (h X h1 h2)
theorem loop_cv {α β : Type} {F : List PV → St → (List PV → St → Prop) → Prop} (xs : List α) (enc : β → Nat → List PV) (stf : β → St) (Q : β → Nat → List α → Prop)
    (step : ∀ i x rest acc, i < xs.length → xs[i]? = some x → Q acc i (x :: rest) → (∀ acc', Q acc' (i + 1) rest → hFix F (enc acc' (i + 1)) (stf acc')) → F (enc acc i) (stf acc) (hFix F))
    (fin : ∀ acc, Q acc xs.length [] → ∃ ls st', Conv (enc acc xs.length) (stf acc) ls st' ∧ F ls st' (hFix F)) (acc0 : β) (h : Q acc0 0 xs) : hFix F (enc acc0 0) (stf acc0) := by
  have key : ∀ (rest : List α) (i : Nat) (acc : β), xs.drop i = rest → i ≤ xs.length → Q acc i rest → hFix F (enc acc i) (stf acc) := by
    intro rest
    induction rest with
    | nil =>
      intro i acc hd hi hq
      have : i = xs.length := by rw [List.drop_eq_nil_iff] at hd; omega
      subst this
      obtain ⟨ls, st', hc, hf⟩ := fin acc hq
      exact hFix_cv hc (hFix_step hf)
    | cons x rest ih =>
      intro i acc hd hi hq
      have hi' : i < xs.length := by
        by_cases h : i < xs.length
        · exact h
        · rw [List.drop_of_length_le (by omega)] at hd; cases hd
      have hx : xs[i]? = some x := by
        rw [List.getElem?_eq_getElem hi']
        rw [List.drop_eq_getElem_cons hi'] at hd
        injection hd with h1 h2
        rw [h1]
      refine hFix_step (step i x rest acc hi' hx hq fun acc' hq' => ih (i + 1) acc' ?_ (by omega) hq')
      rw [List.drop_eq_getElem_cons hi'] at hd
      injection hd
  exact key xs 0 acc0 (by simp) (by omega) h
theorem hFix_nat {F : List PV → St → (List PV → St → Prop) → Prop} (I : Nat → List PV → St → Prop) (step : ∀ n ls st, I n ls st → (∀ m ls' st', m < n → I m ls' st' → hFix F ls' st') → F ls st (hFix F)) : ∀ n ls st, I n ls st → hFix F ls st := by
  intro n
  induction n using Nat.strongRecOn with
  | _ n ih => exact fun ls st h => hFix_step (step n ls st h fun m ls' st' hm hi => ih m hm ls' st' hi)

def MkN (w : St) (v : Nat) (h : Hd) (ks : List Tr) (p : PV) (s : St) : Prop := Grow (upd w v (.cells [.int .i64 h.kd, .int .i64 h.n, .str h.nm, p])) 4 (ks.map tree) p s
section
variable {w s : St} {v : Nat} {h : Hd} {ks : List Tr} {p : PV}
theorem MkN.at (g : MkN w v h ks p s) : s v = some (.cells [.int .i64 h.kd, .int .i64 h.n, .str h.nm, p]) := g.sub _ _ (upd_same _ _ _)
theorem MkN.row (g : MkN w v h ks p s) : q_load s false 1 (.ptr v 3) = some p := by
  obtain ⟨o1, o2, o3, o4⟩ := g.one
  rw [q_load_ptr g.at]
  show takeV false 1 [p] = _
  unfold takeV
  cases p <;> first | rfl | (simp [PV.cellOK] at o4)
theorem MkN.more {x : Tr} {K : St → Prop} (g : MkN w v h ks p s) (hl : ks.length ≤ 1000) (hk : ∀ p' s', MkN w v h (ks ++ [x]) p' s' → K s') :
    e_append s 4 56 p (.sl 4 true [tree x]) fun r st => qb (q_fa 3 (.ptr v 0)) fun a => e_store st 1 a r K := by
  refine Grow.append g (elems_sl _ _ _ _) (by simp; omega) fun p' s' hg => ?_
  have hv : s' v = some (.cells [.int .i64 h.kd, .int .i64 h.n, .str h.nm, p]) := hg.sub _ _ (upd_same _ _ _)
  obtain ⟨o1, o2, o3, o4⟩ := hg.one
  refine qb_of (x := .ptr v 3) rfl ?_
  refine e_store_ptr hv (by rw [o1]; simp [o4]) o2 o3 (by simp) ?_
  refine hk p' _ ?_
  have hs := hg.store (.cells [.int .i64 h.kd, .int .i64 h.n, .str h.nm, p']) (upd_same _ _ _)
  rw [upd_upd] at hs
  have e : setRange [.int .i64 h.kd, .int .i64 h.n, .str h.nm, p] 3 p'.cells = [.int .i64 h.kd, .int .i64 h.n, .str h.nm, p'] := by rw [o1]; rfl
  rw [e]
  unfold MkN
  simpa using hs
theorem MkN.other {c : Nat} {o : HObj} (g : MkN w v h ks p s) (hc : c ≠ v) (ho : w c = some o) : s c = some o := Grow.sub g _ _ (by rw [upd_ne _ _ hc]; exact ho)
theorem MkN.ne {b : Nat} (g : MkN w v h ks p s) (hb : s b = none) : b ≠ v := fun e => by
  have := g.at
  rw [← e, hb] at this; cases this
theorem MkN.none {b : Nat} (g : MkN w v h ks p s) (hb : s b = Option.none) : w b = Option.none := by
  have hn := (Grow.sub g).isNone hb
  rwa [upd_ne _ _ (g.ne hb)] at hn
theorem MkN.beside {b : Nat} (g : MkN w v h ks p s) (o : HObj) (hb : s b = Option.none) : MkN (upd w b o) v h ks p (upd s b o) := by
  have := Grow.beside g o hb
  rw [upd_comm _ _ _ (Ne.symm (g.ne hb))] at this
  exact this
theorem MkN.store {c : Nat} (g : MkN w v h ks p s) (o : HObj) {o0 : HObj} (hc : c ≠ v) (hw : w c = some o0) : MkN (upd w c o) v h ks p (upd s c o) := by
  have := Grow.store g o (c := c) (by rw [upd_ne _ _ hc]; exact hw)
  rw [upd_comm _ _ _ (Ne.symm hc)] at this
  exact this
theorem MkN.freeze (g : MkN w v h ks p s) :
    Conv [.agg [.int .i64 h.kd, .int .i64 h.n, .str h.nm, p]] s [tree (.mk h.kd h.n h.nm ks)] (upd w v (.cells [.int .i64 h.kd, .int .i64 h.n, .str h.nm, p])) := by
  rw [tree_eq]
  obtain ⟨o1, o2, o3, o4⟩ := g.one
  exact Conv.agg (Conv.cons (Conv.sub (Grow.sub g)) (Conv.cons (Conv.sub (Grow.sub g)) (Conv.cons (Conv.sub (Grow.sub g)) (Grow.freeze g)))) rfl (by show (true && (true && (true && (p.cellOK && true)))) = true; rw [o4]; rfl)
end
end Go.H
namespace Go.H
open Go
set_option linter.unusedVariables false
set_option linter.unusedSimpArgs false

theorem args_base (s : List UInt8) : (Tr.base s).args = [] := Tr.args_base (by simp [Tr.base, Tr.kind])
theorem args_arrow (x y : Tr) : (Tr.arrow x y).args = x :: y.args := Tr.args_arrow rfl rfl
theorem lams_out : ∀ (k : Nat) (t : Tr), lams (k + 1) t = .lam (lams k t)
  | 0, t => rfl
  | k + 1, t => by rw [lams, lams_out k, lams]
theorem Nice.args_len {k : Nat} {s : List UInt8} {t : Tr} (h : Nice k s t) : t.args.length = k := by
  induction h with
  | base _ => rw [args_base]; rfl
  | arr _ _ _ _ ih => rw [args_arrow, List.length_cons, ih]
theorem Nice.args_nice {k : Nat} {s : List UInt8} {t : Tr} (h : Nice k s t) : ∀ x ∈ t.args, NiceT x := by
  induction h with
  | base _ => rw [args_base]; simp
  | arr h1 _ _ _ ih => rw [args_arrow, List.forall_mem_cons]; exact ⟨⟨_, _, h1⟩, ih⟩
theorem LS.of {cs : List Ty} {hs ctx : List Tr} {k : Nat} {s : List UInt8} {a : Tr} (h : Nice k s a) : ∀ (ks : List Tr), ks.length = k → (∀ (i : Nat) (x b : Tr), ks[i]? = some x → a.args[i]? = some b → LT cs hs ctx x b) → LS cs hs ctx ks a (.base s) := by
  induction h with
  | base _ => intro ks hl _; rw [List.length_eq_zero_iff.1 hl]; exact .nil
  | @arr j k s' s x y h1 h2 _ _ ih =>
    intro ks hl hk
    match ks, hl with
    | z :: r, hl =>
      refine .cons (hk 0 z x rfl (by rw [args_arrow]; rfl)) (ih r (by simpa using hl) fun i u b hu hb => hk (i + 1) u b (by simpa using hu) (by rw [args_arrow]; simpa using hb))
theorem LT.lams {cs : List Ty} {hs : List Tr} {k : Nat} {s : List UInt8} {a : Tr} (h : Nice k s a) : ∀ {ctx : List Tr} {t : Tr}, LT cs hs (a.args.reverse ++ ctx) t (.base s) → LT cs hs ctx (lams k t) a := by
  induction h with
  | base _ => intro ctx t ht; rw [args_base] at ht; exact ht
  | @arr j k s' s x y h1 h2 _ _ ih =>
    intro ctx t ht
    rw [args_arrow, List.reverse_cons, List.append_assoc] at ht
    rw [lams_out]
    exact .lam (ih (by simpa using ht))
theorem longV_LT (cs : List Ty) (hs : List Tr) : ∀ (N : Nat) (a : Tr), SizeOf.sizeOf a = N → NiceT a → ∀ (ctx : List Tr) (n : Nat), n ≤ 100000 → ctx[n]? = some a → LT cs hs ctx (longV (n : Int) a) a := by
  intro N
  induction N using Nat.strongRecOn with
  | _ N ih =>
  intro a hN ha ctx n hn hg
  obtain ⟨k, s, ha⟩ := ha
  have hk := ha.le
  have hl := ha.args_len
  rw [longV_eq n a (by omega) (by omega), hl]
  refine LT.lams ha ?_
  rw [show ((n : Int) + (k : Int)) = ((n + k : Nat) : Int) by omega]
  refine LT.var (b := a) ?_ ?_
  · rw [List.getElem?_append_right (by simp [hl])]
    simp only [List.length_reverse, hl]
    rw [show n + k - k = n by omega]; exact hg
  · refine LS.of ha _ (by simp [hl]) fun i x b hx hb => ?_
    rw [List.getElem?_mapIdx, hb] at hx
    simp only [Option.map_some, Option.some.injEq] at hx
    subst hx
    have hi : i < a.args.length := (List.getElem?_eq_some_iff.1 hb).1
    have hbm := List.mem_of_getElem? hb
    rw [show ((k : Int) - 1 - (i : Int)) = ((k - 1 - i : Nat) : Int) by omega]
    refine ih _ ?_ b rfl (ha.args_nice b hbm) _ (k - 1 - i) (by omega) ?_
    · rw [← hN]; exact Tr.args_lt _ _ hbm
    · rw [List.getElem?_append_left (by simp; omega), List.getElem?_reverse (by omega), hl, show k - 1 - (k - 1 - i) = i by omega]
      exact hb
end Go.H
namespace Go.H
open Go
set_option linter.unusedVariables false
set_option linter.unusedSimpArgs false

mutual
theorem LT.holes {cs : List Ty} {hs ctx : List Tr} {t a : Tr} (h : LT cs [] ctx t a) : LT cs hs ctx t a := by
  match h with
  | .lam h => exact .lam (LT.holes h)
  | .var hn hk => exact .var hn (LS.holes hk)
  | .hole hn _ => simp at hn
  | .const hn hk => exact .const hn (LS.holes hk)
termination_by structural h
theorem LS.holes {cs : List Ty} {hs ctx ks : List Tr} {a c : Tr} (h : LS cs [] ctx ks a c) : LS cs hs ctx ks a c := by
  match h with
  | .nil => exact .nil
  | .cons h1 h2 => exact .cons (LT.holes h1) (LS.holes h2)
termination_by structural h
end
theorem LS.target {cs : List Ty} {hs ctx : List Tr} : ∀ {ks : List Tr} {b : Tr} {s s' : List UInt8} {k : Nat}, LS cs hs ctx ks b (.base s) → Nice k s' b → s' = s ∧ ks.length = k
  | [], b, s, s', k, h, hn => by
    cases h
    have hk := hn.kind
    have h0 : k = 0 := by
      by_cases h0 : k = 0
      · exact h0
      · rw [if_neg h0] at hk; exact absurd hk (by simp [Tr.base, Tr.kind])
    subst h0
    have := hn.zero
    simp only [Tr.base, Tr.mk.injEq] at this
    exact ⟨this.2.2.1.symm, rfl⟩
  | x :: r, b, s, s', k, h, hn => by
    cases h with
    | @cons _ _ x' y _ _ h1 h2 =>
      cases k with
      | zero => exact absurd hn.zero (by simp [Tr.arrow, Tr.base])
      | succ k =>
        obtain ⟨j, s2, x2, y2, e, hx, hy⟩ := hn.succ
        unfold Tr.arrow at e
        injection e with _ _ _ e
        simp only [List.cons.injEq, and_true] at e
        obtain ⟨rfl, rfl⟩ := e
        obtain ⟨h3, h4⟩ := LS.target h2 hy
        exact ⟨h3, by simp [h4]⟩
theorem LT.head {cs : List Ty} {ctx : List Tr} {t : Tr} {s : List UInt8} (h : LT cs [] ctx t (.base s)) : ∃ b, LS cs [] ctx t.kids b (.base s) ∧ ((∃ n : Nat, t.kind = 5 ∧ t.n = n ∧ t.name = [] ∧ ctx[n]? = some b) ∨ (t.kind = 6 ∧ t.n = 0 ∧ tyOf cs t.name = some b)) := by
  generalize ha : Tr.base s = a at h
  cases h with
  | lam _ => simp [Tr.base, Tr.arrow] at ha
  | @var _ n ks b s' hn hk => exact ⟨b, hk, .inl ⟨n, rfl, rfl, rfl, hn⟩⟩
  | hole hn _ => simp at hn
  | @const _ w ks b s' hn hk => exact ⟨b, hk, .inr ⟨rfl, rfl, hn⟩⟩
def TwoI (s0 : St) (xs ys : List PV) (p1 p2 : PV) (s : St) : Prop := ∃ s1, Grow s0 4 xs p1 s1 ∧ Grow s1 1 ys p2 s
section
variable {s0 s : St} {xs ys : List PV} {p1 p2 : PV}
theorem TwoI.start (s0 : St) (e e' : Nat) : TwoI s0 [] [] (.sl e true []) (.sl e' true []) s0 := ⟨s0, Grow.nil _ _ _, Grow.nil _ _ _⟩
theorem TwoI.fst {x : PV} {K : PV → St → Prop} (h : TwoI s0 xs ys p1 p2 s) (hl : xs.length ≤ 100000) (hk : ∀ p' s', TwoI s0 (xs ++ [x]) ys p' p2 s' → K p' s') : e_append s 4 56 p1 (.sl 4 true [x]) K := by
  obtain ⟨s1, h1, h2⟩ := h
  exact growUnder h1 h2 (elems_sl _ _ _ _) (by omega) fun p' s1' s' g1 g2 => hk p' s' ⟨s1', g1, g2⟩
theorem TwoI.snd {y : PV} {K : PV → St → Prop} (h : TwoI s0 xs ys p1 p2 s) (hl : ys.length ≤ 100000) (hk : ∀ p' s', TwoI s0 xs (ys ++ [y]) p1 p' s' → K p' s') : e_append s 1 8 p2 (.sl 1 true [y]) K := by
  obtain ⟨s1, h1, h2⟩ := h
  exact h2.append (ys := [y]) (elems_sl _ _ _ _) (by simp; omega) fun p' s' g2 => hk p' s' ⟨s1, h1, g2⟩
theorem TwoI.sub (h : TwoI s0 xs ys p1 p2 s) : Sub s0 s := by
  obtain ⟨s1, h1, h2⟩ := h
  exact h1.sub.trans h2.sub
theorem TwoI.store {c : Nat} {o o' : HObj} (h : TwoI s0 xs ys p1 p2 s) (hc : s0 c = some o) : TwoI (upd s0 c o') xs ys p1 p2 (upd s c o') := by
  obtain ⟨s1, h1, h2⟩ := h
  exact ⟨_, h1.store o' hc, h2.store o' (h1.sub _ _ hc)⟩
theorem TwoI.len (h : TwoI s0 xs ys p1 p2 s) : q_len p1 = some (.int .i64 xs.length) := by
  obtain ⟨s1, h1, h2⟩ := h
  exact h1.len
theorem TwoI.reads (h : TwoI s0 xs ys p1 p2 s) : Reads s 1 ys p2 := by
  obtain ⟨s1, h1, h2⟩ := h
  exact h2.reads
theorem TwoI.one (h : TwoI s0 xs ys p1 p2 s) : p1.cells = [p1] ∧ p1.ncells = 1 ∧ p1.isJunk = false ∧ p1.cellOK = true := by
  obtain ⟨s1, h1, h2⟩ := h
  exact h1.one
theorem TwoI.tree {k n : Int} {nm : List UInt8} {ks : List Tr} (h : TwoI s0 (ks.map Go.H.tree) ys p1 p2 s) : Conv [.agg [.int .i64 k, .int .i64 n, .str nm, p1]] s [Go.H.tree (.mk k n nm ks)] s0 := by
  obtain ⟨s1, h1, h2⟩ := h
  rw [tree_eq]
  obtain ⟨o1, o2, o3, o4⟩ := h1.one
  refine Conv.trans (s2 := s1) (l2 := [.agg [.int .i64 k, .int .i64 n, .str nm, p1]]) (Conv.sub h2.sub) ?_
  exact Conv.agg (Conv.cons (Conv.sub h1.sub) (Conv.cons (Conv.sub h1.sub) (Conv.cons (Conv.sub h1.sub) h1.freeze))) rfl (by show (true && (true && (true && (p1.cellOK && true)))) = true; rw [o4]; rfl)
end
inductive Lb : Nat → Tr → Prop
  | lam {n : Nat} {m : Int} {w : List UInt8} {t : Tr} : Lb n t → Lb (n + 1) (.mk 4 m w [t])
  | hole {n : Nat} {m : Int} {w : List UInt8} {ks : List Tr} : Lb n (.mk 7 m w ks)
  | app {n : Nat} {k m : Int} {w : List UInt8} {ks : List Tr} : k ≠ 4 → (∀ x ∈ ks, Lb n x) → Lb n (.mk k m w ks)
theorem Lb.mono : ∀ {n : Nat} {t : Tr}, Lb n t → ∀ {m : Nat}, n ≤ m → Lb m t := by
  intro n t h
  induction h with
  | @lam n m w t _ ih =>
    intro m' hm
    obtain ⟨m', rfl⟩ : ∃ j, m' = j + 1 := ⟨m' - 1, by omega⟩
    exact .lam (ih (by omega))
  | hole => intro m' _; exact .hole
  | app hk _ ih => intro m' hm; exact .app hk fun x hx => ih x hx hm
theorem Lb.size : ∀ (t : Tr), t.lamy = true → Lb t.size t := by
  intro t
  induction t using Tr.ind with
  | _ t ih =>
    intro hl
    match t, hl, ih with
    | .mk k m w ks, hl, ih =>
      by_cases h4 : k = 4
      · subst h4
        have h2 := hl
        rw [Tr.lamy_eq, Bool.and_eq_true, decide_eq_true_eq] at h2
        have hlen : ks.length = 1 := h2.1 rfl
        match ks, hlen with
        | [u], _ =>
          have := ih u (by simp [Tr.kids]) (Tr.lamy_kids hl (by simp [Tr.kids]))
          rw [show (Tr.mk 4 m w [u]).size = u.size + 1 by rw [Tr.size_kids]; simp [Tr.kids, Tr.sizes]; omega]
          exact .lam this
      · refine .app h4 fun x hx => (ih x hx (Tr.lamy_kids hl hx)).mono ?_
        have := Tr.kid_size (t := .mk k m w ks) hx
        omega
theorem LS.get {cs : List Ty} {hs ctx : List Tr} : ∀ {ks : List Tr} {b : Tr} {s s' : List UInt8} {k : Nat}, LS cs hs ctx ks b (.base s) → Nice k s' b → ∀ (i : Nat) (x : Tr), ks[i]? = some x → ∃ y, b.args[i]? = some y ∧ LT cs hs ctx x y
  | [], b, s, s', k, h, hn, i, x, hx => by simp at hx
  | z :: r, b, s, s', k, h, hn, i, x, hx => by
    cases h with
    | @cons _ _ x' y _ _ h1 h2 =>
      cases k with
      | zero => exact absurd hn.zero (by simp [Tr.arrow, Tr.base])
      | succ k =>
        obtain ⟨j, s2, x2, y2, e, hx2, hy⟩ := hn.succ
        unfold Tr.arrow at e
        injection e with _ _ _ e
        simp only [List.cons.injEq, and_true] at e
        obtain ⟨rfl, rfl⟩ := e
        cases i with
        | zero => simp only [List.getElem?_cons_zero, Option.some.injEq] at hx; subst hx; exact ⟨x', by rw [args_arrow]; rfl, h1⟩
        | succ i =>
          obtain ⟨u, hu, hlt⟩ := LS.get h2 hy i x (by simpa using hx)
          exact ⟨u, by rw [args_arrow]; simpa using hu, hlt⟩
theorem LT.headH {cs : List Ty} {hs ctx : List Tr} {t : Tr} {s : List UInt8} (h : LT cs hs ctx t (.base s)) : t.kind = 7 ∨ ∃ b, LS cs hs ctx t.kids b (.base s) ∧ ((∃ n : Nat, t.kind = 5 ∧ t.n = n ∧ ctx[n]? = some b) ∨ (t.kind = 6 ∧ tyOf cs t.name = some b)) := by
  generalize ha : Tr.base s = a at h
  cases h with
  | lam _ => simp [Tr.base, Tr.arrow] at ha
  | @var _ n ks b s' hn hk => exact .inr ⟨b, hk, .inl ⟨n, rfl, rfl, hn⟩⟩
  | hole hn _ => exact .inl rfl
  | @const _ w ks b s' hn hk => exact .inr ⟨b, hk, .inr ⟨rfl, hn⟩⟩
def patC : Nat → Nat
  | 0 => 15
  | d + 1 => 11 + 4 * patC d
def kidC : Nat → Nat
  | 0 => 1
  | d + 1 => patC d
theorem patC_eq (d : Nat) : patC d = 11 + 4 * kidC d := by cases d <;> rfl
theorem HS.growS {bs : List UInt8} {M : Int} {b : Nat} {st w s : St} {L : List (Nat × PV)} {P : List (Nat × List PV)} (h : HS bs M b st w L P) (hs : Sub w s) : HS bs M b st s L P := by
  obtain ⟨o, ho⟩ := h.src.some
  refine ⟨?_, fun c o hc h0 => hs _ _ (h.ar c o hc h0), fun x hx => hs _ _ (h.got x hx), fun x hx => hs _ _ (h.zat x hx), h.nd, h.out⟩
  obtain ⟨a, e, h1, h2⟩ := h.src.is
  exact ⟨a, e, hs _ _ h1, h2⟩
end Go.H
namespace Go.H
open Go
set_option linter.unusedVariables false
set_option linter.unusedSimpArgs false

def fillT : Nat → List Tr → List Tr → Tr → Int → (Int ⊕ Tr) × Int
  | 0, _, _, _, s => (.inl 0, s)
  | N + 1, hs, sols, t, s =>
    match kidsT (fun _ x s => fillT N hs sols x s) 0 t.kids s with
    | (.inl c, s) => (.inl c, s)
    | (.inr ks, s) =>
      if t.kind = 7 then redT (fun x a f s => subT 100000000 x a f 0 s) (sols.getD t.n.toNat noTree) (hs.getD t.n.toNat noTree) ks s
      else if (Tr.mk t.kind t.n t.name ks).big = true then (.inl 11, s) else (.inr (.mk t.kind t.n t.name ks), s)
inductive Kn (n : Nat) : Tr → Prop
  | of (t : Tr) : (t.kind = 7 → 0 ≤ t.n ∧ t.n < n) → (∀ x ∈ t.kids, Kn n x) → Kn n t
theorem Kn.hole {n : Nat} {t : Tr} (h : Kn n t) : t.kind = 7 → 0 ≤ t.n ∧ t.n < n := by cases h; assumption
theorem Kn.kids {n : Nat} {t : Tr} (h : Kn n t) : ∀ x ∈ t.kids, Kn n x := by cases h; assumption
structure Sols (hs sols : List Tr) : Prop where
  len : sols.length = hs.length
  ok : ∀ i : Nat, i < hs.length → (sols.getD i noTree).lamy = true ∧ (sols.getD i noTree).big = false ∧ (hs.getD i noTree).isSimple = true
theorem sub_fineF {k : Int} (h0 : 0 ≤ k) : ∀ (x b g : Tr) (s' : Int), x.lamy = true → b.isSimple = true → g.lamy = true → g.size ≤ 150 → k < s' → s' ≤ 20000 → FineT ((fun x a f s => subT 100000000 x a f 0 s) x b g s') s' := fun x b g s' h1 h2 h3 h4 h5 h6 => subT_fine 100000000 x b g 0 s' h1 h3 h2 (by omega) h6 (by omega)
theorem fillT_fine {hs sols : List Tr} (hS : Sols hs sols) : ∀ (N : Nat) (t : Tr) (s : Int), Kn hs.length t → t.lamy = true → 0 ≤ s → s ≤ 20000 → t.size ≤ N → FineT (fillT N hs sols t s) s := by
  intro N
  induction N with
  | zero => intro t s _ _ _ _ hN; have := t.size_pos; omega
  | succ N ih =>
    intro t s hk hl h0 h1 hN
    obtain ⟨g1, g2, g3, g4⟩ := kidsT_fine (f := fun _ x s => fillT N hs sols x s) t.kids 0 s h1 fun j x s' hx p1 p2 => ih x s' (hk.kids x hx) (Tr.lamy_kids hl hx) (by omega) p2 (by have := Tr.kid_size hx; omega)
    unfold fillT
    generalize kidsT (fun _ x s => fillT N hs sols x s) 0 t.kids s = r at g1 g2 g3 g4
    obtain ⟨x, k⟩ := r
    simp only at g1 g2 g3 g4
    cases x with
    | inl c => exact ⟨g1, g2, fun c' h => by cases h; exact g3 c rfl, fun t h => by cases h⟩
    | inr ks =>
      obtain ⟨q1, q2, q3⟩ := g4 ks rfl
      simp only
      by_cases h7 : t.kind = 7
      · rw [if_pos h7]
        obtain ⟨n0, n1⟩ := hk.hole h7
        obtain ⟨s1, s2, s3⟩ := hS.ok t.n.toNat (by omega)
        have := redT_fine (sub := fun x a f s => subT 100000000 x a f 0 s) ks (sols.getD t.n.toNat noTree) (hs.getD t.n.toNat noTree) k q3 s3 s1 s2 (fun x hx => (q2 x hx).1) (sub_fineF (by omega))
        exact ⟨by have := this.1; omega, this.2⟩
      · rw [if_neg h7]
        by_cases hb : (Tr.mk t.kind t.n t.name ks).big = true
        · rw [if_pos hb]; exact ⟨g1, g2, fun c' h => by cases h; decide, fun t h => by cases h⟩
        · rw [if_neg hb]
          refine ⟨g1, g2, fun c' h => (by cases h), fun t' h => ?_⟩
          cases h
          refine ⟨?_, by simpa using hb, q3⟩
          rw [Tr.lamy_eq] at hl ⊢
          rw [Bool.and_eq_true, decide_eq_true_eq] at hl ⊢
          refine ⟨fun h4 => by rw [show (Tr.mk t.kind t.n t.name ks).kids = ks by rfl, q1]; exact hl.1 h4, ?_⟩
          rw [List.all_eq_true]
          exact fun x hx => (q2 x hx).1
theorem kidsT_typed2 {cs : List Ty} {h1 h2 : List Tr} {f : Nat → Tr → Int → (Int ⊕ Tr) × Int} {c1 c2 : List Tr} : ∀ {ks : List Tr} {b c : Tr}, LS cs h1 c1 ks b c → ∀ (i : Nat) (s : Int), s ≤ 20000 → (∀ (j : Nat) (x : Tr) (s' : Int), x ∈ ks → s ≤ s' → s' ≤ 20000 → FineT (f j x s') s' ∧ ∀ y, LT cs h1 c1 x y → EndT (f j x s') c2 y cs h2) →
    (∃ ys k, kidsT f i ks s = (.inr ys, k) ∧ LS cs h2 c2 ys b c) ∨ ∃ e k, kidsT f i ks s = (.inl e, k) ∧ (e = 11 ∨ e = 17 ∨ e = 0)
  | [], b, c, h, i, s, hs', hf => by cases h; exact .inl ⟨[], s, rfl, .nil⟩
  | x :: r, b, c, h, i, s, hs', hf => by
    cases h with
    | @cons _ _ x1 y1 _ _ h1 h2 =>
      obtain ⟨hfine, hty⟩ := hf i x s (by simp) (by omega) hs'
      rw [kidsT]
      rcases hty x1 h1 with ⟨t, k, e, ht⟩ | ⟨cc, k, e, ht⟩
      · rw [e]
        simp only
        unfold FineT at hfine
        rw [e] at hfine
        obtain ⟨q1, q2, q3, q4⟩ := hfine
        simp only at q1 q2
        have q4 := q4 t rfl
        simp only at q4
        rcases kidsT_typed2 h2 (i + 1) k q4.2.2 (fun j z s' hz g1 g2 => hf j z s' (by simp [hz]) (by omega) g2) with ⟨ys, k2, e2, hy⟩ | ⟨e3, k2, e2, hy⟩
        · rw [e2]; exact .inl ⟨_, _, rfl, .cons ht hy⟩
        · rw [e2]; exact .inr ⟨_, _, rfl, hy⟩
      · rw [e]; exact .inr ⟨_, _, rfl, ht⟩
mutual
theorem LT.more {cs : List Ty} {hs ctx : List Tr} {t a : Tr} (h : LT cs hs ctx t a) (G : List Tr) : LT cs hs (ctx ++ G) t a := by
  match h with
  | .lam h => exact .lam (LT.more h G)
  | .var hn hk => exact .var (by rw [List.getElem?_append_left (List.getElem?_eq_some_iff.1 hn).1]; exact hn) (LS.more hk G)
  | .hole hn hk => exact .hole hn (LS.more hk G)
  | .const hn hk => exact .const hn (LS.more hk G)
termination_by structural h
theorem LS.more {cs : List Ty} {hs ctx ks : List Tr} {a c : Tr} (h : LS cs hs ctx ks a c) (G : List Tr) : LS cs hs (ctx ++ G) ks a c := by
  match h with
  | .nil => exact .nil
  | .cons h1 h2 => exact .cons (LT.more h1 G) (LS.more h2 G)
termination_by structural h
end
mutual
theorem LT.known {cs : List Ty} {hs ctx : List Tr} {t a : Tr} (h : LT cs hs ctx t a) : Kn hs.length t := by
  match h with
  | .lam h => exact Kn.of _ (fun h => by simp [Tr.lam, Tr.kind] at h) (by simpa [Tr.lam, Tr.kids] using LT.known h)
  | .var hn hk => exact Kn.of _ (fun h => by simp [Tr.var, Tr.kind] at h) (by simpa [Tr.var, Tr.kids] using LS.known hk)
  | .hole (n := n) hn hk => exact Kn.of _ (fun _ => by have := (List.getElem?_eq_some_iff.1 hn).1; show 0 ≤ (n : Int) ∧ (n : Int) < _; omega) (by simpa [Tr.hole, Tr.kids] using LS.known hk)
  | .const hn hk => exact Kn.of _ (fun h => by simp [Tr.const, Tr.kind] at h) (by simpa [Tr.const, Tr.kids] using LS.known hk)
termination_by structural h
theorem LS.known {cs : List Ty} {hs ctx ks : List Tr} {a c : Tr} (h : LS cs hs ctx ks a c) : ∀ x ∈ ks, Kn hs.length x := by
  match h with
  | .nil => simp
  | .cons h1 h2 => simp only [List.forall_mem_cons]; exact ⟨LT.known h1, LS.known h2⟩
termination_by structural h
end
def ClosedTs (cs : List Ty) (hs sols : List Tr) : Prop := ∀ (i : Nat) (a : Tr), hs[i]? = some a → LT cs [] [] (sols.getD i noTree) a
theorem fillT_ends {cs : List Ty} {hs sols : List Tr} (hS : Sols hs sols) (hC : ClosedTs cs hs sols) : ∀ (N : Nat) (t B : Tr) (G : List Tr) (s : Int), LT cs hs G t B → 0 ≤ s → s ≤ 20000 → t.size ≤ N → N + G.length ≤ 100000 → EndT (fillT N hs sols t s) G B cs [] := by
  intro N
  induction N with
  | zero => intro t B G s _ _ _ hN; have := t.size_pos; omega
  | succ N ih =>
    intro t B G s ht h0 h1 hN hG
    have hl := ht.lamy
    have hk := ht.known
    have kid : ∀ (G' : List Tr) (x : Tr) (s' : Int), x ∈ t.kids → G'.length ≤ G.length + 1 → s ≤ s' → s' ≤ 20000 → FineT (fillT N hs sols x s') s' ∧ ∀ y, LT cs hs G' x y → EndT (fillT N hs sols x s') G' y cs [] := fun G' x s' hx hg p1 p2 => by
      have hxs := Tr.kid_size hx
      exact ⟨fillT_fine hS N x s' (hk.kids x hx) (Tr.lamy_kids hl hx) (by omega) p2 (by omega), fun y hy => ih x y G' s' hy (by omega) p2 (by omega) (by omega)⟩
    have fine := kidsT_fine (f := fun _ x s => fillT N hs sols x s) t.kids 0 s h1 fun j x s' hx p1 p2 => (kid G x s' hx (by omega) p1 p2).1
    have head : ∀ b, LS cs hs G t.kids b B → (∃ ys k, kidsT (fun _ x s => fillT N hs sols x s) 0 t.kids s = (.inr ys, k) ∧ LS cs [] G ys b B ∧ s ≤ k ∧ k ≤ 20000 ∧ ∀ y ∈ ys, y.big = false) ∨ ∃ e k, kidsT (fun _ x s => fillT N hs sols x s) 0 t.kids s = (.inl e, k) ∧ (e = 11 ∨ e = 17 ∨ e = 0) := fun b hb => by
      rcases kidsT_typed2 (f := fun _ x s => fillT N hs sols x s) (h2 := []) (c2 := G) hb 0 s h1 (fun j x s' hx p1 p2 => kid G x s' hx (by omega) p1 p2) with ⟨ys, k, e, hy⟩ | h
      · rw [e] at fine
        obtain ⟨f1, f2, f3, f4⟩ := fine
        obtain ⟨q1, q2, q3⟩ := f4 ys rfl
        exact .inl ⟨ys, k, e, hy, f1, q3, fun y hy => (q2 y hy).2⟩
      · exact .inr h
    have stay : ∀ b, LS cs hs G t.kids b B → t.kind ≠ 7 → (∀ ys, LS cs [] G ys b B → LT cs [] G (.mk t.kind t.n t.name ys) B) → EndT (fillT (N + 1) hs sols t s) G B cs [] := fun b hb h7 hmk => by
      unfold fillT
      rcases head b hb with ⟨ys, k, e, hy, _⟩ | ⟨e1, k, e, hy⟩
      · rw [e]
        simp only
        rw [if_neg h7]
        split
        · exact .inr ⟨11, _, rfl, .inl rfl⟩
        · exact .inl ⟨_, _, rfl, hmk ys hy⟩
      · rw [e]; exact .inr ⟨_, _, rfl, hy⟩
    cases ht with
    | @lam _ u x y hu =>
      unfold fillT
      rw [show (Tr.lam u).kids = [u] by rfl]
      simp only [kidsT]
      rcases (kid (x :: G) u s (by simp [Tr.lam, Tr.kids]) (by simp) (by omega) h1).2 y hu with ⟨t', k, e, ht⟩ | ⟨cc, k, e, ht⟩
      · rw [e]
        simp only
        rw [if_neg (show ¬ (Tr.lam u).kind = 7 from fun h => by simp [Tr.lam, Tr.kind] at h)]
        split
        · exact .inr ⟨11, _, rfl, .inl rfl⟩
        · exact .inl ⟨_, _, rfl, .lam ht⟩
      · rw [e]; exact .inr ⟨_, _, rfl, ht⟩
    | @var _ n ks b s' hn hb => exact stay b hb (by simp [Tr.var, Tr.kind]) fun ys hy => .var hn hy
    | @const _ w ks b s' hn hb => exact stay b hb (by simp [Tr.const, Tr.kind]) fun ys hy => .const hn hy
    | @hole _ n ks b s' hn hb =>
      have hlt := (List.getElem?_eq_some_iff.1 hn).1
      unfold fillT
      rcases head b hb with ⟨ys, k, e, hy, k0, k1, hbig⟩ | ⟨e1, k, e, hy⟩
      · rw [e]
        simp only
        rw [if_pos (show (Tr.hole (n : Int) ks).kind = 7 by rfl), show (Tr.hole (n : Int) ks).n.toNat = n by show (n : Int).toNat = n; omega]
        obtain ⟨s1, s2, s3⟩ := hS.ok n hlt
        have hbn : hs.getD n noTree = b := by rw [List.getD_eq_getElem?_getD, hn]; rfl
        rw [hbn] at s3 ⊢
        have hm := hC n b hn
        refine redT_typed k hy (by have := hm.more G; simpa using this) k1 s3 s2 hbig fun x A g B' s'' p1 p2 p3 p4 p5 p6 p7 => ⟨subT_fine 100000000 x A g 0 s'' p1.lamy p2.lamy p3 (by omega) p7 (by omega), ?_⟩
        have := subT_ends (cs := cs) (hs := []) 100000000 x A g B' [] G s'' p1 p2 p3 (by have := small_size p4; omega) (by omega) p7 (by omega) (by simp only [List.length_nil]; omega)
        simpa using this
      · rw [e]; exact .inr ⟨_, _, rfl, hy⟩
end Go.H
namespace Go.H
open Go
set_option linter.unusedVariables false
set_option linter.unusedSimpArgs false

inductive Clo : Int → Tr → Prop
  | of (d : Int) (t : Tr) : (t.kind = 5 → t.n < d) → (∀ (i : Nat) (x : Tr), t.kids[i]? = some x → Clo (d + t.under i) x) → Clo d t
theorem Clo.var {d : Int} {t : Tr} (h : Clo d t) : t.kind = 5 → t.n < d := by cases h; assumption
theorem Clo.kids {d : Int} {t : Tr} (h : Clo d t) : ∀ (i : Nat) (x : Tr), t.kids[i]? = some x → Clo (d + t.under i) x := by cases h; assumption
theorem under4 (t : Tr) (h : t.kind = 4) (i : Int) : t.under i = 1 := by unfold Tr.under; rw [if_pos (.inl h)]
theorem under0 (t : Tr) (h4 : t.kind ≠ 4) (h2 : t.kind ≠ 2) (i : Int) : t.under i = 0 := by unfold Tr.under; rw [if_neg (fun h => h.elim h4 fun h => h2 h.1)]
theorem Clo.lam {d : Nat} {t : Tr} (h : Clo ((d + 1 : Nat) : Int) t) : Clo d (.lam t) := by
  refine .of _ _ (fun h5 => by simp [Tr.lam, Tr.kind] at h5) fun i x hx => ?_
  have : x ∈ [t] := List.mem_of_getElem? hx
  rw [under4 _ rfl, List.mem_singleton.1 this]
  simpa using h
theorem Clo.row {d : Int} {k n : Int} {w : List UInt8} {ks : List Tr} (h5 : k = 5 → n < d) (h4 : k ≠ 4) (h2 : k ≠ 2) (h : ∀ x ∈ ks, Clo d x) : Clo d (.mk k n w ks) := by
  refine .of _ _ h5 fun i x hx => ?_
  rw [under0 (.mk k n w ks) h4 h2, Int.add_zero]
  exact h x (List.mem_of_getElem? hx)
mutual
theorem LT.cl {cs : List Ty} {hs ctx : List Tr} {t a : Tr} (h : LT cs hs ctx t a) : Clo ctx.length t := by
  match h with
  | .lam h => exact Clo.lam (LT.cl h)
  | .var hn hk => exact Clo.row (fun _ => by have := (List.getElem?_eq_some_iff.1 hn).1; omega) (by decide) (by decide) (LS.cl hk)
  | .hole hn hk => exact Clo.row (fun h => absurd h (by decide)) (by decide) (by decide) (LS.cl hk)
  | .const hn hk => exact Clo.row (fun h => absurd h (by decide)) (by decide) (by decide) (LS.cl hk)
termination_by structural h
theorem LS.cl {cs : List Ty} {hs ctx ks : List Tr} {a c : Tr} (h : LS cs hs ctx ks a c) : ∀ x ∈ ks, Clo ctx.length x := by
  match h with
  | .nil => simp
  | .cons h1 h2 => simp only [List.forall_mem_cons]; exact ⟨LT.cl h1, LS.cl h2⟩
termination_by structural h
end
def closedP (t : Tr) (d : Int) : Bool := decide (t.kind = 5) && decide (d ≤ t.n)
theorem under_le (t : Tr) (i : Int) : 0 ≤ t.under i ∧ t.under i ≤ 1 := by unfold Tr.under; split <;> omega
theorem Clo.each {t : Tr} : ∀ {d : Int}, Clo d t → 0 ≤ d → d + t.size ≤ 1000000000 → eachT closedP t d = false := by
  induction t using Tr.ind with
  | _ t ih =>
  intro d h h0 h1
  rw [eachT_eq, Bool.or_eq_false_iff]
  refine ⟨?_, ?_⟩
  · unfold closedP
    by_cases h5 : t.kind = 5
    · have := h.var h5
      rw [decide_eq_true h5, decide_eq_false (by omega)]; rfl
    · rw [decide_eq_false h5]; rfl
  · rw [List.any_eq_false]
    intro y hy
    obtain ⟨i, hi, rfl⟩ := List.mem_mapIdx.1 hy
    have hx := List.getElem?_eq_getElem hi
    have hxm := List.getElem_mem hi
    have hsz := Tr.kid_size hxm
    obtain ⟨u0, u1⟩ := under_le t i
    have e : W (d + t.under i) = d + t.under i := wrap64 (by omega) (by omega)
    rw [e, ih _ hxm (h.kids i _ hx) (by omega) (by omega)]
    decide
def holeP (n : Nat) (t : Tr) (_ : Int) : Bool := decide (t.kind = 7) && decide ((n : Int) ≤ t.n)
theorem Kn.each {n : Nat} {t : Tr} : ∀ {d : Int}, Kn n t → eachT (holeP n) t d = false := by
  induction t using Tr.ind with
  | _ t ih =>
  intro d h
  rw [eachT_eq, Bool.or_eq_false_iff]
  refine ⟨?_, ?_⟩
  · unfold holeP
    by_cases h7 : t.kind = 7
    · have := h.hole h7
      rw [decide_eq_true h7, decide_eq_false (by omega)]; rfl
    · rw [decide_eq_false h7]; rfl
  · rw [List.any_eq_false]
    intro y hy
    obtain ⟨i, hi, rfl⟩ := List.mem_mapIdx.1 hy
    have hxm := List.getElem_mem hi
    rw [ih _ hxm (h.kids _ hxm)]
    decide
structure Fills (hs sols : List Tr) (t : Tr) : Prop where
  so : Sols hs sols
  hl : hs.length ≤ 4
  simple : simplesOK hs 20 = true
  right : ∀ x ∈ sols, x.termOK = true
  closed : ∀ x ∈ sols, Clo 0 x
  ok : t.termOK = true
  known : Kn hs.length t
  lamy : t.lamy = true
theorem termOK_big {t : Tr} (h : t.termOK = true) : t.big = false ∧ t.size ≤ 150 ∧ t.lamy = true ∧ t.kind ≠ 0 ∧ t.isTerm false = true := by
  unfold Tr.termOK at h
  rw [Bool.and_eq_true] at h
  obtain ⟨h1, h2⟩ := h
  refine ⟨?_, by unfold Tr.small at h1; exact of_decide_eq_true h1, term_lamy t h2, ?_, h2⟩
  · unfold Tr.big; rw [h1, term_high t h2]; rfl
  · intro h0
    unfold Tr.isTerm at h2
    simp [h0] at h2
theorem hiK {t : Tr} (h : t.high = false) : ∀ x ∈ t.kids, x.high = false := by
  rw [Tr.high_eq, Bool.or_eq_false_iff, List.any_eq_false] at h
  intro x hx
  cases hh : x.high with
  | false => rfl
  | true => exact absurd hh (h.2 x hx)
theorem hiV {t : Tr} (h : t.high = false) (h5 : t.kind = 5) : t.n ≤ 100 := by
  rw [Tr.high_eq, Bool.or_eq_false_iff, decide_eq_true h5, Bool.true_and, decide_eq_false_iff_not] at h
  omega
theorem term_varK {n : Int} {ks : List Tr} (h0 : 0 ≤ n) (h1 : n ≤ 100) (h : ∀ x ∈ ks, x.isTerm false = true) : (Tr.var n ks).isTerm false = true := by
  rw [Tr.isTerm_eq, if_neg (show ¬ (Tr.var n ks).kind = 4 by show ¬ (5 : Int) = 4; decide), if_pos (.inl rfl), show decide (0 ≤ (Tr.var n ks).n) = true from decide_eq_true h0, show decide ((Tr.var n ks).n ≤ 100) = true from decide_eq_true h1, show decide ((Tr.var n ks).name = []) = true from decide_eq_true rfl]
  rw [Bool.true_and, Bool.true_and, Bool.true_and, List.all_eq_true]
  intro x hx
  rw [isArg_false]
  exact h x hx
mutual
theorem LT.term0 {cs : List Ty} (hcs : ∀ w b, tyOf cs w = some b → nameOK w = true) {ctx : List Tr} {t a : Tr} (h : LT cs [] ctx t a) : t.high = false → t.isTerm false = true := by
  match h with
  | .lam h => exact fun hh => lam_term (LT.term0 hcs h (hiK hh _ (List.mem_singleton.2 rfl)))
  | .var (n := n) hn hk => exact fun hh => term_varK (Int.natCast_nonneg _) (hiV hh rfl) fun x hx => LS.term0 hcs hk x hx (hiK hh x hx)
  | .hole hn hk => exact absurd hn (by simp)
  | .const hn hk => exact fun hh => term_const (hcs _ _ hn) fun x hx => LS.term0 hcs hk x hx (hiK hh x hx)
termination_by structural h
theorem LS.term0 {cs : List Ty} (hcs : ∀ w b, tyOf cs w = some b → nameOK w = true) {ctx ks : List Tr} {a c : Tr} (h : LS cs [] ctx ks a c) : ∀ x ∈ ks, x.high = false → x.isTerm false = true := by
  match h with
  | .nil => simp
  | .cons h1 h2 => simp only [List.forall_mem_cons]; exact ⟨LT.term0 hcs h1, LS.term0 hcs h2⟩
termination_by structural h
end
theorem someConsts_names : ∀ w b, tyOf someConsts w = some b → nameOK w = true := by
  have key : ∀ (l : List Ty), (∀ x ∈ l, nameOK x.name = true) → ∀ w b, tyOf l w = some b → nameOK w = true := by
    intro l
    induction l with
    | nil => intro _ w b h; cases h
    | cons x r ih =>
      intro hl w b h
      unfold tyOf at h
      by_cases hx : x.name = w
      · rw [← hx]; exact hl x (by simp)
      · rw [if_neg hx] at h
        exact ih (fun y hy => hl y (by simp [hy])) w b h
  exact key someConsts (by decide)
theorem fill_ends {hs sols G : List Tr} {t a : Tr} (h : Fills hs sols t) (hC : ClosedTs someConsts hs sols) (ht : LT someConsts hs G.reverse t a) (hG : simplesOK G 40 = true) (ha : a.simpleOK = true) :
    (∃ r, (fillT t.size hs sols t 0).1 = .inr r ∧ checkT someConsts G [] r a = 0) ∨ (fillT t.size hs sols t 0).1 = .inl 11 ∨ (fillT t.size hs sols t 0).1 = .inl 17 := by
  have hfine := fillT_fine h.so t.size t 0 h.known h.lamy (by omega) (by omega) (Nat.le_refl _)
  have hGl : G.length ≤ 40 := by
    unfold simplesOK at hG
    rw [Bool.and_eq_true, decide_eq_true_eq] at hG
    omega
  have hts := (termOK_big h.ok).2.1
  have hend := fillT_ends h.so hC t.size t a G.reverse 0 ht (by omega) (by omega) (Nat.le_refl _) (by simp; omega)
  unfold FineT at hfine
  rcases hend with ⟨r, k, e, hr⟩ | ⟨c, k, e, hc⟩
  · rw [e] at hfine ⊢
    obtain ⟨_, _, _, q⟩ := hfine
    obtain ⟨_, q2, _⟩ := q r rfl
    have hsz := small_size q2
    have hhi : r.high = false := by unfold Tr.big at q2; rw [Bool.or_eq_false_iff] at q2; exact q2.2
    have ho : r.termOK = true := by unfold Tr.termOK Tr.small; rw [decide_eq_true hsz, hr.term0 someConsts_names hhi]; rfl
    refine .inl ⟨r, rfl, ?_⟩
    unfold checkT
    have e4 : simplesOK [] 20 = true := by unfold simplesOK; simp
    rw [if_neg (by simp [someConsts]; omega), someConsts_ok, hG, e4, ho, ha]
    simp only [Bool.and_true, Bool.not_true, Bool.false_eq_true, if_false]
    have := hr.typed 1000000 (by omega)
    simpa using this
  · rw [e] at hfine ⊢
    have := hfine.2.2.1 c rfl
    rcases hc with rfl | rfl | rfl
    · exact .inr (.inl rfl)
    · exact .inr (.inr rfl)
    · exact absurd rfl this
end Go.H
