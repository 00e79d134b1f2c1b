/- Part of a proof that the program answers as the reference does: HPure24, HPure25, HPure23, HPure26, HPure27, HPure28, HPure29, HPure30, HPure32, HPure33, HPure34. -/
import Derived.Test.YtlhiejikjncgpaaGreatDoorHP
/- Substitution into what applies no variable: no step is done. -/
namespace Go.H
open Go
set_option linter.unusedVariables false
set_option linter.unusedSimpArgs false

/-- No variable is applied to anything. -/
inductive Flat : Tr → Prop
  | of (t : Tr) : (t.kind = 5 → t.kids = []) → (∀ x ∈ t.kids, Flat x) → Flat t
theorem Flat.bare {t : Tr} (h : Flat t) : t.kind = 5 → t.kids = [] := by cases h; assumption
theorem Flat.kids {t : Tr} (h : Flat t) : ∀ x ∈ t.kids, Flat x := by cases h; assumption
/-- A tree is put for a variable, and nothing is made normal. -/
def sbT (m t : Tr) (n : Int) : Tr :=
  if t.kind = 5 ∧ t.n = n then m.lift 0 n else .mk t.kind (if t.kind = 5 ∧ n < t.n then W (t.n - 1) else t.n) t.name (t.kids.attach.mapIdx fun i x => sbT m x.1 (W (n + t.under i)))
termination_by SizeOf.sizeOf t
decreasing_by exact Tr.kids_lt x.2
theorem sbT_eq (m t : Tr) (n : Int) : sbT m t n = if t.kind = 5 ∧ t.n = n then m.lift 0 n else .mk t.kind (if t.kind = 5 ∧ n < t.n then W (t.n - 1) else t.n) t.name (t.kids.mapIdx fun i x => sbT m x (W (n + t.under i))) := by
  rw [sbT, attach_mapIdx t.kids (fun i x => sbT m x (W (n + t.under i)))]
theorem kidsT_flat {f : Nat → Tr → Int → (Int ⊕ Tr) × Int} {g : Nat → Tr → Tr} : ∀ (l : List Tr) (i : Nat) (s : Int), (∀ (j : Nat) (x : Tr), x ∈ l → f j x s = (.inr (g j x), s) ∨ f j x s = (.inl 11, s)) →
    kidsT f i l s = (.inr (l.mapIdx fun j x => g (i + j) x), s) ∨ kidsT f i l s = (.inl 11, s)
  | [], _, _, _ => .inl rfl
  | x :: r, i, s, h => by
    unfold kidsT
    rcases h i x (by simp) with h1 | h1
    · rw [h1]
      simp only
      rcases kidsT_flat (g := g) r (i + 1) s (fun j y hy => h j y (by simp [hy])) with h2 | h2
      · rw [h2]
        refine .inl ?_
        rw [List.mapIdx_cons]
        simp only [Nat.add_zero]
        congr 3
        congr 1
        funext j y
        rw [show i + 1 + j = i + (j + 1) by omega]
      · rw [h2]; exact .inr rfl
    · rw [h1]; exact .inr rfl
theorem subT_flat : ∀ (N : Nat) (m a t : Tr) (n s : Int), Flat t → t.size ≤ N → subT N m a t n s = (.inr (sbT m t n), s) ∨ subT N m a t n s = (.inl 11, s)
  | 0, m, a, t, n, s, _, hN => absurd hN (by rw [Tr.size_kids]; omega)
  | N + 1, m, a, t, n, s, hf, hN => by
    have hk := kidsT_flat (f := fun i x s => subT N m a x (W (n + t.under i)) s) (g := fun i x => sbT m x (W (n + t.under i))) t.kids 0 s (fun j x hx => subT_flat N m a x _ s (hf.kids x hx) (by
      have := Tr.kid_size hx
      omega))
    unfold subT
    rcases hk with h | h
    · rw [h]
      simp only
      by_cases hv : t.kind = 5 ∧ t.n = n
      · rw [if_pos hv, sbT_eq, if_pos hv]
        by_cases hb : (m.lift 0 n).big = true
        · rw [if_pos hb]; exact .inr rfl
        · rw [if_neg hb, hf.bare hv.1]
          simp only [List.mapIdx_nil, redT]
          exact .inl trivial
      · rw [if_neg hv, sbT_eq, if_neg hv]
        simp only [Nat.zero_add]
        by_cases hb : (Tr.mk t.kind (if t.kind = 5 ∧ n < t.n then W (t.n - 1) else t.n) t.name (t.kids.mapIdx fun i x => sbT m x (W (n + t.under i)))).big = true
        · rw [if_pos hb]; exact .inr rfl
        · rw [if_neg hb]; exact .inl rfl
    · rw [h]; exact .inr rfl
end Go.H
/- Lifting and putting of flat trees: one takes the other back. -/
namespace Go.H
open Go
set_option linter.unusedVariables false
set_option linter.unusedSimpArgs false

/-- No variable is applied to anything; their numbers are small. -/
inductive FlatN : Tr → Prop
  | of (t : Tr) : (t.kind = 5 → t = Tr.var t.n [] ∧ 0 ≤ t.n ∧ t.n ≤ 1000000) → (∀ x ∈ t.kids, FlatN x) → FlatN t
theorem FlatN.v {t : Tr} (h : FlatN t) : t.kind = 5 → t = Tr.var t.n [] ∧ 0 ≤ t.n ∧ t.n ≤ 1000000 := by cases h; assumption
theorem FlatN.kids {t : Tr} (h : FlatN t) : ∀ x ∈ t.kids, FlatN x := by cases h; assumption
theorem FlatN.flat {t : Tr} : FlatN t → Flat t := by
  induction t using Tr.ind with
  | _ t ih => exact fun h => Flat.of t (fun h5 => by rw [(h.v h5).1]; rfl) (fun x hx => ih x hx (h.kids x hx))
theorem lift_var (n f b : Int) : (Tr.var n []).lift f b = Tr.var (if f ≤ n then W (n + b) else n) [] := by
  rw [Tr.lift_eq]; simp [Tr.var, Tr.kind, Tr.n, Tr.name, Tr.kids]
theorem sbT_var (m : Tr) (k n : Int) : sbT m (Tr.var k []) n = if k = n then m.lift 0 n else Tr.var (if n < k then W (k - 1) else k) [] := by
  rw [sbT_eq]; simp [Tr.var, Tr.kind, Tr.n, Tr.name, Tr.kids]
end Go.H
/- What stands ahead of a context changes no check in it. -/
namespace Go.H
open Go
set_option linter.unusedVariables false
set_option linter.unusedSimpArgs false

end Go.H
/- The drawn judgements: numbers, lists, sums. They stand, if nothing is too big. -/
namespace Go.H
open Go
set_option linter.unusedVariables false
set_option linter.unusedSimpArgs false

def Tr.fm (s : List UInt8) (ks : List Tr) : Tr := .mk 3 0 s ks
def Tr.pi (a b : Tr) : Tr := .mk 2 0 [] [a, b]
def Tr.typ : Tr := .mk 1 0 [] []
def wNat : List UInt8 := [110, 97, 116]
def wZ : List UInt8 := [122]
def wS : List UInt8 := [115]
def wVec : List UInt8 := [118, 101, 99]
def wNil : List UInt8 := [110, 105, 108]
def wCons : List UInt8 := [99, 111, 110, 115]
def wPlus : List UInt8 := [112, 108, 117, 115]
def wPz : List UInt8 := [112, 122]
def wPs : List UInt8 := [112, 115]
def wIt : List UInt8 := [105, 116]
def wAll : List UInt8 := [97, 108, 108]
def wMk : List UInt8 := [109, 107]
def natF : Tr := .fm wNat []
def zT : Tr := .const wZ []
def sT (t : Tr) : Tr := .const wS [t]
def xT (n : Int) : Tr := .var n []
def vecF (k : Tr) : Tr := .fm wVec [k]
def plusF (a b c : Tr) : Tr := .fm wPlus [a, b, c]
def allF (f : Tr) : Tr := .fm wAll [f]
/-- The signature of numbers, lists that know how long they are, and sums. -/
def numbersL : List Dc :=
  [⟨wNat, true, .typ⟩, ⟨wZ, false, natF⟩, ⟨wS, false, .pi natF natF⟩, ⟨wVec, true, .pi natF .typ⟩, ⟨wNil, false, vecF zT⟩,
   ⟨wCons, false, .pi natF (.pi natF (.pi (vecF (xT 1)) (vecF (sT (xT 2)))))⟩, ⟨wPlus, true, .pi natF (.pi natF (.pi natF .typ))⟩,
   ⟨wPz, false, .pi natF (plusF zT (xT 0) (xT 0))⟩,
   ⟨wPs, false, .pi natF (.pi natF (.pi natF (.pi (plusF (xT 2) (xT 1) (xT 0)) (plusF (sT (xT 3)) (xT 2) (sT (xT 1))))))⟩,
   ⟨wIt, false, .pi (.pi natF natF) (.pi natF natF)⟩, ⟨wAll, true, .pi (.pi natF natF) .typ⟩,
   ⟨wMk, false, .pi (.pi natF natF) (allF (.lam (.var 1 [xT 0])))⟩]
/-- A number in a context of so many numbers. -/
inductive NatT : Nat → Tr → Prop
  | var {n : Nat} {i : Int} : 0 ≤ i → i < n → NatT n (xT i)
  | z {n : Nat} : NatT n zT
  | s {n : Nat} {t : Tr} : NatT n t → NatT n (sT t)
  | it {n : Nat} {t u : Tr} : NatT (n + 1) t → NatT n u → NatT n (.const wIt [.lam t, u])
def cntT : Nat → Tr
  | 0 => zT
  | k + 1 => sT (cntT k)
inductive ListT (n : Nat) : Nat → Tr → Prop
  | nil : ListT n 0 (.const wNil [])
  | cons {k : Nat} {x t : Tr} : NatT n x → ListT n k t → ListT n (k + 1) (.const wCons [cntT k, x, t])
inductive SumT (n : Nat) (m : Tr) : Nat → Tr → Tr → Prop
  | z : SumT n m 0 (.const wPz [m]) m
  | s {k : Nat} {t u : Tr} : SumT n m k t u → SumT n m (k + 1) (.const wPs [cntT k, m, u, t]) (sT u)
/-- A drawn term with its family, in a context of so many numbers. -/
inductive JudgedT (n : Nat) : Tr → Tr → Prop
  | fn {t : Tr} : NatT (n + 1) t → t.size ≤ 1000 → JudgedT n (.lam t) (.pi natF natF)
  | list {k : Nat} {t : Tr} : k ≤ 1000 → ListT n k t → t.size ≤ 1000 → JudgedT n t (vecF (cntT k))
  | sum {k : Nat} {m t u : Tr} : k ≤ 1000 → NatT n m → m.size ≤ 1000 → SumT n m k t u → t.size ≤ 1000 → JudgedT n t (plusF (cntT k) m u)
  | mk {t : Tr} : NatT (n + 1) t → t.size ≤ 1000 → JudgedT n (.const wMk [.lam t]) (allF (.lam t))
  | num {t : Tr} : NatT n t → t.size ≤ 1000 → JudgedT n t natF

/-! ### What is put into the signature's families -/
theorem mapIdx_map {α β : Type} (f : α → β) (l : List α) : (l.mapIdx fun _ x => f x) = l.map f := by
  induction l with
  | nil => rfl
  | cons x r ih => rw [List.mapIdx_cons, ih]; rfl
section
variable {n : Int} (h : 0 ≤ n ∧ n ≤ 1000000000)
include h
theorem sbT_fm (m : Tr) (s : List UInt8) (ks : List Tr) : sbT m (.fm s ks) n = .fm s (ks.map fun x => sbT m x n) := by
  rw [sbT_eq]
  simp only [Tr.fm, Tr.kind, Tr.n, Tr.name, Tr.kids, Tr.under]
  simp [W_in (show -9223372036854775808 ≤ n ∧ n ≤ 9223372036854775807 by omega), mapIdx_map]
theorem sbT_const (m : Tr) (s : List UInt8) (ks : List Tr) : sbT m (.const s ks) n = .const s (ks.map fun x => sbT m x n) := by
  rw [sbT_eq]
  simp only [Tr.const, Tr.kind, Tr.n, Tr.name, Tr.kids, Tr.under]
  simp [W_in (show -9223372036854775808 ≤ n ∧ n ≤ 9223372036854775807 by omega), mapIdx_map]
theorem sbT_lam (m t : Tr) : sbT m (.lam t) n = .lam (sbT m t (n + 1)) := by
  rw [sbT_eq]
  simp only [Tr.lam, Tr.kind, Tr.n, Tr.name, Tr.kids, Tr.under]
  simp [W_in (show -9223372036854775808 ≤ n + 1 ∧ n + 1 ≤ 9223372036854775807 by omega)]
theorem sbT_pi (m a b : Tr) : sbT m (.pi a b) n = .pi (sbT m a n) (sbT m b (n + 1)) := by
  rw [sbT_eq]
  simp only [Tr.pi, Tr.kind, Tr.n, Tr.name, Tr.kids, Tr.under]
  simp [W_in (show -9223372036854775808 ≤ n ∧ n ≤ 9223372036854775807 by omega), W_in (show -9223372036854775808 ≤ n + 1 ∧ n + 1 ≤ 9223372036854775807 by omega)]
theorem lift_const (b : Int) (s : List UInt8) (ks : List Tr) : (Tr.const s ks).lift n b = .const s (ks.map fun x => x.lift n b) := by
  rw [Tr.lift_eq]
  simp only [Tr.const, Tr.kind, Tr.n, Tr.name, Tr.kids, Tr.under]
  simp [W_in (show -9223372036854775808 ≤ n ∧ n ≤ 9223372036854775807 by omega), mapIdx_map]
theorem lift_lam (b : Int) (t : Tr) : (Tr.lam t).lift n b = .lam (t.lift (n + 1) b) := by
  rw [Tr.lift_eq]
  simp only [Tr.lam, Tr.kind, Tr.n, Tr.name, Tr.kids, Tr.under]
  simp [W_in (show -9223372036854775808 ≤ n + 1 ∧ n + 1 ≤ 9223372036854775807 by omega)]
theorem sbT_count (m : Tr) (k : Nat) : sbT m (cntT k) n = cntT k := by
  induction k with
  | zero => unfold cntT zT; rw [sbT_const h]; rfl
  | succ k ih => unfold cntT sT; rw [sbT_const h]; simp [ih]
end
theorem NatT.more {n m : Nat} {t : Tr} (h : NatT n t) (hm : n ≤ m) : NatT m t := by
  induction h generalizing m with
  | var h0 h1 => exact .var h0 (by omega)
  | z => exact .z
  | s _ ih => exact .s (ih hm)
  | it _ _ i1 i2 => exact .it (i1 (by omega)) (i2 hm)
theorem cntT_nat (n : Nat) : ∀ k, NatT n (cntT k)
  | 0 => .z
  | k + 1 => .s (cntT_nat n k)
end Go.H
/- The drawn judgements stand, if nothing is too big. -/
namespace Go.H
open Go
set_option linter.unusedVariables false
set_option linter.unusedSimpArgs false

/-- Done, with no step more, or too big. -/
def Out {α : Type} (r : (Fz ⊕ α) × Int) (x : α) (s : Int) : Prop := r = (.inr x, s) ∨ ∃ q, r = (.inl (11, q), s)
theorem flat_fm {s : List UInt8} {ks : List Tr} (h : ∀ x ∈ ks, Flat x) : Flat (.fm s ks) := Flat.of _ (fun h => by simp [Tr.fm, Tr.kind] at h) (by simpa [Tr.fm, Tr.kids] using h)
theorem flat_const {s : List UInt8} {ks : List Tr} (h : ∀ x ∈ ks, Flat x) : Flat (.const s ks) := Flat.of _ (fun h => by simp [Tr.const, Tr.kind] at h) (by simpa [Tr.const, Tr.kids] using h)
theorem flat_pi {a b : Tr} (ha : Flat a) (hb : Flat b) : Flat (.pi a b) := Flat.of _ (fun h => by simp [Tr.pi, Tr.kind] at h) (by simp [Tr.pi, Tr.kids, ha, hb])
theorem flat_lam {t : Tr} (ha : Flat t) : Flat (.lam t) := Flat.of _ (fun h => by simp [Tr.lam, Tr.kind] at h) (by simp [Tr.lam, Tr.kids, ha])
theorem flat_x (n : Int) : Flat (xT n) := Flat.of _ (fun _ => rfl) (fun x hx => by simp [xT, Tr.var, Tr.kids] at hx)
theorem flat_nat : Flat natF := flat_fm (by simp)
theorem flat_z : Flat zT := flat_const (by simp)
theorem flat_s {t : Tr} (h : Flat t) : Flat (sT t) := flat_const (by simpa using h)
theorem flat_vec {t : Tr} (h : Flat t) : Flat (vecF t) := flat_fm (by simpa using h)
theorem flat_plus {a b c : Tr} (ha : Flat a) (hb : Flat b) (hc : Flat c) : Flat (plusF a b c) := flat_fm (by simp [ha, hb, hc])
theorem flat_count : ∀ k, Flat (cntT k)
  | 0 => flat_z
  | k + 1 => flat_s (flat_count k)
theorem size_fm (s : List UInt8) (ks : List Tr) : (Tr.fm s ks).size = 1 + Tr.sizes ks := by rw [Tr.size_kids]; rfl
theorem size_const (s : List UInt8) (ks : List Tr) : (Tr.const s ks).size = 1 + Tr.sizes ks := by rw [Tr.size_kids]; rfl
theorem size_pi (a b : Tr) : (Tr.pi a b).size = 1 + (a.size + b.size) := by rw [Tr.size_kids]; simp [Tr.pi, Tr.kids, Tr.sizes]
theorem size_lam (a : Tr) : (Tr.lam a).size = 1 + a.size := by rw [Tr.size_kids]; simp [Tr.lam, Tr.kids, Tr.sizes]
theorem size_x (n : Int) : (xT n).size = 1 := by rw [Tr.size_kids]; simp [xT, Tr.var, Tr.kids, Tr.sizes]
theorem size_nat : natF.size = 1 := by unfold natF; rw [size_fm]; rfl
theorem size_z : zT.size = 1 := by unfold zT; rw [size_const]; rfl
theorem size_s (t : Tr) : (sT t).size = 1 + t.size := by unfold sT; rw [size_const]; simp [Tr.sizes]
theorem size_vec (t : Tr) : (vecF t).size = 1 + t.size := by unfold vecF; rw [size_fm]; simp [Tr.sizes]
theorem size_plus (a b c : Tr) : (plusF a b c).size = 1 + (a.size + (b.size + c.size)) := by unfold plusF; rw [size_fm]; simp [Tr.sizes]
theorem size_count : ∀ k, (cntT k).size = k + 1
  | 0 => size_z
  | k + 1 => by unfold cntT; rw [size_s, size_count k]; omega
section
variable {n : Int} (h : 0 ≤ n ∧ n ≤ 1000000000)
include h
theorem sb_nat (m : Tr) : sbT m natF n = natF := by unfold natF; rw [sbT_fm h]; rfl
theorem sb_s (m t : Tr) : sbT m (sT t) n = sT (sbT m t n) := by unfold sT; rw [sbT_const h]; rfl
theorem sb_z (m : Tr) : sbT m zT n = zT := by unfold zT; rw [sbT_const h]; rfl
theorem lift_s (b : Int) (t : Tr) : (sT t).lift n b = sT (t.lift n b) := by unfold sT; rw [lift_const h]; rfl
end
theorem leftC_flat {t a : Tr} {p s : Int} (hf : Flat (a.kid 1)) (hs : (a.kid 1).size ≤ 100000000) : Out (leftC t a p s) (sbT t (a.kid 1) 0) s := by
  unfold leftC
  rcases subT_flat 100000000 t (eraseT (a.kid 0)) (a.kid 1) 0 s hf hs with h | h
  · rw [h]; exact .inl rfl
  · rw [h]; exact .inr ⟨p, rfl⟩
theorem argsC_pi {f : Tr → Tr → Int → Int → (Fz ⊕ Unit) × Int} {x : Tr} {r : List Tr} {A B c : Tr} {p s : Int} (hf : Out (f x A p s) () s) (hB : Flat B) (hs : B.size ≤ 100000000)
    (hr : ∀ p', Out (argsC f r (sbT x B 0) p' s) c s) : Out (argsC f (x :: r) (.pi A B) p s) c s := by
  unfold argsC
  rw [if_pos (by rfl), show (Tr.pi A B).kid 0 = A by rfl]
  rcases hf with h | ⟨q, h⟩
  · rw [h]
    simp only
    rcases leftC_flat (t := x) (a := .pi A B) (p := p) (s := s) hB hs with h2 | ⟨q, h2⟩
    · rw [h2]; exact hr _
    · rw [h2]; exact .inr ⟨q, rfl⟩
  · rw [h]; exact .inr ⟨q, rfl⟩
theorem argsC_end (f : Tr → Tr → Int → Int → (Fz ⊕ Unit) × Int) (a : Tr) (p s : Int) : Out (argsC f [] a p s) a s := .inl rfl
def ctxN (n : Nat) : List Tr := List.replicate n natF
theorem ctxN_more (n : Nat) : ctxN n ++ [natF] = ctxN (n + 1) := List.replicate_succ'.symm
theorem foundC_const {f : Tr → Tr → Int → Int → (Fz ⊕ Unit) × Int} {ctx : List Tr} {w : List UInt8} {ks : List Tr} {A c : Tr} {p s : Int} (hd : declaredT numbersL w false = some A) (hc : c.kind = 3) (ha : ∀ p', Out (argsC f ks A p' s) c s) :
    Out (foundC f numbersL ctx (.const w ks) p s) c s := by
  unfold foundC
  have h1 : headC numbersL ctx (.const w ks) = .inr A := by
    unfold headC
    rw [if_neg (show ¬ (Tr.const w ks).kind = 5 by simp [Tr.const, Tr.kind]), if_pos (show (Tr.const w ks).kind = 6 by rfl), show (Tr.const w ks).name = w by rfl, hd]
  rw [h1, show (Tr.const w ks).kids = ks by rfl]
  simp only
  rcases ha (p + 1) with h | ⟨q, h⟩
  · rw [h]; simp only; rw [if_pos hc]; exact .inl rfl
  · rw [h]; exact .inr ⟨q, rfl⟩
theorem termC_found {sig : List Dc} {m : Nat} {ctx : List Tr} {t a : Tr} {p s : Int} (h4 : t.kind ≠ 4) (h2 : a.kind ≠ 2) (h : ∀ m', Out (foundC (termC sig m' ctx) sig ctx t p s) a s) : Out (termC sig m ctx t a p s) () s := by
  cases m with
  | zero => exact .inl rfl
  | succ m =>
    unfold termC
    rw [if_neg h4, if_neg h2]
    rcases h m with h | ⟨q, h⟩
    · rw [h]; simp only; rw [if_pos trivial]; exact .inl rfl
    · rw [h]; exact .inr ⟨q, rfl⟩
theorem lift_nat (f b : Int) : natF.lift f b = natF := by
  unfold natF Tr.fm
  rw [Tr.lift_eq]
  simp [Tr.kind, Tr.n, Tr.name, Tr.kids]
theorem found_var {f : Tr → Tr → Int → Int → (Fz ⊕ Unit) × Int} {n : Nat} {i : Int} (h0 : 0 ≤ i) (h1 : i < n) (p s : Int) : Out (foundC f numbersL (ctxN n) (xT i) p s) natF s := by
  unfold foundC
  have e1 : ((ctxN n)[(((ctxN n).length : Int) - 1 - (xT i).n).toNat]?).getD noTree = natF := by
    unfold ctxN
    rw [List.length_replicate, List.getElem?_replicate, if_pos (by show ((n : Int) - 1 - i).toNat < n; omega)]
    rfl
  have hh : headC numbersL (ctxN n) (xT i) = .inr natF := by
    unfold headC
    rw [if_pos (by rfl), e1, lift_nat, if_neg (by show ¬ i ≥ ((ctxN n).length : Int); unfold ctxN; rw [List.length_replicate]; omega), if_neg (by rw [show natF.big = false by kernel_rfl]; decide)]
  rw [hh, show (xT i).kids = [] by rfl]
  exact .inl rfl
/-- A number is a number. -/
theorem found_nat {n : Nat} {t : Tr} (h : NatT n t) : ∀ (M : Nat) (p s : Int), Out (foundC (termC numbersL M (ctxN n)) numbersL (ctxN n) t p s) natF s ∧ t.kind ≠ 4 := by
  induction h with
  | var h0 h1 => exact fun M p s => ⟨found_var h0 h1 p s, by simp [xT, Tr.var, Tr.kind]⟩
  | z => exact fun M p s => ⟨foundC_const (A := natF) rfl rfl fun p' => argsC_end _ _ _ _, by simp [zT, Tr.const, Tr.kind]⟩
  | @s n t ht ih =>
    refine fun M p s => ⟨foundC_const (A := .pi natF natF) rfl rfl fun p' => ?_, by simp [sT, Tr.const, Tr.kind]⟩
    refine argsC_pi (termC_found (ih 0 0 0).2 (by decide) fun m' => (ih m' _ _).1) flat_nat (by rw [size_nat]; omega) fun p2 => ?_
    rw [sb_nat (by omega)]
    exact argsC_end _ _ _ _
  | @it n t u ht hu iht ihu =>
    refine fun M p s => ⟨foundC_const (A := .pi (.pi natF natF) (.pi natF natF)) rfl rfl fun p' => ?_, by simp [Tr.const, Tr.kind]⟩
    refine argsC_pi ?_ (flat_pi flat_nat flat_nat) (by rw [size_pi, size_nat]; omega) fun p2 => ?_
    · cases M with
      | zero => exact .inl rfl
      | succ M =>
        unfold termC
        rw [if_pos (by rfl), if_pos (by rfl), show (Tr.pi natF natF).kid 0 = natF by rfl, show (Tr.pi natF natF).kid 1 = natF by rfl, show (Tr.lam t).kid 0 = t by rfl, ctxN_more]
        exact termC_found (iht 0 0 0).2 (by decide) fun m' => (iht m' _ _).1
    · rw [sbT_pi (by omega), sb_nat (by omega), sb_nat (by omega)]
      refine argsC_pi (termC_found (ihu 0 0 0).2 (by decide) fun m' => (ihu m' _ _).1) flat_nat (by rw [size_nat]; omega) fun p3 => ?_
      rw [sb_nat (by omega)]
      exact argsC_end _ _ _ _
theorem NatT.flat' {n : Nat} {t : Tr} (h : NatT n t) : Flat t := by
  induction h with
  | var => exact flat_x _
  | z => exact flat_z
  | s _ ih => exact flat_s ih
  | it _ _ i1 i2 => exact flat_const (by simp [i2, flat_lam i1])
theorem SumT.nat {n k : Nat} {m t u : Tr} (hm : NatT n m) (h : SumT n m k t u) : NatT n u := by
  induction h with
  | z => exact hm
  | s _ ih => exact .s ih
end Go.H
/- The drawn judgements stand: all of them; and no other drawn family is right for a term. -/
namespace Go.H
open Go
set_option linter.unusedVariables false
set_option linter.unusedSimpArgs false

/-- Done, or too big. -/
def Fin {α : Type} (r : (Fz ⊕ α) × Int) (x : α) : Prop := r.1 = .inr x ∨ ∃ q, r.1 = .inl (11, q)
theorem Out.fin {α : Type} {r : (Fz ⊕ α) × Int} {x : α} {s : Int} (h : Out r x s) : Fin r x := by
  rcases h with h | ⟨q, h⟩
  · exact .inl (by rw [h])
  · exact .inr ⟨q, by rw [h]⟩
theorem SumT.nat_size {n k : Nat} {m t u : Tr} (h : SumT n m k t u) : u.size = m.size + k := by
  induction h with
  | z => rfl
  | s _ ih => rw [size_s, ih]; omega
theorem ListT.kind {n k : Nat} {t : Tr} (h : ListT n k t) : t.kind = 6 := by cases h <;> rfl
theorem SumT.kind {n k : Nat} {m t u : Tr} (h : SumT n m k t u) : t.kind = 6 := by cases h <;> rfl
theorem NatT.kind {n : Nat} {t : Tr} (h : NatT n t) : t.kind ≠ 4 := (found_nat h 0 0 0).2
end Go.H
/- How deep a check may go at most does not count where it is deep enough; what is put into a drawn judgement leaves one. -/
namespace Go.H
open Go
set_option linter.unusedVariables false
set_option linter.unusedSimpArgs false

/-! ### What is put for a number -/
theorem NatT.lift {n : Nat} {t : Tr} (h : NatT n t) : ∀ (d b : Nat), n ≤ 1000000 → b ≤ 1000000 → d ≤ n → n + t.size ≤ 1000000 → NatT (n + b) (t.lift d b) := by
  induction h with
  | @var n i h0 h1 =>
    intro d b hn hb hd hs
    unfold xT
    rw [lift_var]
    split
    · rw [W_in (by omega)]; exact NatT.var (by omega) (by omega)
    · exact NatT.var h0 (by omega)
  | z => intro d b hn hb hd hs; unfold zT; rw [lift_const (by omega)]; exact NatT.z
  | @s n t ht ih =>
    intro d b hn hb hd hs
    rw [size_s] at hs
    rw [lift_s (by omega)]; exact NatT.s (ih d b hn hb hd (by omega))
  | @it n t u ht hu iht ihu =>
    intro d b hn hb hd hs
    rw [size_const] at hs
    simp only [Tr.sizes, List.map_cons, List.map_nil, List.sum_cons, List.sum_nil, size_lam] at hs
    rw [lift_const (by omega)]
    simp only [List.map_cons, List.map_nil]
    rw [lift_lam (by omega)]
    refine NatT.it ?_ (ihu d b hn hb hd (by omega))
    have := iht (d + 1) b (by omega) hb (by omega) (by omega)
    rw [show n + 1 + b = n + b + 1 by omega] at this
    exact this
theorem NatT.sb {u : Tr} {N : Nat} {t : Tr} (h : NatT N t) : ∀ (d k : Nat), N = k + 1 + d → NatT k u → u.size ≤ 1000 → N + t.size ≤ 100000 → NatT (k + d) (sbT u t d) := by
  induction h with
  | @var n i h0 h1 =>
    intro d k hN hu hus hs
    unfold xT
    rw [sbT_var]
    split
    · exact hu.lift 0 d (by omega) (by omega) (by omega) (by omega)
    · split
      · rw [W_in (by omega)]; exact NatT.var (by omega) (by omega)
      · exact NatT.var h0 (by omega)
  | z => intro d k hN hu hus hs; rw [sb_z (by omega)]; exact NatT.z
  | @s n t ht ih =>
    intro d k hN hu hus hs
    rw [size_s] at hs
    rw [sb_s (by omega)]; exact NatT.s (ih d k hN hu hus (by omega))
  | @it n t w ht hw iht ihw =>
    intro d k hN hu hus hs
    rw [size_const] at hs
    simp only [Tr.sizes, List.map_cons, List.map_nil, List.sum_cons, List.sum_nil, size_lam] at hs
    rw [sbT_const (by omega)]
    simp only [List.map_cons, List.map_nil]
    rw [sbT_lam (by omega)]
    refine NatT.it ?_ (ihw d k hN hu hus (by omega))
    have := iht (d + 1) k (by omega) hu hus (by omega)
    rw [show k + (d + 1) = k + d + 1 by omega] at this
    exact this
end Go.H
/- The forms of what is drawn; a number is put into it. -/
namespace Go.H
open Go
set_option linter.unusedVariables false
set_option linter.unusedSimpArgs false

theorem isArg_false (x : Tr) : Tr.isArg false x = x.isTerm false := by unfold Tr.isArg; rw [if_neg (by simp)]
theorem term_const {w : List UInt8} {ks : List Tr} (hw : nameOK w = true) (h : ∀ x ∈ ks, x.isTerm false = true) : (Tr.const w ks).isTerm false = true := by
  rw [Tr.isTerm_eq, if_neg (show ¬ (Tr.const w ks).kind = 4 by simp [Tr.const, Tr.kind]), if_neg (show ¬ ((Tr.const w ks).kind = 5 ∨ (Tr.const w ks).kind = 7) by simp [Tr.const, Tr.kind]), if_pos (show (Tr.const w ks).kind = 6 by rfl)]
  rw [show (Tr.const w ks).n = 0 by rfl, show (Tr.const w ks).name = w by rfl, show (Tr.const w ks).kids = ks by rfl, hw]
  simp only [decide_true, Bool.true_and, List.all_eq_true]
  exact fun x hx => by rw [isArg_false]; exact h x hx
theorem term_lam' {t : Tr} (h : t.isTerm false = true) : (Tr.lam t).isTerm false = true := by
  rw [Tr.isTerm_eq, if_pos (show (Tr.lam t).kind = 4 by rfl)]
  rw [show (Tr.lam t).kids = [t] by rfl, show (Tr.lam t).bare 1 = true by rfl]
  simp [h]
theorem term_x {i : Int} (h0 : 0 ≤ i) (h1 : i ≤ 100) : (xT i).isTerm false = true := by
  rw [Tr.isTerm_eq, if_neg (show ¬ (xT i).kind = 4 by simp [xT, Tr.var, Tr.kind]), if_pos (show (xT i).kind = 5 ∨ (xT i).kind = 7 from .inl rfl)]
  rw [show (xT i).n = i by rfl, show (xT i).name = [] by rfl, show (xT i).kids = [] by rfl]
  simp [h0, h1]
theorem NatT.term {n : Nat} {t : Tr} (h : NatT n t) : n + t.size ≤ 101 → t.isTerm false = true := by
  induction h with
  | var h0 h1 => exact fun hs => term_x h0 (by omega)
  | z => exact fun _ => term_const (by rfl) (by simp)
  | s ht ih =>
    intro hs
    rw [size_s] at hs
    exact term_const (by rfl) (by simpa using ih (by omega))
  | it ht hu iht ihu =>
    intro hs
    rw [size_const] at hs
    simp only [Tr.sizes, List.map_cons, List.map_nil, List.sum_cons, List.sum_nil, size_lam] at hs
    refine term_const (by rfl) ?_
    simp only [List.forall_mem_cons]
    exact ⟨term_lam' (iht (by omega)), ihu (by omega), by simp⟩
theorem fam_fm {w : List UInt8} {ks : List Tr} (hw : nameOK w = true) (h : ∀ x ∈ ks, x.isTerm false = true) : (Tr.fm w ks).isFam false = true := by
  rw [Tr.isFam_head (show (Tr.fm w ks).kind = 3 by rfl)]
  rw [show (Tr.fm w ks).n = 0 by rfl, show (Tr.fm w ks).name = w by rfl, show (Tr.fm w ks).kids = ks by rfl, hw]
  simp only [decide_true, Bool.true_and, Bool.not_false, List.all_eq_true]
  exact fun x hx => by rw [isArg_false]; exact h x hx
theorem ListT.sb {n k : Nat} {t u : Tr} (hu : NatT n u) (hus : u.size ≤ 1000) (h : ListT (n + 1) k t) : n + 1 + t.size ≤ 100000 → ListT n k (sbT u t 0) := by
  induction h with
  | nil => intro _; rw [sbT_const (by omega)]; exact ListT.nil
  | @cons k x t hx ht ih =>
    intro hs
    rw [size_const] at hs
    simp only [Tr.sizes, List.map_cons, List.map_nil, List.sum_cons, List.sum_nil, size_lam] at hs
    rw [sbT_const (by omega)]
    simp only [List.map_cons, List.map_nil]
    rw [sbT_count (by omega)]
    exact ListT.cons (hx.sb 0 n rfl hu hus (by omega)) (ih (by omega))
theorem SumT.sb {n k : Nat} {m t w u : Tr} (hu : NatT n u) (hus : u.size ≤ 1000) (h : SumT (n + 1) m k t w) : n + 1 + t.size ≤ 100000 → SumT n (sbT u m 0) k (sbT u t 0) (sbT u w 0) := by
  induction h with
  | z => intro _; rw [sbT_const (by omega)]; exact SumT.z
  | @s k t w ht ih =>
    intro hs
    rw [size_const] at hs
    simp only [Tr.sizes, List.map_cons, List.map_nil, List.sum_cons, List.sum_nil, size_lam] at hs
    rw [sbT_const (by omega), sb_s (by omega)]
    simp only [List.map_cons, List.map_nil]
    rw [sbT_count (by omega)]
    exact SumT.s (ih (by omega))
theorem ListT.flat {n k : Nat} {t : Tr} (h : ListT n k t) : Flat t := by
  induction h with
  | nil => exact flat_const (by simp)
  | cons hx ht ih => exact flat_const (by simp [flat_count, hx.flat', ih])
theorem SumT.flat {n k : Nat} {m t w : Tr} (hm : NatT n m) (h : SumT n m k t w) : Flat t := by
  induction h with
  | z => exact flat_const (by simp [hm.flat'])
  | s ht ih => exact flat_const (by simp [flat_count, hm.flat', (ht.nat hm).flat', ih])
theorem judged_flat {n : Nat} {m a : Tr} (h : JudgedT n m a) : Flat m ∧ Flat a := by
  cases h with
  | fn ht => exact ⟨flat_lam ht.flat', flat_pi flat_nat flat_nat⟩
  | list _ hl => exact ⟨hl.flat, flat_vec (flat_count _)⟩
  | sum _ hm _ hl => exact ⟨hl.flat hm, flat_plus (flat_count _) hm.flat' (hl.nat hm).flat'⟩
  | mk ht => exact ⟨flat_const (by simp [flat_lam ht.flat']), flat_fm (by simp [flat_lam ht.flat'])⟩
  | num ht => exact ⟨ht.flat', flat_nat⟩
end Go.H
/- Steps: a value that is at hand; a tree is stored; a drawn number. -/
namespace Go.H
open Go
set_option linter.unusedVariables false
set_option linter.unusedSimpArgs false
theorem qb_of {q : Option PV} {k : PV → Prop} {x : PV} (h : q = some x) (hk : k x) : qb q k := by rw [h]; exact hk
theorem store_tree {s : St} {v : Nat} {K : St → Prop} {k : Tr} {vs : List PV} (ev : s v = some (.cells vs)) (hl : vs.length = 4) (h : K (upd s v (.cells (tree k).cells))) : e_store s 4 (.ptr v 0) (tree k) K := by
  refine e_store_ptr ev (tree_cellOK k) (tree_ncells k) (tree_isJunk k) (by omega) ?_
  have : setRange vs 0 (tree k).cells = (tree k).cells := by
    rw [tree_cells]
    match vs, hl with
    | [a, b, c, d], _ => rfl
  rw [this]
  exact h
theorem new_tree {s : St} {t : Tr} {vs : List PV} {K : PV → St → Prop} (hl : vs.length = 4) (h : ∀ v, s v = none → K (.ptr v 0) (upd s v (.cells (tree t).cells))) : e_alloc s vs fun v st => e_store st 4 v (tree t) fun st => K v st := by
  intro v hv
  refine store_tree (upd_same _ _ _) hl ?_
  rw [upd_upd]
  exact h v hv
theorem load_tree {s : St} {v : Nat} {t : Tr} (h : s v = some (.cells (tree t).cells)) : q_load s true 4 (.ptr v 0) = some (tree t) := by simp [q_load_p h]
theorem lit_1 (a : Tr) : q_lit 4 1 0 [] [(0, tree a)] = some (.sl 4 true [tree a]) := by simp
theorem lit_3 (a b c : Tr) : q_lit 4 3 0 [] [(0, tree a), (1, tree b), (2, tree c)] = some (.sl 4 true [tree a, tree b, tree c]) := by simp
theorem lit_4 (a b c d : Tr) : q_lit 4 4 0 [] [(0, tree a), (1, tree b), (2, tree c), (3, tree d)] = some (.sl 4 true [tree a, tree b, tree c, tree d]) := by simp
/-- How large a drawn number is at most. -/
def natS : Nat → Nat
  | 0 => 1
  | d + 1 => 2 + 2 * natS d
theorem natS_pos (d : Nat) : 1 ≤ natS d := by cases d <;> simp only [natS] <;> omega
def natK : Nat → Nat
  | 0 => 2
  | d + 1 => 2 + 2 * natK d
theorem natK_pos (d : Nat) : 2 ≤ natK d := by cases d <;> simp only [natK] <;> omega
def natD (n d : Nat) (t : Tr) : Prop := NatT n t ∧ t.size ≤ natS d
end Go.H
/- What the law about drawn judgements asks: the answers of the check. -/
namespace Go.H
open Go
set_option linter.unusedVariables false
set_option linter.unusedSimpArgs false

end Go.H
/- A number is put into what is drawn: the answer, its form. -/
namespace Go.H
open Go
set_option linter.unusedVariables false
set_option linter.unusedSimpArgs false

def natB : Tr := .mk 9 0 wNat []
theorem natB_simple : natB.simpleOK = true := by kernel_rfl
theorem small_of {t : Tr} (h : t.size ≤ 150) : t.small = true := by unfold Tr.small; exact decide_eq_true h
/-- A drawn family has its form. -/
theorem judged_fam {n : Nat} {m a : Tr} (hn : n ≤ 2) (h : JudgedT n m a) (ha : a.size ≤ 30) : a.famOK = true := by
  unfold Tr.famOK
  rw [small_of (by omega), Bool.true_and]
  have natFam : natF.isFam false = true := fam_fm (by rfl) (by simp)
  cases h with
  | fn => rw [Tr.isFam_pi (x := natF) (y := natF) rfl rfl, natFam]; rfl
  | @list k t hk hl hs =>
    rw [size_vec, size_count] at ha
    refine fam_fm (by rfl) ?_
    simp only [List.forall_mem_cons]
    exact ⟨(cntT_nat n k).term (by rw [size_count]; omega), by simp⟩
  | @sum k m t u hk hm hms hl hs =>
    rw [size_plus, size_count] at ha
    refine fam_fm (by rfl) ?_
    simp only [List.forall_mem_cons]
    exact ⟨(cntT_nat n k).term (by rw [size_count]; omega), hm.term (by omega), (hl.nat hm).term (by omega), by simp⟩
  | @mk t ht hs =>
    unfold allF at ha
    rw [size_fm] at ha
    simp only [Tr.sizes, List.map_cons, List.map_nil, List.sum_cons, List.sum_nil, size_lam] at ha
    refine fam_fm (by rfl) ?_
    simp only [List.forall_mem_cons]
    exact ⟨term_lam' (ht.term (by omega)), by simp⟩
  | num => exact natFam
/-- A small number is put into a flat tree that is right. -/
theorem substT_flat {n : Nat} {u t : Tr} (hn : n ≤ 2) (hu : natD n 2 u) (hf : Flat t) (hr : t.rightOK = true) (hs : t.size ≤ 150) : (substT u natB t = .inr (sbT u t 0) ∧ (sbT u t 0).big = false) ∨ substT u natB t = .inl 11 := by
  have hus : u.size ≤ 10 := hu.2
  have h1 : u.termOK = true := by unfold Tr.termOK; rw [small_of (by omega), hu.1.term (by omega)]; rfl
  unfold substT
  rw [h1, natB_simple, hr]
  rw [if_neg (by decide)]
  rcases subT_flat 100000000 u natB t 0 0 hf (by omega) with h | h
  · refine .inl ⟨by rw [h], subT_small 100000000 u natB t 0 0 _ _ h⟩
  · exact .inr (by rw [h])
/-- The simple type does not hang on what is put for a number. -/
theorem erase_sb {n : Nat} {u a : Tr} (hn : n ≤ 2) (hu : natD n 2 u) (hf : Flat a) (hfam : a.famOK = true) (h : substT u natB a = .inr (sbT u a 0)) : eraseT (sbT u a 0) = eraseT a ∧ (sbT u a 0).famOK = true := by
  have hus : u.size ≤ 10 := hu.2
  have h1 : u.termOK = true := by unfold Tr.termOK; rw [small_of (by omega), hu.1.term (by omega)]; rfl
  have hff := famOK_ff hfam
  unfold substT at h
  rw [h1, natB_simple, show a.rightOK = true by unfold Tr.rightOK; rw [hfam]; simp] at h
  rw [if_neg (by decide)] at h
  generalize hr : subT 100000000 u natB a 0 0 = r at h
  obtain ⟨x, k⟩ := r
  simp only at h
  subst h
  have hs := subT_small _ _ _ _ _ _ _ _ hr
  have := subT_fam 100000000 u natB a 0 0 (sbT u a 0) k (by unfold Tr.termOK at h1; rw [Bool.and_eq_true] at h1; exact h1.2) hff.1 (by omega) (by have := hff.2; omega) hr
  refine ⟨this.2, ?_⟩
  unfold Tr.famOK
  rw [small_of (small_size hs), this.1]; rfl
end Go.H
