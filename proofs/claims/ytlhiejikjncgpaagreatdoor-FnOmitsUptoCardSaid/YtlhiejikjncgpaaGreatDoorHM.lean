/- Part of a proof that the program answers as the reference does: HPure24, HPure25, HPure23, HPure26, HPure27, HPure28, HPure29, HPure30, HPure32, HPure33, HPure34, HPure35, HPure36, HPure37, HHeld, HPure38, HPure31, HPure39. -/
import Derived.Test.YtlhiejikjncgpaaGreatDoorHP
import Derived.Test.YtlhiejikjncgpaaGreatDoorHQ
/- Substitution into what applies no variable: no step is done. -/
namespace Go.H
open Go
set_option linter.unusedVariables false
set_option linter.unusedSimpArgs false

/-- No variable is applied to anything. -/
inductive Flat : Tr → Prop
  | of (t : Tr) : (t.kind = 5 → t.kids = []) → (∀ x ∈ t.kids, Flat x) → Flat t
theorem Flat.bare {t : Tr} (h : Flat t) : t.kind = 5 → t.kids = [] := by cases h; assumption
theorem Flat.kids {t : Tr} (h : Flat t) : ∀ x ∈ t.kids, Flat x := by cases h; assumption
/-- A tree is put for a variable, and nothing is made normal. -/
def sbT (m t : Tr) (n : Int) : Tr :=
  if t.kind = 5 ∧ t.n = n then m.lift 0 n else .mk t.kind (if t.kind = 5 ∧ n < t.n then W (t.n - 1) else t.n) t.name (t.kids.attach.mapIdx fun i x => sbT m x.1 (W (n + t.under i)))
termination_by SizeOf.sizeOf t
decreasing_by exact Tr.kids_lt x.2
theorem sbT_eq (m t : Tr) (n : Int) : sbT m t n = if t.kind = 5 ∧ t.n = n then m.lift 0 n else .mk t.kind (if t.kind = 5 ∧ n < t.n then W (t.n - 1) else t.n) t.name (t.kids.mapIdx fun i x => sbT m x (W (n + t.under i))) := by
  rw [sbT, attach_mapIdx t.kids (fun i x => sbT m x (W (n + t.under i)))]
theorem kidsT_flat {f : Nat → Tr → Int → (Int ⊕ Tr) × Int} {g : Nat → Tr → Tr} : ∀ (l : List Tr) (i : Nat) (s : Int), (∀ (j : Nat) (x : Tr), x ∈ l → f j x s = (.inr (g j x), s) ∨ f j x s = (.inl 11, s)) →
    kidsT f i l s = (.inr (l.mapIdx fun j x => g (i + j) x), s) ∨ kidsT f i l s = (.inl 11, s)
  | [], _, _, _ => .inl rfl
  | x :: r, i, s, h => by
    unfold kidsT
    rcases h i x (by simp) with h1 | h1
    · rw [h1]
      simp only
      rcases kidsT_flat (g := g) r (i + 1) s (fun j y hy => h j y (by simp [hy])) with h2 | h2
      · rw [h2]
        refine .inl ?_
        rw [List.mapIdx_cons]
        simp only [Nat.add_zero]
        congr 3
        congr 1
        funext j y
        rw [show i + 1 + j = i + (j + 1) by omega]
      · rw [h2]; exact .inr rfl
    · rw [h1]; exact .inr rfl
theorem subT_flat : ∀ (N : Nat) (m a t : Tr) (n s : Int), Flat t → t.size ≤ N → subT N m a t n s = (.inr (sbT m t n), s) ∨ subT N m a t n s = (.inl 11, s)
  | 0, m, a, t, n, s, _, hN => absurd hN (by rw [Tr.size_kids]; omega)
  | N + 1, m, a, t, n, s, hf, hN => by
    have hk := kidsT_flat (f := fun i x s => subT N m a x (W (n + t.under i)) s) (g := fun i x => sbT m x (W (n + t.under i))) t.kids 0 s (fun j x hx => subT_flat N m a x _ s (hf.kids x hx) (by
      have := Tr.kid_size hx
      omega))
    unfold subT
    rcases hk with h | h
    · rw [h]
      simp only
      by_cases hv : t.kind = 5 ∧ t.n = n
      · rw [if_pos hv, sbT_eq, if_pos hv]
        by_cases hb : (m.lift 0 n).big = true
        · rw [if_pos hb]; exact .inr rfl
        · rw [if_neg hb, hf.bare hv.1]
          simp only [List.mapIdx_nil, redT]
          exact .inl trivial
      · rw [if_neg hv, sbT_eq, if_neg hv]
        simp only [Nat.zero_add]
        by_cases hb : (Tr.mk t.kind (if t.kind = 5 ∧ n < t.n then W (t.n - 1) else t.n) t.name (t.kids.mapIdx fun i x => sbT m x (W (n + t.under i)))).big = true
        · rw [if_pos hb]; exact .inr rfl
        · rw [if_neg hb]; exact .inl rfl
    · rw [h]; exact .inr rfl
end Go.H
/- Lifting and putting of flat trees: one takes the other back. -/
namespace Go.H
open Go
set_option linter.unusedVariables false
set_option linter.unusedSimpArgs false

/-- No variable is applied to anything; their numbers are small. -/
inductive FlatN : Tr → Prop
  | of (t : Tr) : (t.kind = 5 → t = Tr.var t.n [] ∧ 0 ≤ t.n ∧ t.n ≤ 1000000) → (∀ x ∈ t.kids, FlatN x) → FlatN t
theorem FlatN.v {t : Tr} (h : FlatN t) : t.kind = 5 → t = Tr.var t.n [] ∧ 0 ≤ t.n ∧ t.n ≤ 1000000 := by cases h; assumption
theorem FlatN.kids {t : Tr} (h : FlatN t) : ∀ x ∈ t.kids, FlatN x := by cases h; assumption
theorem FlatN.flat {t : Tr} : FlatN t → Flat t := by
  induction t using Tr.ind with
  | _ t ih => exact fun h => Flat.of t (fun h5 => by rw [(h.v h5).1]; rfl) (fun x hx => ih x hx (h.kids x hx))
theorem lift_var (n f b : Int) : (Tr.var n []).lift f b = Tr.var (if f ≤ n then W (n + b) else n) [] := by
  rw [Tr.lift_eq]; simp [Tr.var, Tr.kind, Tr.n, Tr.name, Tr.kids]
theorem sbT_var (m : Tr) (k n : Int) : sbT m (Tr.var k []) n = if k = n then m.lift 0 n else Tr.var (if n < k then W (k - 1) else k) [] := by
  rw [sbT_eq]; simp [Tr.var, Tr.kind, Tr.n, Tr.name, Tr.kids]
end Go.H
/- What stands ahead of a context changes no check in it. -/
namespace Go.H
open Go
set_option linter.unusedVariables false
set_option linter.unusedSimpArgs false

end Go.H
/- The drawn judgements: numbers, lists, sums. They stand, if nothing is too big. -/
namespace Go.H
open Go
set_option linter.unusedVariables false
set_option linter.unusedSimpArgs false

def Tr.fm (s : List UInt8) (ks : List Tr) : Tr := .mk 3 0 s ks
def Tr.pi (a b : Tr) : Tr := .mk 2 0 [] [a, b]
def Tr.typ : Tr := .mk 1 0 [] []
def wNat : List UInt8 := [110, 97, 116]
def wZ : List UInt8 := [122]
def wS : List UInt8 := [115]
def wVec : List UInt8 := [118, 101, 99]
def wNil : List UInt8 := [110, 105, 108]
def wCons : List UInt8 := [99, 111, 110, 115]
def wPlus : List UInt8 := [112, 108, 117, 115]
def wPz : List UInt8 := [112, 122]
def wPs : List UInt8 := [112, 115]
def wIt : List UInt8 := [105, 116]
def wAll : List UInt8 := [97, 108, 108]
def wMk : List UInt8 := [109, 107]
def natF : Tr := .fm wNat []
def zT : Tr := .const wZ []
def sT (t : Tr) : Tr := .const wS [t]
def xT (n : Int) : Tr := .var n []
def vecF (k : Tr) : Tr := .fm wVec [k]
def plusF (a b c : Tr) : Tr := .fm wPlus [a, b, c]
def allF (f : Tr) : Tr := .fm wAll [f]
/-- The signature of numbers, lists that know how long they are, and sums. -/
def numbersL : List Dc :=
  [⟨wNat, true, .typ⟩, ⟨wZ, false, natF⟩, ⟨wS, false, .pi natF natF⟩, ⟨wVec, true, .pi natF .typ⟩, ⟨wNil, false, vecF zT⟩,
   ⟨wCons, false, .pi natF (.pi natF (.pi (vecF (xT 1)) (vecF (sT (xT 2)))))⟩, ⟨wPlus, true, .pi natF (.pi natF (.pi natF .typ))⟩,
   ⟨wPz, false, .pi natF (plusF zT (xT 0) (xT 0))⟩,
   ⟨wPs, false, .pi natF (.pi natF (.pi natF (.pi (plusF (xT 2) (xT 1) (xT 0)) (plusF (sT (xT 3)) (xT 2) (sT (xT 1))))))⟩,
   ⟨wIt, false, .pi (.pi natF natF) (.pi natF natF)⟩, ⟨wAll, true, .pi (.pi natF natF) .typ⟩,
   ⟨wMk, false, .pi (.pi natF natF) (allF (.lam (.var 1 [xT 0])))⟩]
/-- A number in a context of so many numbers. -/
inductive NatT : Nat → Tr → Prop
  | var {n : Nat} {i : Int} : 0 ≤ i → i < n → NatT n (xT i)
  | z {n : Nat} : NatT n zT
  | s {n : Nat} {t : Tr} : NatT n t → NatT n (sT t)
  | it {n : Nat} {t u : Tr} : NatT (n + 1) t → NatT n u → NatT n (.const wIt [.lam t, u])
def cntT : Nat → Tr
  | 0 => zT
  | k + 1 => sT (cntT k)
inductive ListT (n : Nat) : Nat → Tr → Prop
  | nil : ListT n 0 (.const wNil [])
  | cons {k : Nat} {x t : Tr} : NatT n x → ListT n k t → ListT n (k + 1) (.const wCons [cntT k, x, t])
inductive SumT (n : Nat) (m : Tr) : Nat → Tr → Tr → Prop
  | z : SumT n m 0 (.const wPz [m]) m
  | s {k : Nat} {t u : Tr} : SumT n m k t u → SumT n m (k + 1) (.const wPs [cntT k, m, u, t]) (sT u)
/-- A drawn term with its family, in a context of so many numbers. -/
inductive JudgedT (n : Nat) : Tr → Tr → Prop
  | fn {t : Tr} : NatT (n + 1) t → t.size ≤ 1000 → JudgedT n (.lam t) (.pi natF natF)
  | list {k : Nat} {t : Tr} : k ≤ 1000 → ListT n k t → t.size ≤ 1000 → JudgedT n t (vecF (cntT k))
  | sum {k : Nat} {m t u : Tr} : k ≤ 1000 → NatT n m → m.size ≤ 1000 → SumT n m k t u → t.size ≤ 1000 → JudgedT n t (plusF (cntT k) m u)
  | mk {t : Tr} : NatT (n + 1) t → t.size ≤ 1000 → JudgedT n (.const wMk [.lam t]) (allF (.lam t))
  | num {t : Tr} : NatT n t → t.size ≤ 1000 → JudgedT n t natF

/-! ### What is put into the signature's families -/
theorem mapIdx_map {α β : Type} (f : α → β) (l : List α) : (l.mapIdx fun _ x => f x) = l.map f := by
  induction l with
  | nil => rfl
  | cons x r ih => rw [List.mapIdx_cons, ih]; rfl
section
variable {n : Int} (h : 0 ≤ n ∧ n ≤ 1000000000)
include h
theorem sbT_fm (m : Tr) (s : List UInt8) (ks : List Tr) : sbT m (.fm s ks) n = .fm s (ks.map fun x => sbT m x n) := by
  rw [sbT_eq]
  simp only [Tr.fm, Tr.kind, Tr.n, Tr.name, Tr.kids, Tr.under]
  simp [W_in (show -9223372036854775808 ≤ n ∧ n ≤ 9223372036854775807 by omega), mapIdx_map]
theorem sbT_const (m : Tr) (s : List UInt8) (ks : List Tr) : sbT m (.const s ks) n = .const s (ks.map fun x => sbT m x n) := by
  rw [sbT_eq]
  simp only [Tr.const, Tr.kind, Tr.n, Tr.name, Tr.kids, Tr.under]
  simp [W_in (show -9223372036854775808 ≤ n ∧ n ≤ 9223372036854775807 by omega), mapIdx_map]
theorem sbT_lam (m t : Tr) : sbT m (.lam t) n = .lam (sbT m t (n + 1)) := by
  rw [sbT_eq]
  simp only [Tr.lam, Tr.kind, Tr.n, Tr.name, Tr.kids, Tr.under]
  simp [W_in (show -9223372036854775808 ≤ n + 1 ∧ n + 1 ≤ 9223372036854775807 by omega)]
theorem sbT_pi (m a b : Tr) : sbT m (.pi a b) n = .pi (sbT m a n) (sbT m b (n + 1)) := by
  rw [sbT_eq]
  simp only [Tr.pi, Tr.kind, Tr.n, Tr.name, Tr.kids, Tr.under]
  simp [W_in (show -9223372036854775808 ≤ n ∧ n ≤ 9223372036854775807 by omega), W_in (show -9223372036854775808 ≤ n + 1 ∧ n + 1 ≤ 9223372036854775807 by omega)]
theorem lift_const (b : Int) (s : List UInt8) (ks : List Tr) : (Tr.const s ks).lift n b = .const s (ks.map fun x => x.lift n b) := by
  rw [Tr.lift_eq]
  simp only [Tr.const, Tr.kind, Tr.n, Tr.name, Tr.kids, Tr.under]
  simp [W_in (show -9223372036854775808 ≤ n ∧ n ≤ 9223372036854775807 by omega), mapIdx_map]
theorem lift_lam (b : Int) (t : Tr) : (Tr.lam t).lift n b = .lam (t.lift (n + 1) b) := by
  rw [Tr.lift_eq]
  simp only [Tr.lam, Tr.kind, Tr.n, Tr.name, Tr.kids, Tr.under]
  simp [W_in (show -9223372036854775808 ≤ n + 1 ∧ n + 1 ≤ 9223372036854775807 by omega)]
theorem sbT_count (m : Tr) (k : Nat) : sbT m (cntT k) n = cntT k := by
  induction k with
  | zero => unfold cntT zT; rw [sbT_const h]; rfl
  | succ k ih => unfold cntT sT; rw [sbT_const h]; simp [ih]
theorem lift_count (b : Int) (k : Nat) : (cntT k).lift n b = cntT k := by
  induction k with
  | zero => unfold cntT zT; rw [lift_const h]; rfl
  | succ k ih => unfold cntT sT; rw [lift_const h]; simp [ih]
end
theorem NatT.more {n m : Nat} {t : Tr} (h : NatT n t) (hm : n ≤ m) : NatT m t := by
  induction h generalizing m with
  | var h0 h1 => exact .var h0 (by omega)
  | z => exact .z
  | s _ ih => exact .s (ih hm)
  | it _ _ i1 i2 => exact .it (i1 (by omega)) (i2 hm)
theorem cntT_nat (n : Nat) : ∀ k, NatT n (cntT k)
  | 0 => .z
  | k + 1 => .s (cntT_nat n k)
end Go.H
/- The drawn judgements stand, if nothing is too big. -/
namespace Go.H
open Go
set_option linter.unusedVariables false
set_option linter.unusedSimpArgs false

/-- Done, with no step more, or too big. -/
def Out {α : Type} (r : (Fz ⊕ α) × Int) (x : α) (s : Int) : Prop := r = (.inr x, s) ∨ ∃ q, r = (.inl (11, q), s)
theorem flat_fm {s : List UInt8} {ks : List Tr} (h : ∀ x ∈ ks, Flat x) : Flat (.fm s ks) := Flat.of _ (fun h => by simp [Tr.fm, Tr.kind] at h) (by simpa [Tr.fm, Tr.kids] using h)
theorem flat_const {s : List UInt8} {ks : List Tr} (h : ∀ x ∈ ks, Flat x) : Flat (.const s ks) := Flat.of _ (fun h => by simp [Tr.const, Tr.kind] at h) (by simpa [Tr.const, Tr.kids] using h)
theorem flat_pi {a b : Tr} (ha : Flat a) (hb : Flat b) : Flat (.pi a b) := Flat.of _ (fun h => by simp [Tr.pi, Tr.kind] at h) (by simp [Tr.pi, Tr.kids, ha, hb])
theorem flat_lam {t : Tr} (ha : Flat t) : Flat (.lam t) := Flat.of _ (fun h => by simp [Tr.lam, Tr.kind] at h) (by simp [Tr.lam, Tr.kids, ha])
theorem flat_x (n : Int) : Flat (xT n) := Flat.of _ (fun _ => rfl) (fun x hx => by simp [xT, Tr.var, Tr.kids] at hx)
theorem flat_nat : Flat natF := flat_fm (by simp)
theorem flat_z : Flat zT := flat_const (by simp)
theorem flat_s {t : Tr} (h : Flat t) : Flat (sT t) := flat_const (by simpa using h)
theorem flat_count : ∀ k, Flat (cntT k)
  | 0 => flat_z
  | k + 1 => flat_s (flat_count k)
theorem size_fm (s : List UInt8) (ks : List Tr) : (Tr.fm s ks).size = 1 + Tr.sizes ks := by rw [Tr.size_kids]; rfl
theorem size_const (s : List UInt8) (ks : List Tr) : (Tr.const s ks).size = 1 + Tr.sizes ks := by rw [Tr.size_kids]; rfl
theorem size_pi (a b : Tr) : (Tr.pi a b).size = 1 + (a.size + b.size) := by rw [Tr.size_kids]; simp [Tr.pi, Tr.kids, Tr.sizes]
theorem size_lam (a : Tr) : (Tr.lam a).size = 1 + a.size := by rw [Tr.size_kids]; simp [Tr.lam, Tr.kids, Tr.sizes]
theorem size_x (n : Int) : (xT n).size = 1 := by rw [Tr.size_kids]; simp [xT, Tr.var, Tr.kids, Tr.sizes]
theorem size_nat : natF.size = 1 := by unfold natF; rw [size_fm]; rfl
theorem size_z : zT.size = 1 := by unfold zT; rw [size_const]; rfl
theorem size_s (t : Tr) : (sT t).size = 1 + t.size := by unfold sT; rw [size_const]; simp [Tr.sizes]
theorem size_vec (t : Tr) : (vecF t).size = 1 + t.size := by unfold vecF; rw [size_fm]; simp [Tr.sizes]
theorem size_plus (a b c : Tr) : (plusF a b c).size = 1 + (a.size + (b.size + c.size)) := by unfold plusF; rw [size_fm]; simp [Tr.sizes]
theorem size_count : ∀ k, (cntT k).size = k + 1
  | 0 => size_z
  | k + 1 => by unfold cntT; rw [size_s, size_count k]; omega
section
variable {n : Int} (h : 0 ≤ n ∧ n ≤ 1000000000)
include h
theorem sb_nat (m : Tr) : sbT m natF n = natF := by unfold natF; rw [sbT_fm h]; rfl
theorem sb_s (m t : Tr) : sbT m (sT t) n = sT (sbT m t n) := by unfold sT; rw [sbT_const h]; rfl
theorem sb_z (m : Tr) : sbT m zT n = zT := by unfold zT; rw [sbT_const h]; rfl
theorem lift_s (b : Int) (t : Tr) : (sT t).lift n b = sT (t.lift n b) := by unfold sT; rw [lift_const h]; rfl
end
theorem leftC_flat {t a : Tr} {p s : Int} (hf : Flat (a.kid 1)) (hs : (a.kid 1).size ≤ 100000000) : Out (leftC t a p s) (sbT t (a.kid 1) 0) s := by
  unfold leftC
  rcases subT_flat 100000000 t (eraseT (a.kid 0)) (a.kid 1) 0 s hf hs with h | h
  · rw [h]; exact .inl rfl
  · rw [h]; exact .inr ⟨p, rfl⟩
theorem argsC_pi {f : Tr → Tr → Int → Int → (Fz ⊕ Unit) × Int} {x : Tr} {r : List Tr} {A B c : Tr} {p s : Int} (hf : Out (f x A p s) () s) (hB : Flat B) (hs : B.size ≤ 100000000)
    (hr : ∀ p', Out (argsC f r (sbT x B 0) p' s) c s) : Out (argsC f (x :: r) (.pi A B) p s) c s := by
  unfold argsC
  rw [if_pos (by rfl), show (Tr.pi A B).kid 0 = A by rfl]
  rcases hf with h | ⟨q, h⟩
  · rw [h]
    simp only
    rcases leftC_flat (t := x) (a := .pi A B) (p := p) (s := s) hB hs with h2 | ⟨q, h2⟩
    · rw [h2]; exact hr _
    · rw [h2]; exact .inr ⟨q, rfl⟩
  · rw [h]; exact .inr ⟨q, rfl⟩
theorem argsC_end (f : Tr → Tr → Int → Int → (Fz ⊕ Unit) × Int) (a : Tr) (p s : Int) : Out (argsC f [] a p s) a s := .inl rfl
def ctxN (n : Nat) : List Tr := List.replicate n natF
theorem ctxN_more (n : Nat) : ctxN n ++ [natF] = ctxN (n + 1) := List.replicate_succ'.symm
theorem foundC_const {f : Tr → Tr → Int → Int → (Fz ⊕ Unit) × Int} {ctx : List Tr} {w : List UInt8} {ks : List Tr} {A c : Tr} {p s : Int} (hd : declaredT numbersL w false = some A) (hc : c.kind = 3) (ha : ∀ p', Out (argsC f ks A p' s) c s) :
    Out (foundC f numbersL ctx (.const w ks) p s) c s := by
  unfold foundC
  have h1 : headC numbersL ctx (.const w ks) = .inr A := by
    unfold headC
    rw [if_neg (show ¬ (Tr.const w ks).kind = 5 by simp [Tr.const, Tr.kind]), if_pos (show (Tr.const w ks).kind = 6 by rfl), show (Tr.const w ks).name = w by rfl, hd]
  rw [h1, show (Tr.const w ks).kids = ks by rfl]
  simp only
  rcases ha (p + 1) with h | ⟨q, h⟩
  · rw [h]; simp only; rw [if_pos hc]; exact .inl rfl
  · rw [h]; exact .inr ⟨q, rfl⟩
theorem termC_found {sig : List Dc} {m : Nat} {ctx : List Tr} {t a : Tr} {p s : Int} (h4 : t.kind ≠ 4) (h2 : a.kind ≠ 2) (h : ∀ m', Out (foundC (termC sig m' ctx) sig ctx t p s) a s) : Out (termC sig m ctx t a p s) () s := by
  cases m with
  | zero => exact .inl rfl
  | succ m =>
    unfold termC
    rw [if_neg h4, if_neg h2]
    rcases h m with h | ⟨q, h⟩
    · rw [h]; simp only; rw [if_pos trivial]; exact .inl rfl
    · rw [h]; exact .inr ⟨q, rfl⟩
theorem lift_nat (f b : Int) : natF.lift f b = natF := by
  unfold natF Tr.fm
  rw [Tr.lift_eq]
  simp [Tr.kind, Tr.n, Tr.name, Tr.kids]
theorem found_var {f : Tr → Tr → Int → Int → (Fz ⊕ Unit) × Int} {n : Nat} {i : Int} (h0 : 0 ≤ i) (h1 : i < n) (p s : Int) : Out (foundC f numbersL (ctxN n) (xT i) p s) natF s := by
  unfold foundC
  have e1 : ((ctxN n)[(((ctxN n).length : Int) - 1 - (xT i).n).toNat]?).getD noTree = natF := by
    unfold ctxN
    rw [List.length_replicate, List.getElem?_replicate, if_pos (by show ((n : Int) - 1 - i).toNat < n; omega)]
    rfl
  have hh : headC numbersL (ctxN n) (xT i) = .inr natF := by
    unfold headC
    rw [if_pos (by rfl), e1, lift_nat, if_neg (by show ¬ i ≥ ((ctxN n).length : Int); unfold ctxN; rw [List.length_replicate]; omega), if_neg (by rw [show natF.big = false by kernel_rfl]; decide)]
  rw [hh, show (xT i).kids = [] by rfl]
  exact .inl rfl
/-- A number is a number. -/
theorem found_nat {n : Nat} {t : Tr} (h : NatT n t) : ∀ (M : Nat) (p s : Int), Out (foundC (termC numbersL M (ctxN n)) numbersL (ctxN n) t p s) natF s ∧ t.kind ≠ 4 := by
  induction h with
  | var h0 h1 => exact fun M p s => ⟨found_var h0 h1 p s, by simp [xT, Tr.var, Tr.kind]⟩
  | z => exact fun M p s => ⟨foundC_const (A := natF) rfl rfl fun p' => argsC_end _ _ _ _, by simp [zT, Tr.const, Tr.kind]⟩
  | @s n t ht ih =>
    refine fun M p s => ⟨foundC_const (A := .pi natF natF) rfl rfl fun p' => ?_, by simp [sT, Tr.const, Tr.kind]⟩
    refine argsC_pi (termC_found (ih 0 0 0).2 (by decide) fun m' => (ih m' _ _).1) flat_nat (by rw [size_nat]; omega) fun p2 => ?_
    rw [sb_nat (by omega)]
    exact argsC_end _ _ _ _
  | @it n t u ht hu iht ihu =>
    refine fun M p s => ⟨foundC_const (A := .pi (.pi natF natF) (.pi natF natF)) rfl rfl fun p' => ?_, by simp [Tr.const, Tr.kind]⟩
    refine argsC_pi ?_ (flat_pi flat_nat flat_nat) (by rw [size_pi, size_nat]; omega) fun p2 => ?_
    · cases M with
      | zero => exact .inl rfl
      | succ M =>
        unfold termC
        rw [if_pos (by rfl), if_pos (by rfl), show (Tr.pi natF natF).kid 0 = natF by rfl, show (Tr.pi natF natF).kid 1 = natF by rfl, show (Tr.lam t).kid 0 = t by rfl, ctxN_more]
        exact termC_found (iht 0 0 0).2 (by decide) fun m' => (iht m' _ _).1
    · rw [sbT_pi (by omega), sb_nat (by omega), sb_nat (by omega)]
      refine argsC_pi (termC_found (ihu 0 0 0).2 (by decide) fun m' => (ihu m' _ _).1) flat_nat (by rw [size_nat]; omega) fun p3 => ?_
      rw [sb_nat (by omega)]
      exact argsC_end _ _ _ _
theorem NatT.flat' {n : Nat} {t : Tr} (h : NatT n t) : Flat t := by
  induction h with
  | var => exact flat_x _
  | z => exact flat_z
  | s _ ih => exact flat_s ih
  | it _ _ i1 i2 => exact flat_const (by simp [i2, flat_lam i1])
theorem SumT.nat {n k : Nat} {m t u : Tr} (hm : NatT n m) (h : SumT n m k t u) : NatT n u := by
  induction h with
  | z => exact hm
  | s _ ih => exact .s ih
end Go.H
/- The drawn judgements stand: all of them; and no other drawn family is right for a term. -/
namespace Go.H
open Go
set_option linter.unusedVariables false
set_option linter.unusedSimpArgs false

/-- Done, or too big. -/
def Fin {α : Type} (r : (Fz ⊕ α) × Int) (x : α) : Prop := r.1 = .inr x ∨ ∃ q, r.1 = .inl (11, q)
theorem Out.fin {α : Type} {r : (Fz ⊕ α) × Int} {x : α} {s : Int} (h : Out r x s) : Fin r x := by
  rcases h with h | ⟨q, h⟩
  · exact .inl (by rw [h])
  · exact .inr ⟨q, by rw [h]⟩
theorem SumT.nat_size {n k : Nat} {m t u : Tr} (h : SumT n m k t u) : u.size = m.size + k := by
  induction h with
  | z => rfl
  | s _ ih => rw [size_s, ih]; omega
theorem ListT.kind {n k : Nat} {t : Tr} (h : ListT n k t) : t.kind = 6 := by cases h <;> rfl
theorem SumT.kind {n k : Nat} {m t u : Tr} (h : SumT n m k t u) : t.kind = 6 := by cases h <;> rfl
theorem NatT.kind {n : Nat} {t : Tr} (h : NatT n t) : t.kind ≠ 4 := (found_nat h 0 0 0).2
end Go.H
/- How deep a check may go at most does not count where it is deep enough; what is put into a drawn judgement leaves one. -/
namespace Go.H
open Go
set_option linter.unusedVariables false
set_option linter.unusedSimpArgs false

/-! ### What is put for a number -/
theorem NatT.lift {n : Nat} {t : Tr} (h : NatT n t) : ∀ (d b : Nat), n ≤ 1000000 → b ≤ 1000000 → d ≤ n → n + t.size ≤ 1000000 → NatT (n + b) (t.lift d b) := by
  induction h with
  | @var n i h0 h1 =>
    intro d b hn hb hd hs
    unfold xT
    rw [lift_var]
    split
    · rw [W_in (by omega)]; exact NatT.var (by omega) (by omega)
    · exact NatT.var h0 (by omega)
  | z => intro d b hn hb hd hs; unfold zT; rw [lift_const (by omega)]; exact NatT.z
  | @s n t ht ih =>
    intro d b hn hb hd hs
    rw [size_s] at hs
    rw [lift_s (by omega)]; exact NatT.s (ih d b hn hb hd (by omega))
  | @it n t u ht hu iht ihu =>
    intro d b hn hb hd hs
    rw [size_const] at hs
    simp only [Tr.sizes, List.map_cons, List.map_nil, List.sum_cons, List.sum_nil, size_lam] at hs
    rw [lift_const (by omega)]
    simp only [List.map_cons, List.map_nil]
    rw [lift_lam (by omega)]
    refine NatT.it ?_ (ihu d b hn hb hd (by omega))
    have := iht (d + 1) b (by omega) hb (by omega) (by omega)
    rw [show n + 1 + b = n + b + 1 by omega] at this
    exact this
theorem NatT.sb {u : Tr} {N : Nat} {t : Tr} (h : NatT N t) : ∀ (d k : Nat), N = k + 1 + d → NatT k u → u.size ≤ 1000 → N + t.size ≤ 100000 → NatT (k + d) (sbT u t d) := by
  induction h with
  | @var n i h0 h1 =>
    intro d k hN hu hus hs
    unfold xT
    rw [sbT_var]
    split
    · exact hu.lift 0 d (by omega) (by omega) (by omega) (by omega)
    · split
      · rw [W_in (by omega)]; exact NatT.var (by omega) (by omega)
      · exact NatT.var h0 (by omega)
  | z => intro d k hN hu hus hs; rw [sb_z (by omega)]; exact NatT.z
  | @s n t ht ih =>
    intro d k hN hu hus hs
    rw [size_s] at hs
    rw [sb_s (by omega)]; exact NatT.s (ih d k hN hu hus (by omega))
  | @it n t w ht hw iht ihw =>
    intro d k hN hu hus hs
    rw [size_const] at hs
    simp only [Tr.sizes, List.map_cons, List.map_nil, List.sum_cons, List.sum_nil, size_lam] at hs
    rw [sbT_const (by omega)]
    simp only [List.map_cons, List.map_nil]
    rw [sbT_lam (by omega)]
    refine NatT.it ?_ (ihw d k hN hu hus (by omega))
    have := iht (d + 1) k (by omega) hu hus (by omega)
    rw [show k + (d + 1) = k + d + 1 by omega] at this
    exact this
end Go.H
/- The forms of what is drawn; a number is put into it. -/
namespace Go.H
open Go
set_option linter.unusedVariables false
set_option linter.unusedSimpArgs false

theorem isArg_false (x : Tr) : Tr.isArg false x = x.isTerm false := by unfold Tr.isArg; rw [if_neg (by simp)]
theorem term_const {w : List UInt8} {ks : List Tr} (hw : nameOK w = true) (h : ∀ x ∈ ks, x.isTerm false = true) : (Tr.const w ks).isTerm false = true := by
  rw [Tr.isTerm_eq, if_neg (show ¬ (Tr.const w ks).kind = 4 by simp [Tr.const, Tr.kind]), if_neg (show ¬ ((Tr.const w ks).kind = 5 ∨ (Tr.const w ks).kind = 7) by simp [Tr.const, Tr.kind]), if_pos (show (Tr.const w ks).kind = 6 by rfl)]
  rw [show (Tr.const w ks).n = 0 by rfl, show (Tr.const w ks).name = w by rfl, show (Tr.const w ks).kids = ks by rfl, hw]
  simp only [decide_true, Bool.true_and, List.all_eq_true]
  exact fun x hx => by rw [isArg_false]; exact h x hx
theorem term_lam' {t : Tr} (h : t.isTerm false = true) : (Tr.lam t).isTerm false = true := by
  rw [Tr.isTerm_eq, if_pos (show (Tr.lam t).kind = 4 by rfl)]
  rw [show (Tr.lam t).kids = [t] by rfl, show (Tr.lam t).bare 1 = true by rfl]
  simp [h]
theorem term_x {i : Int} (h0 : 0 ≤ i) (h1 : i ≤ 100) : (xT i).isTerm false = true := by
  rw [Tr.isTerm_eq, if_neg (show ¬ (xT i).kind = 4 by simp [xT, Tr.var, Tr.kind]), if_pos (show (xT i).kind = 5 ∨ (xT i).kind = 7 from .inl rfl)]
  rw [show (xT i).n = i by rfl, show (xT i).name = [] by rfl, show (xT i).kids = [] by rfl]
  simp [h0, h1]
theorem NatT.term {n : Nat} {t : Tr} (h : NatT n t) : n + t.size ≤ 101 → t.isTerm false = true := by
  induction h with
  | var h0 h1 => exact fun hs => term_x h0 (by omega)
  | z => exact fun _ => term_const (by rfl) (by simp)
  | s ht ih =>
    intro hs
    rw [size_s] at hs
    exact term_const (by rfl) (by simpa using ih (by omega))
  | it ht hu iht ihu =>
    intro hs
    rw [size_const] at hs
    simp only [Tr.sizes, List.map_cons, List.map_nil, List.sum_cons, List.sum_nil, size_lam] at hs
    refine term_const (by rfl) ?_
    simp only [List.forall_mem_cons]
    exact ⟨term_lam' (iht (by omega)), ihu (by omega), by simp⟩
theorem ListT.sb {n k : Nat} {t u : Tr} (hu : NatT n u) (hus : u.size ≤ 1000) (h : ListT (n + 1) k t) : n + 1 + t.size ≤ 100000 → ListT n k (sbT u t 0) := by
  induction h with
  | nil => intro _; rw [sbT_const (by omega)]; exact ListT.nil
  | @cons k x t hx ht ih =>
    intro hs
    rw [size_const] at hs
    simp only [Tr.sizes, List.map_cons, List.map_nil, List.sum_cons, List.sum_nil, size_lam] at hs
    rw [sbT_const (by omega)]
    simp only [List.map_cons, List.map_nil]
    rw [sbT_count (by omega)]
    exact ListT.cons (hx.sb 0 n rfl hu hus (by omega)) (ih (by omega))
theorem SumT.sb {n k : Nat} {m t w u : Tr} (hu : NatT n u) (hus : u.size ≤ 1000) (h : SumT (n + 1) m k t w) : n + 1 + t.size ≤ 100000 → SumT n (sbT u m 0) k (sbT u t 0) (sbT u w 0) := by
  induction h with
  | z => intro _; rw [sbT_const (by omega)]; exact SumT.z
  | @s k t w ht ih =>
    intro hs
    rw [size_const] at hs
    simp only [Tr.sizes, List.map_cons, List.map_nil, List.sum_cons, List.sum_nil, size_lam] at hs
    rw [sbT_const (by omega), sb_s (by omega)]
    simp only [List.map_cons, List.map_nil]
    rw [sbT_count (by omega)]
    exact SumT.s (ih (by omega))
theorem ListT.flat {n k : Nat} {t : Tr} (h : ListT n k t) : Flat t := by
  induction h with
  | nil => exact flat_const (by simp)
  | cons hx ht ih => exact flat_const (by simp [flat_count, hx.flat', ih])
theorem SumT.flat {n k : Nat} {m t w : Tr} (hm : NatT n m) (h : SumT n m k t w) : Flat t := by
  induction h with
  | z => exact flat_const (by simp [hm.flat'])
  | s ht ih => exact flat_const (by simp [flat_count, hm.flat', (ht.nat hm).flat', ih])
end Go.H
/- Steps: a value that is at hand; a tree is stored; a drawn number. -/
namespace Go.H
open Go
set_option linter.unusedVariables false
set_option linter.unusedSimpArgs false
theorem qb_of {q : Option PV} {k : PV → Prop} {x : PV} (h : q = some x) (hk : k x) : qb q k := by rw [h]; exact hk
theorem store_tree {s : St} {v : Nat} {K : St → Prop} {k : Tr} {vs : List PV} (ev : s v = some (.cells vs)) (hl : vs.length = 4) (h : K (upd s v (.cells (tree k).cells))) : e_store s 4 (.ptr v 0) (tree k) K := by
  refine e_store_ptr ev (tree_cellOK k) (tree_ncells k) (tree_isJunk k) (by omega) ?_
  have : setRange vs 0 (tree k).cells = (tree k).cells := by
    rw [tree_cells]
    match vs, hl with
    | [a, b, c, d], _ => rfl
  rw [this]
  exact h
theorem new_tree {s : St} {t : Tr} {vs : List PV} {K : PV → St → Prop} (hl : vs.length = 4) (h : ∀ v, s v = none → K (.ptr v 0) (upd s v (.cells (tree t).cells))) : e_alloc s vs fun v st => e_store st 4 v (tree t) fun st => K v st := by
  intro v hv
  refine store_tree (upd_same _ _ _) hl ?_
  rw [upd_upd]
  exact h v hv
theorem load_tree {s : St} {v : Nat} {t : Tr} (h : s v = some (.cells (tree t).cells)) : q_load s true 4 (.ptr v 0) = some (tree t) := by simp [q_load_p h]
theorem lit_1 (a : Tr) : q_lit 4 1 0 [] [(0, tree a)] = some (.sl 4 true [tree a]) := by simp
theorem lit_2 (a b : Tr) : q_lit 4 2 0 [] [(0, tree a), (1, tree b)] = some (.sl 4 true [tree a, tree b]) := by simp
theorem lit_3 (a b c : Tr) : q_lit 4 3 0 [] [(0, tree a), (1, tree b), (2, tree c)] = some (.sl 4 true [tree a, tree b, tree c]) := by simp
theorem lit_4 (a b c d : Tr) : q_lit 4 4 0 [] [(0, tree a), (1, tree b), (2, tree c), (3, tree d)] = some (.sl 4 true [tree a, tree b, tree c, tree d]) := by simp
/-- How large a drawn number is at most. -/
def natS : Nat → Nat
  | 0 => 1
  | d + 1 => 2 + 2 * natS d
theorem natS_pos (d : Nat) : 1 ≤ natS d := by cases d <;> simp only [natS] <;> omega
def natK : Nat → Nat
  | 0 => 2
  | d + 1 => 2 + 2 * natK d
theorem natK_pos (d : Nat) : 2 ≤ natK d := by cases d <;> simp only [natK] <;> omega
def natD (n d : Nat) (t : Tr) : Prop := NatT n t ∧ t.size ≤ natS d
end Go.H
/- What the law about drawn judgements asks: the answers of the check. -/
namespace Go.H
open Go
set_option linter.unusedVariables false
set_option linter.unusedSimpArgs false

end Go.H
/- A number is put into what is drawn: the answer, its form. -/
namespace Go.H
open Go
set_option linter.unusedVariables false
set_option linter.unusedSimpArgs false

theorem small_of {t : Tr} (h : t.size ≤ 150) : t.small = true := by unfold Tr.small; exact decide_eq_true h
end Go.H
/- A number is a number: nothing on the way is too big. A drawn family stands. -/
namespace Go.H
open Go
set_option linter.unusedVariables false
set_option linter.unusedSimpArgs false

end Go.H
/- A drawn family stands in its context. -/
namespace Go.H
open Go
set_option linter.unusedVariables false
set_option linter.unusedSimpArgs false

end Go.H
/- What is left of a drawn judgement behind a number that is put is accepted, or too big. -/
namespace Go.H
open Go
set_option linter.unusedVariables false
set_option linter.unusedSimpArgs false

end Go.H
/- Local variables of a walk: which block holds what. -/
namespace Go.H
open Go
set_option linter.unusedVariables false
set_option linter.unusedSimpArgs false

/-- A struct of so many cells. -/
def Box (n : Nat) (y : PV) : Prop := ∃ cs, y = .agg cs ∧ cs.length = n ∧ cs.all PV.cellOK = true
theorem Box.tree (t : Tr) : Box 4 (tree t) := by
  rw [tree_eq]
  exact ⟨_, rfl, rfl, rfl⟩
theorem Box.len {n : Nat} {y : PV} (h : Box n y) : y.cells.length = n := by obtain ⟨cs, rfl, h, _⟩ := h; exact h
/-- What a walk has made: blocks that hold a struct each, and blocks that wait for it. -/
structure Held (st w : St) (L : List (Nat × PV)) (P : List (Nat × List PV)) : Prop where
  sub : Sub st w
  got : ∀ x ∈ L, w x.1 = some (.cells x.2.cells)
  zat : ∀ x ∈ P, w x.1 = some (.cells x.2)
  nd : (L.map (·.1) ++ P.map (·.1)).Nodup
  out : ∀ b ∈ L.map (·.1) ++ P.map (·.1), st b = none
theorem Held.start (st : St) : Held st st [] [] := ⟨Sub.refl st, by simp, by simp, by simp, by simp⟩
theorem Held.some_of {st w : St} {L : List (Nat × PV)} {P : List (Nat × List PV)} (h : Held st w L P) {b : Nat} (hb : b ∈ L.map (·.1) ++ P.map (·.1)) : ∃ o, w b = some o := by
  rw [List.mem_append] at hb
  rcases hb with hb | hb
  · obtain ⟨x, hx, rfl⟩ := List.mem_map.1 hb; exact ⟨_, h.got x hx⟩
  · obtain ⟨x, hx, rfl⟩ := List.mem_map.1 hb; exact ⟨_, h.zat x hx⟩
theorem Held.alloc {st w : St} {L : List (Nat × PV)} {P : List (Nat × List PV)} {z : List PV} {K : PV → St → Prop} (h : Held st w L P) (hk : ∀ v w', Held st w' L (P ++ [(v, z)]) → K (.ptr v 0) w') : e_alloc w z K := fun v hv => by
  have ne : ∀ b ∈ L.map (·.1) ++ P.map (·.1), b ≠ v := fun b hb e => by
    obtain ⟨o, ho⟩ := h.some_of hb
    rw [e, hv] at ho; cases ho
  refine hk v _ ⟨h.sub.put (h.sub.isNone hv), fun x hx => ?_, fun x hx => ?_, ?_, fun b hb => ?_⟩
  · rw [upd_ne _ _ (ne _ (List.mem_append_left _ (List.mem_map_of_mem hx)))]
    exact h.got x hx
  · rw [List.mem_append, List.mem_singleton] at hx
    rcases hx with hx | rfl
    · rw [upd_ne _ _ (ne _ (List.mem_append_right _ (List.mem_map_of_mem hx)))]
      exact h.zat x hx
    · exact upd_same _ _ _
  · rw [List.map_append, ← List.append_assoc, List.nodup_append]
    refine ⟨h.nd, by simp, fun a ha b hb => ?_⟩
    simp only [List.map_cons, List.map_nil, List.mem_singleton] at hb
    rw [hb]
    exact ne a ha
  · rw [List.map_append, ← List.append_assoc, List.mem_append] at hb
    rcases hb with hb | hb
    · exact h.out b hb
    · simp only [List.map_cons, List.map_nil, List.mem_singleton] at hb
      rw [hb]
      exact h.sub.isNone hv
theorem Held.store {st w : St} {L : List (Nat × PV)} {P : List (Nat × List PV)} {z : List PV} {v n : Nat} {y : PV} {K : St → Prop} (h : Held st w L ((v, z) :: P)) (hy : Box n y) (hz : z.length = n) (hk : ∀ w', Held st w' ((v, y) :: L) P → K w') :
    e_store w n (.ptr v 0) y K := by
  obtain ⟨cs, rfl, hl, hc⟩ := hy
  refine e_store_ptr (h.zat (v, z) (by simp)) hc hl rfl (by show 0 + n ≤ z.length; omega) ?_
  have e : setRange z 0 (PV.agg cs).cells = cs := by
    unfold setRange
    show z.take 0 ++ cs ++ z.drop (0 + cs.length) = cs
    rw [List.take_zero, List.nil_append, List.drop_of_length_le (by omega), List.append_nil]
  rw [e]
  have nd := h.nd
  rw [List.map_cons, List.nodup_append] at nd
  obtain ⟨n1, n2, n3⟩ := nd
  rw [List.nodup_cons] at n2
  refine hk _ ⟨fun c o hc => ?_, fun x hx => ?_, fun x hx => ?_, ?_, fun b hb => ?_⟩
  · have : c ≠ v := fun e => by
      have := h.out v (by simp)
      rw [e, this] at hc; cases hc
    rw [upd_ne _ _ this]
    exact h.sub c o hc
  · rcases List.mem_cons.1 hx with rfl | hx
    · exact upd_same _ _ _
    · rw [upd_ne _ _ (n3 _ (List.mem_map_of_mem hx) v (by simp))]
      exact h.got x hx
  · rw [upd_ne _ _ (fun e => n2.1 (by rw [show v = x.1 from e.symm]; exact List.mem_map.2 ⟨x, hx, rfl⟩))]
    exact h.zat x (by simp [hx])
  · rw [List.map_cons, List.cons_append, List.nodup_cons, List.nodup_append, List.mem_append]
    refine ⟨fun hm => ?_, n1, n2.2, fun a ha b hb => n3 a ha b (by simp [hb])⟩
    rcases hm with hm | hm
    · exact n3 v hm v (by simp) rfl
    · exact n2.1 hm
  · refine h.out b ?_
    simp only [List.map_cons, List.cons_append, List.mem_cons, List.mem_append] at hb ⊢
    rcases hb with hb | hb | hb
    · exact .inr (.inl hb)
    · exact .inl hb
    · exact .inr (.inr hb)
theorem Held.load {st w : St} {L : List (Nat × PV)} {P : List (Nat × List PV)} {v n : Nat} {y : PV} (h : Held st w L P) (hy : Box n y) (hv : (v, y) ∈ L) : q_load w true n (.ptr v 0) = some y := by
  obtain ⟨cs, rfl, hl, _⟩ := hy
  have := h.got _ hv
  rw [q_load_ptr this]
  show takeV true n (cs.drop 0) = _
  rw [List.drop_zero]
  show (if n ≤ cs.length then some (PV.agg (cs.take n)) else none) = _
  rw [if_pos (by omega), List.take_of_length_le (by omega)]
theorem Held.new {st w : St} {L : List (Nat × PV)} {z : List PV} {n : Nat} {y : PV} {K : PV → St → Prop} (h : Held st w L []) (hy : Box n y) (hz : z.length = n) (hk : ∀ v w', Held st w' ((v, y) :: L) [] → K (.ptr v 0) w') :
    e_alloc w z fun v st => e_store st n v y fun st => K v st :=
  h.alloc fun v w' h' => h'.store hy hz fun w'' h'' => hk v w'' h''
theorem Held.news {st w : St} {L : List (Nat × PV)} {t : Tr} {z : List PV} {K : PV → St → Prop} (h : Held st w L []) (hz : z.length = 4) (hk : ∀ v w', Held st w' ((v, tree t) :: L) [] → K (.ptr v 0) w') :
    e_alloc w z fun v st => e_store st 4 v (tree t) fun st => K v st := h.new (Box.tree t) hz hk
theorem Held.ld {st w : St} {L : List (Nat × PV)} {P : List (Nat × List PV)} {v : Nat} {t : Tr} (h : Held st w L P) (hv : (v, tree t) ∈ L) : q_load w true 4 (.ptr v 0) = some (tree t) := h.load (Box.tree t) hv
theorem Held.two {st w : St} {L : List (Nat × PV)} {s t : Tr} {z : List PV} {K : PV → PV → St → Prop} (h : Held st w L []) (hz : z.length = 4) (hk : ∀ v u w', Held st w' ((u, tree t) :: (v, tree s) :: L) [] → K (.ptr v 0) (.ptr u 0) w') :
    e_alloc w z fun v st => e_alloc st z fun u st => e_store st 4 v (tree s) fun st => e_store st 4 u (tree t) fun st => K v u st :=
  h.alloc fun v w1 h1 => h1.alloc fun u w2 h2 => h2.store (Box.tree s) hz fun w3 h3 => h3.store (Box.tree t) hz fun w4 h4 => hk v u w4 h4
end Go.H
/- Nothing on the way of a small drawn judgement is too big. -/
namespace Go.H
open Go
set_option linter.unusedVariables false
set_option linter.unusedSimpArgs false

theorem NatT.term3 {n : Nat} {t : Tr} (h : NatT n t) : 3 * n + t.size ≤ 300 → t.isTerm false = true := by
  induction h with
  | var h0 h1 => exact fun hs => term_x h0 (by omega)
  | z => exact fun _ => term_const (by rfl) (by simp)
  | s ht ih =>
    intro hs
    rw [size_s] at hs
    exact term_const (by rfl) (by simpa using ih (by omega))
  | @it n t u ht hu iht ihu =>
    intro hs
    rw [size_const] at hs
    simp only [Tr.sizes, List.map_cons, List.map_nil, List.sum_cons, List.sum_nil, size_lam] at hs
    have := u.size_pos
    refine term_const (by rfl) ?_
    simp only [List.forall_mem_cons]
    exact ⟨term_lam' (iht (by omega)), ihu (by omega), by simp⟩
theorem NatT.high {n : Nat} {t : Tr} (h : NatT n t) (hs : 3 * n + t.size ≤ 300) : t.high = false := term_high _ (h.term3 hs)
theorem judged_term {n : Nat} {m a : Tr} (hn : n ≤ 30) (h : JudgedT n m a) (hm : m.size ≤ 150) (ha : a.size ≤ 30) : m.termOK = true := by
  unfold Tr.termOK
  rw [small_of hm, Bool.true_and]
  have step : ∀ {w ks}, nameOK w = true → (∀ x ∈ ks, x.isTerm false = true) → (Tr.const w ks).isTerm false = true := fun h1 h2 => term_const h1 h2
  have cnt : ∀ k : Nat, (cntT k).isTerm false = true := fun k => by
    induction k with
    | zero => exact term_const (by rfl) (by simp)
    | succ k ih => exact term_const (by rfl) (by simpa using ih)
  have lst : ∀ {k : Nat} {t : Tr}, ListT n k t → t.size ≤ 150 → t.isTerm false = true := fun hl => by
    induction hl with
    | nil => exact fun _ => step (by rfl) (by simp)
    | @cons k x t hx ht ih =>
      intro hs
      rw [size_const] at hs
      simp only [Tr.sizes, List.map_cons, List.map_nil, List.sum_cons, List.sum_nil, size_count] at hs
      refine step (by rfl) ?_
      simp only [List.forall_mem_cons]
      exact ⟨cnt k, hx.term3 (by omega), ih (by omega), by simp⟩
  have sm : ∀ {k : Nat} {m t u : Tr}, NatT n m → SumT n m k t u → t.size ≤ 150 → t.isTerm false = true := fun hm hl => by
    induction hl with
    | z =>
      intro hs
      rw [size_const] at hs
      simp only [Tr.sizes, List.map_cons, List.map_nil, List.sum_cons, List.sum_nil] at hs
      exact step (by rfl) (by simpa using hm.term3 (by omega))
    | @s k t u ht ih =>
      intro hs
      rw [size_const] at hs
      simp only [Tr.sizes, List.map_cons, List.map_nil, List.sum_cons, List.sum_nil, size_count] at hs
      refine step (by rfl) ?_
      simp only [List.forall_mem_cons]
      exact ⟨cnt k, hm.term3 (by omega), (ht.nat hm).term3 (by omega), ih (by omega), by simp⟩
  cases h with
  | fn ht => rw [size_lam] at hm; exact term_lam' (ht.term3 (by omega))
  | list hk hl hs => exact lst hl hm
  | sum hk hm' hms hl hs => exact sm hm' hl hm
  | @mk t ht hs =>
    rw [size_const] at hm
    simp only [Tr.sizes, List.map_cons, List.map_nil, List.sum_cons, List.sum_nil, size_lam] at hm
    exact step (by rfl) (by simpa using term_lam' (ht.term3 (by omega)))
  | num ht hs => exact ht.term3 (by omega)
theorem lift_fm (s : List UInt8) (ks : List Tr) : (Tr.fm s ks).lift 0 1 = .fm s (ks.map fun x => x.lift 0 1) := by
  rw [Tr.lift_eq]
  simp only [Tr.fm, Tr.kind, Tr.n, Tr.name, Tr.kids, Tr.under]
  simp [mapIdx_map, W_in (show (-9223372036854775808 : Int) ≤ 0 ∧ (0 : Int) ≤ 9223372036854775807 by omega)]
theorem ListT.lift {n k : Nat} {t : Tr} (hn : n ≤ 1000) (h : ListT n k t) : t.size ≤ 1000 → ListT (n + 1) k (t.lift 0 1) := by
  induction h with
  | nil => intro _; rw [lift_const (by omega)]; exact .nil
  | @cons k x t hx ht ih =>
    intro hs
    rw [size_const] at hs
    simp only [Tr.sizes, List.map_cons, List.map_nil, List.sum_cons, List.sum_nil, size_count] at hs
    rw [lift_const (by omega)]
    simp only [List.map_cons, List.map_nil]
    rw [lift_count (by omega)]
    exact .cons (hx.lift 0 1 (by omega) (by omega) (by omega) (by omega)) (ih (by omega))
theorem SumT.lift {n k : Nat} {m t u : Tr} (hn : n ≤ 1000) (hm : NatT n m) (hms : m.size ≤ 1000) (h : SumT n m k t u) : SumT (n + 1) (m.lift 0 1) k (t.lift 0 1) (u.lift 0 1) := by
  induction h with
  | z =>
    rw [lift_const (by omega)]
    exact .z
  | @s k t u ht ih =>
    rw [lift_const (by omega)]
    simp only [List.map_cons, List.map_nil]
    rw [lift_count (by omega), show (sT u).lift 0 1 = sT (u.lift 0 1) from lift_const (by omega) 1 wS [u]]
    exact .s ih
/-- A drawn judgement is lifted. -/
theorem JudgedT.lift {n : Nat} {m a : Tr} (hn : n ≤ 1000) (h : JudgedT n m a) (ha : a.size ≤ 1000) : JudgedT (n + 1) (m.lift 0 1) (a.lift 0 1) := by
  cases h with
  | @fn t ht hs =>
    rw [lift_lam (by omega)]
    have e : (Tr.pi natF natF).lift 0 1 = .pi natF natF := by kernel_rfl
    rw [e]
    exact .fn (ht.lift 1 1 (by omega) (by omega) (by omega) (by omega)) (by rw [lift_size]; omega)
  | @list k t hk hl hs =>
    have e : (vecF (cntT k)).lift 0 1 = vecF (cntT k) := by
      unfold vecF
      rw [lift_fm]
      simp only [List.map_cons, List.map_nil]
      rw [lift_count (by omega)]
    rw [e]
    exact .list hk (hl.lift hn hs) (by rw [lift_size]; omega)
  | @sum k m' t u hk hm hms hl hs =>
    have e : (plusF (cntT k) m' u).lift 0 1 = plusF (cntT k) (m'.lift 0 1) (u.lift 0 1) := by
      unfold plusF
      rw [lift_fm]
      simp only [List.map_cons, List.map_nil]
      rw [lift_count (by omega)]
    rw [e]
    exact .sum hk (hm.lift 0 1 (by omega) (by omega) (by omega) (by omega)) (by rw [lift_size]; omega) (hl.lift hn hm hms) (by rw [lift_size]; omega)
  | @mk t ht hs =>
    have e : (allF (.lam t)).lift 0 1 = allF (.lam (t.lift 1 1)) := by
      unfold allF
      rw [lift_fm]
      simp only [List.map_cons, List.map_nil]
      rw [lift_lam (by omega)]
      rfl
    rw [e, lift_const (by omega)]
    simp only [List.map_cons, List.map_nil]
    rw [lift_lam (by omega)]
    exact .mk (ht.lift 1 1 (by omega) (by omega) (by omega) (by omega)) (by rw [lift_size]; omega)
  | @num t ht hs =>
    rw [lift_nat]
    exact .num (ht.lift 0 1 (by omega) (by omega) (by omega) (by omega)) (by rw [lift_size]; omega)
end Go.H
/- Terms without some arguments: none left out, or many. -/
namespace Go.H
open Go
set_option linter.unusedVariables false
set_option linter.unusedSimpArgs false

theorem omTs_none {fl : List UInt8 → List Bool} : ∀ (l : List Tr) (bs : List Bool), (∀ x ∈ l, omT fl x [] = (x, [])) → omTs fl bs l [] = (l, [])
  | [], bs, _ => omTs_nil _ _ _
  | x :: r, bs, h => by
    have hx := h x (by simp)
    have hr := fun bs => omTs_none r bs fun y hy => h y (by simp [hy])
    by_cases hb : bs.head? = some true
    · rw [omTs_keep hb (by simp), List.tail_nil, hx]; simp only; rw [hr]
    · rw [omTs_go hb, hx]; simp only; rw [hr]
/-- Without flags nothing is left out. -/
theorem omT_none (fl : List UInt8 → List Bool) : ∀ t : Tr, omT fl t [] = (t, []) := by
  intro t
  induction t using Tr.ind with
  | _ t ih =>
    rw [omT_eq, omTs_none t.kids _ ih]
    simp only
    cases t; rfl
theorem omTs_shape {fl : List UInt8 → List Bool} : ∀ (l : List Tr) (bs o : List Bool), (∀ x ∈ l, ∀ o, x.isTerm false = true → (omT fl x o).1.isTerm true = true ∧ (omT fl x o).1.size ≤ x.size) → (∀ x ∈ l, x.isTerm false = true) →
    (∀ y ∈ (omTs fl bs l o).1, (bs = [] → y.isTerm true = true) ∧ Tr.isArg true y = true) ∧ Tr.sizes (omTs fl bs l o).1 ≤ Tr.sizes l ∧ (omTs fl bs l o).1.length = l.length
  | [], bs, o, _, _ => by rw [omTs_nil]; simp
  | x :: r, bs, o, h, ht => by
    have hx := fun o => h x (by simp) o (ht x (by simp))
    have hr := fun bs o => omTs_shape r bs o (fun y hy => h y (by simp [hy])) (fun y hy => ht y (by simp [hy]))
    have arg : ∀ y : Tr, y.isTerm true = true → Tr.isArg true y = true := fun y hy => by
      unfold Tr.isArg
      split
      · rename_i h8
        rw [Tr.isTerm_eq, if_neg (by omega), if_neg (by omega), if_neg (by omega)] at hy
        cases hy
      · exact hy
    have sz : ∀ (y : Tr) (l : List Tr), Tr.sizes (y :: l) = y.size + Tr.sizes l := fun y l => by simp [Tr.sizes]
    by_cases hb : bs.head? = some true
    · have hbn : bs ≠ [] := fun e => by rw [e] at hb; cases hb
      by_cases ho : o.head? = some true
      · rw [omTs_gap hb ho]
        have := hr bs.tail o.tail
        refine ⟨fun y hy => ?_, ?_, by simp [this.2.2]⟩
        · rcases List.mem_cons.1 hy with rfl | hy
          · exact ⟨fun e => absurd e hbn, by rfl⟩
          · exact ⟨fun e => absurd e hbn, (this.1 y hy).2⟩
        · rw [sz, sz]
          have h1 : gap.size = 1 := by rw [Tr.size_kids]; simp [gap, Tr.kids, Tr.sizes]
          have h2 := Tr.size_kids x
          have := this.2.1
          omega
      · rw [omTs_keep hb ho]
        have := hr bs.tail (omT fl x o.tail).2
        have hx' := hx o.tail
        refine ⟨fun y hy => ?_, ?_, by simp [this.2.2]⟩
        · rcases List.mem_cons.1 hy with rfl | hy
          · exact ⟨fun e => absurd e hbn, arg _ hx'.1⟩
          · exact ⟨fun e => absurd e hbn, (this.1 y hy).2⟩
        · rw [sz, sz]
          have := this.2.1
          omega
    · rw [omTs_go hb]
      have := hr bs.tail (omT fl x o).2
      have hx' := hx o
      refine ⟨fun y hy => ?_, ?_, by simp [this.2.2]⟩
      · rcases List.mem_cons.1 hy with rfl | hy
        · exact ⟨fun _ => hx'.1, arg _ hx'.1⟩
        · exact ⟨fun e => (this.1 y hy).1 (by rw [e]; rfl), (this.1 y hy).2⟩
      · rw [sz, sz]
        have := this.2.1
        omega
/-- What is left is a source, and no larger. -/
theorem omT_source (fl : List UInt8 → List Bool) : ∀ (t : Tr) (o : List Bool), t.isTerm false = true → (omT fl t o).1.isTerm true = true ∧ (omT fl t o).1.size ≤ t.size := by
  intro t
  induction t using Tr.ind with
  | _ t ih =>
    intro o ht
    obtain ⟨h1, h2, h3⟩ := omTs_shape (fl := fl) t.kids (if t.kind = 6 then fl t.name else []) o ih (fun x hx => Tr.kids_lams ht hx)
    rw [omT_eq]
    simp only
    refine ⟨?_, by rw [Tr.size_kids, Tr.size_kids t]; exact Nat.add_le_add_left h2 1⟩
    generalize (omTs fl (if t.kind = 6 then fl t.name else []) t.kids o).1 = ks at h1 h2 h3
    rw [Tr.isTerm_eq] at ht ⊢
    rw [show (Tr.mk t.kind t.n t.name ks).kind = t.kind by rfl, show (Tr.mk t.kind t.n t.name ks).n = t.n by rfl, show (Tr.mk t.kind t.n t.name ks).name = t.name by rfl, show (Tr.mk t.kind t.n t.name ks).kids = ks by rfl]
    have hb : (Tr.mk t.kind t.n t.name ks).bare 1 = t.bare 1 := by unfold Tr.bare; rw [show (Tr.mk t.kind t.n t.name ks).kids = ks by rfl, h3]; rfl
    have hall : ks.all (Tr.isArg true) = true := List.all_eq_true.2 fun y hy => (h1 y hy).2
    rw [hb]
    by_cases h4 : t.kind = 4
    · rw [if_pos h4] at ht ⊢
      rw [Bool.and_eq_true] at ht ⊢
      exact ⟨ht.1, List.all_eq_true.2 fun y hy => (h1 y hy).1 (by rw [if_neg (by omega)])⟩
    · rw [if_neg h4] at ht ⊢
      by_cases h5 : t.kind = 5 ∨ t.kind = 7
      · rw [if_pos h5] at ht ⊢
        rw [Bool.and_eq_true] at ht ⊢
        exact ⟨ht.1, hall⟩
      · rw [if_neg h5] at ht ⊢
        by_cases h6 : t.kind = 6
        · rw [if_pos h6] at ht ⊢
          rw [Bool.and_eq_true] at ht ⊢
          exact ⟨ht.1, hall⟩
        · rw [if_neg h6] at ht; cases ht
end Go.H
/- What is left of a drawn judgement's term has no hole; how many arguments the declared constants take. -/
namespace Go.H
open Go
set_option linter.unusedVariables false
set_option linter.unusedSimpArgs false

theorem free_of {k : Int} {t : Tr} (h : t.kind ≠ k) (hk : ∀ x ∈ t.kids, x.free k = true) : t.free k = true := by
  rw [Tr.free_eq, decide_eq_false h, Bool.not_false, Bool.true_and, List.all_eq_true]
  exact hk
theorem NatT.free {n : Nat} {t : Tr} (h : NatT n t) : t.free 7 = true := by
  induction h with
  | var => exact free_of (by simp [xT, Tr.var, Tr.kind]) (by simp [xT, Tr.var, Tr.kids])
  | z => exact free_of (by simp [zT, Tr.const, Tr.kind]) (by simp [zT, Tr.const, Tr.kids])
  | s ht ih => exact free_of (by simp [sT, Tr.const, Tr.kind]) (by simpa [sT, Tr.const, Tr.kids] using ih)
  | it ht hu i1 i2 => exact free_of (by simp [Tr.const, Tr.kind]) (by
      simp only [Tr.const, Tr.kids, List.forall_mem_cons]
      exact ⟨free_of (by simp [Tr.lam, Tr.kind]) (by simpa [Tr.lam, Tr.kids] using i1), i2, by simp⟩)
theorem ListT.free {n k : Nat} {t : Tr} (h : ListT n k t) : t.free 7 = true := by
  induction h with
  | nil => exact free_of (by simp [Tr.const, Tr.kind]) (by simp [Tr.const, Tr.kids])
  | @cons k x t hx ht ih => exact free_of (by simp [Tr.const, Tr.kind]) (by
      simp only [Tr.const, Tr.kids, List.forall_mem_cons]
      exact ⟨(cntT_nat n k).free, hx.free, ih, by simp⟩)
theorem SumT.free {n k : Nat} {m t u : Tr} (hm : NatT n m) (h : SumT n m k t u) : t.free 7 = true := by
  induction h with
  | z => exact free_of (by simp [Tr.const, Tr.kind]) (by simpa [Tr.const, Tr.kids] using hm.free)
  | @s k t u ht ih => exact free_of (by simp [Tr.const, Tr.kind]) (by
      simp only [Tr.const, Tr.kids, List.forall_mem_cons]
      exact ⟨(cntT_nat n k).free, hm.free, (ht.nat hm).free, ih, by simp⟩)
theorem judged_free {n : Nat} {m a : Tr} (h : JudgedT n m a) : m.free 7 = true := by
  cases h with
  | fn ht => exact free_of (by simp [Tr.lam, Tr.kind]) (by simpa [Tr.lam, Tr.kids] using ht.free)
  | list hk hl hs => exact hl.free
  | sum hk hm hms hl hs => exact hl.free hm
  | mk ht hs => exact free_of (by simp [Tr.const, Tr.kind]) (by
      simp only [Tr.const, Tr.kids, List.forall_mem_cons]
      exact ⟨free_of (by simp [Tr.lam, Tr.kind]) (by simpa [Tr.lam, Tr.kids] using ht.free), by simp⟩)
  | num ht hs => exact ht.free
theorem omTs_free {fl : List UInt8 → List Bool} : ∀ (l : List Tr) (bs o : List Bool), (∀ x ∈ l, x.free 7 = true) → (∀ x ∈ l, ∀ o, (omT fl x o).1.free 7 = true) → ∀ y ∈ (omTs fl bs l o).1, y.free 7 = true
  | [], bs, o, _, _ => by rw [omTs_nil]; simp
  | x :: r, bs, o, h, hx => by
    have hr := fun bs o => omTs_free (fl := fl) r bs o (fun y hy => h y (by simp [hy])) (fun y hy => hx y (by simp [hy]))
    have hg : gap.free 7 = true := by kernel_rfl
    rw [omTs]
    split
    · intro y hy
      rcases List.mem_cons.1 hy with rfl | hy
      · exact hg
      · exact hr _ _ y hy
    · intro y hy
      rcases List.mem_cons.1 hy with rfl | hy
      · exact hx x (by simp) _
      · exact hr _ _ y hy
theorem omT_free (fl : List UInt8 → List Bool) : ∀ (t : Tr) (o : List Bool), t.free 7 = true → (omT fl t o).1.free 7 = true := by
  intro t
  induction t using Tr.ind with
  | _ t ih =>
    intro o h
    rw [Tr.free_eq, Bool.and_eq_true, List.all_eq_true] at h
    rw [omT_eq]
    refine free_of (by simpa using h.1) ?_
    rw [Tr.kids_mk]
    exact omTs_free t.kids _ o h.2 (fun x hx o => ih x hx o (h.2 x hx))
/-- A family takes so many arguments. -/
inductive PiN : Nat → Tr → Prop
  | z {t : Tr} : t.kind ≠ 2 → PiN 0 t
  | s {k : Nat} {a b : Tr} : PiN k b → PiN (k + 1) (.pi a b)
theorem numbers_sig : sigOKT numbersL = true := by kernel_rfl
def TakesR (d : Dc) : Prop := d.fam = true ∨ (d.fam = false ∧ ∃ k a, k ≤ 4 ∧ PiN k d.type ∧ declaredT numbersL d.name false = some a ∧ (omitB a).length = k ∧ d.name.length ≤ 10)
theorem numbers_pi : ∀ d ∈ numbersL, TakesR d := by
  intro d hd
  simp only [numbersL, List.mem_cons, List.not_mem_nil, or_false] at hd
  rcases hd with rfl | rfl | rfl | rfl | rfl | rfl | rfl | rfl | rfl | rfl | rfl | rfl
  · exact .inl rfl
  · exact .inr ⟨rfl, 0, natF, by omega, .z (by decide), by kernel_rfl, by kernel_rfl, by decide⟩
  · exact .inr ⟨rfl, 1, .pi natF natF, by omega, .s (.z (by decide)), by kernel_rfl, by kernel_rfl, by decide⟩
  · exact .inl rfl
  · exact .inr ⟨rfl, 0, vecF zT, by omega, .z (by decide), by kernel_rfl, by kernel_rfl, by decide⟩
  · exact .inr ⟨rfl, 3, .pi natF (.pi natF (.pi (vecF (xT 1)) (vecF (sT (xT 2))))), by omega, .s (.s (.s (.z (by decide)))), by kernel_rfl, by kernel_rfl, by decide⟩
  · exact .inl rfl
  · exact .inr ⟨rfl, 1, .pi natF (plusF zT (xT 0) (xT 0)), by omega, .s (.z (by decide)), by kernel_rfl, by kernel_rfl, by decide⟩
  · exact .inr ⟨rfl, 4, .pi natF (.pi natF (.pi natF (.pi (plusF (xT 2) (xT 1) (xT 0)) (plusF (sT (xT 3)) (xT 2) (sT (xT 1)))))), by omega, .s (.s (.s (.s (.z (by decide))))), by kernel_rfl, by kernel_rfl, by decide⟩
  · exact .inr ⟨rfl, 2, .pi (.pi natF natF) (.pi natF natF), by omega, .s (.s (.z (by decide))), by kernel_rfl, by kernel_rfl, by decide⟩
  · exact .inl rfl
  · exact .inr ⟨rfl, 1, .pi (.pi natF natF) (allF (.lam (.var 1 [xT 0]))), by omega, .s (.z (by decide)), by kernel_rfl, by kernel_rfl, by decide⟩
end Go.H
