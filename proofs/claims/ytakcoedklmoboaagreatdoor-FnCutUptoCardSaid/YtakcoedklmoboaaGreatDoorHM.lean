/- Part of a proof that the program answers as the reference does: HPure44, HPure24, HPure25, HPure23, HPure26, HPure27, HPure28, HPure29, HPure30, HPure32, HHeld, HFm, HPure33, HPure34, HPure43, HPure35, HPure36, HPure37, HPure38, HPure45, HHeldS, HWalk, HFreeze, HPure48, HPure49. -/
import Derived.Test.YtakcoedklmoboaaGreatDoorHP
/- The signatures of the logic and of the calculus. -/
namespace Go.H
open Go
set_option linter.unusedVariables false

def tx (n : Int) : Tr := .var n []
end Go.H
/- Substitution into what applies no variable: no step is done. -/
namespace Go.H
open Go
set_option linter.unusedVariables false
set_option linter.unusedSimpArgs false

/-- No variable is applied to anything. -/
inductive Flat : Tr → Prop
  | of (t : Tr) : (t.kind = 5 → t.kids = []) → (∀ x ∈ t.kids, Flat x) → Flat t
theorem Flat.bare {t : Tr} (h : Flat t) : t.kind = 5 → t.kids = [] := by cases h; assumption
theorem Flat.kids {t : Tr} (h : Flat t) : ∀ x ∈ t.kids, Flat x := by cases h; assumption
/-- A tree is put for a variable, and nothing is made normal. -/
def sbT (m t : Tr) (n : Int) : Tr :=
  if t.kind = 5 ∧ t.n = n then m.lift 0 n else .mk t.kind (if t.kind = 5 ∧ n < t.n then W (t.n - 1) else t.n) t.name (t.kids.attach.mapIdx fun i x => sbT m x.1 (W (n + t.under i)))
termination_by SizeOf.sizeOf t
decreasing_by exact Tr.kids_lt x.2
theorem sbT_eq (m t : Tr) (n : Int) : sbT m t n = if t.kind = 5 ∧ t.n = n then m.lift 0 n else .mk t.kind (if t.kind = 5 ∧ n < t.n then W (t.n - 1) else t.n) t.name (t.kids.mapIdx fun i x => sbT m x (W (n + t.under i))) := by
  rw [sbT, attach_mapIdx t.kids (fun i x => sbT m x (W (n + t.under i)))]
theorem kidsT_flat {f : Nat → Tr → Int → (Int ⊕ Tr) × Int} {g : Nat → Tr → Tr} : ∀ (l : List Tr) (i : Nat) (s : Int), (∀ (j : Nat) (x : Tr), x ∈ l → f j x s = (.inr (g j x), s) ∨ f j x s = (.inl 11, s)) →
    kidsT f i l s = (.inr (l.mapIdx fun j x => g (i + j) x), s) ∨ kidsT f i l s = (.inl 11, s)
  | [], _, _, _ => .inl rfl
  | x :: r, i, s, h => by
    unfold kidsT
    rcases h i x (by simp) with h1 | h1
    · rw [h1]
      simp only
      rcases kidsT_flat (g := g) r (i + 1) s (fun j y hy => h j y (by simp [hy])) with h2 | h2
      · rw [h2]
        refine .inl ?_
        rw [List.mapIdx_cons]
        simp only [Nat.add_zero]
        congr 3
        congr 1
        funext j y
        rw [show i + 1 + j = i + (j + 1) by omega]
      · rw [h2]; exact .inr rfl
    · rw [h1]; exact .inr rfl
theorem subT_flat : ∀ (N : Nat) (m a t : Tr) (n s : Int), Flat t → t.size ≤ N → subT N m a t n s = (.inr (sbT m t n), s) ∨ subT N m a t n s = (.inl 11, s)
  | 0, m, a, t, n, s, _, hN => absurd hN (by rw [Tr.size_kids]; omega)
  | N + 1, m, a, t, n, s, hf, hN => by
    have hk := kidsT_flat (f := fun i x s => subT N m a x (W (n + t.under i)) s) (g := fun i x => sbT m x (W (n + t.under i))) t.kids 0 s (fun j x hx => subT_flat N m a x _ s (hf.kids x hx) (by
      have := Tr.kid_size hx
      omega))
    unfold subT
    rcases hk with h | h
    · rw [h]
      simp only
      by_cases hv : t.kind = 5 ∧ t.n = n
      · rw [if_pos hv, sbT_eq, if_pos hv]
        by_cases hb : (m.lift 0 n).big = true
        · rw [if_pos hb]; exact .inr rfl
        · rw [if_neg hb, hf.bare hv.1]
          simp only [List.mapIdx_nil, redT]
          exact .inl trivial
      · rw [if_neg hv, sbT_eq, if_neg hv]
        simp only [Nat.zero_add]
        by_cases hb : (Tr.mk t.kind (if t.kind = 5 ∧ n < t.n then W (t.n - 1) else t.n) t.name (t.kids.mapIdx fun i x => sbT m x (W (n + t.under i)))).big = true
        · rw [if_pos hb]; exact .inr rfl
        · rw [if_neg hb]; exact .inl rfl
    · rw [h]; exact .inr rfl
end Go.H
/- Lifting and putting of flat trees: one takes the other back. -/
namespace Go.H
open Go
set_option linter.unusedVariables false
set_option linter.unusedSimpArgs false

/-- No variable is applied to anything; their numbers are small. -/
inductive FlatN : Tr → Prop
  | of (t : Tr) : (t.kind = 5 → t = Tr.var t.n [] ∧ 0 ≤ t.n ∧ t.n ≤ 1000000) → (∀ x ∈ t.kids, FlatN x) → FlatN t
theorem FlatN.v {t : Tr} (h : FlatN t) : t.kind = 5 → t = Tr.var t.n [] ∧ 0 ≤ t.n ∧ t.n ≤ 1000000 := by cases h; assumption
theorem FlatN.kids {t : Tr} (h : FlatN t) : ∀ x ∈ t.kids, FlatN x := by cases h; assumption
theorem FlatN.flat {t : Tr} : FlatN t → Flat t := by
  induction t using Tr.ind with
  | _ t ih => exact fun h => Flat.of t (fun h5 => by rw [(h.v h5).1]; rfl) (fun x hx => ih x hx (h.kids x hx))
theorem lift_var (n f b : Int) : (Tr.var n []).lift f b = Tr.var (if f ≤ n then W (n + b) else n) [] := by
  rw [Tr.lift_eq]; simp [Tr.var, Tr.kind, Tr.n, Tr.name, Tr.kids]
theorem sbT_var (m : Tr) (k n : Int) : sbT m (Tr.var k []) n = if k = n then m.lift 0 n else Tr.var (if n < k then W (k - 1) else k) [] := by
  rw [sbT_eq]; simp [Tr.var, Tr.kind, Tr.n, Tr.name, Tr.kids]
end Go.H
/- What stands ahead of a context changes no check in it. -/
namespace Go.H
open Go
set_option linter.unusedVariables false
set_option linter.unusedSimpArgs false

end Go.H
/- The drawn judgements: numbers, lists, sums. They stand, if nothing is too big. -/
namespace Go.H
open Go
set_option linter.unusedVariables false
set_option linter.unusedSimpArgs false

def Tr.fm (s : List UInt8) (ks : List Tr) : Tr := .mk 3 0 s ks
def Tr.pi (a b : Tr) : Tr := .mk 2 0 [] [a, b]
def Tr.typ : Tr := .mk 1 0 [] []
def wNat : List UInt8 := [110, 97, 116]
def wZ : List UInt8 := [122]
def wS : List UInt8 := [115]
def wVec : List UInt8 := [118, 101, 99]
def wNil : List UInt8 := [110, 105, 108]
def wCons : List UInt8 := [99, 111, 110, 115]
def wPlus : List UInt8 := [112, 108, 117, 115]
def wPz : List UInt8 := [112, 122]
def wPs : List UInt8 := [112, 115]
def wIt : List UInt8 := [105, 116]
def wAll : List UInt8 := [97, 108, 108]
def wMk : List UInt8 := [109, 107]
def natF : Tr := .fm wNat []
def zT : Tr := .const wZ []
def sT (t : Tr) : Tr := .const wS [t]
def xT (n : Int) : Tr := .var n []
def vecF (k : Tr) : Tr := .fm wVec [k]
def plusF (a b c : Tr) : Tr := .fm wPlus [a, b, c]
def allF (f : Tr) : Tr := .fm wAll [f]
/-- The signature of numbers, lists that know how long they are, and sums. -/
def numbersL : List Dc :=
  [⟨wNat, true, .typ⟩, ⟨wZ, false, natF⟩, ⟨wS, false, .pi natF natF⟩, ⟨wVec, true, .pi natF .typ⟩, ⟨wNil, false, vecF zT⟩,
   ⟨wCons, false, .pi natF (.pi natF (.pi (vecF (xT 1)) (vecF (sT (xT 2)))))⟩, ⟨wPlus, true, .pi natF (.pi natF (.pi natF .typ))⟩,
   ⟨wPz, false, .pi natF (plusF zT (xT 0) (xT 0))⟩,
   ⟨wPs, false, .pi natF (.pi natF (.pi natF (.pi (plusF (xT 2) (xT 1) (xT 0)) (plusF (sT (xT 3)) (xT 2) (sT (xT 1))))))⟩,
   ⟨wIt, false, .pi (.pi natF natF) (.pi natF natF)⟩, ⟨wAll, true, .pi (.pi natF natF) .typ⟩,
   ⟨wMk, false, .pi (.pi natF natF) (allF (.lam (.var 1 [xT 0])))⟩]
/-- A number in a context of so many numbers. -/
inductive NatT : Nat → Tr → Prop
  | var {n : Nat} {i : Int} : 0 ≤ i → i < n → NatT n (xT i)
  | z {n : Nat} : NatT n zT
  | s {n : Nat} {t : Tr} : NatT n t → NatT n (sT t)
  | it {n : Nat} {t u : Tr} : NatT (n + 1) t → NatT n u → NatT n (.const wIt [.lam t, u])
def cntT : Nat → Tr
  | 0 => zT
  | k + 1 => sT (cntT k)
inductive ListT (n : Nat) : Nat → Tr → Prop
  | nil : ListT n 0 (.const wNil [])
  | cons {k : Nat} {x t : Tr} : NatT n x → ListT n k t → ListT n (k + 1) (.const wCons [cntT k, x, t])
inductive SumT (n : Nat) (m : Tr) : Nat → Tr → Tr → Prop
  | z : SumT n m 0 (.const wPz [m]) m
  | s {k : Nat} {t u : Tr} : SumT n m k t u → SumT n m (k + 1) (.const wPs [cntT k, m, u, t]) (sT u)
/-- A drawn term with its family, in a context of so many numbers. -/
inductive JudgedT (n : Nat) : Tr → Tr → Prop
  | fn {t : Tr} : NatT (n + 1) t → t.size ≤ 1000 → JudgedT n (.lam t) (.pi natF natF)
  | list {k : Nat} {t : Tr} : k ≤ 1000 → ListT n k t → t.size ≤ 1000 → JudgedT n t (vecF (cntT k))
  | sum {k : Nat} {m t u : Tr} : k ≤ 1000 → NatT n m → m.size ≤ 1000 → SumT n m k t u → t.size ≤ 1000 → JudgedT n t (plusF (cntT k) m u)
  | mk {t : Tr} : NatT (n + 1) t → t.size ≤ 1000 → JudgedT n (.const wMk [.lam t]) (allF (.lam t))
  | num {t : Tr} : NatT n t → t.size ≤ 1000 → JudgedT n t natF

/-! ### What is put into the signature's families -/
theorem mapIdx_map {α β : Type} (f : α → β) (l : List α) : (l.mapIdx fun _ x => f x) = l.map f := by
  induction l with
  | nil => rfl
  | cons x r ih => rw [List.mapIdx_cons, ih]; rfl
section
variable {n : Int} (h : 0 ≤ n ∧ n ≤ 1000000000)
include h
theorem sbT_fm (m : Tr) (s : List UInt8) (ks : List Tr) : sbT m (.fm s ks) n = .fm s (ks.map fun x => sbT m x n) := by
  rw [sbT_eq]
  simp only [Tr.fm, Tr.kind, Tr.n, Tr.name, Tr.kids, Tr.under]
  simp [W_in (show -9223372036854775808 ≤ n ∧ n ≤ 9223372036854775807 by omega), mapIdx_map]
theorem sbT_const (m : Tr) (s : List UInt8) (ks : List Tr) : sbT m (.const s ks) n = .const s (ks.map fun x => sbT m x n) := by
  rw [sbT_eq]
  simp only [Tr.const, Tr.kind, Tr.n, Tr.name, Tr.kids, Tr.under]
  simp [W_in (show -9223372036854775808 ≤ n ∧ n ≤ 9223372036854775807 by omega), mapIdx_map]
theorem sbT_lam (m t : Tr) : sbT m (.lam t) n = .lam (sbT m t (n + 1)) := by
  rw [sbT_eq]
  simp only [Tr.lam, Tr.kind, Tr.n, Tr.name, Tr.kids, Tr.under]
  simp [W_in (show -9223372036854775808 ≤ n + 1 ∧ n + 1 ≤ 9223372036854775807 by omega)]
theorem sbT_pi (m a b : Tr) : sbT m (.pi a b) n = .pi (sbT m a n) (sbT m b (n + 1)) := by
  rw [sbT_eq]
  simp only [Tr.pi, Tr.kind, Tr.n, Tr.name, Tr.kids, Tr.under]
  simp [W_in (show -9223372036854775808 ≤ n ∧ n ≤ 9223372036854775807 by omega), W_in (show -9223372036854775808 ≤ n + 1 ∧ n + 1 ≤ 9223372036854775807 by omega)]
theorem lift_const (b : Int) (s : List UInt8) (ks : List Tr) : (Tr.const s ks).lift n b = .const s (ks.map fun x => x.lift n b) := by
  rw [Tr.lift_eq]
  simp only [Tr.const, Tr.kind, Tr.n, Tr.name, Tr.kids, Tr.under]
  simp [W_in (show -9223372036854775808 ≤ n ∧ n ≤ 9223372036854775807 by omega), mapIdx_map]
theorem lift_lam (b : Int) (t : Tr) : (Tr.lam t).lift n b = .lam (t.lift (n + 1) b) := by
  rw [Tr.lift_eq]
  simp only [Tr.lam, Tr.kind, Tr.n, Tr.name, Tr.kids, Tr.under]
  simp [W_in (show -9223372036854775808 ≤ n + 1 ∧ n + 1 ≤ 9223372036854775807 by omega)]
theorem sbT_count (m : Tr) (k : Nat) : sbT m (cntT k) n = cntT k := by
  induction k with
  | zero => unfold cntT zT; rw [sbT_const h]; rfl
  | succ k ih => unfold cntT sT; rw [sbT_const h]; simp [ih]
theorem lift_count (b : Int) (k : Nat) : (cntT k).lift n b = cntT k := by
  induction k with
  | zero => unfold cntT zT; rw [lift_const h]; rfl
  | succ k ih => unfold cntT sT; rw [lift_const h]; simp [ih]
end
theorem NatT.more {n m : Nat} {t : Tr} (h : NatT n t) (hm : n ≤ m) : NatT m t := by
  induction h generalizing m with
  | var h0 h1 => exact .var h0 (by omega)
  | z => exact .z
  | s _ ih => exact .s (ih hm)
  | it _ _ i1 i2 => exact .it (i1 (by omega)) (i2 hm)
end Go.H
/- The drawn judgements stand, if nothing is too big. -/
namespace Go.H
open Go
set_option linter.unusedVariables false
set_option linter.unusedSimpArgs false

/-- Done, with no step more, or too big. -/
def Out {α : Type} (r : (Fz ⊕ α) × Int) (x : α) (s : Int) : Prop := r = (.inr x, s) ∨ ∃ q, r = (.inl (11, q), s)
theorem flat_fm {s : List UInt8} {ks : List Tr} (h : ∀ x ∈ ks, Flat x) : Flat (.fm s ks) := Flat.of _ (fun h => by simp [Tr.fm, Tr.kind] at h) (by simpa [Tr.fm, Tr.kids] using h)
theorem flat_const {s : List UInt8} {ks : List Tr} (h : ∀ x ∈ ks, Flat x) : Flat (.const s ks) := Flat.of _ (fun h => by simp [Tr.const, Tr.kind] at h) (by simpa [Tr.const, Tr.kids] using h)
theorem flat_pi {a b : Tr} (ha : Flat a) (hb : Flat b) : Flat (.pi a b) := Flat.of _ (fun h => by simp [Tr.pi, Tr.kind] at h) (by simp [Tr.pi, Tr.kids, ha, hb])
theorem flat_lam {t : Tr} (ha : Flat t) : Flat (.lam t) := Flat.of _ (fun h => by simp [Tr.lam, Tr.kind] at h) (by simp [Tr.lam, Tr.kids, ha])
theorem flat_x (n : Int) : Flat (xT n) := Flat.of _ (fun _ => rfl) (fun x hx => by simp [xT, Tr.var, Tr.kids] at hx)
theorem flat_nat : Flat natF := flat_fm (by simp)
theorem flat_z : Flat zT := flat_const (by simp)
theorem flat_s {t : Tr} (h : Flat t) : Flat (sT t) := flat_const (by simpa using h)
theorem flat_count : ∀ k, Flat (cntT k)
  | 0 => flat_z
  | k + 1 => flat_s (flat_count k)
theorem size_fm (s : List UInt8) (ks : List Tr) : (Tr.fm s ks).size = 1 + Tr.sizes ks := by rw [Tr.size_kids]; rfl
theorem size_const (s : List UInt8) (ks : List Tr) : (Tr.const s ks).size = 1 + Tr.sizes ks := by rw [Tr.size_kids]; rfl
theorem size_pi (a b : Tr) : (Tr.pi a b).size = 1 + (a.size + b.size) := by rw [Tr.size_kids]; simp [Tr.pi, Tr.kids, Tr.sizes]
theorem size_lam (a : Tr) : (Tr.lam a).size = 1 + a.size := by rw [Tr.size_kids]; simp [Tr.lam, Tr.kids, Tr.sizes]
theorem size_nat : natF.size = 1 := by unfold natF; rw [size_fm]; rfl
theorem size_z : zT.size = 1 := by unfold zT; rw [size_const]; rfl
theorem size_s (t : Tr) : (sT t).size = 1 + t.size := by unfold sT; rw [size_const]; simp [Tr.sizes]
theorem size_count : ∀ k, (cntT k).size = k + 1
  | 0 => size_z
  | k + 1 => by unfold cntT; rw [size_s, size_count k]; omega
section
variable {n : Int} (h : 0 ≤ n ∧ n ≤ 1000000000)
include h
theorem sb_nat (m : Tr) : sbT m natF n = natF := by unfold natF; rw [sbT_fm h]; rfl
theorem sb_s (m t : Tr) : sbT m (sT t) n = sT (sbT m t n) := by unfold sT; rw [sbT_const h]; rfl
theorem sb_z (m : Tr) : sbT m zT n = zT := by unfold zT; rw [sbT_const h]; rfl
theorem lift_s (b : Int) (t : Tr) : (sT t).lift n b = sT (t.lift n b) := by unfold sT; rw [lift_const h]; rfl
end
theorem leftC_flat {t a : Tr} {p s : Int} (hf : Flat (a.kid 1)) (hs : (a.kid 1).size ≤ 100000000) : Out (leftC t a p s) (sbT t (a.kid 1) 0) s := by
  unfold leftC
  rcases subT_flat 100000000 t (eraseT (a.kid 0)) (a.kid 1) 0 s hf hs with h | h
  · rw [h]; exact .inl rfl
  · rw [h]; exact .inr ⟨p, rfl⟩
theorem argsC_pi {f : Tr → Tr → Int → Int → (Fz ⊕ Unit) × Int} {x : Tr} {r : List Tr} {A B c : Tr} {p s : Int} (hf : Out (f x A p s) () s) (hB : Flat B) (hs : B.size ≤ 100000000)
    (hr : ∀ p', Out (argsC f r (sbT x B 0) p' s) c s) : Out (argsC f (x :: r) (.pi A B) p s) c s := by
  unfold argsC
  rw [if_pos (by rfl), show (Tr.pi A B).kid 0 = A by rfl]
  rcases hf with h | ⟨q, h⟩
  · rw [h]
    simp only
    rcases leftC_flat (t := x) (a := .pi A B) (p := p) (s := s) hB hs with h2 | ⟨q, h2⟩
    · rw [h2]; exact hr _
    · rw [h2]; exact .inr ⟨q, rfl⟩
  · rw [h]; exact .inr ⟨q, rfl⟩
theorem argsC_end (f : Tr → Tr → Int → Int → (Fz ⊕ Unit) × Int) (a : Tr) (p s : Int) : Out (argsC f [] a p s) a s := .inl rfl
def ctxN (n : Nat) : List Tr := List.replicate n natF
theorem ctxN_more (n : Nat) : ctxN n ++ [natF] = ctxN (n + 1) := List.replicate_succ'.symm
theorem foundC_const {f : Tr → Tr → Int → Int → (Fz ⊕ Unit) × Int} {ctx : List Tr} {w : List UInt8} {ks : List Tr} {A c : Tr} {p s : Int} (hd : declaredT numbersL w false = some A) (hc : c.kind = 3) (ha : ∀ p', Out (argsC f ks A p' s) c s) :
    Out (foundC f numbersL ctx (.const w ks) p s) c s := by
  unfold foundC
  have h1 : headC numbersL ctx (.const w ks) = .inr A := by
    unfold headC
    rw [if_neg (show ¬ (Tr.const w ks).kind = 5 by simp [Tr.const, Tr.kind]), if_pos (show (Tr.const w ks).kind = 6 by rfl), show (Tr.const w ks).name = w by rfl, hd]
  rw [h1, show (Tr.const w ks).kids = ks by rfl]
  simp only
  rcases ha (p + 1) with h | ⟨q, h⟩
  · rw [h]; simp only; rw [if_pos hc]; exact .inl rfl
  · rw [h]; exact .inr ⟨q, rfl⟩
theorem termC_found {sig : List Dc} {m : Nat} {ctx : List Tr} {t a : Tr} {p s : Int} (h4 : t.kind ≠ 4) (h2 : a.kind ≠ 2) (h : ∀ m', Out (foundC (termC sig m' ctx) sig ctx t p s) a s) : Out (termC sig m ctx t a p s) () s := by
  cases m with
  | zero => exact .inl rfl
  | succ m =>
    unfold termC
    rw [if_neg h4, if_neg h2]
    rcases h m with h | ⟨q, h⟩
    · rw [h]; simp only; rw [if_pos trivial]; exact .inl rfl
    · rw [h]; exact .inr ⟨q, rfl⟩
theorem lift_nat (f b : Int) : natF.lift f b = natF := by
  unfold natF Tr.fm
  rw [Tr.lift_eq]
  simp [Tr.kind, Tr.n, Tr.name, Tr.kids]
theorem found_var {f : Tr → Tr → Int → Int → (Fz ⊕ Unit) × Int} {n : Nat} {i : Int} (h0 : 0 ≤ i) (h1 : i < n) (p s : Int) : Out (foundC f numbersL (ctxN n) (xT i) p s) natF s := by
  unfold foundC
  have e1 : ((ctxN n)[(((ctxN n).length : Int) - 1 - (xT i).n).toNat]?).getD noTree = natF := by
    unfold ctxN
    rw [List.length_replicate, List.getElem?_replicate, if_pos (by show ((n : Int) - 1 - i).toNat < n; omega)]
    rfl
  have hh : headC numbersL (ctxN n) (xT i) = .inr natF := by
    unfold headC
    rw [if_pos (by rfl), e1, lift_nat, if_neg (by show ¬ i ≥ ((ctxN n).length : Int); unfold ctxN; rw [List.length_replicate]; omega), if_neg (by rw [show natF.big = false by kernel_rfl]; decide)]
  rw [hh, show (xT i).kids = [] by rfl]
  exact .inl rfl
/-- A number is a number. -/
theorem found_nat {n : Nat} {t : Tr} (h : NatT n t) : ∀ (M : Nat) (p s : Int), Out (foundC (termC numbersL M (ctxN n)) numbersL (ctxN n) t p s) natF s ∧ t.kind ≠ 4 := by
  induction h with
  | var h0 h1 => exact fun M p s => ⟨found_var h0 h1 p s, by simp [xT, Tr.var, Tr.kind]⟩
  | z => exact fun M p s => ⟨foundC_const (A := natF) rfl rfl fun p' => argsC_end _ _ _ _, by simp [zT, Tr.const, Tr.kind]⟩
  | @s n t ht ih =>
    refine fun M p s => ⟨foundC_const (A := .pi natF natF) rfl rfl fun p' => ?_, by simp [sT, Tr.const, Tr.kind]⟩
    refine argsC_pi (termC_found (ih 0 0 0).2 (by decide) fun m' => (ih m' _ _).1) flat_nat (by rw [size_nat]; omega) fun p2 => ?_
    rw [sb_nat (by omega)]
    exact argsC_end _ _ _ _
  | @it n t u ht hu iht ihu =>
    refine fun M p s => ⟨foundC_const (A := .pi (.pi natF natF) (.pi natF natF)) rfl rfl fun p' => ?_, by simp [Tr.const, Tr.kind]⟩
    refine argsC_pi ?_ (flat_pi flat_nat flat_nat) (by rw [size_pi, size_nat]; omega) fun p2 => ?_
    · cases M with
      | zero => exact .inl rfl
      | succ M =>
        unfold termC
        rw [if_pos (by rfl), if_pos (by rfl), show (Tr.pi natF natF).kid 0 = natF by rfl, show (Tr.pi natF natF).kid 1 = natF by rfl, show (Tr.lam t).kid 0 = t by rfl, ctxN_more]
        exact termC_found (iht 0 0 0).2 (by decide) fun m' => (iht m' _ _).1
    · rw [sbT_pi (by omega), sb_nat (by omega), sb_nat (by omega)]
      refine argsC_pi (termC_found (ihu 0 0 0).2 (by decide) fun m' => (ihu m' _ _).1) flat_nat (by rw [size_nat]; omega) fun p3 => ?_
      rw [sb_nat (by omega)]
      exact argsC_end _ _ _ _
theorem NatT.flat' {n : Nat} {t : Tr} (h : NatT n t) : Flat t := by
  induction h with
  | var => exact flat_x _
  | z => exact flat_z
  | s _ ih => exact flat_s ih
  | it _ _ i1 i2 => exact flat_const (by simp [i2, flat_lam i1])
theorem SumT.nat {n k : Nat} {m t u : Tr} (hm : NatT n m) (h : SumT n m k t u) : NatT n u := by
  induction h with
  | z => exact hm
  | s _ ih => exact .s ih
end Go.H
/- The drawn judgements stand: all of them; and no other drawn family is right for a term. -/
namespace Go.H
open Go
set_option linter.unusedVariables false
set_option linter.unusedSimpArgs false

/-- Done, or too big. -/
def Fin {α : Type} (r : (Fz ⊕ α) × Int) (x : α) : Prop := r.1 = .inr x ∨ ∃ q, r.1 = .inl (11, q)
theorem Out.fin {α : Type} {r : (Fz ⊕ α) × Int} {x : α} {s : Int} (h : Out r x s) : Fin r x := by
  rcases h with h | ⟨q, h⟩
  · exact .inl (by rw [h])
  · exact .inr ⟨q, by rw [h]⟩
theorem ListT.kind {n k : Nat} {t : Tr} (h : ListT n k t) : t.kind = 6 := by cases h <;> rfl
theorem SumT.kind {n k : Nat} {m t u : Tr} (h : SumT n m k t u) : t.kind = 6 := by cases h <;> rfl
theorem NatT.kind {n : Nat} {t : Tr} (h : NatT n t) : t.kind ≠ 4 := (found_nat h 0 0 0).2
end Go.H
/- How deep a check may go at most does not count where it is deep enough; what is put into a drawn judgement leaves one. -/
namespace Go.H
open Go
set_option linter.unusedVariables false
set_option linter.unusedSimpArgs false

/-! ### What is put for a number -/
theorem NatT.lift {n : Nat} {t : Tr} (h : NatT n t) : ∀ (d b : Nat), n ≤ 1000000 → b ≤ 1000000 → d ≤ n → n + t.size ≤ 1000000 → NatT (n + b) (t.lift d b) := by
  induction h with
  | @var n i h0 h1 =>
    intro d b hn hb hd hs
    unfold xT
    rw [lift_var]
    split
    · rw [W_in (by omega)]; exact NatT.var (by omega) (by omega)
    · exact NatT.var h0 (by omega)
  | z => intro d b hn hb hd hs; unfold zT; rw [lift_const (by omega)]; exact NatT.z
  | @s n t ht ih =>
    intro d b hn hb hd hs
    rw [size_s] at hs
    rw [lift_s (by omega)]; exact NatT.s (ih d b hn hb hd (by omega))
  | @it n t u ht hu iht ihu =>
    intro d b hn hb hd hs
    rw [size_const] at hs
    simp only [Tr.sizes, List.map_cons, List.map_nil, List.sum_cons, List.sum_nil, size_lam] at hs
    rw [lift_const (by omega)]
    simp only [List.map_cons, List.map_nil]
    rw [lift_lam (by omega)]
    refine NatT.it ?_ (ihu d b hn hb hd (by omega))
    have := iht (d + 1) b (by omega) hb (by omega) (by omega)
    rw [show n + 1 + b = n + b + 1 by omega] at this
    exact this
theorem NatT.sb {u : Tr} {N : Nat} {t : Tr} (h : NatT N t) : ∀ (d k : Nat), N = k + 1 + d → NatT k u → u.size ≤ 1000 → N + t.size ≤ 100000 → NatT (k + d) (sbT u t d) := by
  induction h with
  | @var n i h0 h1 =>
    intro d k hN hu hus hs
    unfold xT
    rw [sbT_var]
    split
    · exact hu.lift 0 d (by omega) (by omega) (by omega) (by omega)
    · split
      · rw [W_in (by omega)]; exact NatT.var (by omega) (by omega)
      · exact NatT.var h0 (by omega)
  | z => intro d k hN hu hus hs; rw [sb_z (by omega)]; exact NatT.z
  | @s n t ht ih =>
    intro d k hN hu hus hs
    rw [size_s] at hs
    rw [sb_s (by omega)]; exact NatT.s (ih d k hN hu hus (by omega))
  | @it n t w ht hw iht ihw =>
    intro d k hN hu hus hs
    rw [size_const] at hs
    simp only [Tr.sizes, List.map_cons, List.map_nil, List.sum_cons, List.sum_nil, size_lam] at hs
    rw [sbT_const (by omega)]
    simp only [List.map_cons, List.map_nil]
    rw [sbT_lam (by omega)]
    refine NatT.it ?_ (ihw d k hN hu hus (by omega))
    have := iht (d + 1) k (by omega) hu hus (by omega)
    rw [show k + (d + 1) = k + d + 1 by omega] at this
    exact this
end Go.H
/- The forms of what is drawn; a number is put into it. -/
namespace Go.H
open Go
set_option linter.unusedVariables false
set_option linter.unusedSimpArgs false

theorem isArg_false (x : Tr) : Tr.isArg false x = x.isTerm false := by unfold Tr.isArg; rw [if_neg (by simp)]
theorem term_const {w : List UInt8} {ks : List Tr} (hw : nameOK w = true) (h : ∀ x ∈ ks, x.isTerm false = true) : (Tr.const w ks).isTerm false = true := by
  rw [Tr.isTerm_eq, if_neg (show ¬ (Tr.const w ks).kind = 4 by simp [Tr.const, Tr.kind]), if_neg (show ¬ ((Tr.const w ks).kind = 5 ∨ (Tr.const w ks).kind = 7) by simp [Tr.const, Tr.kind]), if_pos (show (Tr.const w ks).kind = 6 by rfl)]
  rw [show (Tr.const w ks).n = 0 by rfl, show (Tr.const w ks).name = w by rfl, show (Tr.const w ks).kids = ks by rfl, hw]
  simp only [decide_true, Bool.true_and, List.all_eq_true]
  exact fun x hx => by rw [isArg_false]; exact h x hx
theorem term_lam' {t : Tr} (h : t.isTerm false = true) : (Tr.lam t).isTerm false = true := by
  rw [Tr.isTerm_eq, if_pos (show (Tr.lam t).kind = 4 by rfl)]
  rw [show (Tr.lam t).kids = [t] by rfl, show (Tr.lam t).bare 1 = true by rfl]
  simp [h]
theorem term_x {i : Int} (h0 : 0 ≤ i) (h1 : i ≤ 100) : (xT i).isTerm false = true := by
  rw [Tr.isTerm_eq, if_neg (show ¬ (xT i).kind = 4 by simp [xT, Tr.var, Tr.kind]), if_pos (show (xT i).kind = 5 ∨ (xT i).kind = 7 from .inl rfl)]
  rw [show (xT i).n = i by rfl, show (xT i).name = [] by rfl, show (xT i).kids = [] by rfl]
  simp [h0, h1]
theorem NatT.term {n : Nat} {t : Tr} (h : NatT n t) : n + t.size ≤ 101 → t.isTerm false = true := by
  induction h with
  | var h0 h1 => exact fun hs => term_x h0 (by omega)
  | z => exact fun _ => term_const (by rfl) (by simp)
  | s ht ih =>
    intro hs
    rw [size_s] at hs
    exact term_const (by rfl) (by simpa using ih (by omega))
  | it ht hu iht ihu =>
    intro hs
    rw [size_const] at hs
    simp only [Tr.sizes, List.map_cons, List.map_nil, List.sum_cons, List.sum_nil, size_lam] at hs
    refine term_const (by rfl) ?_
    simp only [List.forall_mem_cons]
    exact ⟨term_lam' (iht (by omega)), ihu (by omega), by simp⟩
theorem ListT.sb {n k : Nat} {t u : Tr} (hu : NatT n u) (hus : u.size ≤ 1000) (h : ListT (n + 1) k t) : n + 1 + t.size ≤ 100000 → ListT n k (sbT u t 0) := by
  induction h with
  | nil => intro _; rw [sbT_const (by omega)]; exact ListT.nil
  | @cons k x t hx ht ih =>
    intro hs
    rw [size_const] at hs
    simp only [Tr.sizes, List.map_cons, List.map_nil, List.sum_cons, List.sum_nil, size_lam] at hs
    rw [sbT_const (by omega)]
    simp only [List.map_cons, List.map_nil]
    rw [sbT_count (by omega)]
    exact ListT.cons (hx.sb 0 n rfl hu hus (by omega)) (ih (by omega))
theorem SumT.sb {n k : Nat} {m t w u : Tr} (hu : NatT n u) (hus : u.size ≤ 1000) (h : SumT (n + 1) m k t w) : n + 1 + t.size ≤ 100000 → SumT n (sbT u m 0) k (sbT u t 0) (sbT u w 0) := by
  induction h with
  | z => intro _; rw [sbT_const (by omega)]; exact SumT.z
  | @s k t w ht ih =>
    intro hs
    rw [size_const] at hs
    simp only [Tr.sizes, List.map_cons, List.map_nil, List.sum_cons, List.sum_nil, size_lam] at hs
    rw [sbT_const (by omega), sb_s (by omega)]
    simp only [List.map_cons, List.map_nil]
    rw [sbT_count (by omega)]
    exact SumT.s (ih (by omega))
theorem ListT.flat {n k : Nat} {t : Tr} (h : ListT n k t) : Flat t := by
  induction h with
  | nil => exact flat_const (by simp)
  | cons hx ht ih => exact flat_const (by simp [flat_count, hx.flat', ih])
theorem SumT.flat {n k : Nat} {m t w : Tr} (hm : NatT n m) (h : SumT n m k t w) : Flat t := by
  induction h with
  | z => exact flat_const (by simp [hm.flat'])
  | s ht ih => exact flat_const (by simp [flat_count, hm.flat', (ht.nat hm).flat', ih])
end Go.H
/- Steps: a value that is at hand; a tree is stored; a drawn number. -/
namespace Go.H
open Go
set_option linter.unusedVariables false
set_option linter.unusedSimpArgs false
theorem qb_of {q : Option PV} {k : PV → Prop} {x : PV} (h : q = some x) (hk : k x) : qb q k := by rw [h]; exact hk
end Go.H
/- Local variables of a walk: which block holds what. -/
namespace Go.H
open Go
set_option linter.unusedVariables false
set_option linter.unusedSimpArgs false

/-- A struct of so many cells. -/
def Box (n : Nat) (y : PV) : Prop := ∃ cs, y = .agg cs ∧ cs.length = n ∧ cs.all PV.cellOK = true
theorem Box.tree (t : Tr) : Box 4 (tree t) := by
  rw [tree_eq]
  exact ⟨_, rfl, rfl, rfl⟩
theorem Box.len {n : Nat} {y : PV} (h : Box n y) : y.cells.length = n := by obtain ⟨cs, rfl, h, _⟩ := h; exact h
/-- What a walk has made: blocks that hold a struct each, and blocks that wait for it. -/
structure Held (st w : St) (L : List (Nat × PV)) (P : List (Nat × List PV)) : Prop where
  sub : Sub st w
  got : ∀ x ∈ L, w x.1 = some (.cells x.2.cells)
  zat : ∀ x ∈ P, w x.1 = some (.cells x.2)
  nd : (L.map (·.1) ++ P.map (·.1)).Nodup
  out : ∀ b ∈ L.map (·.1) ++ P.map (·.1), st b = none
theorem Held.start (st : St) : Held st st [] [] := ⟨Sub.refl st, by simp, by simp, by simp, by simp⟩
theorem Held.some_of {st w : St} {L : List (Nat × PV)} {P : List (Nat × List PV)} (h : Held st w L P) {b : Nat} (hb : b ∈ L.map (·.1) ++ P.map (·.1)) : ∃ o, w b = some o := by
  rw [List.mem_append] at hb
  rcases hb with hb | hb
  · obtain ⟨x, hx, rfl⟩ := List.mem_map.1 hb; exact ⟨_, h.got x hx⟩
  · obtain ⟨x, hx, rfl⟩ := List.mem_map.1 hb; exact ⟨_, h.zat x hx⟩
theorem Held.alloc {st w : St} {L : List (Nat × PV)} {P : List (Nat × List PV)} {z : List PV} {K : PV → St → Prop} (h : Held st w L P) (hk : ∀ v w', Held st w' L (P ++ [(v, z)]) → K (.ptr v 0) w') : e_alloc w z K := fun v hv => by
  have ne : ∀ b ∈ L.map (·.1) ++ P.map (·.1), b ≠ v := fun b hb e => by
    obtain ⟨o, ho⟩ := h.some_of hb
    rw [e, hv] at ho; cases ho
  refine hk v _ ⟨h.sub.put (h.sub.isNone hv), fun x hx => ?_, fun x hx => ?_, ?_, fun b hb => ?_⟩
  · rw [upd_ne _ _ (ne _ (List.mem_append_left _ (List.mem_map_of_mem hx)))]
    exact h.got x hx
  · rw [List.mem_append, List.mem_singleton] at hx
    rcases hx with hx | rfl
    · rw [upd_ne _ _ (ne _ (List.mem_append_right _ (List.mem_map_of_mem hx)))]
      exact h.zat x hx
    · exact upd_same _ _ _
  · rw [List.map_append, ← List.append_assoc, List.nodup_append]
    refine ⟨h.nd, by simp, fun a ha b hb => ?_⟩
    simp only [List.map_cons, List.map_nil, List.mem_singleton] at hb
    rw [hb]
    exact ne a ha
  · rw [List.map_append, ← List.append_assoc, List.mem_append] at hb
    rcases hb with hb | hb
    · exact h.out b hb
    · simp only [List.map_cons, List.map_nil, List.mem_singleton] at hb
      rw [hb]
      exact h.sub.isNone hv
theorem Held.store {st w : St} {L : List (Nat × PV)} {P : List (Nat × List PV)} {z : List PV} {v n : Nat} {y : PV} {K : St → Prop} (h : Held st w L ((v, z) :: P)) (hy : Box n y) (hz : z.length = n) (hk : ∀ w', Held st w' ((v, y) :: L) P → K w') :
    e_store w n (.ptr v 0) y K := by
  obtain ⟨cs, rfl, hl, hc⟩ := hy
  refine e_store_ptr (h.zat (v, z) (by simp)) hc hl rfl (by show 0 + n ≤ z.length; omega) ?_
  have e : setRange z 0 (PV.agg cs).cells = cs := by
    unfold setRange
    show z.take 0 ++ cs ++ z.drop (0 + cs.length) = cs
    rw [List.take_zero, List.nil_append, List.drop_of_length_le (by omega), List.append_nil]
  rw [e]
  have nd := h.nd
  rw [List.map_cons, List.nodup_append] at nd
  obtain ⟨n1, n2, n3⟩ := nd
  rw [List.nodup_cons] at n2
  refine hk _ ⟨fun c o hc => ?_, fun x hx => ?_, fun x hx => ?_, ?_, fun b hb => ?_⟩
  · have : c ≠ v := fun e => by
      have := h.out v (by simp)
      rw [e, this] at hc; cases hc
    rw [upd_ne _ _ this]
    exact h.sub c o hc
  · rcases List.mem_cons.1 hx with rfl | hx
    · exact upd_same _ _ _
    · rw [upd_ne _ _ (n3 _ (List.mem_map_of_mem hx) v (by simp))]
      exact h.got x hx
  · rw [upd_ne _ _ (fun e => n2.1 (by rw [show v = x.1 from e.symm]; exact List.mem_map.2 ⟨x, hx, rfl⟩))]
    exact h.zat x (by simp [hx])
  · rw [List.map_cons, List.cons_append, List.nodup_cons, List.nodup_append, List.mem_append]
    refine ⟨fun hm => ?_, n1, n2.2, fun a ha b hb => n3 a ha b (by simp [hb])⟩
    rcases hm with hm | hm
    · exact n3 v hm v (by simp) rfl
    · exact n2.1 hm
  · refine h.out b ?_
    simp only [List.map_cons, List.cons_append, List.mem_cons, List.mem_append] at hb ⊢
    rcases hb with hb | hb | hb
    · exact .inr (.inl hb)
    · exact .inl hb
    · exact .inr (.inr hb)
theorem Held.load {st w : St} {L : List (Nat × PV)} {P : List (Nat × List PV)} {v n : Nat} {y : PV} (h : Held st w L P) (hy : Box n y) (hv : (v, y) ∈ L) : q_load w true n (.ptr v 0) = some y := by
  obtain ⟨cs, rfl, hl, _⟩ := hy
  have := h.got _ hv
  rw [q_load_ptr this]
  show takeV true n (cs.drop 0) = _
  rw [List.drop_zero]
  show (if n ≤ cs.length then some (PV.agg (cs.take n)) else none) = _
  rw [if_pos (by omega), List.take_of_length_le (by omega)]
theorem Held.new {st w : St} {L : List (Nat × PV)} {z : List PV} {n : Nat} {y : PV} {K : PV → St → Prop} (h : Held st w L []) (hy : Box n y) (hz : z.length = n) (hk : ∀ v w', Held st w' ((v, y) :: L) [] → K (.ptr v 0) w') :
    e_alloc w z fun v st => e_store st n v y fun st => K v st :=
  h.alloc fun v w' h' => h'.store hy hz fun w'' h'' => hk v w'' h''
theorem Held.news {st w : St} {L : List (Nat × PV)} {t : Tr} {z : List PV} {K : PV → St → Prop} (h : Held st w L []) (hz : z.length = 4) (hk : ∀ v w', Held st w' ((v, tree t) :: L) [] → K (.ptr v 0) w') :
    e_alloc w z fun v st => e_store st 4 v (tree t) fun st => K v st := h.new (Box.tree t) hz hk
theorem Held.ld {st w : St} {L : List (Nat × PV)} {P : List (Nat × List PV)} {v : Nat} {t : Tr} (h : Held st w L P) (hv : (v, tree t) ∈ L) : q_load w true 4 (.ptr v 0) = some (tree t) := h.load (Box.tree t) hv
theorem Held.two {st w : St} {L : List (Nat × PV)} {s t : Tr} {z : List PV} {K : PV → PV → St → Prop} (h : Held st w L []) (hz : z.length = 4) (hk : ∀ v u w', Held st w' ((u, tree t) :: (v, tree s) :: L) [] → K (.ptr v 0) (.ptr u 0) w') :
    e_alloc w z fun v st => e_alloc st z fun u st => e_store st 4 v (tree s) fun st => e_store st 4 u (tree t) fun st => K v u st :=
  h.alloc fun v w1 h1 => h1.alloc fun u w2 h2 => h2.store (Box.tree s) hz fun w3 h3 => h3.store (Box.tree t) hz fun w4 h4 => hk v u w4 h4
end Go.H
/- Forms and proofs, as data and in memory. -/
namespace Go.H
open Go
set_option linter.unusedVariables false
set_option linter.unusedSimpArgs false

inductive Fm where
  | atom (n : Nat)
  | bot
  | and (a b : Fm)
  | imp (a b : Fm)
  deriving DecidableEq
namespace Fm
def kind : Fm → Int | atom _ => 1 | bot => 4 | and _ _ => 2 | imp _ _ => 3
def num : Fm → Int | atom n => n | _ => 0
def kids : Fm → List Fm | and a b => [a, b] | imp a b => [a, b] | _ => []
def size : Fm → Nat | and a b => 1 + a.size + b.size | imp a b => 1 + a.size + b.size | _ => 1
/-- Its atoms are few. -/
def ok : Fm → Bool | atom n => decide (n < 6) | bot => true | and a b => a.ok && b.ok | imp a b => a.ok && b.ok
theorem size_pos (f : Fm) : 0 < f.size := by cases f <;> simp [size] <;> omega
theorem ext_of : ∀ {f g : Fm}, f.kind = g.kind → f.num = g.num → f.kids = g.kids → f = g
  | atom n, atom m, _, h, _ => by simp only [num] at h; rw [show n = m by omega]
  | bot, bot, _, _, _ => rfl
  | and a b, and c d, _, _, h => by simp only [kids, List.cons.injEq, and_true] at h; rw [h.1, h.2]
  | imp a b, imp c d, _, _, h => by simp only [kids, List.cons.injEq, and_true] at h; rw [h.1, h.2]
  | atom _, bot, h, _, _ => by simp [kind] at h
  | atom _, and _ _, h, _, _ => by simp [kind] at h
  | atom _, imp _ _, h, _, _ => by simp [kind] at h
  | bot, atom _, h, _, _ => by simp [kind] at h
  | bot, and _ _, h, _, _ => by simp [kind] at h
  | bot, imp _ _, h, _, _ => by simp [kind] at h
  | and _ _, atom _, h, _, _ => by simp [kind] at h
  | and _ _, bot, h, _, _ => by simp [kind] at h
  | and _ _, imp _ _, h, _, _ => by simp [kind] at h
  | imp _ _, atom _, h, _, _ => by simp [kind] at h
  | imp _ _, bot, h, _, _ => by simp [kind] at h
  | imp _ _, and _ _, h, _, _ => by simp [kind] at h
theorem ind {M : Fm → Prop} (h : ∀ f : Fm, (∀ x ∈ f.kids, M x) → M f) : ∀ f : Fm, M f
  | atom n => h _ (by simp [kids])
  | bot => h _ (by simp [kids])
  | and a b => h _ (by simp only [kids, List.forall_mem_cons]; exact ⟨ind h a, ind h b, by simp⟩)
  | imp a b => h _ (by simp only [kids, List.forall_mem_cons]; exact ⟨ind h a, ind h b, by simp⟩)
end Fm
def fm : Fm → PV
  | .atom n => .agg [.int .i64 1, .int .i64 n, .sl 3 false []]
  | .bot => .agg [.int .i64 4, .int .i64 0, .sl 3 false []]
  | .and a b => .agg [.int .i64 2, .int .i64 0, .sl 3 false [fm a, fm b]]
  | .imp a b => .agg [.int .i64 3, .int .i64 0, .sl 3 false [fm a, fm b]]
def fms (fs : List Fm) : PV := .sl 3 false (fs.map fm)
theorem fm_eq (f : Fm) : fm f = .agg [.int .i64 f.kind, .int .i64 f.num, .sl 3 false (f.kids.map fm)] := by cases f <;> rfl
theorem fm_cells (f : Fm) : (fm f).cells = [.int .i64 f.kind, .int .i64 f.num, .sl 3 false (f.kids.map fm)] := by rw [fm_eq]; rfl
@[simp] theorem fm_isJunk (f : Fm) : (fm f).isJunk = false := by rw [fm_eq]; rfl
@[simp] theorem fm_isAgg (f : Fm) : (fm f).isAgg = true := by rw [fm_eq]; rfl
@[simp] theorem fm_ncells (f : Fm) : (fm f).ncells = 3 := by rw [fm_eq]; rfl
@[simp] theorem fm_cellOK (f : Fm) : (fm f).cells.all PV.cellOK = true := by rw [fm_cells]; rfl
@[simp] theorem fm_len (f : Fm) : (fm f).cells.length = 3 := by rw [fm_cells]; rfl
@[simp] theorem fm_cellOK' (f : Fm) : (∀ x ∈ (fm f).cells, x.cellOK = true) ↔ True := by
  have := fm_cellOK f
  rw [List.all_eq_true] at this
  simpa using this
@[simp high] theorem takeV_fm (f : Fm) : takeV true 3 (fm f).cells = some (fm f) := by rw [fm_cells, fm_eq]; rfl
@[simp] theorem fm_f0 (f : Fm) (n : Nat) : takeV false n (fm f).cells = some (.int .i64 f.kind) := by rw [fm_cells]; rfl
@[simp] theorem fm_f1 (f : Fm) (n : Nat) : takeV false n ((fm f).cells.tail) = some (.int .i64 f.num) := by rw [fm_cells]; rfl
@[simp] theorem fm_f1' (f : Fm) (n : Nat) : takeV false n ((fm f).cells.drop 1) = some (.int .i64 f.num) := by rw [fm_cells]; rfl
@[simp] theorem fm_f2 (f : Fm) (n : Nat) : takeV false n ((fm f).cells.drop 2) = some (.sl 3 false (f.kids.map fm)) := by rw [fm_cells]; rfl
@[simp] theorem fm_agg (f : Fm) : PV.agg (fm f).cells = fm f := by rw [fm_cells, fm_eq]
@[simp] theorem fm_set (f : Fm) (a b c : PV) : setRange [a, b, c] 0 (fm f).cells = (fm f).cells := by rw [fm_cells]; rfl
theorem ia_fms {fs : List Fm} {i : Nat} {f : Fm} (k : IntKind) (h : fs[i]? = some f) : q_ia 3 (.sl 3 false (fs.map fm)) (.int k (i : Int)) = some (.ref (fm f).cells) := by
  obtain ⟨hi, rfl⟩ := List.getElem?_eq_some_iff.1 h
  simp [q_ia, hi]
theorem conv_fm (st : St) (k n : Int) (e : Nat) (b : Bool) (ks : List Fm) (f : Fm) (hf : k = f.kind ∧ n = f.num ∧ ks = f.kids) (h : e = 3 ∨ ks = []) : Conv [.agg [.int .i64 k, .int .i64 n, .sl e b (ks.map fm)]] st [fm f] st := by
  obtain ⟨rfl, rfl, rfl⟩ := hf
  rw [fm_eq]
  exact Conv.agg (Conv.cons (Conv.refl _ _) (Conv.cons (Conv.refl _ _) (Conv.sl_to st e 3 b _ (by rcases h with h | h; exact .inl h; exact .inr (by simp [h]))))) rfl rfl
theorem Box.fm (f : Fm) : Box 3 (fm f) := by rw [fm_eq]; exact ⟨_, rfl, rfl, rfl⟩
theorem Held.ldf {st w : St} {L : List (Nat × PV)} {P : List (Nat × List PV)} {v : Nat} {f : Fm} (h : Held st w L P) (hv : (v, Go.H.fm f) ∈ L) : q_load w true 3 (.ptr v 0) = some (Go.H.fm f) := h.load (Box.fm f) hv
theorem load_fm {s : St} {v : Nat} {f : Fm} (h : s v = some (.cells (fm f).cells)) : q_load s true 3 (.ptr v 0) = some (fm f) := by simp [q_load_p h]

/-! ### Proofs -/
inductive Pf where
  | hyp (n : Nat)
  | andI (a b : Fm) (p q : Pf)
  | fst (a b : Fm) (p : Pf)
  | snd (a b : Fm) (p : Pf)
  | funI (a b : Fm) (p : Pf)
  | use (a b : Fm) (p q : Pf)
  | botE (a : Fm) (p : Pf)
  deriving DecidableEq
namespace Pf
def kind : Pf → Int | hyp _ => 1 | andI .. => 2 | fst .. => 3 | snd .. => 4 | funI .. => 5 | use .. => 6 | botE .. => 7
def num : Pf → Int | hyp n => n | _ => 0
def forms : Pf → List Fm | hyp _ => [] | andI a b _ _ => [a, b] | fst a b _ => [a, b] | snd a b _ => [a, b] | funI a b _ => [a, b] | use a b _ _ => [a, b] | botE a _ => [a]
def kids : Pf → List Pf | hyp _ => [] | andI _ _ p q => [p, q] | fst _ _ p => [p] | snd _ _ p => [p] | funI _ _ p => [p] | use _ _ p q => [p, q] | botE _ p => [p]
theorem ind {M : Pf → Prop} (h : ∀ p : Pf, (∀ x ∈ p.kids, M x) → M p) : ∀ p : Pf, M p
  | hyp n => h _ (by simp [kids])
  | andI a b p q => h _ (by simp only [kids, List.forall_mem_cons]; exact ⟨ind h p, ind h q, by simp⟩)
  | fst a b p => h _ (by simp only [kids, List.forall_mem_cons]; exact ⟨ind h p, by simp⟩)
  | snd a b p => h _ (by simp only [kids, List.forall_mem_cons]; exact ⟨ind h p, by simp⟩)
  | funI a b p => h _ (by simp only [kids, List.forall_mem_cons]; exact ⟨ind h p, by simp⟩)
  | use a b p q => h _ (by simp only [kids, List.forall_mem_cons]; exact ⟨ind h p, ind h q, by simp⟩)
  | botE a p => h _ (by simp only [kids, List.forall_mem_cons]; exact ⟨ind h p, by simp⟩)
/-- How many nodes, the forms counted; and not counted. -/
def count : Pf → Nat
  | hyp _ => 1
  | andI a b p q => 1 + a.size + b.size + p.count + q.count
  | fst a b p => 1 + a.size + b.size + p.count
  | snd a b p => 1 + a.size + b.size + p.count
  | funI a b p => 1 + a.size + b.size + p.count
  | use a b p q => 1 + a.size + b.size + p.count + q.count
  | botE a p => 1 + a.size + p.count
def size : Pf → Nat
  | hyp _ => 1
  | andI _ _ p q => 1 + p.size + q.size
  | fst _ _ p => 1 + p.size
  | snd _ _ p => 1 + p.size
  | funI _ _ p => 1 + p.size
  | use _ _ p q => 1 + p.size + q.size
  | botE _ p => 1 + p.size
def ok : Pf → Bool
  | hyp n => decide (n ≤ 100)
  | andI a b p q => a.ok && b.ok && p.ok && q.ok
  | fst a b p => a.ok && b.ok && p.ok
  | snd a b p => a.ok && b.ok && p.ok
  | funI a b p => a.ok && b.ok && p.ok
  | use a b p q => a.ok && b.ok && p.ok && q.ok
  | botE a p => a.ok && p.ok
/-- Its forms are right; its hypotheses' numbers are small. -/
def fok : Pf → Bool
  | hyp _ => true
  | andI a b p q => a.ok && b.ok && p.fok && q.fok
  | fst a b p => a.ok && b.ok && p.fok
  | snd a b p => a.ok && b.ok && p.fok
  | funI a b p => a.ok && b.ok && p.fok
  | use a b p q => a.ok && b.ok && p.fok && q.fok
  | botE a p => a.ok && p.fok
def hok : Pf → Bool
  | hyp n => decide (n ≤ 100)
  | andI _ _ p q => p.hok && q.hok
  | fst _ _ p => p.hok
  | snd _ _ p => p.hok
  | funI _ _ p => p.hok
  | use _ _ p q => p.hok && q.hok
  | botE _ p => p.hok
theorem ok_of {p : Pf} (h : p.fok = true) (h' : p.hok = true) : p.ok = true := by
  induction p with
  | hyp n => exact h'
  | andI a b p q i1 i2 => simp only [fok, hok, ok, Bool.and_eq_true] at h h' ⊢; exact ⟨⟨h.1.1, i1 h.1.2 h'.1⟩, i2 h.2 h'.2⟩
  | fst a b p i1 => simp only [fok, hok, ok, Bool.and_eq_true] at h h' ⊢; exact ⟨h.1, i1 h.2 h'⟩
  | snd a b p i1 => simp only [fok, hok, ok, Bool.and_eq_true] at h h' ⊢; exact ⟨h.1, i1 h.2 h'⟩
  | funI a b p i1 => simp only [fok, hok, ok, Bool.and_eq_true] at h h' ⊢; exact ⟨h.1, i1 h.2 h'⟩
  | use a b p q i1 i2 => simp only [fok, hok, ok, Bool.and_eq_true] at h h' ⊢; exact ⟨⟨h.1.1, i1 h.1.2 h'.1⟩, i2 h.2 h'.2⟩
  | botE a p i1 => simp only [fok, hok, ok, Bool.and_eq_true] at h h' ⊢; exact ⟨h.1, i1 h.2 h'⟩
end Pf
def pf : Pf → PV
  | .hyp n => .agg [.int .i64 1, .int .i64 n, .sl 3 false [], .sl 4 false []]
  | .andI a b p q => .agg [.int .i64 2, .int .i64 0, .sl 3 false [fm a, fm b], .sl 4 false [pf p, pf q]]
  | .fst a b p => .agg [.int .i64 3, .int .i64 0, .sl 3 false [fm a, fm b], .sl 4 false [pf p]]
  | .snd a b p => .agg [.int .i64 4, .int .i64 0, .sl 3 false [fm a, fm b], .sl 4 false [pf p]]
  | .funI a b p => .agg [.int .i64 5, .int .i64 0, .sl 3 false [fm a, fm b], .sl 4 false [pf p]]
  | .use a b p q => .agg [.int .i64 6, .int .i64 0, .sl 3 false [fm a, fm b], .sl 4 false [pf p, pf q]]
  | .botE a p => .agg [.int .i64 7, .int .i64 0, .sl 3 false [fm a], .sl 4 false [pf p]]
theorem pf_eq (p : Pf) : pf p = .agg [.int .i64 p.kind, .int .i64 p.num, .sl 3 false (p.forms.map fm), .sl 4 false (p.kids.map pf)] := by cases p <;> rfl
theorem pf_cells (p : Pf) : (pf p).cells = [.int .i64 p.kind, .int .i64 p.num, .sl 3 false (p.forms.map fm), .sl 4 false (p.kids.map pf)] := by rw [pf_eq]; rfl
@[simp] theorem pf_isJunk (p : Pf) : (pf p).isJunk = false := by rw [pf_eq]; rfl
@[simp] theorem pf_isAgg (p : Pf) : (pf p).isAgg = true := by rw [pf_eq]; rfl
@[simp] theorem pf_ncells (p : Pf) : (pf p).ncells = 4 := by rw [pf_eq]; rfl
@[simp] theorem pf_cellOK (p : Pf) : (pf p).cells.all PV.cellOK = true := by rw [pf_cells]; rfl
@[simp] theorem pf_len (p : Pf) : (pf p).cells.length = 4 := by rw [pf_cells]; rfl
@[simp] theorem pf_cellOK' (p : Pf) : (∀ x ∈ (pf p).cells, x.cellOK = true) ↔ True := by
  have := pf_cellOK p
  rw [List.all_eq_true] at this
  simpa using this
@[simp high] theorem takeV_pf (p : Pf) : takeV true 4 (pf p).cells = some (pf p) := by rw [pf_cells, pf_eq]; rfl
@[simp] theorem pf_f0 (p : Pf) (n : Nat) : takeV false n (pf p).cells = some (.int .i64 p.kind) := by rw [pf_cells]; rfl
@[simp] theorem pf_f1 (p : Pf) (n : Nat) : takeV false n ((pf p).cells.tail) = some (.int .i64 p.num) := by rw [pf_cells]; rfl
@[simp] theorem pf_f1' (p : Pf) (n : Nat) : takeV false n ((pf p).cells.drop 1) = some (.int .i64 p.num) := by rw [pf_cells]; rfl
@[simp] theorem pf_f2 (p : Pf) (n : Nat) : takeV false n ((pf p).cells.drop 2) = some (.sl 3 false (p.forms.map fm)) := by rw [pf_cells]; rfl
@[simp] theorem pf_f3 (p : Pf) (n : Nat) : takeV false n ((pf p).cells.drop 3) = some (.sl 4 false (p.kids.map pf)) := by rw [pf_cells]; rfl
@[simp] theorem pf_agg (p : Pf) : PV.agg (pf p).cells = pf p := by rw [pf_cells, pf_eq]
theorem ia_pfs {ps : List Pf} {i : Nat} {p : Pf} (k : IntKind) (h : ps[i]? = some p) : q_ia 4 (.sl 4 false (ps.map pf)) (.int k (i : Int)) = some (.ref (pf p).cells) := by
  obtain ⟨hi, rfl⟩ := List.getElem?_eq_some_iff.1 h
  simp [q_ia, hi]
theorem conv_pf (st : St) (k n : Int) (e e' : Nat) (b b' : Bool) (fs : List Fm) (ks : List Pf) (p : Pf) (hp : k = p.kind ∧ n = p.num ∧ fs = p.forms ∧ ks = p.kids) (h : e = 3 ∨ fs = []) (h' : e' = 4 ∨ ks = []) :
    Conv [.agg [.int .i64 k, .int .i64 n, .sl e b (fs.map fm), .sl e' b' (ks.map pf)]] st [pf p] st := by
  obtain ⟨rfl, rfl, rfl, rfl⟩ := hp
  rw [pf_eq]
  exact Conv.agg (Conv.cons (Conv.refl _ _) (Conv.cons (Conv.refl _ _) (Conv.cons (Conv.sl_to st e 3 b _ (by rcases h with h | h; exact .inl h; exact .inr (by simp [h]))) (Conv.sl_to st e' 4 b' _ (by rcases h' with h | h; exact .inl h; exact .inr (by simp [h])))))) rfl rfl
theorem Box.pf (p : Pf) : Box 4 (pf p) := by rw [pf_eq]; exact ⟨_, rfl, rfl, rfl⟩
theorem Held.ldp {st w : St} {L : List (Nat × PV)} {P : List (Nat × List PV)} {v : Nat} {p : Pf} (h : Held st w L P) (hv : (v, Go.H.pf p) ∈ L) : q_load w true 4 (.ptr v 0) = some (Go.H.pf p) := h.load (Box.pf p) hv
theorem load_pf {s : St} {v : Nat} {p : Pf} (h : s v = some (.cells (pf p).cells)) : q_load s true 4 (.ptr v 0) = some (pf p) := by simp [q_load_p h]
end Go.H
/- What the law about drawn judgements asks: the answers of the check. -/
namespace Go.H
open Go
set_option linter.unusedVariables false
set_option linter.unusedSimpArgs false

end Go.H
/- A number is put into what is drawn: the answer, its form. -/
namespace Go.H
open Go
set_option linter.unusedVariables false
set_option linter.unusedSimpArgs false

theorem small_of {t : Tr} (h : t.size ≤ 150) : t.small = true := by unfold Tr.small; exact decide_eq_true h
end Go.H
/- Natural deduction: what a proof proves; a proof put for a hypothesis; the terms that stand for them. -/
namespace Go.H
open Go
set_option linter.unusedVariables false
set_option linter.unusedSimpArgs false

/-- What a proof proves; the hypothesis 0 is the first. -/
inductive Prv : List Fm → Pf → Fm → Prop
  | hyp {G : List Fm} {n : Nat} {f : Fm} : G[n]? = some f → Prv G (.hyp n) f
  | andI {G : List Fm} {a b : Fm} {p q : Pf} : Prv G p a → Prv G q b → Prv G (.andI a b p q) (.and a b)
  | fst {G : List Fm} {a b : Fm} {p : Pf} : Prv G p (.and a b) → Prv G (.fst a b p) a
  | snd {G : List Fm} {a b : Fm} {p : Pf} : Prv G p (.and a b) → Prv G (.snd a b p) b
  | funI {G : List Fm} {a b : Fm} {p : Pf} : Prv (a :: G) p b → Prv G (.funI a b p) (.imp a b)
  | use {G : List Fm} {a b : Fm} {p q : Pf} : Prv G p (.imp a b) → Prv G q a → Prv G (.use a b p q) b
  | botE {G : List Fm} {a : Fm} {p : Pf} : Prv G p .bot → Prv G (.botE a p) a
def Pf.lift : Pf → Nat → Nat → Pf
  | .hyp n, k, b => .hyp (if k ≤ n then n + b else n)
  | .andI x y p q, k, b => .andI x y (p.lift k b) (q.lift k b)
  | .fst x y p, k, b => .fst x y (p.lift k b)
  | .snd x y p, k, b => .snd x y (p.lift k b)
  | .funI x y p, k, b => .funI x y (p.lift (k + 1) b)
  | .use x y p q, k, b => .use x y (p.lift k b) (q.lift k b)
  | .botE x p, k, b => .botE x (p.lift k b)
/-- A proof is put for the hypothesis n. -/
def Pf.cut (m : Pf) : Pf → Nat → Pf
  | .hyp n, k => if n = k then m.lift 0 k else if k < n then .hyp (n - 1) else .hyp n
  | .andI x y p q, k => .andI x y (m.cut p k) (m.cut q k)
  | .fst x y p, k => .fst x y (m.cut p k)
  | .snd x y p, k => .snd x y (m.cut p k)
  | .funI x y p, k => .funI x y (m.cut p (k + 1))
  | .use x y p q, k => .use x y (m.cut p k) (m.cut q k)
  | .botE x p, k => .botE x (m.cut p k)
theorem Prv.lift {G : List Fm} {p : Pf} {f : Fm} (h : Prv G p f) : ∀ D P E : List Fm, G = D ++ E → Prv (D ++ (P ++ E)) (p.lift D.length P.length) f := by
  induction h with
  | @hyp G n f hn =>
    rintro D P E rfl
    refine .hyp ?_
    by_cases h : D.length ≤ n
    · rw [if_pos h]
      rw [List.getElem?_append_right h] at hn
      rw [List.getElem?_append_right (by omega), List.getElem?_append_right (by omega), show n + P.length - D.length - P.length = n - D.length by omega]
      exact hn
    · rw [if_neg h]
      rw [List.getElem?_append_left (by omega)] at hn ⊢
      exact hn
  | andI _ _ i1 i2 => rintro D P E rfl; exact .andI (i1 D P E rfl) (i2 D P E rfl)
  | fst _ i1 => rintro D P E rfl; exact .fst (i1 D P E rfl)
  | snd _ i1 => rintro D P E rfl; exact .snd (i1 D P E rfl)
  | @funI G a b p _ i1 => rintro D P E rfl; exact .funI (i1 (a :: D) P E rfl)
  | use _ _ i1 i2 => rintro D P E rfl; exact .use (i1 D P E rfl) (i2 D P E rfl)
  | botE _ i1 => rintro D P E rfl; exact .botE (i1 D P E rfl)
theorem Prv.cut {G : List Fm} {q : Pf} {g : Fm} (h : Prv G q g) {m : Pf} {f : Fm} : ∀ D E : List Fm, G = D ++ f :: E → Prv E m f → Prv (D ++ E) (m.cut q D.length) g := by
  induction h with
  | @hyp G n g hn =>
    rintro D E rfl hm
    unfold Pf.cut
    by_cases h : n = D.length
    · rw [if_pos h]
      subst h
      rw [List.getElem?_append_right (by omega)] at hn
      simp at hn
      subst hn
      have := hm.lift [] D E rfl
      simpa using this
    · rw [if_neg h]
      by_cases h2 : D.length < n
      · rw [if_pos h2]
        refine .hyp ?_
        rw [List.getElem?_append_right (by omega), show n - D.length = (n - 1 - D.length) + 1 by omega, List.getElem?_cons_succ] at hn
        rw [List.getElem?_append_right (by omega)]
        exact hn
      · rw [if_neg h2]
        refine .hyp ?_
        rw [List.getElem?_append_left (by omega)] at hn ⊢
        exact hn
  | andI _ _ i1 i2 => rintro D E rfl hm; exact .andI (i1 D E rfl hm) (i2 D E rfl hm)
  | fst _ i1 => rintro D E rfl hm; exact .fst (i1 D E rfl hm)
  | snd _ i1 => rintro D E rfl hm; exact .snd (i1 D E rfl hm)
  | @funI G a b p _ i1 => rintro D E rfl hm; exact .funI (i1 (a :: D) E rfl hm)
  | use _ _ i1 i2 => rintro D E rfl hm; exact .use (i1 D E rfl hm) (i2 D E rfl hm)
  | botE _ i1 => rintro D E rfl hm; exact .botE (i1 D E rfl hm)
theorem Prv.one {G : List Fm} {p : Pf} {f : Fm} (h : Prv G p f) : ∀ {g : Fm}, Prv G p g → f = g := by
  induction h with
  | hyp h => intro g h'; cases h' with | hyp h' => rw [h] at h'; injection h'
  | andI => intro g h'; cases h'; rfl
  | fst => intro g h'; cases h'; rfl
  | snd => intro g h'; cases h'; rfl
  | funI => intro g h'; cases h'; rfl
  | use => intro g h'; cases h'; rfl
  | botE => intro g h'; cases h'; rfl

/-! ### The terms that stand for forms and proofs -/
def wAtom (n : Nat) : List UInt8 := [112, UInt8.ofNat (48 + n)]
def wBot : List UInt8 := [98, 111, 116]
def wAnd : List UInt8 := [97, 110, 100]
def wImp : List UInt8 := [105, 109, 112]
def wPf : List UInt8 := [112, 102]
def wAndI : List UInt8 := [97, 110, 100, 73]
def wFst : List UInt8 := [102, 115, 116]
def wSnd : List UInt8 := [115, 110, 100]
def wFunI : List UInt8 := [102, 117, 110, 73]
def wUse : List UInt8 := [117, 115, 101]
def wBotE : List UInt8 := [98, 111, 116, 69]
def fmT : Fm → Tr
  | .atom n => .const (wAtom n) []
  | .bot => .const wBot []
  | .and a b => .const wAnd [fmT a, fmT b]
  | .imp a b => .const wImp [fmT a, fmT b]
def pfT : Pf → Tr
  | .hyp n => .var n []
  | .andI a b p q => .const wAndI [fmT a, fmT b, pfT p, pfT q]
  | .fst a b p => .const wFst [fmT a, fmT b, pfT p]
  | .snd a b p => .const wSnd [fmT a, fmT b, pfT p]
  | .funI a b p => .const wFunI [fmT a, fmT b, .lam (pfT p)]
  | .use a b p q => .const wUse [fmT a, fmT b, pfT p, pfT q]
  | .botE a p => .const wBotE [fmT a, pfT p]
theorem fmT_size : ∀ f : Fm, (fmT f).size = f.size
  | .atom n => by unfold fmT Fm.size; rw [size_const]; rfl
  | .bot => by unfold fmT Fm.size; rw [size_const]; rfl
  | .and a b => by unfold fmT Fm.size; rw [size_const]; simp only [Tr.sizes, List.map_cons, List.map_nil, List.sum_cons, List.sum_nil, fmT_size]; omega
  | .imp a b => by unfold fmT Fm.size; rw [size_const]; simp only [Tr.sizes, List.map_cons, List.map_nil, List.sum_cons, List.sum_nil, fmT_size]; omega
theorem pfT_size : ∀ p : Pf, p.count ≤ (pfT p).size ∧ (pfT p).size ≤ 2 * p.count := by
  intro p
  induction p with
  | hyp n => unfold pfT Pf.count; rw [show (Tr.var (n : Int) []).size = 1 by rw [Tr.size_kids]; rfl]; omega
  | andI a b p q i1 i2 => unfold pfT Pf.count; rw [size_const]; simp only [Tr.sizes, List.map_cons, List.map_nil, List.sum_cons, List.sum_nil, fmT_size]; omega
  | fst a b p i1 => unfold pfT Pf.count; rw [size_const]; simp only [Tr.sizes, List.map_cons, List.map_nil, List.sum_cons, List.sum_nil, fmT_size]; omega
  | snd a b p i1 => unfold pfT Pf.count; rw [size_const]; simp only [Tr.sizes, List.map_cons, List.map_nil, List.sum_cons, List.sum_nil, fmT_size]; omega
  | funI a b p i1 => unfold pfT Pf.count; rw [size_const]; simp only [Tr.sizes, List.map_cons, List.map_nil, List.sum_cons, List.sum_nil, fmT_size, size_lam]; omega
  | use a b p q i1 i2 => unfold pfT Pf.count; rw [size_const]; simp only [Tr.sizes, List.map_cons, List.map_nil, List.sum_cons, List.sum_nil, fmT_size]; omega
  | botE a p i1 => unfold pfT Pf.count; rw [size_const]; simp only [Tr.sizes, List.map_cons, List.map_nil, List.sum_cons, List.sum_nil, fmT_size]; omega
section
variable {n : Int} (h : 0 ≤ n ∧ n ≤ 1000000000)
include h
theorem fmT_lift (b : Int) : ∀ f : Fm, (fmT f).lift n b = fmT f
  | .atom k => by unfold fmT; rw [lift_const h]; rfl
  | .bot => by unfold fmT; rw [lift_const h]; rfl
  | .and x y => by unfold fmT; rw [lift_const h]; simp only [List.map_cons, List.map_nil, fmT_lift b x, fmT_lift b y]
  | .imp x y => by unfold fmT; rw [lift_const h]; simp only [List.map_cons, List.map_nil, fmT_lift b x, fmT_lift b y]
theorem fmT_sb (m : Tr) : ∀ f : Fm, sbT m (fmT f) n = fmT f
  | .atom k => by unfold fmT; rw [sbT_const h]; rfl
  | .bot => by unfold fmT; rw [sbT_const h]; rfl
  | .and x y => by unfold fmT; rw [sbT_const h]; simp only [List.map_cons, List.map_nil, fmT_sb m x, fmT_sb m y]
  | .imp x y => by unfold fmT; rw [sbT_const h]; simp only [List.map_cons, List.map_nil, fmT_sb m x, fmT_sb m y]
end
theorem pfT_lift : ∀ (p : Pf) (k b : Nat), p.ok = true → k + (pfT p).size ≤ 1000000 → b ≤ 1000000 → pfT (p.lift k b) = (pfT p).lift k b := by
  intro p
  induction p with
  | hyp n =>
    intro k b ho hs hb
    unfold pfT Pf.lift
    simp only [Pf.ok, decide_eq_true_eq] at ho
    rw [lift_var]
    by_cases h : k ≤ n
    · rw [if_pos h, if_pos (by omega), W_in (by omega)]; congr 1
    · rw [if_neg h, if_neg (by omega)]
  | andI x y p q i1 i2 =>
    intro k b ho hs hb
    simp only [Pf.ok, Bool.and_eq_true] at ho
    unfold pfT at hs ⊢
    unfold Pf.lift
    rw [size_const] at hs
    simp only [Tr.sizes, List.map_cons, List.map_nil, List.sum_cons, List.sum_nil] at hs
    rw [lift_const (by omega)]
    simp only [List.map_cons, List.map_nil, fmT_lift (show 0 ≤ (k : Int) ∧ (k : Int) ≤ 1000000000 by omega), i1 k b ho.1.2 (by omega) hb, i2 k b ho.2 (by omega) hb, pfT]
  | fst x y p i1 =>
    intro k b ho hs hb
    simp only [Pf.ok, Bool.and_eq_true] at ho
    unfold pfT at hs ⊢
    unfold Pf.lift
    rw [size_const] at hs
    simp only [Tr.sizes, List.map_cons, List.map_nil, List.sum_cons, List.sum_nil] at hs
    rw [lift_const (by omega)]
    simp only [List.map_cons, List.map_nil, fmT_lift (show 0 ≤ (k : Int) ∧ (k : Int) ≤ 1000000000 by omega), i1 k b ho.2 (by omega) hb, pfT]
  | snd x y p i1 =>
    intro k b ho hs hb
    simp only [Pf.ok, Bool.and_eq_true] at ho
    unfold pfT at hs ⊢
    unfold Pf.lift
    rw [size_const] at hs
    simp only [Tr.sizes, List.map_cons, List.map_nil, List.sum_cons, List.sum_nil] at hs
    rw [lift_const (by omega)]
    simp only [List.map_cons, List.map_nil, fmT_lift (show 0 ≤ (k : Int) ∧ (k : Int) ≤ 1000000000 by omega), i1 k b ho.2 (by omega) hb, pfT]
  | funI x y p i1 =>
    intro k b ho hs hb
    simp only [Pf.ok, Bool.and_eq_true] at ho
    unfold pfT at hs ⊢
    unfold Pf.lift
    rw [size_const] at hs
    simp only [Tr.sizes, List.map_cons, List.map_nil, List.sum_cons, List.sum_nil, size_lam] at hs
    rw [lift_const (by omega)]
    have := i1 (k + 1) b ho.2 (by omega) hb
    simp only [List.map_cons, List.map_nil, fmT_lift (show 0 ≤ (k : Int) ∧ (k : Int) ≤ 1000000000 by omega), pfT]
    rw [lift_lam (by omega), this]
    simp
  | use x y p q i1 i2 =>
    intro k b ho hs hb
    simp only [Pf.ok, Bool.and_eq_true] at ho
    unfold pfT at hs ⊢
    unfold Pf.lift
    rw [size_const] at hs
    simp only [Tr.sizes, List.map_cons, List.map_nil, List.sum_cons, List.sum_nil] at hs
    rw [lift_const (by omega)]
    simp only [List.map_cons, List.map_nil, fmT_lift (show 0 ≤ (k : Int) ∧ (k : Int) ≤ 1000000000 by omega), i1 k b ho.1.2 (by omega) hb, i2 k b ho.2 (by omega) hb, pfT]
  | botE x p i1 =>
    intro k b ho hs hb
    simp only [Pf.ok, Bool.and_eq_true] at ho
    unfold pfT at hs ⊢
    unfold Pf.lift
    rw [size_const] at hs
    simp only [Tr.sizes, List.map_cons, List.map_nil, List.sum_cons, List.sum_nil] at hs
    rw [lift_const (by omega)]
    simp only [List.map_cons, List.map_nil, fmT_lift (show 0 ≤ (k : Int) ∧ (k : Int) ≤ 1000000000 by omega), i1 k b ho.2 (by omega) hb, pfT]
theorem pfT_cut (m : Pf) (hm : m.ok = true) (hms : (pfT m).size ≤ 1000) : ∀ (q : Pf) (k : Nat), q.ok = true → k + (pfT q).size ≤ 100000 → pfT (m.cut q k) = sbT (pfT m) (pfT q) k := by
  intro q
  induction q with
  | hyp n =>
    intro k ho hs
    simp only [Pf.ok, decide_eq_true_eq] at ho
    unfold Pf.cut
    rw [show pfT (.hyp n) = .var n [] by rfl] at hs ⊢
    rw [show (Tr.var (n : Int) []).size = 1 by rw [Tr.size_kids]; rfl] at hs
    rw [sbT_var]
    by_cases h : n = k
    · have e1 : (n : Int) = k := by omega
      rw [if_pos h, if_pos e1]
      exact pfT_lift m 0 k hm (by omega) (by omega)
    · have e1 : ¬ (n : Int) = k := by omega
      rw [if_neg h, if_neg e1]
      by_cases h2 : k < n
      · have e2 : (k : Int) < n := by omega
        rw [if_pos h2, if_pos e2, W_in (by omega)]
        unfold pfT
        congr 1; omega
      · have e2 : ¬ (k : Int) < n := by omega
        rw [if_neg h2, if_neg e2]; rfl
  | andI x y p q i1 i2 =>
    intro k ho hs
    simp only [Pf.ok, Bool.and_eq_true] at ho
    unfold pfT at hs
    rw [size_const] at hs
    simp only [Tr.sizes, List.map_cons, List.map_nil, List.sum_cons, List.sum_nil] at hs
    rw [show pfT (.andI x y p q) = .const wAndI [fmT x, fmT y, pfT p, pfT q] by rfl, sbT_const (by omega)]
    unfold Pf.cut
    simp only [List.map_cons, List.map_nil, fmT_sb (show 0 ≤ (k : Int) ∧ (k : Int) ≤ 1000000000 by omega), ← i1 k ho.1.2 (by omega), ← i2 k ho.2 (by omega), pfT]
  | fst x y p i1 =>
    intro k ho hs
    simp only [Pf.ok, Bool.and_eq_true] at ho
    unfold pfT at hs
    rw [size_const] at hs
    simp only [Tr.sizes, List.map_cons, List.map_nil, List.sum_cons, List.sum_nil] at hs
    rw [show pfT (.fst x y p) = .const wFst [fmT x, fmT y, pfT p] by rfl, sbT_const (by omega)]
    unfold Pf.cut
    simp only [List.map_cons, List.map_nil, fmT_sb (show 0 ≤ (k : Int) ∧ (k : Int) ≤ 1000000000 by omega), ← i1 k ho.2 (by omega), pfT]
  | snd x y p i1 =>
    intro k ho hs
    simp only [Pf.ok, Bool.and_eq_true] at ho
    unfold pfT at hs
    rw [size_const] at hs
    simp only [Tr.sizes, List.map_cons, List.map_nil, List.sum_cons, List.sum_nil] at hs
    rw [show pfT (.snd x y p) = .const wSnd [fmT x, fmT y, pfT p] by rfl, sbT_const (by omega)]
    unfold Pf.cut
    simp only [List.map_cons, List.map_nil, fmT_sb (show 0 ≤ (k : Int) ∧ (k : Int) ≤ 1000000000 by omega), ← i1 k ho.2 (by omega), pfT]
  | funI x y p i1 =>
    intro k ho hs
    simp only [Pf.ok, Bool.and_eq_true] at ho
    unfold pfT at hs
    rw [size_const] at hs
    simp only [Tr.sizes, List.map_cons, List.map_nil, List.sum_cons, List.sum_nil, size_lam] at hs
    rw [show pfT (.funI x y p) = .const wFunI [fmT x, fmT y, .lam (pfT p)] by rfl, sbT_const (by omega)]
    unfold Pf.cut
    have := i1 (k + 1) ho.2 (by omega)
    simp only [List.map_cons, List.map_nil, fmT_sb (show 0 ≤ (k : Int) ∧ (k : Int) ≤ 1000000000 by omega), pfT]
    rw [sbT_lam (by omega), this]
    simp
  | use x y p q i1 i2 =>
    intro k ho hs
    simp only [Pf.ok, Bool.and_eq_true] at ho
    unfold pfT at hs
    rw [size_const] at hs
    simp only [Tr.sizes, List.map_cons, List.map_nil, List.sum_cons, List.sum_nil] at hs
    rw [show pfT (.use x y p q) = .const wUse [fmT x, fmT y, pfT p, pfT q] by rfl, sbT_const (by omega)]
    unfold Pf.cut
    simp only [List.map_cons, List.map_nil, fmT_sb (show 0 ≤ (k : Int) ∧ (k : Int) ≤ 1000000000 by omega), ← i1 k ho.1.2 (by omega), ← i2 k ho.2 (by omega), pfT]
  | botE x p i1 =>
    intro k ho hs
    simp only [Pf.ok, Bool.and_eq_true] at ho
    unfold pfT at hs
    rw [size_const] at hs
    simp only [Tr.sizes, List.map_cons, List.map_nil, List.sum_cons, List.sum_nil] at hs
    rw [show pfT (.botE x p) = .const wBotE [fmT x, pfT p] by rfl, sbT_const (by omega)]
    unfold Pf.cut
    simp only [List.map_cons, List.map_nil, fmT_sb (show 0 ≤ (k : Int) ∧ (k : Int) ≤ 1000000000 by omega), ← i1 k ho.2 (by omega), pfT]
end Go.H
/- A number is a number: nothing on the way is too big. A drawn family stands. -/
namespace Go.H
open Go
set_option linter.unusedVariables false
set_option linter.unusedSimpArgs false

end Go.H
/- A drawn family stands in its context. -/
namespace Go.H
open Go
set_option linter.unusedVariables false
set_option linter.unusedSimpArgs false

end Go.H
/- What is left of a drawn judgement behind a number that is put is accepted, or too big. -/
namespace Go.H
open Go
set_option linter.unusedVariables false
set_option linter.unusedSimpArgs false

end Go.H
/- Nothing on the way of a small drawn judgement is too big. -/
namespace Go.H
open Go
set_option linter.unusedVariables false
set_option linter.unusedSimpArgs false

theorem NatT.term3 {n : Nat} {t : Tr} (h : NatT n t) : 3 * n + t.size ≤ 300 → t.isTerm false = true := by
  induction h with
  | var h0 h1 => exact fun hs => term_x h0 (by omega)
  | z => exact fun _ => term_const (by rfl) (by simp)
  | s ht ih =>
    intro hs
    rw [size_s] at hs
    exact term_const (by rfl) (by simpa using ih (by omega))
  | @it n t u ht hu iht ihu =>
    intro hs
    rw [size_const] at hs
    simp only [Tr.sizes, List.map_cons, List.map_nil, List.sum_cons, List.sum_nil, size_lam] at hs
    have := u.size_pos
    refine term_const (by rfl) ?_
    simp only [List.forall_mem_cons]
    exact ⟨term_lam' (iht (by omega)), ihu (by omega), by simp⟩
theorem NatT.high {n : Nat} {t : Tr} (h : NatT n t) (hs : 3 * n + t.size ≤ 300) : t.high = false := term_high _ (h.term3 hs)
theorem lift_fm (s : List UInt8) (ks : List Tr) : (Tr.fm s ks).lift 0 1 = .fm s (ks.map fun x => x.lift 0 1) := by
  rw [Tr.lift_eq]
  simp only [Tr.fm, Tr.kind, Tr.n, Tr.name, Tr.kids, Tr.under]
  simp [mapIdx_map, W_in (show (-9223372036854775808 : Int) ≤ 0 ∧ (0 : Int) ≤ 9223372036854775807 by omega)]
theorem ListT.lift {n k : Nat} {t : Tr} (hn : n ≤ 1000) (h : ListT n k t) : t.size ≤ 1000 → ListT (n + 1) k (t.lift 0 1) := by
  induction h with
  | nil => intro _; rw [lift_const (by omega)]; exact .nil
  | @cons k x t hx ht ih =>
    intro hs
    rw [size_const] at hs
    simp only [Tr.sizes, List.map_cons, List.map_nil, List.sum_cons, List.sum_nil, size_count] at hs
    rw [lift_const (by omega)]
    simp only [List.map_cons, List.map_nil]
    rw [lift_count (by omega)]
    exact .cons (hx.lift 0 1 (by omega) (by omega) (by omega) (by omega)) (ih (by omega))
theorem SumT.lift {n k : Nat} {m t u : Tr} (hn : n ≤ 1000) (hm : NatT n m) (hms : m.size ≤ 1000) (h : SumT n m k t u) : SumT (n + 1) (m.lift 0 1) k (t.lift 0 1) (u.lift 0 1) := by
  induction h with
  | z =>
    rw [lift_const (by omega)]
    exact .z
  | @s k t u ht ih =>
    rw [lift_const (by omega)]
    simp only [List.map_cons, List.map_nil]
    rw [lift_count (by omega), show (sT u).lift 0 1 = sT (u.lift 0 1) from lift_const (by omega) 1 wS [u]]
    exact .s ih
/-- A drawn judgement is lifted. -/
theorem JudgedT.lift {n : Nat} {m a : Tr} (hn : n ≤ 1000) (h : JudgedT n m a) (ha : a.size ≤ 1000) : JudgedT (n + 1) (m.lift 0 1) (a.lift 0 1) := by
  cases h with
  | @fn t ht hs =>
    rw [lift_lam (by omega)]
    have e : (Tr.pi natF natF).lift 0 1 = .pi natF natF := by kernel_rfl
    rw [e]
    exact .fn (ht.lift 1 1 (by omega) (by omega) (by omega) (by omega)) (by rw [lift_size]; omega)
  | @list k t hk hl hs =>
    have e : (vecF (cntT k)).lift 0 1 = vecF (cntT k) := by
      unfold vecF
      rw [lift_fm]
      simp only [List.map_cons, List.map_nil]
      rw [lift_count (by omega)]
    rw [e]
    exact .list hk (hl.lift hn hs) (by rw [lift_size]; omega)
  | @sum k m' t u hk hm hms hl hs =>
    have e : (plusF (cntT k) m' u).lift 0 1 = plusF (cntT k) (m'.lift 0 1) (u.lift 0 1) := by
      unfold plusF
      rw [lift_fm]
      simp only [List.map_cons, List.map_nil]
      rw [lift_count (by omega)]
    rw [e]
    exact .sum hk (hm.lift 0 1 (by omega) (by omega) (by omega) (by omega)) (by rw [lift_size]; omega) (hl.lift hn hm hms) (by rw [lift_size]; omega)
  | @mk t ht hs =>
    have e : (allF (.lam t)).lift 0 1 = allF (.lam (t.lift 1 1)) := by
      unfold allF
      rw [lift_fm]
      simp only [List.map_cons, List.map_nil]
      rw [lift_lam (by omega)]
      rfl
    rw [e, lift_const (by omega)]
    simp only [List.map_cons, List.map_nil]
    rw [lift_lam (by omega)]
    exact .mk (ht.lift 1 1 (by omega) (by omega) (by omega) (by omega)) (by rw [lift_size]; omega)
  | @num t ht hs =>
    rw [lift_nat]
    exact .num (ht.lift 0 1 (by omega) (by omega) (by omega) (by omega)) (by rw [lift_size]; omega)
end Go.H
/- The terms of forms stand. -/
namespace Go.H
open Go
set_option linter.unusedVariables false
set_option linter.unusedSimpArgs false

theorem fmT_name (n : Nat) (h : n < 6) : nameOK (wAtom n) = true := by
  match n, h with
  | 0, _ => rfl
  | 1, _ => rfl
  | 2, _ => rfl
  | 3, _ => rfl
  | 4, _ => rfl
  | 5, _ => rfl
theorem fmT_term : ∀ f : Fm, f.ok = true → (fmT f).isTerm false = true := by
  intro f
  induction f with
  | atom n => intro h; simp only [Fm.ok, decide_eq_true_eq] at h; exact term_const (fmT_name n h) (by simp)
  | bot => exact fun _ => term_const (by rfl) (by simp)
  | and a b ia ib =>
    intro h
    simp only [Fm.ok, Bool.and_eq_true] at h
    refine term_const (by rfl) ?_
    simp only [List.forall_mem_cons]
    exact ⟨ia h.1, ib h.2, by simp⟩
  | imp a b ia ib =>
    intro h
    simp only [Fm.ok, Bool.and_eq_true] at h
    refine term_const (by rfl) ?_
    simp only [List.forall_mem_cons]
    exact ⟨ia h.1, ib h.2, by simp⟩
end Go.H
/- Local variables of a draw: which block holds what, beside the source. -/
namespace Go.H
open Go
set_option linter.unusedVariables false
set_option linter.unusedSimpArgs false

structure HS (bs : List UInt8) (M : Int) (b : Nat) (st w : St) (L : List (Nat × PV)) (P : List (Nat × List PV)) : Prop where
  src : Src bs M b w
  ar : Around b st w
  got : ∀ x ∈ L, w x.1 = some (.cells x.2.cells)
  zat : ∀ x ∈ P, w x.1 = some (.cells x.2)
  nd : (L.map (·.1) ++ P.map (·.1)).Nodup
  out : ∀ c ∈ L.map (·.1) ++ P.map (·.1), c ≠ b ∧ st c = none
section
variable {bs : List UInt8} {M : Int} {b : Nat} {st w : St} {L : List (Nat × PV)} {P : List (Nat × List PV)}
theorem Src.some {bs : List UInt8} {M : Int} {b : Nat} {st : St} (h : Src bs M b st) : ∃ o, st b = some o := by
  obtain ⟨a, s, h1, _⟩ := h.is
  exact ⟨_, h1⟩
theorem Around.refl' (b : Nat) (st : St) : Around b st st := fun _ _ _ h => h
theorem HS.start (h : Src bs M b st) : HS bs M b st st [] [] := ⟨h, Around.refl' b st, by simp, by simp, by simp, by simp⟩
theorem HS.some_of (h : HS bs M b st w L P) {c : Nat} (hb : c ∈ L.map (·.1) ++ P.map (·.1)) : ∃ o, w c = some o := by
  rw [List.mem_append] at hb
  rcases hb with hb | hb
  · obtain ⟨x, hx, rfl⟩ := List.mem_map.1 hb; exact ⟨_, h.got x hx⟩
  · obtain ⟨x, hx, rfl⟩ := List.mem_map.1 hb; exact ⟨_, h.zat x hx⟩
theorem HS.alloc {z : List PV} {K : PV → St → Prop} (h : HS bs M b st w L P) (hk : ∀ v w', HS bs M b st w' L (P ++ [(v, z)]) → K (.ptr v 0) w') : e_alloc w z K := fun v hv => by
  have ne : ∀ c ∈ L.map (·.1) ++ P.map (·.1), c ≠ v := fun c hc e => by
    obtain ⟨o, ho⟩ := h.some_of hc
    rw [e, hv] at ho; cases ho
  have vb : v ≠ b := fun e => by
    obtain ⟨o, ho⟩ := h.src.some
    rw [← e, hv] at ho; cases ho
  have sv : st v = none := by
    cases hs : st v with
    | none => rfl
    | some o => have := h.ar v o vb hs; rw [hv] at this; cases this
  refine hk v _ ⟨?_, fun c o hc h0 => ?_, fun x hx => ?_, fun x hx => ?_, ?_, fun c hc => ?_⟩
  · obtain ⟨a, s, h1, h2⟩ := h.src.is
    exact ⟨a, s, by rw [upd_ne _ _ (Ne.symm vb)]; exact h1, h2⟩
  · have : c ≠ v := fun e => by rw [e, sv] at h0; cases h0
    rw [upd_ne _ _ this]
    exact h.ar c o hc h0
  · rw [upd_ne _ _ (ne _ (List.mem_append_left _ (List.mem_map_of_mem hx)))]
    exact h.got x hx
  · rw [List.mem_append, List.mem_singleton] at hx
    rcases hx with hx | rfl
    · rw [upd_ne _ _ (ne _ (List.mem_append_right _ (List.mem_map_of_mem hx)))]
      exact h.zat x hx
    · exact upd_same _ _ _
  · rw [List.map_append, ← List.append_assoc, List.nodup_append]
    refine ⟨h.nd, by simp, fun a ha b hb => ?_⟩
    simp only [List.map_cons, List.map_nil, List.mem_singleton] at hb
    rw [hb]
    exact ne a ha
  · rw [List.map_append, ← List.append_assoc, List.mem_append] at hc
    rcases hc with hc | hc
    · exact h.out c hc
    · simp only [List.map_cons, List.map_nil, List.mem_singleton] at hc
      rw [hc]
      exact ⟨vb, sv⟩
theorem HS.store {z : List PV} {v n : Nat} {y : PV} {K : St → Prop} (h : HS bs M b st w L ((v, z) :: P)) (hy : Box n y) (hz : z.length = n) (hk : ∀ w', HS bs M b st w' ((v, y) :: L) P → K w') :
    e_store w n (.ptr v 0) y K := by
  obtain ⟨cs, rfl, hl, hc⟩ := hy
  refine e_store_ptr (h.zat (v, z) (by simp)) hc hl rfl (by show 0 + n ≤ z.length; omega) ?_
  have e : setRange z 0 (PV.agg cs).cells = cs := by
    unfold setRange
    show z.take 0 ++ cs ++ z.drop (0 + cs.length) = cs
    rw [List.take_zero, List.nil_append, List.drop_of_length_le (by omega), List.append_nil]
  rw [e]
  have nd := h.nd
  rw [List.map_cons, List.nodup_append] at nd
  obtain ⟨n1, n2, n3⟩ := nd
  rw [List.nodup_cons] at n2
  obtain ⟨vb, sv⟩ := h.out v (by simp)
  refine hk _ ⟨?_, fun c o hc h0 => ?_, fun x hx => ?_, fun x hx => ?_, ?_, fun b hb => ?_⟩
  · obtain ⟨a, s, h1, h2⟩ := h.src.is
    exact ⟨a, s, by rw [upd_ne _ _ (Ne.symm vb)]; exact h1, h2⟩
  · have : c ≠ v := fun e => by rw [e, sv] at h0; cases h0
    rw [upd_ne _ _ this]
    exact h.ar c o hc h0
  · rcases List.mem_cons.1 hx with rfl | hx
    · exact upd_same _ _ _
    · rw [upd_ne _ _ (n3 _ (List.mem_map_of_mem hx) v (by simp))]
      exact h.got x hx
  · rw [upd_ne _ _ (fun e => n2.1 (by rw [show v = x.1 from e.symm]; exact List.mem_map.2 ⟨x, hx, rfl⟩))]
    exact h.zat x (by simp [hx])
  · rw [List.map_cons, List.cons_append, List.nodup_cons, List.nodup_append, List.mem_append]
    refine ⟨fun hm => ?_, n1, n2.2, fun a ha b hb => n3 a ha b (by simp [hb])⟩
    rcases hm with hm | hm
    · exact n3 v hm v (by simp) rfl
    · exact n2.1 hm
  · refine h.out b ?_
    simp only [List.map_cons, List.cons_append, List.mem_cons, List.mem_append] at hb ⊢
    rcases hb with hb | hb | hb
    · exact .inr (.inl hb)
    · exact .inl hb
    · exact .inr (.inr hb)
theorem HS.load {v n : Nat} {y : PV} (h : HS bs M b st w L P) (hy : Box n y) (hv : (v, y) ∈ L) : q_load w true n (.ptr v 0) = some y := by
  obtain ⟨cs, rfl, hl, _⟩ := hy
  have := h.got _ hv
  rw [q_load_ptr this]
  show takeV true n (cs.drop 0) = _
  rw [List.drop_zero]
  show (if n ≤ cs.length then some (PV.agg (cs.take n)) else none) = _
  rw [if_pos (by omega), List.take_of_length_le (by omega)]
theorem HS.perm {P' : List (Nat × List PV)} (h : HS bs M b st w L P) (hp : P.Perm P') : HS bs M b st w L P' :=
  ⟨h.src, h.ar, h.got, fun x hx => h.zat x (hp.mem_iff.2 hx), ((List.Perm.append_left _ (hp.map _)).nodup_iff).1 h.nd, fun b hb => h.out b ((List.Perm.append_left _ (hp.map _)).mem_iff.2 hb)⟩
theorem HS.store2 {p : Nat × List PV} {z : List PV} {v n : Nat} {y : PV} {K : St → Prop} (h : HS bs M b st w L (p :: (v, z) :: P)) (hy : Box n y) (hz : z.length = n) (hk : ∀ w', HS bs M b st w' ((v, y) :: L) (p :: P) → K w') : e_store w n (.ptr v 0) y K :=
  (h.perm (List.Perm.swap _ _ _)).store hy hz hk
theorem HS.store3 {p q : Nat × List PV} {z : List PV} {v n : Nat} {y : PV} {K : St → Prop} (h : HS bs M b st w L (p :: q :: (v, z) :: P)) (hy : Box n y) (hz : z.length = n) (hk : ∀ w', HS bs M b st w' ((v, y) :: L) (p :: q :: P) → K w') : e_store w n (.ptr v 0) y K :=
  (h.perm ((List.Perm.cons _ (List.Perm.swap _ _ _)).trans (List.Perm.swap _ _ _))).store hy hz hk
theorem HS.ldf {v : Nat} {f : Fm} (h : HS bs M b st w L P) (hv : (v, Go.H.fm f) ∈ L) : q_load w true 3 (.ptr v 0) = some (Go.H.fm f) := h.load (Box.fm f) hv
theorem HS.ldp {v : Nat} {p : Pf} (h : HS bs M b st w L P) (hv : (v, Go.H.pf p) ∈ L) : q_load w true 4 (.ptr v 0) = some (Go.H.pf p) := h.load (Box.pf p) hv
/-- Two variables, one of four cells and one of three, made behind two others. -/
theorem HS.pair {p q : Nat × List PV} {x : Pf} {f : Fm} {z z' : List PV} {K : PV → PV → St → Prop} (h : HS bs M b st w L [p, q]) (hz : z.length = 4) (hz' : z'.length = 3) (hk : ∀ v u w', HS bs M b st w' ((u, fm f) :: (v, pf x) :: L) [p, q] → K (.ptr v 0) (.ptr u 0) w') :
    e_alloc w z fun v st => e_alloc st z' fun u st => e_store st 4 v (pf x) fun st => e_store st 3 u (fm f) fun st => K v u st :=
  h.alloc fun v w1 h1 => h1.alloc fun u w2 h2 => HS.store3 h2 (Box.pf x) hz fun w3 h3 => HS.store3 h3 (Box.fm f) hz' fun w4 h4 => hk v u w4 h4
/-- A draw. -/
theorem HS.drew {Q : PV → Prop} {M' : Int} {Pr : Program} {g : FuncId} {us : List PV} {K Kp : PV → St → Prop} (h : HS bs M b st w L P) (hc : HCalls Pr g us w (Drew bs M' b Q w)) (hk : ∀ p w', Q p → HS bs M' b st w' L P → K p w') : callK Pr g us w K Kp :=
  callK_drew hc fun p o hq hs => hk p _ hq ⟨hs, fun c oc hcb h0 => by rw [upd_ne _ _ hcb]; exact h.ar c oc hcb h0,
    fun x hx => by rw [upd_ne _ _ (h.out x.1 (List.mem_append_left _ (List.mem_map_of_mem hx))).1]; exact h.got x hx,
    fun x hx => by rw [upd_ne _ _ (h.out x.1 (List.mem_append_right _ (List.mem_map_of_mem hx))).1]; exact h.zat x hx, h.nd, h.out⟩
theorem HS.fin {Q : PV → Prop} {p : PV} (h : HS bs M b st w L P) (hq : Q p) : retR (Drew bs M b Q st) p w := Drew.fin hq h.src h.ar
theorem HS.mono {M' : Int} (h : HS bs M b st w L P) (hm : M ≤ M') : HS bs M' b st w L P := ⟨h.src.mono hm, h.ar, h.got, h.zat, h.nd, h.out⟩
theorem HS.sub (h : HS bs M b st w L P) (hb : st b = none) : Sub st w := fun c o hc => h.ar c o (fun e => by rw [e, hb] at hc; cases hc) hc
theorem Held.perm {P' : List (Nat × List PV)} (h : Held st w L P) (hp : P.Perm P') : Held st w L P' :=
  ⟨h.sub, h.got, fun x hx => h.zat x (hp.mem_iff.2 hx), ((List.Perm.append_left _ (hp.map _)).nodup_iff).1 h.nd, fun b hb => h.out b ((List.Perm.append_left _ (hp.map _)).mem_iff.2 hb)⟩
theorem Held.store2 {p : Nat × List PV} {z : List PV} {v n : Nat} {y : PV} {K : St → Prop} (h : Held st w L (p :: (v, z) :: P)) (hy : Box n y) (hz : z.length = n) (hk : ∀ w', Held st w' ((v, y) :: L) (p :: P) → K w') : e_store w n (.ptr v 0) y K :=
  (h.perm (List.Perm.swap _ _ _)).store hy hz hk
theorem Held.store3 {p q : Nat × List PV} {z : List PV} {v n : Nat} {y : PV} {K : St → Prop} (h : Held st w L (p :: q :: (v, z) :: P)) (hy : Box n y) (hz : z.length = n) (hk : ∀ w', Held st w' ((v, y) :: L) (p :: q :: P) → K w') : e_store w n (.ptr v 0) y K :=
  (h.perm ((List.Perm.cons _ (List.Perm.swap _ _ _)).trans (List.Perm.swap _ _ _))).store hy hz hk
/-- A variable's value is another one. -/
theorem Held.again {v : Nat} {x y : PV} (h : Held st w ((v, x) :: L) P) : Held st (upd w v (.cells y.cells)) ((v, y) :: L) P := by
  have nd := h.nd
  rw [List.map_cons, List.cons_append, List.nodup_cons] at nd
  refine ⟨fun c o hc => ?_, fun z hz => ?_, fun z hz => ?_, by simpa using h.nd, fun b hb => h.out b (by simpa using hb)⟩
  · have : c ≠ v := fun e => by
      have := h.out v (by simp)
      rw [e, this] at hc; cases hc
    rw [upd_ne _ _ this]
    exact h.sub c o hc
  · rcases List.mem_cons.1 hz with rfl | hz
    · exact upd_same _ _ _
    · rw [upd_ne _ _ (fun e => nd.1 (by rw [← show z.1 = v from e]; exact List.mem_append_left _ (List.mem_map.2 ⟨z, hz, rfl⟩)))]
      exact h.got z (by simp [hz])
  · rw [upd_ne _ _ (fun e => nd.1 (by rw [← show z.1 = v from e]; exact List.mem_append_right _ (List.mem_map.2 ⟨z, hz, rfl⟩)))]
    exact h.zat z hz
theorem Held.grow {w' : St} (h : Held st w L P) (hs : Sub w w') : Held st w' L P := ⟨h.sub.trans hs, fun x hx => hs _ _ (h.got x hx), fun x hx => hs _ _ (h.zat x hx), h.nd, h.out⟩
theorem HS.top {v n : Nat} {y : PV} (h : HS bs M b st w ((v, y) :: L) P) (hy : Box n y) : q_load w true n (.ptr v 0) = some y := h.load hy (by simp)
theorem Held.top {v n : Nat} {y : PV} (h : Held st w ((v, y) :: L) P) (hy : Box n y) : q_load w true n (.ptr v 0) = some y := h.load hy (by simp)
theorem retR_via {R : Res → St → Prop} {p p' : PV} {s s' : St} (hc : Conv [p] s [p'] s') (h : retR R p' s') : retR R p s := by
  obtain ⟨p2, s2, h1, h2⟩ := h
  exact ⟨p2, s2, hc.trans h1, h2⟩
/-- A source is made. -/
theorem HS.begun {Pr : Program} {g : FuncId} {us : List PV} {s0 s : St} {K Kp : PV → St → Prop} (h : Held s0 s L P) (hc : HCalls Pr g us s (Begun bs s)) (hk : ∀ b w', s0 b = none → HS bs 0 b s0 w' L P → K (.ptr b 0) w') : callK Pr g us s K Kp :=
  callK_begun hc fun b o hb hs => by
    have hs0 := h.sub.isNone hb
    have ne : ∀ c ∈ L.map (·.1) ++ P.map (·.1), c ≠ b := fun c hc e => by
      obtain ⟨o, ho⟩ := h.some_of hc
      rw [e, hb] at ho; cases ho
    refine hk b _ hs0 ⟨hs, fun c oc hcb h0 => by rw [upd_ne _ _ hcb]; exact h.sub c oc h0,
      fun x hx => by rw [upd_ne _ _ (ne x.1 (List.mem_append_left _ (List.mem_map_of_mem hx)))]; exact h.got x hx,
      fun x hx => by rw [upd_ne _ _ (ne x.1 (List.mem_append_right _ (List.mem_map_of_mem hx)))]; exact h.zat x hx, h.nd, fun c hc => ⟨ne c hc, h.out c hc⟩⟩
end
end Go.H
/- Steps of a walk that goes by itself. -/
namespace Go.H
open Go
set_option linter.unusedVariables false
set_option linter.unusedSimpArgs false

theorem cbr_t {b : Bool} {X Y : Prop} (h : b = true) (hx : X) : cb (.bool b) fun c => br c X Y := by subst h; exact hx
theorem cbr_f {b : Bool} {X Y : Prop} (h : b = false) (hy : Y) : cb (.bool b) fun c => br c X Y := by subst h; exact hy
theorem cbr_dec {c : Prop} [Decidable c] {X Y : Prop} (h1 : c → X) (h2 : ¬ c → Y) : cb (.bool (decide c)) fun b => br b X Y := br_dec h1 h2
theorem hFix_step {F : List PV → St → (List PV → St → Prop) → Prop} {ls : List PV} {st : St} (h : F ls st (hFix F)) : hFix F ls st := fun X h1 h2 => h1 ls st (hFix F) (fun l s hl => hl X h1 h2) h
theorem hJ_step {B : List PV → St → Prop} {F : (List PV → St → Prop) → Prop} (h : ∀ J : List PV → St → Prop, (∀ ls st, B ls st → J ls st) → F J) : hJ B F := hJ_of h
theorem lfm (s : St) (f : Fm) : q_load s true 3 (.ref (fm f).cells) = some (fm f) := by simp
theorem lpf (s : St) (p : Pf) : q_load s true 4 (.ref (pf p).cells) = some (pf p) := by simp
theorem ltr (s : St) (t : Tr) : q_load s true 4 (.ref (tree t).cells) = some (tree t) := by simp
theorem qinc {i : Nat} (h : (i : Int) ≤ 1000000000000000) : q_bin .add (.int .i64 (i : Int)) (.int .i64 1) = some (.int .i64 ((i + 1 : Nat) : Int)) := by
  rw [q_bin_int, q_add, wrap64 (by omega) (by omega)]; rfl
theorem qdec {n : Int} (h : -1000000000000000 ≤ n ∧ n ≤ 1000000000000000) : q_bin .sub (.int .i64 n) (.int .i64 1) = some (.int .i64 (n - 1)) := by
  rw [q_bin_int, q_sub, wrap64 (by omega) (by omega)]
end Go.H
/- A row of one's own, spoken of in a cell of one's own, is held for good. -/
namespace Go.H
open Go
set_option linter.unusedVariables false
set_option linter.unusedSimpArgs false

theorem rx_freeze {w : World} {st : St} {b n cap esz : Nat} {xs : List PV} (hg : Good w st) (hb : st b = some (.vec esz xs cap)) (hn : xs.length = n) {us : List Value} (h : RX (Cw w st) (.vsl b n cap) us) : RX (Cw w (del st b)) (.sl esz false xs) us := by
  obtain ⟨arr, t, r1, r2, r3, r4, r5, r6, r7⟩ := hg b _ hb
  simp only [RX] at h ⊢
  subst h
  refine ⟨_, _, _, rfl, hn.symm, by omega, r3, (fun h => by cases h), r6, .inr ⟨b, 0, arr.toList.take (xs.length * esz), rfl, fun j v hj => ⟨?_, del_same st b⟩, RXs.mono (Evo.sub (del_sub st b)).cw _ _ r7⟩⟩
  rw [Nat.zero_add, cell_of_heap r1]
  rw [List.getElem?_take] at hj
  split at hj
  · exact hj
  · cases hj
theorem RCs.swap {C C' : Nat → Nat → Value → Prop} (hC : ∀ b o v, C b o v → C' b o v) {p p' : PV} (hp : ∀ us, RX C p us → RX C' p' us) : ∀ (pre post : List PV) (us : List Value), RCs C (pre ++ p :: post) us → RCs C' (pre ++ p' :: post) us
  | [], post, us, h => by
    simp only [List.nil_append, RCs] at h ⊢
    obtain ⟨v, vs, rfl, h1, h2⟩ := h
    exact ⟨v, vs, rfl, hp _ h1, RCs.mono hC _ _ h2⟩
  | q :: pre, post, us, h => by
    simp only [List.cons_append, RCs] at h ⊢
    obtain ⟨v, vs, rfl, h1, h2⟩ := h
    exact ⟨v, vs, rfl, h1.mono hC, RCs.swap hC hp pre post vs h2⟩
/-- In a block of cells a row of one's own becomes one that is held for good. -/
theorem Conv.cell {ls : List PV} {st : St} {v b n cap esz : Nat} {pre post : List PV} {xs : List PV} (hv : st v = some (.cells (pre ++ .vsl b n cap :: post))) (hb : st b = some (.vec esz xs cap)) (hn : xs.length = n) :
    Conv ls st ls (upd (del st b) v (.cells (pre ++ .sl esz false xs :: post))) := fun w hg => by
  have ne : v ≠ b := fun e => by rw [e, hb] at hv; cases hv
  have hC : ∀ c o u, Cw w st c o u → Cw w (upd (del st b) v (.cells (pre ++ .sl esz false xs :: post))) c o u := fun c o u ⟨h1, h2⟩ => by
    have hc : c ≠ v := fun e => by rw [e, hv] at h2; cases h2
    refine ⟨h1, ?_⟩
    rw [upd_ne _ _ hc]
    unfold del
    split
    · rfl
    · exact h2
  have hC2 : ∀ c o u, Cw w (del st b) c o u → Cw w (upd (del st b) v (.cells (pre ++ .sl esz false xs :: post))) c o u := fun c o u ⟨h1, h2⟩ => by
    have hc : c ≠ v := fun e => by
      rw [e] at h2
      unfold del at h2
      rw [if_neg ne, hv] at h2; cases h2
    exact ⟨h1, by rw [upd_ne _ _ hc]; exact h2⟩
  refine ⟨fun c o hc => ?_, ⟨rfl, rfl, rfl, Nat.le_refl _, fun c hc hn => ⟨rfl, ?_⟩⟩, fun vals h => h.mono hC⟩
  · by_cases hcv : c = v
    · subst hcv
      rw [upd_same] at hc
      cases hc
      obtain ⟨arr, t, r1, r2⟩ := hg c _ hv
      exact ⟨arr, t, r1, RCs.swap hC (fun us hu => RX.mono hC2 _ _ (rx_freeze hg hb hn hu)) pre post _ r2⟩
    · rw [upd_ne _ _ hcv] at hc
      unfold del at hc
      split at hc
      · cases hc
      · exact (hg c o hc).mono hC rfl
  · have hcv : c ≠ v := fun e => by rw [e, hv] at hn; cases hn
    rw [upd_ne _ _ hcv]
    unfold del
    split
    · rfl
    · exact hn
theorem rx_empty {C : Nat → Nat → Value → Prop} {e e' : Nat} {f f' : Bool} {us : List Value} (h : RX C (.sl e f []) us) (hf : f' = true → f = true) : RX C (.sl e' f' []) us := by
  simp only [RX] at h ⊢
  obtain ⟨a, n, cap, rfl, h3, h4, h5, h6, h7, h8⟩ := h
  exact ⟨_, _, _, rfl, h3, h4, h5, (fun h => h6 (hf h)), (fun x hx => by cases hx), .inl trivial⟩
/-- In a block of cells a value is spelt anew. -/
theorem Conv.cellTo {ls : List PV} {st : St} {v : Nat} {pre post : List PV} {p p' : PV} (hv : st v = some (.cells (pre ++ p :: post))) (hp : ∀ (C : Nat → Nat → Value → Prop) us, RX C p us → RX C p' us) :
    Conv ls st ls (upd st v (.cells (pre ++ p' :: post))) := fun w hg => by
  have hC : ∀ c o u, Cw w st c o u → Cw w (upd st v (.cells (pre ++ p' :: post))) c o u := fun c o u ⟨h1, h2⟩ => by
    have hc : c ≠ v := fun e => by rw [e, hv] at h2; cases h2
    exact ⟨h1, by rw [upd_ne _ _ hc]; exact h2⟩
  refine ⟨fun c o hc => ?_, ⟨rfl, rfl, rfl, Nat.le_refl _, fun c hc hn => ⟨rfl, ?_⟩⟩, fun vals h => h.mono hC⟩
  · by_cases hcv : c = v
    · subst hcv
      rw [upd_same] at hc
      cases hc
      obtain ⟨arr, t, r1, r2⟩ := hg c _ hv
      exact ⟨arr, t, r1, RCs.swap hC (fun us hu => RX.mono hC _ _ (hp _ us hu)) pre post _ r2⟩
    · rw [upd_ne _ _ hcv] at hc
      exact (hg c o hc).mono hC rfl
  · have hcv : c ≠ v := fun e => by rw [e, hv] at hn; cases hn
    rw [upd_ne _ _ hcv]; exact hn
/-- A grown row in a cell is held for good. -/
theorem Grow.cell {ls : List PV} {base s : St} {v esz : Nat} {acc : List PV} {p : PV} {pre post : List PV} (h : Grow base esz acc p s) (hv : base v = some (.cells (pre ++ p :: post))) :
    Conv ls s ls (upd base v (.cells (pre ++ .sl esz false acc :: post))) := by
  rcases h with ⟨rfl, ⟨e, rfl⟩, rfl⟩ | ⟨b, cap, rfl, hcap, hn, rfl⟩
  · exact Conv.cellTo hv fun C us hu => rx_empty hu (fun h => by cases h)
  · have hne : v ≠ b := fun e => by rw [e, hn] at hv; cases hv
    have hv' : upd base b (.vec esz acc cap) v = some (.cells (pre ++ .vsl b acc.length cap :: post)) := by rw [upd_ne _ _ hne]; exact hv
    have := Conv.cell (ls := ls) hv' (upd_same _ _ _) rfl
    rw [del_upd _ _ _ hn] at this
    exact this
end Go.H
/- Proofs whose hypotheses' numbers are small. -/
namespace Go.H
open Go
set_option linter.unusedVariables false
set_option linter.unusedSimpArgs false

def Pf.le (B : Nat) : Pf → Prop
  | .hyp n => n ≤ B
  | .andI _ _ p q => p.le B ∧ q.le B
  | .fst _ _ p => p.le B
  | .snd _ _ p => p.le B
  | .funI _ _ p => p.le B
  | .use _ _ p q => p.le B ∧ q.le B
  | .botE _ p => p.le B
theorem Pf.le_num {B : Nat} {p : Pf} (h : Pf.le B p) : p.num ≤ B := by cases p <;> simp_all [Pf.le, Pf.num] <;> omega
theorem Pf.le_kids {B : Nat} {p : Pf} (h : Pf.le B p) : ∀ x ∈ p.kids, Pf.le B x := by cases p <;> simp_all [Pf.le, Pf.kids]
theorem Pf.le_hok {p : Pf} (h : p.hok = true) : Pf.le 100 p := by
  induction p with
  | hyp n => simpa [Pf.hok, Pf.le] using h
  | andI a b p q i1 i2 => simp only [Pf.hok, Bool.and_eq_true] at h; exact ⟨i1 h.1, i2 h.2⟩
  | fst a b p i1 => exact i1 h
  | snd a b p i1 => exact i1 h
  | funI a b p i1 => exact i1 h
  | use a b p q i1 i2 => simp only [Pf.hok, Bool.and_eq_true] at h; exact ⟨i1 h.1, i2 h.2⟩
  | botE a p i1 => exact i1 h
theorem Pf.le_mono {B C : Nat} (hBC : B ≤ C) {p : Pf} (h : Pf.le B p) : Pf.le C p := by
  induction p with
  | hyp n => exact Nat.le_trans h hBC
  | andI a b p q i1 i2 => exact ⟨i1 h.1, i2 h.2⟩
  | fst a b p i1 => exact i1 h
  | snd a b p i1 => exact i1 h
  | funI a b p i1 => exact i1 h
  | use a b p q i1 i2 => exact ⟨i1 h.1, i2 h.2⟩
  | botE a p i1 => exact i1 h
end Go.H
/- What a proof proves is no greater than the proof; what substitution makes of the terms of two proofs. -/
namespace Go.H
open Go
set_option linter.unusedVariables false
set_option linter.unusedSimpArgs false

theorem Prv.size {G : List Fm} {p : Pf} {f : Fm} (h : Prv G p f) (hG : ∀ x ∈ G, x.size ≤ 150) (hp : p.count ≤ 150) : f.size ≤ 150 := by
  cases h with
  | hyp h => exact hG _ (List.mem_of_getElem? h)
  | _ => simp only [Pf.count] at hp; first | (simp only [Fm.size]; omega) | omega
def pfB : Tr := .mk 9 0 wPf []
theorem pfB_simple : pfB.simpleOK = true := by kernel_rfl
theorem fmT_flat : ∀ f : Fm, Flat (fmT f) := by
  intro f
  induction f with
  | atom n => exact Flat.of _ (fun h => by simp [fmT, Tr.const, Tr.kind] at h) (fun x hx => by simp [fmT, Tr.const, Tr.kids] at hx)
  | bot => exact Flat.of _ (fun h => by simp [fmT, Tr.const, Tr.kind] at h) (fun x hx => by simp [fmT, Tr.const, Tr.kids] at hx)
  | and a b ia ib => exact Flat.of _ (fun h => by simp [fmT, Tr.const, Tr.kind] at h) (fun x hx => by simp [fmT, Tr.const, Tr.kids] at hx; rcases hx with rfl | rfl <;> assumption)
  | imp a b ia ib => exact Flat.of _ (fun h => by simp [fmT, Tr.const, Tr.kind] at h) (fun x hx => by simp [fmT, Tr.const, Tr.kids] at hx; rcases hx with rfl | rfl <;> assumption)
theorem pfT_flat : ∀ p : Pf, Flat (pfT p) := by
  intro p
  induction p with
  | hyp n => exact Flat.of _ (fun _ => rfl) (fun x hx => by simp [pfT, Tr.var, Tr.kids] at hx)
  | andI a b p q i1 i2 => exact flat_const (by simp only [List.forall_mem_cons]; exact ⟨fmT_flat a, fmT_flat b, i1, i2, by simp⟩)
  | fst a b p i1 => exact flat_const (by simp only [List.forall_mem_cons]; exact ⟨fmT_flat a, fmT_flat b, i1, by simp⟩)
  | snd a b p i1 => exact flat_const (by simp only [List.forall_mem_cons]; exact ⟨fmT_flat a, fmT_flat b, i1, by simp⟩)
  | funI a b p i1 => exact flat_const (by simp only [List.forall_mem_cons]; exact ⟨fmT_flat a, fmT_flat b, flat_lam i1, by simp⟩)
  | use a b p q i1 i2 => exact flat_const (by simp only [List.forall_mem_cons]; exact ⟨fmT_flat a, fmT_flat b, i1, i2, by simp⟩)
  | botE a p i1 => exact flat_const (by simp only [List.forall_mem_cons]; exact ⟨fmT_flat a, i1, by simp⟩)
theorem pfT_term : ∀ p : Pf, p.ok = true → (pfT p).isTerm false = true := by
  intro p
  induction p with
  | hyp n => intro h; simp only [Pf.ok, decide_eq_true_eq] at h; exact term_x (i := (n : Int)) (by omega) (by omega)
  | andI a b p q i1 i2 =>
    intro h
    simp only [Pf.ok, Bool.and_eq_true] at h
    refine term_const (by rfl) ?_
    simp only [List.forall_mem_cons]
    exact ⟨fmT_term a h.1.1.1, fmT_term b h.1.1.2, i1 h.1.2, i2 h.2, by simp⟩
  | fst a b p i1 =>
    intro h
    simp only [Pf.ok, Bool.and_eq_true] at h
    refine term_const (by rfl) ?_
    simp only [List.forall_mem_cons]
    exact ⟨fmT_term a h.1.1, fmT_term b h.1.2, i1 h.2, by simp⟩
  | snd a b p i1 =>
    intro h
    simp only [Pf.ok, Bool.and_eq_true] at h
    refine term_const (by rfl) ?_
    simp only [List.forall_mem_cons]
    exact ⟨fmT_term a h.1.1, fmT_term b h.1.2, i1 h.2, by simp⟩
  | funI a b p i1 =>
    intro h
    simp only [Pf.ok, Bool.and_eq_true] at h
    refine term_const (by rfl) ?_
    simp only [List.forall_mem_cons]
    exact ⟨fmT_term a h.1.1, fmT_term b h.1.2, term_lam' (i1 h.2), by simp⟩
  | use a b p q i1 i2 =>
    intro h
    simp only [Pf.ok, Bool.and_eq_true] at h
    refine term_const (by rfl) ?_
    simp only [List.forall_mem_cons]
    exact ⟨fmT_term a h.1.1.1, fmT_term b h.1.1.2, i1 h.1.2, i2 h.2, by simp⟩
  | botE a p i1 =>
    intro h
    simp only [Pf.ok, Bool.and_eq_true] at h
    refine term_const (by rfl) ?_
    simp only [List.forall_mem_cons]
    exact ⟨fmT_term a h.1, i1 h.2, by simp⟩
/-- One proof's term is put for a variable of another one's: the term of the cut. -/
theorem substT_pf {p q : Pf} (hp : p.ok = true) (hq : q.ok = true) (hps : (pfT p).size ≤ 150) (hqs : (pfT q).size ≤ 150) :
    substT (pfT p) pfB (pfT q) = .inr (pfT (p.cut q 0)) ∨ substT (pfT p) pfB (pfT q) = .inl 11 := by
  have h1 : (pfT p).termOK = true := by unfold Tr.termOK; rw [small_of hps, pfT_term p hp]; rfl
  have h2 : (pfT q).termOK = true := by unfold Tr.termOK; rw [small_of hqs, pfT_term q hq]; rfl
  have h3 : (pfT q).rightOK = true := by unfold Tr.rightOK; rw [h2]; simp
  unfold substT
  rw [h1, pfB_simple, h3]
  rw [if_neg (by decide)]
  rcases subT_flat 100000000 (pfT p) pfB (pfT q) 0 0 (pfT_flat q) (by omega) with h | h
  · refine .inl ?_
    rw [h]
    simp only
    rw [pfT_cut p hp (by omega) q 0 hq (by omega)]; rfl
  · exact .inr (by rw [h])
/-- The number of a proof's term. -/
theorem pfT_big {p : Pf} (hp : p.ok = true) : (pfT p).big = decide (150 < (pfT p).size) := by
  unfold Tr.big
  rw [term_high _ (pfT_term p hp)]
  unfold Tr.small
  by_cases h : (pfT p).size ≤ 150
  · rw [decide_eq_true h, decide_eq_false (by omega)]; rfl
  · rw [decide_eq_false h, decide_eq_true (by omega)]; rfl
end Go.H
