/- Part of a proof that the program answers as the reference does: HPure1, HPure2, HPure3, HPure4, HPure5, HPure6, HPure7, HPure8, HPure9, HPure10, HLib, HPure11, HPure12, HLit. -/
import Derived.Lib.SlTrimSet
import Derived.Below
import Derived.Lib.Bytealg
import Derived.Test.YtmjpemdbkenebaaGreatDoorHD
namespace Go.H
open Go
set_option linter.unusedVariables false

abbrev W (n : Int) : Int := IntKind.wrap .i64 n
theorem W_in {n : Int} (h : -9223372036854775808 ≤ n ∧ n ≤ 9223372036854775807) : W n = n := IntWalk.i64_in n h
theorem W_W (a b : Int) : W (W a + b) = W (a + b) := by
 simp only [W, IntKind.wrap_i64]; omega
theorem W_W' (a b : Int) : W (a + W b) = W (a + b) := by
 simp only [W, IntKind.wrap_i64]; omega
theorem W_succ {i : Nat} (h : i < maxLen) : W ((i : Int) + 1) = ((i + 1 : Nat) : Int) := by
 unfold maxLen at h
 rw [W_in (by omega)]; omega

theorem zq6k {α β : Type} (l : List α) (f : Nat → α → β) : (l.attach.mapIdx fun i x => f i x.1) = l.mapIdx f := by
 apply List.ext_getElem
 ·simp
 ·intro i h1 h2
  simp

theorem Tr.ext_iff (a b : Tr) : a = b ↔ a.kind = b.kind ∧ a.n = b.n ∧ a.name = b.name ∧ a.kids = b.kids := by
 cases a; cases b; simp
def Tr.same (a b : Tr) : Bool :=
 decide (a.kind = b.kind) && decide (a.n = b.n) && decide (a.name = b.name) && decide (a.kids.length = b.kids.length) &&
  (a.kids.attach.zip b.kids).all fun x => Tr.same x.1.1 x.2
termination_by SizeOf.sizeOf a
decreasing_by exact Tr.kids_lt x.1.2
theorem zqk5 {α : Type} (f : α → α → Bool) : ∀ (xs ys : List α), (∀ x ∈ xs, ∀ y, f x y = true ↔ x = y) → ((xs.length = ys.length ∧ (xs.zip ys).all (fun p => f p.1 p.2) = true) ↔ xs = ys)
 | [], ys, _ => by cases ys <;> simp
 | x :: xs, [], _ => by simp
 | x :: xs, y :: ys, h => by
   have ih := zqk5 f xs ys (fun z hz => h z (by simp [hz]))
   have h0 := h x (by simp) y
   simp only [List.length_cons, List.zip_cons_cons, List.all_cons, Bool.and_eq_true, List.cons.injEq, Nat.add_right_cancel_iff, h0]
   constructor
   ·rintro ⟨h1, h2, h3⟩; exact ⟨h2, ih.1 ⟨h1, h3⟩⟩
   ·rintro ⟨h1, h2⟩; exact ⟨(ih.2 h2).1, h1, (ih.2 h2).2⟩
theorem Tr.same_iff : ∀ (a b : Tr), Tr.same a b = true ↔ a = b := by
 intro a
 induction a using Tr.ind with
 | _ a ih =>
   intro b
   rw [Tr.same, Tr.ext_iff]
   have key := zqk5 Tr.same a.kids b.kids ih
   have e : (a.kids.attach.zip b.kids).all (fun x => Tr.same x.1.1 x.2) = (a.kids.zip b.kids).all (fun x => Tr.same x.1 x.2) := by
    have : a.kids.zip b.kids = (a.kids.attach.zip b.kids).map (fun x => (x.1.1, x.2)) := by
     conv => lhs; rw [← List.attach_map_subtype_val a.kids]
     rw [List.zip_map_left]
     rfl
    rw [this, List.all_map]
    rfl
   rw [e]
   simp only [Bool.and_eq_true, decide_eq_true_eq, and_assoc]
   rw [← key]
instance : DecidableEq Tr := fun a b => decidable_of_iff (Tr.same a b = true) (Tr.same_iff a b)

def Tr.size (t : Tr) : Nat := 1 + (t.kids.attach.map fun x => Tr.size x.1).sum
termination_by SizeOf.sizeOf t
decreasing_by exact Tr.kids_lt x.2
theorem Tr.size_eq (t : Tr) : t.size = 1 + (t.kids.map Tr.size).sum := by rw [Tr.size]; simp
def Tr.sizes (ts : List Tr) : Nat := (ts.map Tr.size).sum
theorem Tr.size_pos (t : Tr) : 1 ≤ t.size := by rw [Tr.size_eq]; omega
theorem Tr.sizes_mem {ts : List Tr} {t : Tr} (h : t ∈ ts) : t.size ≤ Tr.sizes ts := by
 unfold Tr.sizes
 induction ts with
 | nil => cases h
 | cons x xs ih =>
   simp only [List.map_cons, List.sum_cons]
   cases h with
   | head => omega
   | tail _ h => have := ih h; omega
theorem Tr.len_sizes (ts : List Tr) : ts.length ≤ Tr.sizes ts := by
 unfold Tr.sizes
 induction ts with
 | nil => simp
 | cons x xs ih => simp only [List.map_cons, List.sum_cons, List.length_cons]; have := x.size_pos; omega

theorem Tr.size_kids (t : Tr) : t.size = 1 + Tr.sizes t.kids := by rw [Tr.size_eq]; rfl
theorem Tr.kid_size {t x : Tr} (h : x ∈ t.kids) : x.size < t.size := by have := Tr.sizes_mem h; rw [Tr.size_kids t]; omega
theorem Tr.kids_len (t : Tr) : t.kids.length < t.size := by have := Tr.len_sizes t.kids; rw [Tr.size_kids t]; omega
def left (m : Int) (s : Nat) : Int := if (s : Int) ≤ m then m - s else -1
theorem loop_fold {α β : Type} {F : List PV → St → (List PV → St → Prop) → Prop} (xs : List α) (enc : β → Nat → List PV) (stf : β → St) (Q : β → List α → Prop)
  (step : ∀ i x rest acc, i < xs.length → xs[i]? = some x → Q acc (x :: rest) → (∀ acc', Q acc' rest → hFix F (enc acc' (i + 1)) (stf acc')) → F (enc acc i) (stf acc) (hFix F))
  (fin : ∀ acc, Q acc [] → F (enc acc xs.length) (stf acc) (hFix F)) (acc0 : β) (h : Q acc0 xs) : hFix F (enc acc0 0) (stf acc0) := by
 have key : ∀ (rest : List α) (i : Nat) (acc : β), xs.drop i = rest → i ≤ xs.length → Q acc rest → hFix F (enc acc i) (stf acc) := by
  intro rest
  induction rest with
  | nil =>
    intro i acc hd hi hq
    have : i = xs.length := by rw [List.drop_eq_nil_iff] at hd; omega
    subst this
    exact zq32 (fin acc hq)
  | cons x rest ih =>
    intro i acc hd hi hq
    have hlt : i < xs.length := by
     rcases Nat.lt_or_ge i xs.length with h | h
     ·exact h
     ·rw [List.drop_of_length_le h] at hd; cases hd
    have hx : xs[i]? = some x := by
     have := congrArg List.head? hd
     simpa [List.head?_drop] using this
    have hr : xs.drop (i + 1) = rest := by
     have := congrArg List.tail hd
     simpa [List.tail_drop] using this
    exact zq32 (step i x rest acc hlt hx hq fun acc' hq' => ih (i + 1) acc' hr hlt hq')
 exact key xs 0 acc0 rfl (Nat.zero_le _) h
theorem zqz {α β : Type} {F : List PV → St → (List PV → St → Prop) → Prop} (xs : List α) (enc : β → Nat → List PV) (stf : β → St) (Q : β → Nat → List α → Prop)
  (step : ∀ i x rest acc, i < xs.length → xs[i]? = some x → Q acc i (x :: rest) → (∀ acc', Q acc' (i + 1) rest → hFix F (enc acc' (i + 1)) (stf acc')) → F (enc acc i) (stf acc) (hFix F))
  (fin : ∀ acc, Q acc xs.length [] → F (enc acc xs.length) (stf acc) (hFix F)) (acc0 : β) (h : Q acc0 0 xs) : hFix F (enc acc0 0) (stf acc0) := by
 have key : ∀ (rest : List α) (i : Nat) (acc : β), xs.drop i = rest → i ≤ xs.length → Q acc i rest → hFix F (enc acc i) (stf acc) := by
  intro rest
  induction rest with
  | nil =>
    intro i acc hd hi hq
    have : i = xs.length := by rw [List.drop_eq_nil_iff] at hd; omega
    subst this
    exact zq32 (fin acc hq)
  | cons x rest ih =>
    intro i acc hd hi hq
    have hlt : i < xs.length := by
     rcases Nat.lt_or_ge i xs.length with h | h
     ·exact h
     ·rw [List.drop_of_length_le h] at hd; cases hd
    have hx : xs[i]? = some x := by
     have := congrArg List.head? hd
     simpa [List.head?_drop] using this
    have hr : xs.drop (i + 1) = rest := by
     have := congrArg List.tail hd
     simpa [List.tail_drop] using this
    exact zq32 (step i x rest acc hlt hx hq fun acc' hq' => ih (i + 1) acc' hr hlt hq')
 exact key xs 0 acc0 rfl (Nat.zero_le _) h
theorem zqd8 {α : Type} {xs : List α} {i : Nat} {x : α} (h : xs[i]? = some x) : xs.drop i = x :: xs.drop (i + 1) := by
 obtain ⟨h1, h2⟩ := List.getElem?_eq_some_iff.1 h
 rw [List.drop_eq_getElem_cons h1, h2]
theorem zq4r {ts : List Tr} {i : Nat} {t : Tr} (k : IntKind) (h : ts[i]? = some t) : q_ia 4 (.sl 4 false (ts.map tree)) (.int k (i : Int)) = some (.ref (tree t).cells) := by
 simp [q_ia, h]
theorem zq6l {ts : List Tr} {t : Tr} (k : IntKind) (h : ts[0]? = some t) : q_ia 4 (.sl 4 false (ts.map tree)) (.int k 0) = some (.ref (tree t).cells) := zq4r k h
theorem zqea {ts : List Tr} {t : Tr} (k : IntKind) (h : ts[1]? = some t) : q_ia 4 (.sl 4 false (ts.map tree)) (.int k 1) = some (.ref (tree t).cells) := zq4r k h
theorem W_idx {α : Type} {xs : List α} {i : Nat} (h : i < xs.length) (hl : xs.length ≤ maxLen) : IntKind.i64.wrap ((i : Int) + 1) = ((i + 1 : Nat) : Int) := W_succ (by omega)

def zqcl (c : UInt8) : Bool := (decide (97 ≤ c.toNat) && decide (c.toNat ≤ 122)) || (decide (65 ≤ c.toNat) && decide (c.toNat ≤ 90)) || decide (c.toNat = 95)
def digit (c : UInt8) : Bool := decide (48 ≤ c.toNat) && decide (c.toNat ≤ 57)
def wordOK : List UInt8 → Bool
 | [] => false
 | c :: r => decide (r.length + 1 ≤ 40) && zqcl c && r.all fun c => zqcl c || digit c
def zq8t (s : List UInt8) : Bool :=
 wordOK s && !decide (s = [116, 121, 112, 101]) && !decide (s = [95]) && (match s with
  | [] => true
  | c :: r => !decide (c = 120) || decide (r = []) || !(r.all digit))

def Tr.bare (t : Tr) (kids : Nat) : Bool := decide (t.n = 0) && decide (t.name = []) && decide (t.kids.length = kids)
def Tr.isTerm (o : Bool) (t : Tr) : Bool :=
 if t.kind = 4 then t.bare 1 && t.kids.attach.all fun x => Tr.isTerm o x.1
 else if t.kind = 5 ∨ t.kind = 7 then decide (0 ≤ t.n) && decide (t.n ≤ 100) && decide (t.name = []) && t.kids.attach.all fun x => if o = true ∧ x.1.kind = 8 then x.1.bare 0 else Tr.isTerm o x.1
 else if t.kind = 6 then decide (t.n = 0) && zq8t t.name && t.kids.attach.all fun x => if o = true ∧ x.1.kind = 8 then x.1.bare 0 else Tr.isTerm o x.1
 else false
termination_by SizeOf.sizeOf t
decreasing_by all_goals exact Tr.kids_lt x.2
def Tr.isArg (o : Bool) (x : Tr) : Bool := if o = true ∧ x.kind = 8 then x.bare 0 else Tr.isTerm o x
theorem zqe1 {α : Type} (l : List α) (p : α → Bool) : (l.attach.all fun x => p x.1) = l.all p := by simp
theorem Tr.isTerm_eq (o : Bool) (t : Tr) : Tr.isTerm o t =
  if t.kind = 4 then t.bare 1 && t.kids.all (Tr.isTerm o)
  else if t.kind = 5 ∨ t.kind = 7 then decide (0 ≤ t.n) && decide (t.n ≤ 100) && decide (t.name = []) && t.kids.all (Tr.isArg o)
  else if t.kind = 6 then decide (t.n = 0) && zq8t t.name && t.kids.all (Tr.isArg o)
  else false := by
 rw [Tr.isTerm, zqe1 t.kids (Tr.isTerm o), zqe1 t.kids (fun x => if o = true ∧ x.kind = 8 then x.bare 0 else Tr.isTerm o x)]
 rfl
def Tr.isSimple (t : Tr) : Bool :=
 if t.kind = 10 then t.bare 2 && t.kids.attach.all fun x => Tr.isSimple x.1
 else if t.kind = 9 then decide (t.n = 0) && zq8t t.name && decide (t.kids.length = 0)
 else false
termination_by SizeOf.sizeOf t
decreasing_by exact Tr.kids_lt x.2
theorem Tr.isSimple_eq (t : Tr) : Tr.isSimple t = if t.kind = 10 then t.bare 2 && t.kids.all Tr.isSimple else if t.kind = 9 then decide (t.n = 0) && zq8t t.name && decide (t.kids.length = 0) else false := by
 rw [Tr.isSimple, zqe1 t.kids Tr.isSimple]
def Tr.small (t : Tr) : Bool := decide (t.size ≤ 150)
def Tr.termOK (t : Tr) : Bool := t.small && t.isTerm false
def Tr.under (t : Tr) (i : Int) : Int := if t.kind = 4 ∨ (t.kind = 2 ∧ i = 1) then 1 else 0
end Go.H
namespace Go.H
open Go
set_option linter.unusedVariables false

def Tr.lam (t : Tr) : Tr := .mk 4 0 [] [t]
def Tr.var (n : Int) (ks : List Tr) : Tr := .mk 5 n [] ks
def Tr.const (s : List UInt8) (ks : List Tr) : Tr := .mk 6 0 s ks
def lams : Nat → Tr → Tr
 | 0, t => t
 | k + 1, t => lams k (Tr.lam t)
def Tr.lift (t : Tr) (frm b : Int) : Tr :=
 .mk t.kind (if t.kind = 5 ∧ frm ≤ t.n then W (t.n + b) else t.n) t.name (t.kids.attach.mapIdx fun i x => Tr.lift x.1 (W (frm + t.under i)) b)
termination_by SizeOf.sizeOf t
decreasing_by exact Tr.kids_lt x.2
theorem Tr.lift_eq (t : Tr) (frm b : Int) : Tr.lift t frm b = .mk t.kind (if t.kind = 5 ∧ frm ≤ t.n then W (t.n + b) else t.n) t.name (t.kids.mapIdx fun i x => Tr.lift x (W (frm + t.under i)) b) := by
 rw [Tr.lift, zq6k t.kids (fun i x => Tr.lift x (W (frm + t.under i)) b)]
@[simp] theorem Tr.lift_kind (t : Tr) (f b : Int) : (t.lift f b).kind = t.kind := by rw [Tr.lift_eq]; rfl
@[simp] theorem Tr.lift_len (t : Tr) (f b : Int) : (t.lift f b).kids.length = t.kids.length := by rw [Tr.lift_eq]; simp
theorem mapIdx_snoc {α β : Type} (f : Nat → α → β) (xs : List α) (i : Nat) {x : α} (h : xs[i]? = some x) : (xs.mapIdx f).take (i + 1) = (xs.mapIdx f).take i ++ [f i x] := by
 rw [List.take_add_one, List.getElem?_mapIdx, h]
 rfl

def Tr.args (t : Tr) : List Tr :=
 if t.kind = 10 then (match h : t.kids with
  | [x, y] => x :: Tr.args y
  | _ => [])
 else []
termination_by SizeOf.sizeOf t
decreasing_by exact Tr.kids_lt (by rw [h]; simp)
theorem Tr.args_lt : ∀ (t b : Tr), b ∈ t.args → SizeOf.sizeOf b < SizeOf.sizeOf t := by
 intro t
 induction t using Tr.ind with
 | _ t ih =>
   intro b hb
   rw [Tr.args] at hb
   split at hb
   ·split at hb
    ·rename_i x y e
     have hy : y ∈ t.kids := by rw [e]; simp
     have hx : x ∈ t.kids := by rw [e]; simp
     rcases List.mem_cons.1 hb with rfl | hb
     ·exact Tr.kids_lt hx
     ·exact Nat.lt_trans (ih y hy b hb) (Tr.kids_lt hy)
    ·cases hb
   ·cases hb
def longForm (head a : Tr) : Tr :=
 lams a.args.length (.mk head.kind (head.lift 0 a.args.length).n head.name ((head.lift 0 a.args.length).kids ++ a.args.attach.mapIdx fun i b => longForm (Tr.var (W (W (a.args.length - 1) - i)) []) b.1))
termination_by SizeOf.sizeOf a
decreasing_by exact Tr.args_lt _ _ b.2
def Tr.lamsOK (t : Tr) : Bool := if t.kind = 4 then decide (t.kids.length = 1) && t.kids.attach.all (fun x => Tr.lamsOK x.1) else true
termination_by SizeOf.sizeOf t
decreasing_by exact Tr.kids_lt x.2
def placeGo (k : Int) : Nat → List Int → Int
 | _, [] => -1
 | i, x :: r => if x = k then (i : Int) else placeGo k (i + 1) r
def place (l : List Int) (k : Int) : Int := placeGo k 0 l
end Go.H
namespace Go.H
open Go
def looks (f : Tr → Bool) (t : Tr) (m : Int) : Option Int := if f t = true ∧ (t.size : Int) ≤ m then some (m - t.size) else none
def zq34 (f : Tr → Bool) (ts : List Tr) (m : Int) : Option Int := if ts.all f = true ∧ (Tr.sizes ts : Int) ≤ m then some (m - Tr.sizes ts) else none
theorem looksAll_nil (f : Tr → Bool) {m : Int} (h : 0 ≤ m) : zq34 f [] m = some m := by simp [zq34, Tr.sizes, h]
theorem looksAll_cons (f : Tr → Bool) (x : Tr) (r : List Tr) (m : Int) : zq34 f (x :: r) m = (looks f x m).bind (zq34 f r) := by
 have key : ∀ (p q : Prop) [Decidable p] [Decidable q] (a b : Int), (p ↔ q) → a = b → (if p then some a else none) = (if q then some b else none) := by
  intro p q _ _ a b h1 h2
  by_cases h : p
  ·rw [if_pos h, if_pos (h1.1 h), h2]
  ·rw [if_neg h, if_neg (fun hq => h (h1.2 hq))]
 by_cases h1 : f x = true ∧ (x.size : Int) ≤ m
 ·have e : looks f x m = some (m - x.size) := by unfold looks; rw [if_pos h1]
  rw [e]
  simp only [Option.bind_some, zq34, Tr.sizes, List.all_cons, Bool.and_eq_true, List.map_cons, List.sum_cons]
  refine key _ _ _ _ ?_ (by omega)
  constructor
  ·rintro ⟨⟨_, h⟩, h'⟩; exact ⟨h, by omega⟩
  ·rintro ⟨h, h'⟩; exact ⟨⟨h1.1, h⟩, by omega⟩
 ·have e : looks f x m = none := by unfold looks; rw [if_neg h1]
  rw [e]
  simp only [Option.bind_none, zq34, Tr.sizes, List.all_cons, Bool.and_eq_true, List.map_cons, List.sum_cons]
  rw [if_neg]
  rintro ⟨⟨h, _⟩, h'⟩
  exact h1 ⟨h, by omega⟩
theorem looks_le {f : Tr → Bool} {t : Tr} {m m' : Int} (h : looks f t m = some m') : 0 ≤ m' ∧ m' < m := by
 unfold looks at h
 split at h
 ·rename_i hc
  have := t.size_pos
  cases h; omega
 ·cases h
end Go.H
namespace Go.H
open Go
theorem one_all' {α : Type} {xs : List α} {p : α → Bool} (h : xs.length = 1) : ∃ a, xs = [a] ∧ xs.all p = p a := by
 match xs, h with
 | [a], _ => exact ⟨a, rfl, by simp⟩
def idxGo {α : Type} (p : α → Bool) : Nat → List α → Int
 | _, [] => -1
 | i, x :: r => if p x = true then (i : Int) else idxGo p (i + 1) r
theorem idxGo_any {α : Type} (p : α → Bool) : ∀ (l : List α) (i : Nat), (0 ≤ idxGo p i l ↔ l.any p = true) ∧ (l.any p = false → idxGo p i l = -1)
 | [], i => by simp [idxGo]
 | x :: r, i => by
   have ih := idxGo_any p r (i + 1)
   simp only [idxGo, List.any_cons]
   cases h : p x
   ·simp only [Bool.false_or, Bool.false_eq_true, if_false]; exact ih
   ·simp
end Go.H
namespace Go.H
open Go
def zq5a (F : Int → Int → Int) (t : Tr) (d : Int) : Tr :=
 .mk t.kind (if t.kind = 5 then F t.n d else t.n) t.name (t.kids.attach.mapIdx fun i x => zq5a F x.1 (W (d + t.under i)))
termination_by SizeOf.sizeOf t
decreasing_by exact Tr.kids_lt x.2
theorem turnedT_eq (F : Int → Int → Int) (t : Tr) (d : Int) : zq5a F t d = .mk t.kind (if t.kind = 5 then F t.n d else t.n) t.name (t.kids.mapIdx fun i x => zq5a F x (W (d + t.under i))) := by
 rw [zq5a, zq6k t.kids (fun i x => zq5a F x (W (d + t.under i)))]
def liftF (frm b : Int) (n d : Int) : Int := if W (frm + d) ≤ n then W (n + b) else n
theorem turned_lift (frm b : Int) : ∀ (t : Tr) (d : Int), zq5a (liftF frm b) t d = t.lift (W (frm + d)) b := by
 intro t
 induction t using Tr.ind with
 | _ t ih =>
   intro d
   rw [turnedT_eq, Tr.lift_eq]
   have e1 : (if t.kind = 5 then liftF frm b t.n d else t.n) = (if t.kind = 5 ∧ W (frm + d) ≤ t.n then W (t.n + b) else t.n) := by
    unfold liftF
    by_cases h1 : t.kind = 5 <;> by_cases h2 : W (frm + d) ≤ t.n <;> simp [h1, h2]
   rw [e1]
   congr 1
   apply List.ext_getElem
   ·simp
   ·intro i h1 h2
    simp only [List.getElem_mapIdx]
    have hx : t.kids[i]'(by simpa using h1) ∈ t.kids := List.getElem_mem _
    rw [ih _ hx]
    congr 1
    rw [W_W', W_W]
    congr 1
    omega
def eachT (p : Tr → Int → Bool) (t : Tr) (d : Int) : Bool := p t d || (t.kids.attach.mapIdx fun i x => eachT p x.1 (W (d + t.under i))).any id
termination_by SizeOf.sizeOf t
decreasing_by exact Tr.kids_lt x.2
theorem eachT_eq (p : Tr → Int → Bool) (t : Tr) (d : Int) : eachT p t d = (p t d || (t.kids.mapIdx fun i x => eachT p x (W (d + t.under i))).any id) := by
 rw [eachT, zq6k t.kids (fun i x => eachT p x (W (d + t.under i)))]
theorem drop_mapIdx {α β : Type} (f : Nat → α → β) (xs : List α) (i : Nat) {x : α} (h : xs[i]? = some x) : (xs.mapIdx f).drop i = f i x :: (xs.mapIdx f).drop (i + 1) :=
 zqd8 (by rw [List.getElem?_mapIdx, h]; rfl)
end Go.H
namespace Go.H
open Go
theorem Tr.kids_lams {t x : Tr} (h : t.isTerm false = true) (hx : x ∈ t.kids) : x.isTerm false = true := by
 rw [Tr.isTerm_eq] at h
 have hall : t.kids.all (Tr.isTerm false) = true := by
  split at h
  ·simp only [Bool.and_eq_true] at h; exact h.2
  ·split at h
   ·simp only [Bool.and_eq_true] at h
    have := h.2
    simpa [Tr.isArg] using this
   ·split at h
    ·simp only [Bool.and_eq_true] at h
     have := h.2
     simpa [Tr.isArg] using this
    ·cases h
 rw [List.all_eq_true] at hall
 exact hall x hx
theorem termOK_of {t : Tr} (h : t.termOK = true) : t.isTerm false = true ∧ t.size ≤ 150 := by
 unfold Tr.termOK Tr.small at h
 simp only [Bool.and_eq_true, decide_eq_true_eq] at h
 exact ⟨h.2, h.1⟩
def HoleOK (t : Tr) : Prop := t.lamsOK = true ∧ t.size ≤ 1000000
end Go.H
namespace Go.H
open Go
set_option linter.unusedVariables false
set_option linter.unusedSimpArgs false

structure Ty where
 name : List UInt8
 type : Tr
theorem Ty.ext_iff' (a b : Ty) : a = b ↔ a.name = b.name ∧ a.type = b.type := by
 cases a; cases b; simp
instance : DecidableEq Ty := fun a b => if h : a.name = b.name ∧ a.type = b.type then .isTrue ((Ty.ext_iff' a b).2 h) else .isFalse fun e => h ((Ty.ext_iff' a b).1 e)
instance : Inhabited Ty := ⟨⟨[], .mk 0 0 [] []⟩⟩
def typed (x : Ty) : PV := .agg (.str x.name :: (tree x.type).cells)
def typeds (xs : List Ty) : PV := .sl 5 false (xs.map typed)
@[simp] theorem typed_isJunk (x : Ty) : (typed x).isJunk = false := rfl
@[simp] theorem typed_isAgg (x : Ty) : (typed x).isAgg = true := rfl
theorem zq49 (x : Ty) : (typed x).cells = .str x.name :: (tree x.type).cells := rfl
@[simp] theorem typed_len (x : Ty) : (typed x).cells.length = 5 := by rw [zq49]; simp
@[simp] theorem typed_ncells (x : Ty) : (typed x).ncells = 5 := by
  have := typed_len x
  unfold typed at this ⊢
  simpa [PV.ncells, PV.cells] using this
@[simp] theorem typed_cellOK (x : Ty) : (typed x).cells.all PV.cellOK = true := by
  rw [zq49, List.all_cons, zq2z]; rfl
@[simp] theorem typed_cellOK' (x : Ty) : (∀ y ∈ (typed x).cells, y.cellOK = true) ↔ True := by
  have := typed_cellOK x
  rw [List.all_eq_true] at this
  exact ⟨fun _ => trivial, fun _ => this⟩
@[simp high] theorem takeV_typed (x : Ty) : zq3n true 5 (typed x).cells = some (typed x) := by
  rw [zq49, zqj]; unfold typed; rw [zqj]; rfl
@[simp] theorem typed_tail (x : Ty) : (typed x).cells.tail = (tree x.type).cells := rfl
@[simp] theorem typed_drop1 (x : Ty) : (typed x).cells.drop 1 = (tree x.type).cells := rfl
@[simp] theorem typed_f0 (x : Ty) (n : Nat) : zq3n false n (typed x).cells = some (.str x.name) := rfl
@[simp] theorem typed_take (x : Ty) : .agg ((typed x).cells.take 5) = typed x := by
  have := typed_len x
  rw [List.take_of_length_le (by omega)]
  rfl
@[simp] theorem typeds_eq (ts : List Ty) : typeds ts = .sl 5 false (ts.map typed) := rfl
@[simp] theorem tree_take4 (t : Tr) : (tree t).cells.take 4 = (tree t).cells := List.take_of_length_le (by rw [tree_len]; omega)
@[simp] theorem tree_agg (t : Tr) : PV.agg (tree t).cells = tree t := by rw [zqj, zq5b]
@[simp] theorem typed_agg (x : Ty) : PV.agg (typed x).cells = typed x := rfl
@[simp] theorem typed_fold (x : Ty) : PV.str x.name :: (tree x.type).cells = (typed x).cells := rfl
@[simp] theorem tree_cat (t : Tr) (s : List UInt8) : PV.agg (.str s :: (tree t).cells) = typed ⟨s, t⟩ := rfl
@[simp] theorem typed_s0 (x : Ty) (y : PV) : zqg (typed x).cells 0 [y] = y :: (tree x.type).cells := by rw [zq49, zqj]; rfl
@[simp] theorem set5_0 (a b c d e x : PV) : zqg [a, b, c, d, e] 0 [x] = [x, b, c, d, e] := rfl
@[simp] theorem set5_1 (a b c d e : PV) (t : Tr) : zqg [a, b, c, d, e] 1 (tree t).cells = a :: (tree t).cells := by rw [zqj]; rfl
@[simp] theorem set5_all (a b c d e : PV) (x : Ty) : zqg [a, b, c, d, e] 0 (typed x).cells = (typed x).cells := by rw [zq49, zqj]; rfl
@[simp] theorem set5_cat (a b c d e s : PV) (t : Tr) : zqg [a, b, c, d, e] 0 (s :: (tree t).cells) = s :: (tree t).cells := by rw [zqj]; rfl
@[simp] theorem set5_typed (x y : Ty) : zqg (typed y).cells 0 (typed x).cells = (typed x).cells := by rw [zq49, zqj, zq49, zqj]; rfl

def tyGo (n : List UInt8) : Nat → List Ty → Int
 | _, [] => -1
 | i, x :: r => if x.name = n then i else tyGo n (i + 1) r
def tyAt (xs : List Ty) (n : List UInt8) : Int := tyGo n 0 xs
def zq8l : Tr := .mk 0 0 [] []
def Tr.kid (t : Tr) (i : Nat) : Tr := (t.kids[i]?).getD zq8l
def zqbk (cs : List Ty) (ctx holes : List Tr) (t : Tr) : Int ⊕ Tr :=
 if t.kind = 5 then (if t.n ≥ ctx.length then .inl 7 else .inr ((ctx[((ctx.length : Int) - 1 - t.n).toNat]?).getD zq8l))
 else if t.kind = 7 then (if t.n ≥ holes.length then .inl 15 else .inr ((holes[t.n.toNat]?).getD zq8l))
 else if tyAt cs t.name < 0 then .inl 5 else .inr (((cs[(tyAt cs t.name).toNat]?).map Ty.type).getD zq8l)
def zqmp (f : Tr → Tr → Int) : List Tr → Tr → Int ⊕ Tr
 | [], b => .inr b
 | x :: r, b => if b.kind = 10 then (if f x (b.kid 0) = 0 then zqmp f r (b.kid 1) else .inl (f x (b.kid 0))) else .inl 8
def endType (a b : Tr) : Int := if b.kind = 10 then 8 else if b.name = a.name then 0 else 10
def typedT (cs : List Ty) (holes : List Tr) : Nat → List Tr → Tr → Tr → Int
 | 0, _, _, _ => 0
 | m + 1, ctx, t, a =>
   if t.kind = 4 then (if a.kind = 10 then typedT cs holes m (ctx ++ [a.kid 0]) (t.kid 0) (a.kid 1) else 9)
   else if a.kind = 10 then 9
   else match zqbk cs ctx holes t with
    | .inl c => c
    | .inr b => match zqmp (typedT cs holes m ctx) t.kids b with
      | .inl c => c
      | .inr b => endType a b
theorem zqka {a : Tr} (h : a.isSimple = true) (hk : a.kind = 10) : ∃ x y, a.kids = [x, y] ∧ x.isSimple = true ∧ y.isSimple = true := by
 rw [Tr.isSimple_eq, if_pos hk] at h
 simp only [Bool.and_eq_true, List.all_eq_true] at h
 obtain ⟨h1, h2⟩ := h
 have hl : a.kids.length = 2 := by
  unfold Tr.bare at h1
  simp at h1
  omega
 match hks : a.kids, hl with
 | [x, y], _ =>
   rw [hks] at h2
   exact ⟨x, y, rfl, h2 x (by simp), h2 y (by simp)⟩
end Go.H
namespace Go.H
open Go
theorem lam_kid {t : Tr} (h : t.isTerm false = true) (hk : t.kind = 4) : ∃ x, t.kids = [x] ∧ x.isTerm false = true := by
 rw [Tr.isTerm_eq, if_pos hk] at h
 simp only [Bool.and_eq_true, List.all_eq_true] at h
 obtain ⟨h1, h2⟩ := h
 have hl : t.kids.length = 1 := by
  unfold Tr.bare at h1
  simp at h1
  omega
 match hks : t.kids, hl with
 | [x], _ =>
   rw [hks] at h2
   exact ⟨x, rfl, h2 x (by simp)⟩
theorem var_n {t : Tr} (h : t.isTerm false = true) (hk : t.kind = 5 ∨ t.kind = 7) : 0 ≤ t.n ∧ t.n ≤ 100 := by
 rw [Tr.isTerm_eq, if_neg (by omega), if_pos hk] at h
 simp only [Bool.and_eq_true, decide_eq_true_eq] at h
 exact ⟨h.1.1.1, h.1.1.2⟩
structure TyEnv (cs : List Ty) (holes : List Tr) : Prop where
 consts : ∀ x ∈ cs, x.type.isSimple = true
 hs : ∀ a ∈ holes, a.isSimple = true
 cl : cs.length ≤ 4096
 hl : holes.length ≤ 4096
theorem zqk6 {e : Nat} {xs : List PV} {i : Nat} (k : IntKind) (h : i ≤ xs.length) : zq1y e (.sl e false xs) none (some (.int k (i : Int))) none = some (.sl e false (xs.take i)) := by
 simp [zq1y, zq5d, optI, h]
theorem getD_of {l : List Tr} {i : Nat} (h : i < l.length) : (l[i]?).getD zq8l = l[i] := by rw [List.getElem?_eq_getElem h]; rfl
theorem kid0 {t : Tr} {x : Tr} {r : List Tr} (h : t.kids = x :: r) : t.kid 0 = x := by unfold Tr.kid; rw [h]; rfl
theorem kid1 {t : Tr} {x y : Tr} {r : List Tr} (h : t.kids = x :: y :: r) : t.kid 1 = y := by unfold Tr.kid; rw [h]; rfl
end Go.H
namespace Go.H
open Go
set_option linter.unusedVariables false
set_option linter.unusedSimpArgs false

theorem zqk7 {e : Nat} {f : Bool} {xs : List PV} (k k' : IntKind) : zq1y e (.sl e f xs) none (some (.int k (xs.length : Int))) (some (.int k' (xs.length : Int))) = some (.sl e true xs) := by
 simp [zq1y, zq5d, optI]
theorem zqlb {st : St} {esz bytes : Nat} {xs ys : List PV} {y : PV} {K : PV → St → Prop} (hy : zq3m st esz y = some ys) (hne : ys ≠ []) (hb : (xs.length + ys.length) * bytes ≤ 140737488355328)
  (hk : ∀ p' st', Grow st esz (xs ++ ys) p' st' → K p' st') : zqo st esz bytes (.sl esz true xs) y K := by
 have e1 : zq3m st esz (.sl esz true xs) = some xs := zq2n _ _ _ _
 unfold zqo
 rw [e1, hy]
 refine ⟨hb, rfl, fun h => absurd h hne, fun _ => .inl fun b cap hb' hc => hk _ _ (.inr ⟨b, cap, rfl, hc, ?_, rfl⟩)⟩
 rcases hb' with hb' | hb'
 ·cases hb'
 ·exact hb'

def halt (h : TypeId) (c p : Int) : PV := .iface h (.agg [.int .i64 c, .int .i64 p])
def Stops (h : TypeId) (c p : Int) (st : St) : Res → St → Prop := fun r st' => st' = st ∧ ((c = 0 ∧ r = .ret (.tup [])) ∨ (c ≠ 0 ∧ r = .pan (halt h c p)))
theorem zq56 {R : Res → St → Prop} {p p' : PV} {st st' : St} (hc : Conv [p] st [p'] st') (h : R (.pan p') st') : panR R p st := hRet.intro hc h
theorem Stops.pan {h : TypeId} {c c' p p' : Int} {st st1 : St} (hc : c ≠ 0) (e : c = c') (e' : p = p') (hs : Sub st st1) : panR (Stops h c' p' st) (halt h c p) st1 := by
 subst e e'
 exact zq56 (Conv.sub hs) ⟨rfl, .inr ⟨hc, rfl⟩⟩
theorem zqy {P : Program} {g : FuncId} {us : List PV} {st : St} {K Kp : PV → St → Prop} {h : TypeId} {c p : Int} (hc : zq5 P g us st (Stops h c p st)) (hy : c = 0 → K (.tup []) st) (hn : c ≠ 0 → Kp (halt h c p) st) : zqb P g us st K Kp := by
 refine zq15 hc (fun q st' h => ?_) (fun q st' h => ?_)
 ·obtain ⟨rfl, h⟩ := h
  rcases h with ⟨h, e⟩ | ⟨h, e⟩
  ·cases e; exact hy h
  ·cases e
 ·obtain ⟨rfl, h⟩ := h
  rcases h with ⟨h, e⟩ | ⟨h, e⟩
  ·cases e
  ·cases e; exact hn h
def Heads (h : TypeId) (x : Int ⊕ Tr) (st : St) : Res → St → Prop := fun r st' => st' = st ∧ match x with | .inr b => r = .ret (tree b) | .inl c => r = .pan (halt h c 0)
theorem Heads.ret {h : TypeId} {x : Int ⊕ Tr} {b : Tr} {st st1 : St} (e : x = .inr b) (hs : Sub st st1) : retR (Heads h x st) (tree b) st1 := zq1h hs ⟨rfl, by rw [e]⟩
theorem Heads.pan {h : TypeId} {x : Int ⊕ Tr} {c : Int} {st st1 : St} (e : x = .inl c) (hs : Sub st st1) : panR (Heads h x st) (halt h c 0) st1 := zq56 (Conv.sub hs) ⟨rfl, by rw [e]⟩
theorem zql2 {P : Program} {g : FuncId} {us : List PV} {st : St} {K Kp : PV → St → Prop} {h : TypeId} {x : Int ⊕ Tr} (hc : zq5 P g us st (Heads h x st)) (hy : ∀ b, x = .inr b → K (tree b) st) (hn : ∀ c, x = .inl c → Kp (halt h c 0) st) : zqb P g us st K Kp := by
 refine zq15 hc (fun q st' h => ?_) (fun q st' h => ?_)
 ·obtain ⟨rfl, h⟩ := h
  cases x with
  | inr b => cases h; exact hy b rfl
  | inl c => cases h
 ·obtain ⟨rfl, h⟩ := h
  cases x with
  | inr b => cases h
  | inl c => cases h; exact hn c rfl
def most (x : Int) : List Int → Int
 | [] => x
 | y :: r => most (if y > x then y else x) r
theorem most_any : ∀ (r : List Int) (x m : Int), m < most x r ↔ (x :: r).any (fun y => decide (y > m)) = true
 | [], x, m => by simp [most]
 | y :: r, x, m => by
   rw [most, most_any r]
   simp only [List.any_cons, Bool.or_eq_true, decide_eq_true_eq]
   by_cases h : y > x
   ·rw [if_pos h]; constructor
    ·rintro (h | h)
     ·exact .inr (.inl h)
     ·exact .inr (.inr h)
    ·rintro (h | h | h)
     ·left; omega
     ·exact .inl h
     ·exact .inr h
   ·rw [if_neg h]; constructor
    ·rintro (h | h)
     ·exact .inl h
     ·exact .inr (.inr h)
    ·rintro (h | h | h)
     ·exact .inl h
     ·left; omega
     ·exact .inr h
@[simp] theorem set1_all (x a : PV) : zqg [x] 0 [a] = [a] := rfl
@[simp] theorem set2_all (x y a b : PV) : zqg [x, y] 0 [a, b] = [a, b] := rfl
theorem zqm6 {P : Program} {T : TypeId → Option TD} (hT : TyOK P T) {w0 w : World} {st0 st : St} (hev : Evo w0 st0 w st) (hg : Good w st) {env : List PV} {tmps : Array Value} (hs : ROs (Cw w st) env tmps.toList) {fn : Func} {R : Res → St → Prop} (h : resK T st env fn.results.toList [] (finK R st)) :
  ∃ v, (results fn tmps).run P w = .ok v w ∧ Post R w0 st0 (.returned v) w := by
 obtain ⟨p, v, h1, h2, p', st'', hcv, hr⟩ := fin_sound (P := P) hT hg hs h
 obtain ⟨hg2, he2, hv2⟩ := hcv w hg
 obtain ⟨v', vs', e, h3, _⟩ := hv2 [v] ⟨v, [], rfl, h2, rfl⟩
 simp only [List.cons.injEq] at e
 obtain ⟨rfl, _⟩ := e
 exact ⟨v, h1, .ret p', st'', hev.trans he2, hg2, hr, h3⟩
end Go.H
namespace Go.H
open Go
set_option linter.unusedVariables false
set_option linter.unusedSimpArgs false

abbrev longV (n : Int) (a : Tr) : Tr := longForm (Tr.var n []) a
theorem sizes_mapIdx {f : Nat → Tr → Tr} : ∀ (l : List Tr), (∀ (i : Nat) (h : i < l.length), (f i l[i]).size = l[i].size) → Tr.sizes (l.mapIdx f) = Tr.sizes l := by
 intro l h
 unfold Tr.sizes
 congr 1
 refine List.ext_getElem (by simp) fun i h1 h2 => ?_
 simp at h1
 simp only [List.getElem_map, List.getElem_mapIdx]
 exact h i h1
def sNat : List UInt8 := [110, 97, 116]
def sO : List UInt8 := [111]
def Tr.base (s : List UInt8) : Tr := .mk 9 0 s []
def Tr.arrow (x y : Tr) : Tr := .mk 10 0 [] [x, y]
theorem base_simple {s : List UInt8} (h : zq8t s = true) : (Tr.base s).isSimple = true := by
 rw [Tr.isSimple_eq]; simp [Tr.base, h]
theorem arrow_simple {x y : Tr} (hx : x.isSimple = true) (hy : y.isSimple = true) : (Tr.arrow x y).isSimple = true := by
 rw [Tr.isSimple_eq]; simp [Tr.arrow, Tr.bare, hx, hy]
@[simp] theorem base_size (s : List UInt8) : (Tr.base s).size = 1 := by rw [Tr.size_eq]; simp [Tr.base]
@[simp] theorem arrow_size (x y : Tr) : (Tr.arrow x y).size = 1 + x.size + y.size := by rw [Tr.size_eq]; simp [Tr.arrow]; omega
def Tr.high (t : Tr) : Bool := (decide (t.kind = 5) && decide (100 < t.n)) || t.kids.attach.any fun x => Tr.high x.1
termination_by SizeOf.sizeOf t
decreasing_by exact Tr.kids_lt x.2
theorem Tr.high_eq (t : Tr) : t.high = ((decide (t.kind = 5) && decide (100 < t.n)) || t.kids.any Tr.high) := by
 rw [Tr.high]
 congr 1
 simp
def Tr.big (t : Tr) : Bool := !t.small || t.high
def countOK (c : Int) (t : Tr) : Prop := c + t.size ≤ 150 ∧ t.high = false
theorem term_high : ∀ (t : Tr), t.isTerm false = true → t.high = false := by
 intro t
 induction t using Tr.ind with
 | _ t ih =>
   intro h
   rw [Tr.high_eq]
   have h1 : (t.kids.any Tr.high) = false := by
    rw [List.any_eq_false]
    intro x hx
    rw [ih x hx (Tr.kids_lams h hx)]
    simp
   rw [h1, Bool.or_false]
   by_cases h5 : t.kind = 5
   ·have := var_n h (.inl h5)
    simp [h5]
    omega
   ·simp [h5]
theorem upd_fold {st : St} {b : Nat} {o : HObj} (h : st b = some o) : upd st b o = st := by
 funext c; unfold Go.H.upd; split
 ·rename_i e; rw [e, h]
 ·rfl
def zq8p (bs : List UInt8) : PV := .sl 1 false (bs.map fun c => .int .u8 (c.toNat : Int))
@[simp] theorem bytesP_len (bs : List UInt8) : zq1j (zq8p bs) = some (.int .i64 (bs.length : Int)) := by simp [zq8p]
theorem bytesP_ia {bs : List UInt8} {i : Nat} {k : IntKind} (h : i < bs.length) : q_ia 1 (zq8p bs) (.int k (i : Int)) = some (.ref [.int .u8 (bs[i].toNat : Int)]) := by
 simp [q_ia, zq8p, h, PV.cells]
structure Src (bs : List UInt8) (M : Int) (b : Nat) (st : St) : Prop where
 is : ∃ at_ seed : Int, st b = some (.cells [zq8p bs, .int .i64 at_, .int .i64 seed]) ∧ 0 ≤ at_ ∧ at_ ≤ M ∧ 0 ≤ seed ∧ seed < 2147483648
def Drew (bs : List UInt8) (M : Int) (b : Nat) (Q : PV → Prop) (st : St) : Res → St → Prop := fun r s => ∃ p o, r = .ret p ∧ Q p ∧ s = upd st b o ∧ Src bs M b s
theorem zq78 {P : Program} {g : FuncId} {us : List PV} {st : St} {K Kp : PV → St → Prop} {bs : List UInt8} {M : Int} {b : Nat} {Q : PV → Prop} (hc : zq5 P g us st (Drew bs M b Q st)) (hk : ∀ p o, Q p → Src bs M b (upd st b o) → K p (upd st b o)) : zqb P g us st K Kp := by
 refine zq15 hc (fun p s h => ?_) (fun p s h => ?_)
 ·obtain ⟨p', o, h, hq, rfl, hs⟩ := h
  cases h
  exact hk _ _ hq hs
 ·obtain ⟨_, _, h, _⟩ := h
  cases h
theorem Drew.mk {bs : List UInt8} {M : Int} {b : Nat} {Q : PV → Prop} {st st1 : St} {p : PV} {o : HObj} (hq : Q p) (hs : Src bs M b (upd st b o)) (h : Sub (upd st b o) st1) : retR (Drew bs M b Q st) p st1 := zq1h h ⟨p, o, rfl, hq, rfl, hs⟩
theorem Src.mk' {bs : List UInt8} {M : Int} {b : Nat} {st : St} {a s : Int} (h1 : 0 ≤ a) (h2 : a ≤ M) (h3 : 0 ≤ s) (h4 : s < 2147483648) : Src bs M b (upd st b (.cells [zq8p bs, .int .i64 a, .int .i64 s])) := ⟨a, s, zq2 _ _ _, h1, h2, h3, h4⟩
theorem Src.mono {bs : List UInt8} {M M' : Int} {b : Nat} {st : St} (h : Src bs M b st) (hm : M ≤ M') : Src bs M' b st := by
 obtain ⟨a, s, h1, h2, h3, h4⟩ := h.is
 exact ⟨a, s, h1, h2, by omega, h4⟩
theorem rem_nat {i : Int} {L : Nat} (h : 0 ≤ i) : i.tmod (L : Int) = ((i.toNat % L : Nat) : Int) := by
 rw [Int.tmod_eq_emod_of_nonneg h, Int.natCast_emod, Int.toNat_of_nonneg h]
theorem quo_nat {i : Int} {L : Nat} (h : 0 ≤ i) : i.tdiv (L : Int) = ((i.toNat / L : Nat) : Int) := by
 rw [Int.tdiv_eq_ediv_of_nonneg h, Int.natCast_ediv, Int.toNat_of_nonneg h]
theorem q_rem_nat {i : Int} {L : Nat} (h : 0 ≤ i) (hL : 0 < L) : zqkf .rem .i64 i (L : Int) = some (.int .i64 ((i.toNat % L : Nat) : Int)) := by
 simp only [zqkf]
 rw [if_neg (by omega), rem_nat h]
theorem q_quo_nat {i : Int} {L : Nat} (h : 0 ≤ i) (hi : i ≤ 1000000000000) (hL : 0 < L) : zqkf .quo .i64 i (L : Int) = some (.int .i64 ((i.toNat / L : Nat) : Int)) := by
 simp only [zqkf]
 have : i.toNat / L ≤ i.toNat := Nat.div_le_self _ _
 have h2 : ((i.toNat / L : Nat) : Int) ≤ (i.toNat : Int) := Int.ofNat_le.2 this
 have h3 : (0 : Int) ≤ ((i.toNat / L : Nat) : Int) := Int.natCast_nonneg _
 rw [if_neg (by omega), quo_nat h, zqs (by omega) (by omega)]
theorem byte_le (c : UInt8) : (c.toNat : Int) ≤ 255 := by have := UInt8.toNat_lt c; omega
theorem q_rem {k : IntKind} {a b : Int} (h : b ≠ 0) : zqkf .rem k a b = some (.int k (a.tmod b)) := by
 simp only [zqkf]
 rw [if_neg h]
@[simp] theorem set3_0 (a b c x : PV) : zqg [a, b, c] 0 [x] = [x, b, c] := rfl
@[simp] theorem set3_1 (a b c x : PV) : zqg [a, b, c] 1 [x] = [a, x, c] := rfl
@[simp] theorem set3_2 (a b c x : PV) : zqg [a, b, c] 2 [x] = [a, b, x] := rfl
@[simp] theorem takeV_bytes (n : Nat) (bs : List UInt8) (cs : List PV) : zq3n false n (zq8p bs :: cs) = some (zq8p bs) := rfl
theorem sourceLit (bs : List UInt8) (n : Int) : zqe [PV.sl 0 true [], PV.int IntKind.i64 0, PV.int IntKind.i64 0] [(0, 1, zq8p bs), (2, 1, PV.int IntKind.i64 n)] = some (.agg [zq8p bs, .int .i64 0, .int .i64 n]) := rfl
def Begun (bs : List UInt8) (st : St) : Res → St → Prop := fun r s => ∃ b o, st b = none ∧ r = .ret (.ptr b 0) ∧ s = upd st b o ∧ Src bs 0 b s
theorem callK_begun {P : Program} {g : FuncId} {us : List PV} {st : St} {K Kp : PV → St → Prop} {bs : List UInt8} (hc : zq5 P g us st (Begun bs st)) (hk : ∀ b o, st b = none → Src bs 0 b (upd st b o) → K (.ptr b 0) (upd st b o)) : zqb P g us st K Kp := by
 refine zq15 hc (fun p s h => ?_) (fun p s h => ?_)
 ·obtain ⟨b, o, hb, h, rfl, hs⟩ := h
  cases h
  exact hk _ _ hb hs
 ·obtain ⟨_, _, _, h, _⟩ := h
  cases h
def OneOf (n : Int) (p : PV) : Prop := ∃ k : Int, p = .int .i64 k ∧ 0 ≤ k ∧ (k < n ∨ k = 0)
def ABool (p : PV) : Prop := ∃ v : Bool, p = .bool v
def zq16 (b : Nat) (st s : St) : Prop := ∀ c o, c ≠ b → st c = some o → s c = some o
theorem zq16.refl (b : Nat) (st : St) : zq16 b st st := fun _ _ _ h => h
theorem zq16.put {b c : Nat} {st s : St} (h : zq16 b st s) (hc : st c = none) (o : HObj) : zq16 b st (upd s c o) := fun d od hd hs => by
 have : d ≠ c := fun e => by rw [e, hc] at hs; cases hs
 rw [zq7 _ _ this]
 exact h d od hd hs
theorem zq16.draw {b : Nat} {st s : St} (h : zq16 b st s) (o : HObj) : zq16 b st (upd s b o) := fun d od hd hs => by
 rw [zq7 _ _ hd]
 exact h d od hd hs
theorem zq16.isNone {b c : Nat} {st s : St} (h : zq16 b st s) (hne : c ≠ b) (hc : s c = none) : st c = none := by
 cases hs : st c with
 | none => rfl
 | some o => rw [h c o hne hs] at hc; cases hc
theorem Drew.fin {bs : List UInt8} {M : Int} {b : Nat} {Q : PV → Prop} {st s : St} {p : PV} (hq : Q p) (hs : Src bs M b s) (ha : zq16 b st s) : retR (Drew bs M b Q st) p s := by
 obtain ⟨a, e, h1, h2, h3, h4, h5⟩ := hs.is
 refine Drew.mk (o := .cells [zq8p bs, .int .i64 a, .int .i64 e]) hq (Src.mk' h2 h3 h4 h5) fun c oc hc => ?_
 by_cases hcb : c = b
 ·subst hcb; rw [zq2] at hc; rw [h1]; exact hc
 ·rw [zq7 _ _ hcb] at hc; exact ha c oc hcb hc
end Go.H
namespace Go.H
open Go
set_option linter.unusedVariables false
set_option linter.unusedSimpArgs false

def zqc3 (f : Nat → Tr → Int → (Int ⊕ Tr) × Int) : Nat → List Tr → Int → (Int ⊕ List Tr) × Int
 | _, [], s => (.inr [], s)
 | i, x :: r, s => match f i x s with
   | (.inl c, s) => (.inl c, s)
   | (.inr y, s) => match zqc3 f (i + 1) r s with
     | (.inl c, s) => (.inl c, s)
     | (.inr ys, s) => (.inr (y :: ys), s)
def redT (sub : Tr → Tr → Tr → Int → (Int ⊕ Tr) × Int) : Tr → Tr → List Tr → Int → (Int ⊕ Tr) × Int
 | f, a, [], s => (.inr f, s)
 | f, a, x :: r, s =>
   if a.kind = 10 ∧ f.kind = 4 then
    (if s + 1 > 20000 then (.inl 17, s + 1)
    else match sub x (a.kid 0) (f.kid 0) (s + 1) with
     | (.inl c, s) => (.inl c, s)
     | (.inr g, s) => redT sub g (a.kid 1) r s)
   else (.inl 12, s)
def subT : Nat → Tr → Tr → Tr → Int → Int → (Int ⊕ Tr) × Int
 | 0, _, _, _, _, s => (.inl 0, s)
 | N + 1, m, a, t, n, s =>
   match zqc3 (fun i x s => subT N m a x (W (n + t.under i)) s) 0 t.kids s with
   | (.inl c, s) => (.inl c, s)
   | (.inr ks, s) =>
     if t.kind = 5 ∧ t.n = n then
      (if (m.lift 0 n).big = true then (.inl 11, s) else redT (fun x a f s => subT N x a f 0 s) (m.lift 0 n) a ks s)
     else if (Tr.mk t.kind (if t.kind = 5 ∧ n < t.n then W (t.n - 1) else t.n) t.name ks).big = true then (.inl 11, s)
     else (.inr (.mk t.kind (if t.kind = 5 ∧ n < t.n then W (t.n - 1) else t.n) t.name ks), s)
def Tr.lamy (t : Tr) : Bool := (decide (t.kind = 4 → t.kids.length = 1)) && t.kids.attach.all fun x => Tr.lamy x.1
termination_by SizeOf.sizeOf t
decreasing_by exact Tr.kids_lt x.2
theorem Tr.lamy_eq (t : Tr) : t.lamy = ((decide (t.kind = 4 → t.kids.length = 1)) && t.kids.all Tr.lamy) := by
 rw [Tr.lamy, zqe1 t.kids Tr.lamy]
theorem Tr.lamy_kids {t x : Tr} (h : t.lamy = true) (hx : x ∈ t.kids) : x.lamy = true := by
 rw [Tr.lamy_eq, Bool.and_eq_true, List.all_eq_true] at h
 exact h.2 x hx
theorem Tr.lamy_lam {t : Tr} (h : t.lamy = true) (hk : t.kind = 4) : ∃ x, t.kids = [x] ∧ x.lamy = true := by
 rw [Tr.lamy_eq, Bool.and_eq_true, decide_eq_true_eq, List.all_eq_true] at h
 match hks : t.kids, h.1 hk with
 | [x], _ => exact ⟨x, rfl, h.2 x (by rw [hks]; simp)⟩
theorem lift_lamy : ∀ (t : Tr) (f b : Int), t.lamy = true → (t.lift f b).lamy = true := by
 intro t
 induction t using Tr.ind with
 | _ t ih =>
   intro f b h
   rw [Tr.lift_eq, Tr.lamy_eq, Bool.and_eq_true, decide_eq_true_eq, List.all_eq_true]
   have h2 := h
   rw [Tr.lamy_eq, Bool.and_eq_true, decide_eq_true_eq] at h2
   refine ⟨fun hk => by simpa using h2.1 (by simpa using hk), fun y hy => ?_⟩
   simp only [Tr.kids_mk, List.mem_mapIdx] at hy
   obtain ⟨i, hi, rfl⟩ := hy
   exact ih _ (List.getElem_mem hi) _ _ (Tr.lamy_kids h (List.getElem_mem hi))
theorem zqlp : ∀ (t : Tr) (f b : Int), (t.lift f b).size = t.size := by
 intro t
 induction t using Tr.ind with
 | _ t ih =>
   intro f b
   rw [Tr.lift_eq, Tr.size_kids, Tr.kids_mk, sizes_mapIdx _ fun i h => ih _ (List.getElem_mem h) _ _, ← Tr.size_kids]
theorem zqgs : ∀ (t : Tr), t.isTerm false = true → t.lamy = true := by
 intro t
 induction t using Tr.ind with
 | _ t ih =>
   intro h
   rw [Tr.lamy_eq, Bool.and_eq_true, decide_eq_true_eq, List.all_eq_true]
   refine ⟨fun hk => ?_, fun x hx => ih x hx (Tr.kids_lams h hx)⟩
   obtain ⟨x, hx, _⟩ := lam_kid h hk
   rw [hx]; rfl
def FineT (r : (Int ⊕ Tr) × Int) (s : Int) : Prop := s ≤ r.2 ∧ r.2 ≤ 20001 ∧ (∀ c, r.1 = .inl c → c ≠ 0) ∧ ∀ t, r.1 = .inr t → t.lamy = true ∧ t.big = false ∧ r.2 ≤ 20000
theorem kidsT_fine {f : Nat → Tr → Int → (Int ⊕ Tr) × Int} : ∀ (l : List Tr) (i : Nat) (s : Int), s ≤ 20000 → (∀ (j : Nat) (x : Tr) (s' : Int), x ∈ l → s ≤ s' → s' ≤ 20000 → FineT (f j x s') s') →
  s ≤ (zqc3 f i l s).2 ∧ (zqc3 f i l s).2 ≤ 20001 ∧ (∀ c, (zqc3 f i l s).1 = .inl c → c ≠ 0) ∧ (∀ ys, (zqc3 f i l s).1 = .inr ys → ys.length = l.length ∧ (∀ y ∈ ys, y.lamy = true ∧ y.big = false) ∧ (zqc3 f i l s).2 ≤ 20000)
 | [], i, s, hs, hf => by simp only [zqc3]; exact ⟨by omega, by omega, fun c h => (by cases h), fun ys h => by cases h; exact ⟨rfl, by simp, hs⟩⟩
 | x :: r, i, s, hs, hf => by
   obtain ⟨h1, h2, h3, h4⟩ := hf i x s (by simp) (by omega) hs
   rw [zqc3]
   match hfx : f i x s with
   | (.inl c, s1) =>
     rw [hfx] at h1 h2 h3
     simp only at h1 h2 h3 ⊢
     exact ⟨h1, h2, fun c' h => by cases h; exact h3 _ rfl, fun ys h => by cases h⟩
   | (.inr y, s1) =>
     rw [hfx] at h1 h2 h4
     simp only at h1 h2 h4 ⊢
     obtain ⟨g1, g2, g3⟩ := h4 y rfl
     obtain ⟨k1, k2, k3, k4⟩ := kidsT_fine r (i + 1) s1 g3 (fun j z s' hz hs1 hs2 => hf j z s' (by simp [hz]) (by omega) hs2)
     match hkr : zqc3 f (i + 1) r s1 with
     | (.inl c, s2) =>
       rw [hkr] at k1 k2 k3
       simp only at k1 k2 k3 ⊢
       exact ⟨by omega, k2, fun c' h => by cases h; exact k3 _ rfl, fun ys h => by cases h⟩
     | (.inr ys, s2) =>
       rw [hkr] at k1 k2 k4
       simp only at k1 k2 k4 ⊢
       obtain ⟨e1, e2, e3⟩ := k4 ys rfl
       refine ⟨by omega, k2, (fun c' h => by cases h), fun zs h => ?_⟩
       cases h
       exact ⟨by simp [e1], by simpa using ⟨⟨g1, g2⟩, e2⟩, e3⟩
theorem redT_fine {sub : Tr → Tr → Tr → Int → (Int ⊕ Tr) × Int} : ∀ (l : List Tr) (f a : Tr) (s : Int), s ≤ 20000 → a.isSimple = true → f.lamy = true → f.big = false → (∀ x ∈ l, x.lamy = true) →
  (∀ (x b g : Tr) (s' : Int), x.lamy = true → b.isSimple = true → g.lamy = true → g.size ≤ 150 → s < s' → s' ≤ 20000 → FineT (sub x b g s') s') → FineT (redT sub f a l s) s
 | [], f, a, s, hs, ha, hf, hfb, hl, hsub => ⟨by simp [redT], by simp [redT]; omega, fun c h => by simp [redT] at h, fun t h => by simp [redT] at h; subst h; exact ⟨hf, hfb, by simpa [redT] using hs⟩⟩
 | x :: r, f, a, s, hs, ha, hf, hfb, hl, hsub => by
   rw [redT]
   split
   ·rename_i hk
    obtain ⟨y, z, hyz, hy, hz⟩ := zqka ha hk.1
    obtain ⟨g, hg, hgl⟩ := Tr.lamy_lam hf hk.2
    split
    ·exact ⟨by simp; omega, by simp; omega, fun c h => by cases h; decide, fun t h => by cases h⟩
    ·rename_i hgt
     have hsz : g.size ≤ 150 := by
      have h1 : g.size < f.size := Tr.kid_size (by rw [hg]; simp)
      unfold Tr.big Tr.small at hfb
      simp only [Bool.or_eq_false_iff, Bool.not_eq_false', decide_eq_true_eq] at hfb
      omega
     have h := hsub x (a.kid 0) (f.kid 0) (s + 1) (hl x (by simp)) (by rw [kid0 hyz]; exact hy) (by rw [kid0 hg]; exact hgl) (by rw [kid0 hg]; exact hsz) (by omega) (by omega)
     obtain ⟨h1, h2, h3, h4⟩ := h
     match hfx : sub x (a.kid 0) (f.kid 0) (s + 1) with
     | (.inl c, s1) =>
       rw [hfx] at h1 h2 h3
       simp only at h1 h2 h3 ⊢
       exact ⟨by simp only; omega, h2, fun c' h => by cases h; exact h3 _ rfl, fun t h => by cases h⟩
     | (.inr g', s1) =>
       rw [hfx] at h1 h2 h4
       simp only at h1 h2 h4 ⊢
       obtain ⟨e1, e2, e3⟩ := h4 g' rfl
       obtain ⟨k1, k2, k3, k4⟩ := redT_fine r g' (a.kid 1) s1 e3 (by rw [kid1 hyz]; exact hz) e1 e2 (fun x hx => hl x (by simp [hx])) (fun x b g s' p1 p2 p3 p4 p5 p6 => hsub x b g s' p1 p2 p3 p4 (by omega) p6)
       exact ⟨by omega, k2, k3, k4⟩
   ·exact ⟨by simp, by simp; omega, fun c h => by cases h; decide, fun t h => by cases h⟩
theorem zqgu : ∀ (N : Nat) (m a t : Tr) (n s : Int), m.lamy = true → t.lamy = true → a.isSimple = true → 0 ≤ s → s ≤ 20000 → (20001 - s) * 1000 + t.size ≤ N → FineT (subT N m a t n s) s := by
 intro N
 induction N with
 | zero => intro m a t n s _ _ _ h0 h1 hN; have := t.size_pos; omega
 | succ N ih =>
   intro m a t n s hm ht ha h0 h1 hN
   rw [subT]
   obtain ⟨k1, k2, k3, k4⟩ := kidsT_fine (f := fun i x s => subT N m a x (W (n + t.under i)) s) t.kids 0 s h1 (fun j x s' hx p1 p2 => ih m a x _ s' hm (Tr.lamy_kids ht hx) ha (by omega) p2 (by have := Tr.kid_size hx; omega))
   match hk : zqc3 (fun i x s => subT N m a x (W (n + t.under i)) s) 0 t.kids s with
   | (.inl c, s1) =>
     rw [hk] at k1 k2 k3
     simp only at k1 k2 k3 ⊢
     exact ⟨k1, k2, fun c' h => by cases h; exact k3 _ rfl, fun t h => by cases h⟩
   | (.inr ks, s1) =>
     rw [hk] at k1 k2 k4
     simp only at k1 k2 k4 ⊢
     obtain ⟨e1, e2, e3⟩ := k4 ks rfl
     split
     ·split
      ·exact ⟨k1, k2, fun c' h => by cases h; decide, fun t h => by cases h⟩
      ·rename_i hb
       obtain ⟨r1, r2, r3, r4⟩ := redT_fine (sub := fun x a f s => subT N x a f 0 s) ks (m.lift 0 n) a s1 e3 ha (lift_lamy m 0 n hm) (by simpa using hb) (fun x hx => (e2 x hx).1) (fun x b g s' p1 p2 p3 p4 p5 p6 => ih x b g 0 s' p1 p3 p2 (by omega) p6 (by have := t.size_pos; omega))
       exact ⟨by omega, r2, r3, r4⟩
     ·generalize (if t.kind = 5 ∧ n < t.n then W (t.n - 1) else t.n) = n'
      split
      ·exact ⟨k1, k2, fun c' h => by cases h; decide, fun t h => by cases h⟩
      ·rename_i hb
       refine ⟨k1, k2, fun c' h => by (cases h), fun t' h => ?_⟩
       cases h
       refine ⟨?_, by simpa using hb, e3⟩
       rw [Tr.lamy_eq, Bool.and_eq_true, decide_eq_true_eq, List.all_eq_true]
       have h2 := ht
       rw [Tr.lamy_eq, Bool.and_eq_true, decide_eq_true_eq] at h2
       exact ⟨fun hk4 => by rw [Tr.kids_mk, e1]; exact h2.1 hk4, fun y hy => (e2 y hy).1⟩
theorem zq16.sub {b : Nat} {st s : St} {o : HObj} (h : zq16 b st s) (hb : s b = some o) : Sub (upd st b o) s := fun c oc hc => by
 by_cases hcb : c = b
 ·subst hcb; rw [zq2] at hc; rw [hb]; exact hc
 ·rw [zq7 _ _ hcb] at hc; exact h c oc hcb hc
def cnt (s : Int) : HObj := .cells [.int .i64 s]
def finT (N : Nat) (m a t : Tr) (n : Int) (ks : List Tr) (s : Int) : (Int ⊕ Tr) × Int :=
 if t.kind = 5 ∧ t.n = n then
  (if (m.lift 0 n).big = true then (.inl 11, s) else redT (fun x a f s => subT N x a f 0 s) (m.lift 0 n) a ks s)
 else if (Tr.mk t.kind (if t.kind = 5 ∧ n < t.n then W (t.n - 1) else t.n) t.name ks).big = true then (.inl 11, s)
 else (.inr (.mk t.kind (if t.kind = 5 ∧ n < t.n then W (t.n - 1) else t.n) t.name ks), s)
def restT (N : Nat) (m a t : Tr) (n : Int) (i : Nat) (done rest : List Tr) (s : Int) : (Int ⊕ Tr) × Int :=
 match zqc3 (fun i x s => subT N m a x (W (n + t.under i)) s) i rest s with
 | (.inl c, s) => (.inl c, s)
 | (.inr ks, s) => finT N m a t n (done ++ ks) s
theorem subT_rest (N : Nat) (m a t : Tr) (n s : Int) : subT (N + 1) m a t n s = restT N m a t n 0 [] t.kids s := by
 rw [subT, restT]
 rfl
theorem restT_nil (N : Nat) (m a t : Tr) (n : Int) (i : Nat) (done : List Tr) (s : Int) : restT N m a t n i done [] s = finT N m a t n done s := by
 simp [restT, zqc3]
theorem restT_cons (N : Nat) (m a t : Tr) (n : Int) (i : Nat) (done : List Tr) (x : Tr) (r : List Tr) (s : Int) :
  restT N m a t n i done (x :: r) s = match subT N m a x (W (n + t.under i)) s with
   | (.inl c, s) => (.inl c, s)
   | (.inr y, s) => restT N m a t n (i + 1) (done ++ [y]) r s := by
 simp only [restT, zqc3]
 match h : subT N m a x (W (n + t.under i)) s with
 | (.inl c, s1) => simp
 | (.inr y, s1) =>
   simp only
   match h2 : zqc3 (fun i x s => subT N m a x (W (n + t.under i)) s) (i + 1) r s1 with
   | (.inl c, s2) => simp
   | (.inr ys, s2) => simp
theorem zqk8 : ∀ (l : List Tr), (∀ x ∈ l, x.big = false) → Tr.sizes l ≤ 150 * l.length
 | [], _ => by simp [Tr.sizes]
 | x :: r, h => by
   have h1 := zqk8 r (fun y hy => h y (by simp [hy]))
   have h2 := h x (by simp)
   unfold Tr.big Tr.small at h2
   simp only [Bool.or_eq_false_iff, Bool.not_eq_false', decide_eq_true_eq] at h2
   simp only [Tr.sizes, List.map_cons, List.sum_cons, List.length_cons] at h1 ⊢
   omega
theorem zqc7 {x : Tr} (h : x.big = false) : x.size ≤ 150 := by
 unfold Tr.big Tr.small at h
 simp only [Bool.or_eq_false_iff, Bool.not_eq_false', decide_eq_true_eq] at h
 exact h.1
theorem zq16.more {b : Nat} {st s s' : St} (h : zq16 b st s) (hs : Sub s s') : zq16 b st s' := fun c o hc h0 => hs c o (h c o hc h0)
theorem Grow.one {st0 st : St} {esz : Nat} {acc : List PV} {p : PV} (h : Grow st0 esz acc p st) : p.cells = [p] ∧ p.ncells = 1 ∧ p.isJunk = false ∧ p.cellOK = true := by
 rcases h with ⟨rfl, ⟨e, rfl⟩, rfl⟩ | ⟨b, cap, rfl, hcap, hn, rfl⟩ <;> exact ⟨rfl, rfl, rfl, rfl⟩
end Go.H
namespace Go.H
open Go
set_option linter.unusedVariables false
set_option linter.unusedSimpArgs false
def Tr.isFam (kd : Bool) (t : Tr) : Bool :=
 if t.kind = 1 then kd && t.bare 0
 else if t.kind = 3 then !kd && (decide (t.n = 0) && zq8t t.name && t.kids.all (Tr.isArg false))
 else if t.kind = 2 then t.bare 2 && (match h : t.kids with
  | [x, y] => Tr.isFam false x && Tr.isFam kd y
  | _ => false)
 else false
termination_by SizeOf.sizeOf t
decreasing_by
 all_goals exact Tr.kids_lt (by rw [h]; simp)
theorem Tr.isFam_type {kd : Bool} {t : Tr} (h : t.kind = 1) : t.isFam kd = (kd && t.bare 0) := by rw [Tr.isFam, if_pos h]
theorem Tr.isFam_head {kd : Bool} {t : Tr} (h : t.kind = 3) : t.isFam kd = (!kd && (decide (t.n = 0) && zq8t t.name && t.kids.all (Tr.isArg false))) := by rw [Tr.isFam, if_neg (by omega), if_pos h]
theorem Tr.isFam_pi {kd : Bool} {t x y : Tr} (h : t.kind = 2) (hk : t.kids = [x, y]) : t.isFam kd = (t.bare 2 && (x.isFam false && y.isFam kd)) := by
 rw [Tr.isFam, if_neg (by omega), if_neg (by omega), if_pos h]
 congr 1
 split
 ·rename_i a b hab
  rw [hk] at hab
  cases hab
  rfl
 ·rename_i hno
  exact absurd hk (by intro e; exact hno _ _ e)
theorem Tr.isFam_bad {kd : Bool} {t : Tr} (h : t.kind = 2) (hk : t.bare 2 = false) : t.isFam kd = false := by
 rw [Tr.isFam, if_neg (by omega), if_neg (by omega), if_pos h, hk]
 rfl
theorem Tr.isFam_no {kd : Bool} {t : Tr} (h1 : t.kind ≠ 1) (h3 : t.kind ≠ 3) (h2 : t.kind ≠ 2) : t.isFam kd = false := by
 rw [Tr.isFam, if_neg h1, if_neg h3, if_neg h2]
theorem zq9d {t : Tr} (h : t.bare 2 = true) : ∃ x y, t.kids = [x, y] := by
 unfold Tr.bare at h
 simp only [Bool.and_eq_true, decide_eq_true_eq] at h
 match hk : t.kids, h.2 with
 | [x, y], _ => exact ⟨x, y, rfl⟩
def Tr.famOK (t : Tr) : Bool := t.small && t.isFam false
def Tr.kindOK (t : Tr) : Bool := t.small && t.isFam true
theorem looks_pi {kd : Bool} {t x y : Tr} {m : Int} (h2 : t.kind = 2) (hb : t.bare 2 = true) (hk : t.kids = [x, y]) : looks (Tr.isFam kd) t m = (looks (Tr.isFam false) x (m - 1)).bind (looks (Tr.isFam kd) y) := by
 have hs : t.size = 1 + (x.size + y.size) := by rw [Tr.size_kids, hk]; simp [Tr.sizes]
 have px := x.size_pos
 have py := y.size_pos
 unfold looks
 rw [Tr.isFam_pi h2 hk, hb, Bool.true_and, hs]
 by_cases gx : x.isFam false = true
 ·by_cases gy : y.isFam kd = true
  ·rw [gx, gy]
   simp only [Bool.and_self, true_and]
   by_cases h1 : (x.size : Int) ≤ m - 1
   ·rw [if_pos h1]
    simp only [Option.bind_some]
    by_cases h3 : (y.size : Int) ≤ m - 1 - x.size
    ·rw [if_pos h3, if_pos (by omega)]; congr 1; omega
    ·rw [if_neg h3, if_neg (by omega)]
   ·rw [if_neg h1, if_neg (by omega)]; rfl
  ·rw [if_neg (by simp [gy])]
   split
   ·simp [gy]
   ·rfl
 ·rw [if_neg (by simp [gx]), if_neg (by simp [gx])]; rfl
theorem fam_lamy : ∀ (t : Tr) (kd : Bool), t.isFam kd = true → t.lamy = true := by
 intro t
 induction t using Tr.ind with
 | _ t ih =>
   intro kd h
   rw [Tr.lamy_eq, Bool.and_eq_true, decide_eq_true_eq, List.all_eq_true]
   by_cases h1 : t.kind = 1
   ·rw [Tr.isFam_type h1] at h
    simp only [Bool.and_eq_true] at h
    have hl : t.kids = [] := by have := h.2; unfold Tr.bare at this; simp at this; exact this.2
    exact ⟨fun h4 => by omega, fun x hx => by rw [hl] at hx; cases hx⟩
   ·by_cases h3 : t.kind = 3
    ·rw [Tr.isFam_head h3] at h
     simp only [Bool.and_eq_true, List.all_eq_true] at h
     refine ⟨fun h4 => by omega, fun x hx => zqgs x ?_⟩
     have := h.2.2 x hx
     unfold Tr.isArg at this
     rw [if_neg (by simp)] at this
     exact this
    ·by_cases h2 : t.kind = 2
     ·cases hb : t.bare 2 with
      | false => rw [Tr.isFam_bad h2 hb] at h; cases h
      | true =>
        obtain ⟨x, y, hxy⟩ := zq9d hb
        rw [Tr.isFam_pi h2 hxy] at h
        simp only [Bool.and_eq_true] at h
        refine ⟨fun h4 => by omega, fun z hz => ?_⟩
        rw [hxy] at hz
        simp at hz
        rcases hz with rfl | rfl
        ·exact ih _ (by rw [hxy]; simp) false h.2.1
        ·exact ih _ (by rw [hxy]; simp) kd h.2.2
     ·rw [Tr.isFam_no h1 h3 h2] at h; cases h
def zq2x (t : Tr) : Tr :=
 if t.kind = 2 then (match h : t.kids with
  | [x, y] => Tr.arrow (zq2x x) (zq2x y)
  | _ => zq8l)
 else Tr.base t.name
termination_by SizeOf.sizeOf t
decreasing_by all_goals exact Tr.kids_lt (by rw [h]; simp)
theorem zqa0 {t x y : Tr} (h : t.kind = 2) (hk : t.kids = [x, y]) : zq2x t = Tr.arrow (zq2x x) (zq2x y) := by
 rw [zq2x, if_pos h]
 split
 ·rename_i a b hab
  rw [hk] at hab
  cases hab
  rfl
 ·rename_i hno
  exact absurd hk (by intro e; exact hno _ _ e)
theorem zq2m {t : Tr} (h : t.kind ≠ 2) : zq2x t = Tr.base t.name := by rw [zq2x, if_neg h]
end Go.H
namespace Go.H
open Go
set_option linter.unusedVariables false
set_option linter.unusedSimpArgs false
theorem zqcm {t x : Tr} (h : t.high = false) (hx : x ∈ t.kids) : x.high = false := by
 rw [Tr.high_eq, Bool.or_eq_false_iff, List.any_eq_false] at h
 simpa using h.2 x hx
theorem high_n {t : Tr} (h : t.high = false) (h5 : t.kind = 5) : t.n ≤ 100 := by
 rw [Tr.high_eq, Bool.or_eq_false_iff] at h
 have := h.1
 simp [h5] at this
 exact this
theorem term_mk {t : Tr} {n' : Int} {ks : List Tr} (h : t.isTerm false = true) (hl : ks.length = t.kids.length) (hk : ∀ y ∈ ks, y.isTerm false = true) (hn : t.kind = 5 → 0 ≤ n' ∧ n' ≤ 100) (hn2 : t.kind ≠ 5 → n' = t.n) : (Tr.mk t.kind n' t.name ks).isTerm false = true := by
 have all1 : ks.all (Tr.isTerm false) = true := by rw [List.all_eq_true]; exact hk
 have all2 : ks.all (Tr.isArg false) = true := by
  rw [List.all_eq_true]
  intro y hy
  unfold Tr.isArg
  rw [if_neg (by simp)]
  exact hk y hy
 rw [Tr.isTerm_eq] at h ⊢
 simp only [Tr.kind_mk, Tr.n_mk, Tr.name_mk, Tr.kids_mk, all1, all2, Bool.and_true]
 split at h
 ·rename_i h4
  rw [if_pos h4]
  simp only [Bool.and_eq_true] at h
  have h1 := h.1
  unfold Tr.bare at h1 ⊢
  simp only [Bool.and_eq_true, decide_eq_true_eq] at h1
  simp only [Tr.n_mk, Tr.name_mk, Tr.kids_mk, Bool.and_eq_true, decide_eq_true_eq]
  exact ⟨⟨decide_eq_true ((hn2 (by omega)).trans h1.1.1), decide_eq_true h1.1.2⟩, decide_eq_true (hl.trans h1.2)⟩
 ·rename_i h4
  rw [if_neg h4]
  split at h
  ·rename_i h57
   rw [if_pos h57]
   simp only [Bool.and_eq_true, decide_eq_true_eq] at h
   simp only [Bool.and_eq_true, decide_eq_true_eq]
   by_cases h5 : t.kind = 5
   ·exact ⟨⟨decide_eq_true (hn h5).1, decide_eq_true (hn h5).2⟩, decide_eq_true h.1.2⟩
   ·have e := hn2 h5
    exact ⟨⟨decide_eq_true (by rw [e]; exact h.1.1.1), decide_eq_true (by rw [e]; exact h.1.1.2)⟩, decide_eq_true h.1.2⟩
  ·rename_i h57
   rw [if_neg h57]
   split at h
   ·rename_i h6
    rw [if_pos h6]
    simp only [Bool.and_eq_true, decide_eq_true_eq] at h
    simp only [Bool.and_eq_true, decide_eq_true_eq]
    exact ⟨decide_eq_true ((hn2 (by omega)).trans h.1.1), h.1.2⟩
   ·cases h
theorem lift_term : ∀ (t : Tr) (f b : Int), 0 ≤ b → b ≤ 1000000000 → t.isTerm false = true → (t.lift f b).high = false → (t.lift f b).isTerm false = true := by
 intro t
 induction t using Tr.ind with
 | _ t ih =>
   intro f b h0 h1 h hh
   rw [Tr.lift_eq] at hh ⊢
   refine term_mk h (by simp) (fun y hy => ?_) (fun h5 => ?_) (fun h5 => ?_)
   ·have hyh := zqcm hh hy
    simp only [List.mem_mapIdx] at hy
    obtain ⟨i, hi, rfl⟩ := hy
    exact ih _ (List.getElem_mem hi) _ _ h0 h1 (Tr.kids_lams h (List.getElem_mem hi)) hyh
   ·have hn := var_n h (.inl h5)
    have := high_n hh (by simpa using h5)
    simp only [Tr.n_mk] at this
    split
    ·rename_i hc
     rw [if_pos hc, W_in (by omega)] at this
     rw [W_in (by omega)]
     omega
    ·exact hn
   ·rw [if_neg (fun hc => h5 hc.1)]
theorem big_high {t : Tr} (h : t.big = false) : t.high = false := by
 unfold Tr.big at h
 rw [Bool.or_eq_false_iff] at h
 exact h.2
theorem zqlr {f : Nat → Tr → Int → (Int ⊕ Tr) × Int} {C : Tr → Prop} : ∀ (l : List Tr) (i : Nat) (s : Int) (ys : List Tr) (k : Int), (∀ (j : Nat) (x : Tr) (s' : Int) (y : Tr) (k' : Int), x ∈ l → f j x s' = (.inr y, k') → C y) → zqc3 f i l s = (.inr ys, k) → ys.length = l.length ∧ ∀ y ∈ ys, C y
 | [], i, s, ys, k, hf, h => by simp only [zqc3] at h; cases h; exact ⟨rfl, by simp⟩
 | x :: r, i, s, ys, k, hf, h => by
   rw [zqc3] at h
   match hx : f i x s with
   | (.inl c, s1) => rw [hx] at h; cases h
   | (.inr y, s1) =>
     rw [hx] at h
     simp only at h
     match hr : zqc3 f (i + 1) r s1 with
     | (.inl c, s2) => rw [hr] at h; cases h
     | (.inr zs, s2) =>
       rw [hr] at h
       cases h
       obtain ⟨h1, h2⟩ := zqlr r (i + 1) s1 zs _ (fun j z s' y' k' hz he => hf j z s' y' k' (by simp [hz]) he) hr
       exact ⟨by simp [h1], by simpa using ⟨hf i x s y s1 (by simp) hx, h2⟩⟩
theorem redT_all {sub : Tr → Tr → Tr → Int → (Int ⊕ Tr) × Int} {C : Tr → Prop} : ∀ (l : List Tr) (f a : Tr) (s : Int) (r : Tr) (k : Int), C f →
  (∀ (x b f : Tr) (s' : Int) (r : Tr) (k : Int), x ∈ l → C f → f.kind = 4 → sub x b (f.kid 0) s' = (.inr r, k) → C r) → redT sub f a l s = (.inr r, k) → C r
 | [], f, a, s, r, k, hf, hsub, h => by simp only [redT] at h; cases h; exact hf
 | x :: l, f, a, s, r, k, hf, hsub, h => by
   rw [redT] at h
   split at h
   ·rename_i hk
    split at h
    ·cases h
    ·match hs : sub x (a.kid 0) (f.kid 0) (s + 1) with
     | (.inl c, s1) => rw [hs] at h; cases h
     | (.inr r1, s1) =>
       rw [hs] at h
       simp only at h
       exact redT_all l r1 (a.kid 1) s1 r k (hsub x _ f _ r1 s1 (by simp) hf hk.2 hs) (fun x b f s' r k hx => hsub x b f s' r k (by simp [hx])) h
   ·cases h
theorem subT_small : ∀ (N : Nat) (m a t : Tr) (n s : Int) (r : Tr) (k : Int), subT N m a t n s = (.inr r, k) → r.big = false := by
 intro N
 induction N with
 | zero => intro m a t n s r k h; simp only [subT] at h; cases h
 | succ N ih =>
   intro m a t n s r k h
   rw [subT] at h
   match hk : zqc3 (fun i x s => subT N m a x (W (n + t.under i)) s) 0 t.kids s with
   | (.inl c, s1) => rw [hk] at h; cases h
   | (.inr ks, s1) =>
     rw [hk] at h
     simp only at h
     split at h
     ·split at h
      ·cases h
      ·rename_i hb
       exact redT_all (C := fun r => r.big = false) ks _ a s1 r k (by simpa using hb) (fun x b f s' r k _ _ _ he => ih x b _ 0 s' r k he) h
     ·generalize (if t.kind = 5 ∧ n < t.n then W (t.n - 1) else t.n) = n' at h
      split at h
      ·cases h
      ·rename_i hb
       cases h
       simpa using hb
theorem subT_term : ∀ (N : Nat) (m a t : Tr) (n s : Int) (r : Tr) (k : Int), m.isTerm false = true → t.isTerm false = true → 0 ≤ n → n + t.size ≤ 1000000 → subT N m a t n s = (.inr r, k) → r.isTerm false = true := by
 intro N
 induction N with
 | zero => intro m a t n s r k _ _ _ _ h; simp only [subT] at h; cases h
 | succ N ih =>
   intro m a t n s r k hm ht h0 hn h
   have hsm := subT_small (N + 1) m a t n s r k h
   rw [subT] at h
   match hk : zqc3 (fun i x s => subT N m a x (W (n + t.under i)) s) 0 t.kids s with
   | (.inl c, s1) => rw [hk] at h; cases h
   | (.inr ks, s1) =>
     rw [hk] at h
     simp only at h
     obtain ⟨hl, hks⟩ := zqlr (C := fun y => y.isTerm false = true) t.kids 0 s ks s1 (fun j x s' y k' hx he => by
      have hu : t.under j = 0 ∨ t.under j = 1 := by unfold Tr.under; split <;> simp
      have hxs := Tr.kid_size hx
      have hw : W (n + t.under j) = n + t.under j := W_in (by omega)
      rw [hw] at he
      exact ih m a x _ s' y k' hm (Tr.kids_lams ht hx) (by omega) (by omega) he) hk
     split at h
     ·split at h
      ·cases h
      ·rename_i hb
       have hbig : (m.lift 0 n).big = false := by simpa using hb
       have hlt := lift_term m 0 n h0 (by have := t.size_pos; omega) hm (big_high hbig)
       refine (redT_all (C := fun r => r.isTerm false = true ∧ r.big = false) ks _ a s1 r k ⟨hlt, hbig⟩ (fun x b f s' r k hx hf h4 he => ?_) h).1
       obtain ⟨g, hg, hgt⟩ := lam_kid hf.1 h4
       rw [kid0 hg] at he
       have hgs : g.size < f.size := Tr.kid_size (by rw [hg]; simp)
       have := zqc7 hf.2
       exact ⟨ih x b g 0 s' r k (hks x hx) hgt (by omega) (by omega) he, subT_small N x b g 0 s' r k he⟩
     ·generalize hn' : (if t.kind = 5 ∧ n < t.n then W (t.n - 1) else t.n) = n' at h
      split at h
      ·cases h
      ·cases h
       have hh := big_high hsm
       refine term_mk ht hl hks (fun h5 => ?_) (fun h5 => by rw [← hn', if_neg (fun e => h5 e.1)])
       have hv := var_n ht (.inl h5)
       have hle := high_n hh (by simpa using h5)
       simp only [Tr.n_mk] at hle
       refine ⟨?_, hle⟩
       rw [← hn']
       split
       ·rename_i he
        rw [W_in (by omega)]
        omega
       ·exact hv.1
theorem subT_famK : ∀ (N : Nat) (kd : Bool) (m a t : Tr) (n s : Int) (r : Tr) (k : Int), m.isTerm false = true → t.isFam kd = true → 0 ≤ n → n + t.size ≤ 1000000 → subT N m a t n s = (.inr r, k) → r.isFam kd = true ∧ zq2x r = zq2x t := by
 intro N
 induction N with
 | zero => intro kd m a t n s r k _ _ _ _ h; simp only [subT] at h; cases h
 | succ N ih =>
   intro kd m a t n s r k hm ht h0 hn h
   have hk5 : t.kind ≠ 5 := fun h5 => by rw [Tr.isFam_no (by omega) (by omega) (by omega)] at ht; cases ht
   rw [subT] at h
   match hk : zqc3 (fun i x s => subT N m a x (W (n + t.under i)) s) 0 t.kids s with
   | (.inl c, s1) => rw [hk] at h; cases h
   | (.inr ks, s1) =>
     rw [hk] at h
     simp only at h
     have e2 : (if t.kind = 5 ∧ n < t.n then W (t.n - 1) else t.n) = t.n := if_neg (fun e => hk5 e.1)
     rw [if_neg (fun e => hk5 e.1), e2] at h
     split at h
     ·cases h
     ·cases h
      have kid : ∀ (j : Nat) (x : Tr) (s' : Int) (y : Tr) (k' : Int), x ∈ t.kids → subT N m a x (W (n + t.under j)) s' = (.inr y, k') → 0 ≤ W (n + t.under j) ∧ W (n + t.under j) + x.size ≤ 1000000 := fun j x s' y k' hx he => by
       have hu : t.under j = 0 ∨ t.under j = 1 := by unfold Tr.under; split <;> simp
       have hxs := Tr.kid_size hx
       have hw : W (n + t.under j) = n + t.under j := W_in (by omega)
       rw [hw]
       omega
      by_cases h3 : t.kind = 3
      ·rw [Tr.isFam_head h3] at ht
       simp only [Bool.and_eq_true, List.all_eq_true] at ht
       obtain ⟨hl, hks⟩ := zqlr (C := fun y => y.isTerm false = true) t.kids 0 s ks _ (fun j x s' y k' hx he => by
        have hxt := ht.2.2 x hx
        unfold Tr.isArg at hxt
        rw [if_neg (by simp)] at hxt
        obtain ⟨g1, g2⟩ := kid j x s' y k' hx he
        exact subT_term N m a x _ s' y k' hm hxt g1 g2 he) hk
       have hall : ks.all (Tr.isArg false) = true := by
        rw [List.all_eq_true]
        intro y hy
        unfold Tr.isArg
        rw [if_neg (by simp)]
        exact hks y hy
       refine ⟨?_, ?_⟩
       ·rw [Tr.isFam_head (by simpa using h3)]
        simp only [Tr.n_mk, Tr.name_mk, Tr.kids_mk, hall, Bool.and_true, Bool.and_eq_true]
        exact ⟨ht.1, ht.2.1⟩
       ·rw [zq2m (by rw [Tr.kind_mk]; omega), zq2m (by omega)]
        simp
      ·by_cases h2 : t.kind = 2
       ·cases hb : t.bare 2 with
        | false => rw [Tr.isFam_bad h2 hb] at ht; cases ht
        | true =>
          obtain ⟨x, y, hxy⟩ := zq9d hb
          rw [Tr.isFam_pi h2 hxy] at ht
          simp only [Bool.and_eq_true] at ht
          rw [hxy] at hk
          simp only [zqc3] at hk
          match hx1 : subT N m a x (W (n + t.under ((0 : Nat) : Int))) s with
          | (.inl c, s2) => rw [hx1] at hk; cases hk
          | (.inr x', s2) =>
            rw [hx1] at hk
            simp only at hk
            match hy1 : subT N m a y (W (n + t.under ((0 + 1 : Nat) : Int))) s2 with
            | (.inl c, s3) => rw [hy1] at hk; cases hk
            | (.inr y', s3) =>
              rw [hy1] at hk
              cases hk
              obtain ⟨a1, a2⟩ := kid 0 x s x' s2 (by rw [hxy]; simp) hx1
              obtain ⟨b1, b2⟩ := kid (0 + 1) y s2 y' _ (by rw [hxy]; simp) hy1
              obtain ⟨p1, p2⟩ := ih false m a x _ s x' s2 hm ht.2.1 a1 a2 hx1
              obtain ⟨q1, q2⟩ := ih kd m a y _ s2 y' _ hm ht.2.2 b1 b2 hy1
              have hb2 : (Tr.mk t.kind t.n t.name [x', y']).bare 2 = true := by
               have hb' := hb
               unfold Tr.bare at hb' ⊢
               simp only [Bool.and_eq_true] at hb' ⊢
               exact ⟨⟨hb'.1.1, hb'.1.2⟩, rfl⟩
              refine ⟨?_, ?_⟩
              ·rw [Tr.isFam_pi (by simpa using h2) (Tr.kids_mk _ _ _ _), hb2, p1, q1]; rfl
              ·rw [zqa0 (by simpa using h2) (Tr.kids_mk _ _ _ _), zqa0 h2 hxy, p2, q2]
       ·by_cases h1 : t.kind = 1
        ·rw [Tr.isFam_type h1] at ht
         simp only [Bool.and_eq_true] at ht
         have hl : t.kids = [] := by have := ht.2; unfold Tr.bare at this; simp at this; exact this.2
         rw [hl] at hk
         simp only [zqc3] at hk
         cases hk
         refine ⟨?_, ?_⟩
         ·rw [Tr.isFam_type (by simpa using h1), ht.1, Bool.true_and]
          have := ht.2
          unfold Tr.bare at this ⊢
          simp [hl] at this ⊢
          exact ⟨decide_eq_true this.1, decide_eq_true this.2⟩
         ·rw [zq2m (by rw [Tr.kind_mk]; omega), zq2m (by omega)]
          simp
        ·rw [Tr.isFam_no h1 h3 h2] at ht; cases ht
theorem erase_simple : ∀ (t : Tr), t.isFam false = true → (zq2x t).isSimple = true := by
 intro t
 induction t using Tr.ind with
 | _ t ih =>
   intro h
   by_cases h2 : t.kind = 2
   ·cases hb : t.bare 2 with
    | false => rw [Tr.isFam_bad h2 hb] at h; cases h
    | true =>
      obtain ⟨x, y, hxy⟩ := zq9d hb
      rw [Tr.isFam_pi h2 hxy] at h
      simp only [Bool.and_eq_true] at h
      rw [zqa0 h2 hxy]
      exact arrow_simple (ih x (by rw [hxy]; simp) h.2.1) (ih y (by rw [hxy]; simp) h.2.2)
   ·rw [zq2m h2]
    by_cases h3 : t.kind = 3
    ·rw [Tr.isFam_head h3] at h
     simp only [Bool.and_eq_true] at h
     exact base_simple h.2.1.2
    ·by_cases h1 : t.kind = 1
     ·rw [Tr.isFam_type h1] at h; cases h
     ·rw [Tr.isFam_no h1 h3 h2] at h; cases h
theorem lift_fam : ∀ (t : Tr) (kd : Bool) (f b : Int), 0 ≤ b → b ≤ 1000000000 → t.isFam kd = true → (t.lift f b).high = false → (t.lift f b).isFam kd = true ∧ zq2x (t.lift f b) = zq2x t := by
 intro t
 induction t using Tr.ind with
 | _ t ih =>
   intro kd f b h0 h1 h hh
   have hk5 : t.kind ≠ 5 := fun h5 => by rw [Tr.isFam_no (by omega) (by omega) (by omega)] at h; cases h
   rw [Tr.lift_eq] at hh ⊢
   rw [if_neg (fun e => hk5 e.1)] at hh ⊢
   by_cases h2 : t.kind = 2
   ·cases hb : t.bare 2 with
    | false => rw [Tr.isFam_bad h2 hb] at h; cases h
    | true =>
      obtain ⟨x, y, hxy⟩ := zq9d hb
      rw [Tr.isFam_pi h2 hxy] at h
      simp only [Bool.and_eq_true] at h
      rw [hxy] at hh ⊢
      simp only [List.mapIdx_cons, List.mapIdx_nil] at hh ⊢
      obtain ⟨p1, p2⟩ := ih x (by rw [hxy]; simp) false (W (f + t.under ((0 : Nat) : Int))) b h0 h1 h.2.1 (zqcm hh (by simp))
      obtain ⟨q1, q2⟩ := ih y (by rw [hxy]; simp) kd (W (f + t.under ((0 + 1 : Nat) : Int))) b h0 h1 h.2.2 (zqcm hh (by simp))
      have hb' : (Tr.mk t.kind t.n t.name [x.lift (W (f + t.under ((0 : Nat) : Int))) b, y.lift (W (f + t.under ((0 + 1 : Nat) : Int))) b]).bare 2 = true := by
       unfold Tr.bare at hb ⊢
       simp only [Bool.and_eq_true] at hb ⊢
       exact ⟨⟨hb.1.1, hb.1.2⟩, rfl⟩
      refine ⟨?_, ?_⟩
      ·rw [Tr.isFam_pi (by simpa using h2) (Tr.kids_mk _ _ _ _), hb', p1, q1]; rfl
      ·rw [zqa0 (by simpa using h2) (Tr.kids_mk _ _ _ _), zqa0 h2 hxy, p2, q2]
   ·by_cases h3 : t.kind = 3
    ·rw [Tr.isFam_head h3] at h
     simp only [Bool.and_eq_true, List.all_eq_true] at h
     refine ⟨?_, ?_⟩
     ·rw [Tr.isFam_head (by simpa using h3)]
      simp only [Tr.n_mk, Tr.name_mk, Tr.kids_mk, Bool.and_eq_true, List.all_eq_true]
      refine ⟨h.1, h.2.1, fun y hy => ?_⟩
      have hyh := zqcm hh hy
      simp only [List.mem_mapIdx] at hy
      obtain ⟨i, hi, rfl⟩ := hy
      have hxt := h.2.2 _ (List.getElem_mem hi)
      unfold Tr.isArg at hxt ⊢
      rw [if_neg (by simp)] at hxt ⊢
      exact lift_term _ _ _ h0 h1 hxt hyh
     ·rw [zq2m (by rw [Tr.kind_mk]; omega), zq2m (by omega)]
      simp
    ·by_cases h1' : t.kind = 1
     ·rw [Tr.isFam_type h1'] at h
      simp only [Bool.and_eq_true] at h
      have hl : t.kids = [] := by have := h.2; unfold Tr.bare at this; simp at this; exact this.2
      refine ⟨?_, ?_⟩
      ·rw [Tr.isFam_type (by simpa using h1'), h.1, Bool.true_and]
       have := h.2
       unfold Tr.bare at this ⊢
       simpa [hl] using this
      ·rw [zq2m (by rw [Tr.kind_mk]; omega), zq2m (by omega)]
       simp
     ·rw [Tr.isFam_no h1' h3 h2] at h; cases h
end Go.H
namespace Go.H
open Go
set_option linter.unusedVariables false
set_option linter.unusedSimpArgs false

structure Dc where
 name : List UInt8
 fam : Bool
 type : Tr
theorem Dc.ext_iff' (a b : Dc) : a = b ↔ a.name = b.name ∧ a.fam = b.fam ∧ a.type = b.type := by
 cases a; cases b; simp
instance : DecidableEq Dc := fun a b => if h : a.name = b.name ∧ a.fam = b.fam ∧ a.type = b.type then .isTrue ((Dc.ext_iff' a b).2 h) else .isFalse fun e => h ((Dc.ext_iff' a b).1 e)
instance : Inhabited Dc := ⟨⟨[], false, .mk 0 0 [] []⟩⟩
def decl (x : Dc) : PV := .agg (.str x.name :: .bool x.fam :: (tree x.type).cells)
def zqa7 (xs : List Dc) : PV := .sl 6 false (xs.map decl)
@[simp] theorem zq77 (x : Dc) : (decl x).isJunk = false := rfl
@[simp] theorem decl_isAgg (x : Dc) : (decl x).isAgg = true := rfl
theorem zq5l (x : Dc) : (decl x).cells = .str x.name :: .bool x.fam :: (tree x.type).cells := rfl
@[simp] theorem decl_len (x : Dc) : (decl x).cells.length = 6 := by rw [zq5l]; simp
@[simp] theorem decl_ncells (x : Dc) : (decl x).ncells = 6 := by
  have := decl_len x
  unfold decl at this ⊢
  simpa [PV.ncells, PV.cells] using this
@[simp] theorem zqky (x : Dc) : (decl x).cells.all PV.cellOK = true := by
  rw [zq5l, List.all_cons, List.all_cons, zq2z]; rfl
@[simp] theorem decl_cellOK' (x : Dc) : (∀ y ∈ (decl x).cells, y.cellOK = true) ↔ True := by
  have := zqky x
  rw [List.all_eq_true] at this
  exact ⟨fun _ => trivial, fun _ => this⟩
theorem decl_el (x : Dc) : elOK 6 (decl x) := ⟨decl_ncells x, zqky x⟩
@[simp high] theorem takeV_decl (x : Dc) : zq3n true 6 (decl x).cells = some (decl x) := by
  rw [zq5l, zqj]; unfold decl; rw [zqj]; rfl
@[simp] theorem decl_tail (x : Dc) : (decl x).cells.tail = .bool x.fam :: (tree x.type).cells := rfl
@[simp] theorem decl_drop1 (x : Dc) : (decl x).cells.drop 1 = .bool x.fam :: (tree x.type).cells := rfl
@[simp] theorem decl_drop2 (x : Dc) : (decl x).cells.drop 2 = (tree x.type).cells := rfl
@[simp] theorem decl_tail2 (x : Dc) : (decl x).cells.tail.tail = (tree x.type).cells := rfl
@[simp] theorem decl_f0 (x : Dc) (n : Nat) : zq3n false n (decl x).cells = some (.str x.name) := rfl
@[simp] theorem decl_f1 (x : Dc) (n : Nat) : zq3n false n (.bool x.fam :: (tree x.type).cells) = some (.bool x.fam) := rfl
@[simp] theorem decl_take (x : Dc) : .agg ((decl x).cells.take 6) = decl x := by
  have := decl_len x
  rw [List.take_of_length_le (by omega)]
  rfl
theorem decls_wf {ts : List Dc} (h : (zqa7 ts).WF) : ts.length ≤ maxLen ∧ ∀ x ∈ ts, (decl x).WF := by
 simp only [zqa7, PV.WF, List.length_map] at h
 exact ⟨h.1, fun x hx => WFs.mem h.2 _ (List.mem_map_of_mem hx)⟩
theorem ia_decls {ts : List Dc} {i : Nat} {k : IntKind} (h : i < ts.length) : q_ia 6 (.sl 6 false (ts.map decl)) (.int k (i : Int)) = some (.ref (decl ts[i]).cells) := by
 simp [q_ia, h]
theorem ia_decl {ts : List Dc} {i : Nat} {t : Dc} (k : IntKind) (h : ts[i]? = some t) : q_ia 6 (.sl 6 false (ts.map decl)) (.int k (i : Int)) = some (.ref (decl t).cells) := by
 obtain ⟨hi, rfl⟩ := List.getElem?_eq_some_iff.1 h
 exact ia_decls hi
@[simp] theorem decls_eq (ts : List Dc) : zqa7 ts = .sl 6 false (ts.map decl) := rfl
@[simp] theorem decl_agg (x : Dc) : PV.agg (decl x).cells = decl x := rfl
@[simp] theorem decl_fold (x : Dc) : PV.str x.name :: .bool x.fam :: (tree x.type).cells = (decl x).cells := rfl
@[simp] theorem decl_cat (t : Tr) (s : List UInt8) (b : Bool) : PV.agg (.str s :: .bool b :: (tree t).cells) = decl ⟨s, b, t⟩ := rfl
@[simp] theorem decl_s0 (x : Dc) (y : PV) : zqg (decl x).cells 0 [y] = y :: .bool x.fam :: (tree x.type).cells := by rw [zq5l, zqj]; rfl
@[simp] theorem set6_0 (a b c d e f x : PV) : zqg [a, b, c, d, e, f] 0 [x] = [x, b, c, d, e, f] := rfl
@[simp] theorem set6_1 (a b c d e f x : PV) : zqg [a, b, c, d, e, f] 1 [x] = [a, x, c, d, e, f] := rfl
@[simp] theorem set6_2 (a b c d e f : PV) (t : Tr) : zqg [a, b, c, d, e, f] 2 (tree t).cells = a :: b :: (tree t).cells := by rw [zqj]; rfl
@[simp] theorem set6_all (a b c d e f : PV) (x : Dc) : zqg [a, b, c, d, e, f] 0 (decl x).cells = (decl x).cells := by rw [zq5l, zqj]; rfl
@[simp] theorem set6_cat (a b c d e f s u : PV) (t : Tr) : zqg [a, b, c, d, e, f] 0 (s :: u :: (tree t).cells) = s :: u :: (tree t).cells := by rw [zqj]; rfl
@[simp] theorem set6_decl (x y : Dc) : zqg (decl y).cells 0 (decl x).cells = (decl x).cells := by rw [zq5l, zqj, zq5l, zqj]; rfl

def fstGo {α : Type} (p : α → Bool) : Nat → List α → Int
 | _, [] => -1
 | i, x :: r => if p x = true then i else fstGo p (i + 1) r
def fstOf {α : Type} (p : α → Bool) (xs : List α) : Int := fstGo p 0 xs
theorem zqkq {α : Type} (p : α → Bool) : ∀ (i : Nat) (r : List α), (fstGo p i r = -1 ∧ r.find? p = none) ∨ ∃ (j : Nat) (h : j < r.length), fstGo p i r = ((i + j : Nat) : Int) ∧ p r[j] = true ∧ r.find? p = some r[j]
 | i, [] => .inl ⟨rfl, rfl⟩
 | i, x :: r => by
   unfold fstGo
   by_cases h : p x = true
   ·rw [if_pos h]; exact .inr ⟨0, by simp, by simp, h, by simp [h]⟩
   ·rw [if_neg h]
    rcases zqkq p (i + 1) r with ⟨h1, h2⟩ | ⟨j, hj, h1, h2, h3⟩
    ·exact .inl ⟨h1, by simp only [List.find?_cons, Bool.eq_false_iff.2 h, h2]⟩
    ·refine .inr ⟨j + 1, by simp; omega, by rw [h1]; congr 1; omega, by simpa using h2, ?_⟩
     simp only [List.find?_cons, Bool.eq_false_iff.2 h, List.getElem_cons_succ, h3]
theorem zqkp {α : Type} (p : α → Bool) (xs : List α) : (fstOf p xs = -1 ∧ xs.find? p = none) ∨ ∃ (j : Nat) (h : j < xs.length), fstOf p xs = (j : Int) ∧ p xs[j] = true ∧ xs.find? p = some xs[j] := by
 rcases zqkq p 0 xs with h | ⟨j, hj, h1, h2, h3⟩
 ·exact .inl h
 ·exact .inr ⟨j, hj, by unfold fstOf; rw [h1]; simp, h2, h3⟩
theorem fstOf_any {α : Type} (p : α → Bool) (xs : List α) : 0 ≤ fstOf p xs ↔ xs.any p = true := by
 rcases zqkp p xs with ⟨h1, h2⟩ | ⟨j, hj, h1, h2, h3⟩
 ·rw [h1, List.any_eq_true]
  rw [List.find?_eq_none] at h2
  constructor
  ·intro h; omega
  ·rintro ⟨x, hx, hp⟩; exact absurd hp (h2 x hx)
 ·rw [h1, List.any_eq_true]
  exact ⟨fun _ => ⟨_, List.getElem_mem hj, h2⟩, fun _ => by omega⟩
def named (n : List UInt8) (d : Dc) : Bool := decide (d.name = n)
def zq2p (sig : List Dc) (n : List UInt8) (fam : Bool) : Option Tr := match sig.find? (named n) with
 | some d => if d.fam = fam then some d.type else none
 | none => none
def Apart (sig : List Dc) : Prop := sig.Pairwise fun a b => a.name ≠ b.name
theorem find_named {n : List UInt8} {fam : Bool} : ∀ {sig : List Dc}, Apart sig → (sig.find? fun d => decide (d.name = n) && decide (d.fam = fam)).map Dc.type = zq2p sig n fam
 | [], _ => rfl
 | d :: r, h => by
   unfold Apart at h
   rw [List.pairwise_cons] at h
   obtain ⟨h1, h2⟩ := h
   have ih := find_named (n := n) (fam := fam) h2
   unfold zq2p at ih ⊢
   simp only [List.find?_cons]
   by_cases hn : d.name = n
   ·have e1 : named n d = true := by unfold named; simp [hn]
    have none : (r.find? fun d => decide (d.name = n) && decide (d.fam = fam)) = none := by
     rw [List.find?_eq_none]
     intro x hx
     have := h1 x hx
     simp only [Bool.and_eq_true, decide_eq_true_eq, not_and]
     intro e; exact absurd (hn.trans e.symm) this
    rw [e1]
    by_cases hf : d.fam = fam
    ·simp [hn, hf]
    ·simp [hn, hf]
     intro x hx e
     exact absurd (hn.trans e.symm) (h1 x hx)
   ·have e1 : named n d = false := by unfold named; simp [hn]
    rw [e1]
    simp only [decide_eq_false hn, Bool.false_and]
    exact ih
end Go.H
namespace Go.H
open Go
set_option linter.unusedVariables false
set_option linter.unusedSimpArgs false

abbrev Fz := Int × Int
def leftC (t a : Tr) (p s : Int) : (Fz ⊕ Tr) × Int := match subT 100000000 t (zq2x (a.kid 0)) (a.kid 1) 0 s with
 | (.inl c, s) => (.inl (c, p), s)
 | (.inr b, s) => (.inr b, s)
def zqh0 (f : Tr → Tr → Int → Int → (Fz ⊕ Unit) × Int) : List Tr → Tr → Int → Int → (Fz ⊕ Tr) × Int
 | [], a, p, s => (.inr a, s)
 | x :: r, a, p, s =>
   if a.kind = 2 then (match f x (a.kid 0) p s with
    | (.inl e, s) => (.inl e, s)
    | (.inr _, s) => match leftC x a p s with
      | (.inl e, s) => (.inl e, s)
      | (.inr b, s) => zqh0 f r b (p + x.size) s)
   else (.inl (8, p), s)
def headC (sig : List Dc) (ctx : List Tr) (t : Tr) : Int ⊕ Tr :=
 if t.kind = 5 then (if t.n ≥ ctx.length then .inl 7 else
  if (((ctx[((ctx.length : Int) - 1 - t.n).toNat]?).getD zq8l).lift 0 (t.n + 1)).big = true then .inl 11
  else .inr (((ctx[((ctx.length : Int) - 1 - t.n).toNat]?).getD zq8l).lift 0 (t.n + 1)))
 else if t.kind = 6 then (match zq2p sig t.name false with | none => .inl 5 | some a => .inr a)
 else .inl 15
def zq97 (f : Tr → Tr → Int → Int → (Fz ⊕ Unit) × Int) (sig : List Dc) (ctx : List Tr) (t : Tr) (p s : Int) : (Fz ⊕ Tr) × Int :=
 match headC sig ctx t with
 | .inl c => (.inl (c, p), s)
 | .inr a => match zqh0 f t.kids a (p + 1) s with
   | (.inl e, s) => (.inl e, s)
   | (.inr b, s) => if b.kind = 3 then (.inr b, s) else (.inl (8, p), s)
def zqab (sig : List Dc) : Nat → List Tr → Tr → Tr → Int → Int → (Fz ⊕ Unit) × Int
 | 0, _, _, _, _, s => (.inr (), s)
 | m + 1, ctx, t, a, p, s =>
   if t.kind = 4 then (if a.kind = 2 then zqab sig m (ctx ++ [a.kid 0]) (t.kid 0) (a.kid 1) (p + 1) s else (.inl (9, p), s))
   else if a.kind = 2 then (.inl (9, p), s)
   else match zq97 (zqab sig m ctx) sig ctx t p s with
    | (.inl e, s) => (.inl e, s)
    | (.inr b, s) => if b = a then (.inr (), s) else (.inl (10, p), s)
def famC (sig : List Dc) : Nat → List Tr → Tr → Int → Int → (Fz ⊕ Unit) × Int
 | 0, _, _, _, s => (.inr (), s)
 | m + 1, ctx, a, p, s =>
   if a.kind = 2 then (match famC sig m ctx (a.kid 0) (p + 1) s with
    | (.inl e, s) => (.inl e, s)
    | (.inr _, s) => famC sig m (ctx ++ [a.kid 0]) (a.kid 1) (p + 1 + (a.kid 0).size) s)
   else if a.kind = 3 then (match zq2p sig a.name true with
    | none => (.inl (5, p), s)
    | some k => match zqh0 (zqab sig m ctx) a.kids k (p + 1) s with
      | (.inl e, s) => (.inl e, s)
      | (.inr l, s) => if l.kind = 1 then (.inr (), s) else (.inl (8, p), s))
   else (.inr (), s)

def FK (a : Tr) : Prop := (∃ kd, a.isFam kd = true) ∧ a.size ≤ 150
def FF (a : Tr) : Prop := a.isFam false = true ∧ a.size ≤ 150
theorem FF.fk {a : Tr} (h : FF a) : FK a := ⟨⟨false, h.1⟩, h.2⟩
theorem FF.simple {a : Tr} (h : FF a) : (zq2x a).isSimple = true := erase_simple a h.1
theorem FK.lamy {a : Tr} (h : FK a) : a.lamy = true := by obtain ⟨⟨kd, h⟩, _⟩ := h; exact fam_lamy a kd h
structure SigR (sig : List Dc) : Prop where
 apart : Apart sig
 types : ∀ d ∈ sig, d.type.isFam d.fam = true ∧ d.type.size ≤ 150
 len : sig.length ≤ 1000000
theorem fk_pi {a : Tr} (h : FK a) (hk : a.kind = 2) : ∃ x y, a.kids = [x, y] ∧ FF x ∧ FK y ∧ x.size + y.size < 150 := by
 obtain ⟨⟨kd, h⟩, hs⟩ := h
 cases hb : a.bare 2 with
 | false => rw [Tr.isFam_bad hk hb] at h; cases h
 | true =>
   obtain ⟨x, y, hxy⟩ := zq9d hb
   rw [Tr.isFam_pi hk hxy] at h
   simp only [Bool.and_eq_true] at h
   have e : a.size = 1 + (x.size + y.size) := by rw [Tr.size_kids, hxy]; simp [Tr.sizes]
   exact ⟨x, y, hxy, ⟨h.2.1, by omega⟩, ⟨⟨kd, h.2.2⟩, by omega⟩, by omega⟩
theorem ff_pi {a : Tr} (h : FF a) (hk : a.kind = 2) : ∃ x y, a.kids = [x, y] ∧ FF x ∧ FF y ∧ x.size + y.size < 150 := by
 obtain ⟨h, hs⟩ := h
 cases hb : a.bare 2 with
 | false => rw [Tr.isFam_bad hk hb] at h; cases h
 | true =>
   obtain ⟨x, y, hxy⟩ := zq9d hb
   rw [Tr.isFam_pi hk hxy] at h
   simp only [Bool.and_eq_true] at h
   have e : a.size = 1 + (x.size + y.size) := by rw [Tr.size_kids, hxy]; simp [Tr.sizes]
   exact ⟨x, y, hxy, ⟨h.2.1, by omega⟩, ⟨h.2.2, by omega⟩, by omega⟩
theorem fam_args {a : Tr} {kd : Bool} (h : a.isFam kd = true) (hk : a.kind = 3) : ∀ x ∈ a.kids, x.isTerm false = true := by
 rw [Tr.isFam_head hk] at h
 simp only [Bool.and_eq_true, List.all_eq_true] at h
 intro x hx
 have := h.2.2 x hx
 unfold Tr.isArg at this
 rw [if_neg (by simp)] at this
 exact this
theorem zqbq {sig : List Dc} (h : SigR sig) {n : List UInt8} {fam : Bool} {k : Tr} (hd : zq2p sig n fam = some k) : k.isFam fam = true ∧ k.size ≤ 150 := by
 unfold zq2p at hd
 split at hd
 ·rename_i d hf
  split at hd
  ·rename_i hfam
   cases hd
   have := h.types d (List.mem_of_find?_eq_some hf)
   rw [hfam] at this
   exact this
  ·cases hd
 ·cases hd

def CntOK {α : Type} (r : (Fz ⊕ α) × Int) (s : Int) : Prop := s ≤ r.2 ∧ r.2 ≤ 20001 ∧ (∀ e, r.1 = .inl e → e.1 ≠ 0) ∧ ∀ x, r.1 = .inr x → r.2 ≤ 20000
theorem CntOK.err {α : Type} {c p s : Int} (hc : c ≠ 0) (hs : s ≤ 20000) : CntOK (α := α) (.inl (c, p), s) s := ⟨Int.le_refl _, by simp only; omega, fun e h => by cases h; exact hc, fun x h => by cases h⟩
theorem CntOK.ok {α : Type} {x : α} {s : Int} (hs : s ≤ 20000) : CntOK (.inr x, s) s := ⟨Int.le_refl _, by simp only; omega, fun e h => by (cases h), fun x h => by simpa using hs⟩
theorem leftC_fine {t a : Tr} {p s : Int} (ht : t.isTerm false = true) (hts : t.size ≤ 900000) (ha : FK a) (hk : a.kind = 2) (h0 : 0 ≤ s) (h1 : s ≤ 20000) : CntOK (leftC t a p s) s ∧ ∀ b, (leftC t a p s).1 = .inr b → FK b ∧ b.big = false ∧ ∀ kd, a.isFam kd = true → b.isFam kd = true := by
 obtain ⟨x, y, hxy, hx, hy, hs⟩ := fk_pi ha hk
 unfold leftC
 rw [kid0 hxy, kid1 hxy]
 have hf := zqgu 100000000 t (zq2x x) y 0 s (zqgs t ht) hy.lamy hx.simple h0 h1 (by have := hy.2; omega)
 match hr : subT 100000000 t (zq2x x) y 0 s with
 | (.inl c, s1) =>
   rw [hr] at hf
   obtain ⟨f1, f2, f3, f4⟩ := hf
   exact ⟨⟨f1, f2, fun e h => by cases h; exact f3 c rfl, fun b h => by cases h⟩, fun b h => by cases h⟩
 | (.inr b, s1) =>
   rw [hr] at hf
   obtain ⟨f1, f2, f3, f4⟩ := hf
   obtain ⟨g1, g2, g3⟩ := f4 b rfl
   refine ⟨⟨f1, f2, fun e h => (by cases h), fun b h => g3⟩, fun b' h => ?_⟩
   cases h
   obtain ⟨⟨kd, hkd⟩, hys⟩ := hy
   have := subT_famK 100000000 kd t (zq2x x) y 0 s b s1 ht hkd (by omega) (by omega) hr
   refine ⟨⟨⟨kd, this.1⟩, zqc7 g2⟩, g2, fun kd' hkd' => ?_⟩
   have hy' : y.isFam kd' = true := by
    rw [Tr.isFam_pi hk hxy] at hkd'
    simp only [Bool.and_eq_true] at hkd'
    exact hkd'.2.2
   exact (subT_famK 100000000 kd' t (zq2x x) y 0 s b s1 ht hy' (by omega) (by omega) hr).1
theorem headC_ok {sig : List Dc} (hs : SigR sig) {ctx : List Tr} (hc : ∀ a ∈ ctx, FF a) {t a : Tr} (ht : t.isTerm false = true) (h : headC sig ctx t = .inr a) : FF a := by
 unfold headC at h
 split at h
 ·have hn := var_n ht (.inl (by assumption))
  split at h
  ·cases h
  ·split at h
   ·cases h
   ·rename_i hb
    cases h
    have hi : ((ctx.length : Int) - 1 - t.n).toNat < ctx.length := by omega
    rw [getD_of hi] at hb ⊢
    have hb' : (ctx[((ctx.length : Int) - 1 - t.n).toNat].lift 0 (t.n + 1)).big = false := by simpa using hb
    exact ⟨(lift_fam _ false 0 _ (by omega) (by omega) (hc _ (List.getElem_mem hi)).1 (big_high hb')).1, zqc7 hb'⟩
 ·split at h
  ·split at h
   ·cases h
   ·rename_i a' hd
    cases h
    exact zqbq hs hd
  ·cases h
theorem headC_ne {sig : List Dc} {ctx : List Tr} {t : Tr} {c : Int} (h : headC sig ctx t = .inl c) : c ≠ 0 := by
 unfold headC at h
 split at h
 ·split at h
  ·cases h; decide
  ·split at h
   ·cases h; decide
   ·cases h
 ·split at h
  ·split at h
   ·cases h; decide
   ·cases h
  ·cases h; decide
theorem zqip {f : Tr → Tr → Int → Int → (Fz ⊕ Unit) × Int} : ∀ (l : List Tr) (a : Tr) (p s : Int), (∀ x ∈ l, x.isTerm false = true ∧ x.size ≤ 900000) → FK a → 0 ≤ s → s ≤ 20000 →
  (∀ x ∈ l, ∀ b p s', FF b → s ≤ s' → s' ≤ 20000 → CntOK (f x b p s') s') → CntOK (zqh0 f l a p s) s ∧ ∀ b, (zqh0 f l a p s).1 = .inr b → FK b ∧ ∀ kd, a.isFam kd = true → b.isFam kd = true
 | [], a, p, s, hl, ha, h0, h1, hf => ⟨.ok h1, fun b h => by cases h; exact ⟨ha, fun _ h => h⟩⟩
 | x :: r, a, p, s, hl, ha, h0, h1, hf => by
   rw [zqh0]
   split
   ·rename_i hk
    obtain ⟨y, z, hyz, hy, hz, hsz⟩ := fk_pi ha hk
    rw [kid0 hyz]
    have hfx := hf x (by simp) y p s hy (by omega) h1
    match hr : f x y p s with
    | (.inl e, s1) =>
      rw [hr] at hfx
      exact ⟨⟨hfx.1, hfx.2.1, fun e' h => by cases h; exact hfx.2.2.1 e rfl, fun b h => by cases h⟩, fun b h => by cases h⟩
    | (.inr u, s1) =>
      rw [hr] at hfx
      have h2 := hfx.2.2.2 u rfl
      have h3 := hfx.1
      simp only at h2 h3 ⊢
      obtain ⟨hl1, hl2⟩ := leftC_fine (p := p) (hl x (by simp)).1 (hl x (by simp)).2 ha hk (by omega) h2
      match hq : leftC x a p s1 with
      | (.inl e, s2) =>
        rw [hq] at hl1
        exact ⟨⟨by simp only; have := hl1.1; simp only at this; omega, hl1.2.1, fun e' h => by cases h; exact hl1.2.2.1 e rfl, fun b h => by cases h⟩, fun b h => by cases h⟩
      | (.inr b, s2) =>
        rw [hq] at hl1 hl2
        have g1 := hl1.1
        have g2 := hl1.2.2.2 b rfl
        simp only at g1 g2 ⊢
        obtain ⟨k1, k2, k3⟩ := hl2 b rfl
        obtain ⟨r1, r2⟩ := zqip r b (p + x.size) s2 (fun y hy => hl y (by simp [hy])) k1 (by omega) g2 (fun y hy b p s' hb p1 p2 => hf y (by simp [hy]) b p s' hb (by omega) p2)
        exact ⟨⟨by have := r1.1; omega, r1.2.1, r1.2.2.1, r1.2.2.2⟩, fun b' h => ⟨(r2 b' h).1, fun kd hkd => (r2 b' h).2 kd (k3 kd hkd)⟩⟩
   ·exact ⟨.err (by decide) h1, fun b h => by cases h⟩
theorem foundC_fine {f : Tr → Tr → Int → Int → (Fz ⊕ Unit) × Int} {sig : List Dc} (hs : SigR sig) {ctx : List Tr} (hc : ∀ a ∈ ctx, FF a) {t : Tr} (ht : t.isTerm false = true) (hk4 : t.kind ≠ 4) (hts : t.size ≤ 900000) {p s : Int} (h0 : 0 ≤ s) (h1 : s ≤ 20000)
  (hf : ∀ x ∈ t.kids, ∀ b p s', FF b → s ≤ s' → s' ≤ 20000 → CntOK (f x b p s') s') : CntOK (zq97 f sig ctx t p s) s ∧ ∀ b, (zq97 f sig ctx t p s).1 = .inr b → FF b ∧ b.kind = 3 := by
 unfold zq97
 match hh : headC sig ctx t with
 | .inl c => exact ⟨.err (headC_ne hh) h1, fun b h => by cases h⟩
 | .inr a =>
   simp only
   have hff := headC_ok hs hc ht hh
   obtain ⟨r1, r2⟩ := zqip (f := f) t.kids a (p + 1) s (fun x hx => ⟨Tr.kids_lams ht hx, by have := Tr.kid_size hx; omega⟩) hff.fk h0 h1 hf
   match hr : zqh0 f t.kids a (p + 1) s with
   | (.inl e, s1) =>
     rw [hr] at r1
     exact ⟨⟨r1.1, r1.2.1, fun e' h => by cases h; exact r1.2.2.1 e rfl, fun b h => by cases h⟩, fun b h => by cases h⟩
   | (.inr b, s1) =>
     rw [hr] at r1 r2
     have g1 := r1.1
     have g2 := r1.2.2.2 b rfl
     simp only at g1 g2 ⊢
     obtain ⟨k1, k2⟩ := r2 b rfl
     split
     ·rename_i hk
      exact ⟨⟨g1, by simp only; omega, fun e h => (by cases h), fun x h => g2⟩, fun b' h => by cases h; exact ⟨⟨k2 false hff.1, k1.2⟩, hk⟩⟩
     ·exact ⟨⟨g1, by simp only; omega, fun e h => (by cases h; exact (by decide : (8 : Int) ≠ 0)), fun x h => by cases h⟩, fun b' h => by cases h⟩
theorem zq6v {sig : List Dc} (hs : SigR sig) : ∀ (m : Nat) (ctx : List Tr) (t a : Tr) (p s : Int), (∀ a ∈ ctx, FF a) → t.isTerm false = true → t.size ≤ 900000 → FF a → 0 ≤ s → s ≤ 20000 → CntOK (zqab sig m ctx t a p s) s
 | 0, ctx, t, a, p, s, _, _, _, _, _, h1 => .ok h1
 | m + 1, ctx, t, a, p, s, hc, ht, hts, ha, h0, h1 => by
   rw [zqab]
   split
   ·rename_i h4
    split
    ·rename_i h2
     obtain ⟨x, hx, hxt⟩ := lam_kid ht h4
     obtain ⟨y, z, hyz, hy, hz, hsz⟩ := ff_pi ha h2
     rw [kid0 hx, kid0 hyz, kid1 hyz]
     exact zq6v hs m _ x z _ s (fun b hb => by
      rcases List.mem_append.1 hb with h | h
      ·exact hc b h
      ·simp at h; rw [h]; exact hy) hxt (by have : x.size < t.size := Tr.kid_size (by rw [hx]; simp); omega) hz h0 h1
    ·exact .err (by decide) h1
   ·rename_i h4
    split
    ·exact .err (by decide) h1
    ·obtain ⟨r1, r2⟩ := foundC_fine (f := zqab sig m ctx) hs hc ht h4 hts (p := p) h0 h1 (fun x hx b p s' hb p1 p2 => zq6v hs m ctx x b p s' hc (Tr.kids_lams ht hx) (by have := Tr.kid_size hx; omega) hb (by omega) p2)
     match hr : zq97 (zqab sig m ctx) sig ctx t p s with
     | (.inl e, s1) =>
       rw [hr] at r1
       exact ⟨r1.1, r1.2.1, fun e' h => by cases h; exact r1.2.2.1 e rfl, fun b h => by cases h⟩
     | (.inr b, s1) =>
       rw [hr] at r1
       have g1 := r1.1
       have g2 := r1.2.2.2 b rfl
       simp only at g1 g2 ⊢
       split
       ·exact ⟨g1, by simp only; omega, fun e h => (by cases h), fun x h => g2⟩
       ·exact ⟨g1, by simp only; omega, fun e h => (by cases h; exact (by decide : (10 : Int) ≠ 0)), fun x h => by cases h⟩
theorem zqgz {sig : List Dc} (hs : SigR sig) : ∀ (m : Nat) (ctx : List Tr) (a : Tr) (p s : Int), (∀ a ∈ ctx, FF a) → FK a → 0 ≤ s → s ≤ 20000 → CntOK (famC sig m ctx a p s) s
 | 0, ctx, a, p, s, _, _, _, h1 => .ok h1
 | m + 1, ctx, a, p, s, hc, ha, h0, h1 => by
   rw [famC]
   split
   ·rename_i h2
    obtain ⟨x, y, hxy, hx, hy, hsz⟩ := fk_pi ha h2
    rw [kid0 hxy, kid1 hxy]
    have r1 := zqgz hs m ctx x (p + 1) s hc hx.fk h0 h1
    match hr : famC sig m ctx x (p + 1) s with
    | (.inl e, s1) =>
      rw [hr] at r1
      exact ⟨r1.1, r1.2.1, fun e' h => by cases h; exact r1.2.2.1 e rfl, fun b h => by cases h⟩
    | (.inr u, s1) =>
      rw [hr] at r1
      have g1 := r1.1
      have g2 := r1.2.2.2 u rfl
      simp only at g1 g2 ⊢
      have r2 := zqgz hs m (ctx ++ [x]) y (p + 1 + x.size) s1 (fun b hb => by
       rcases List.mem_append.1 hb with h | h
       ·exact hc b h
       ·simp at h; rw [h]; exact hx) hy (by omega) g2
      exact ⟨by have := r2.1; omega, r2.2.1, r2.2.2.1, r2.2.2.2⟩
   ·split
    ·rename_i h3
     match hd : zq2p sig a.name true with
     | none => exact .err (by decide) h1
     | some k =>
       simp only
       have hk := zqbq hs hd
       obtain ⟨⟨kd, hkd⟩, hsz⟩ := ha
       have hall := fam_args hkd h3
       obtain ⟨r1, r2⟩ := zqip (f := zqab sig m ctx) a.kids k (p + 1) s (fun x hx => ⟨hall x hx, by have := Tr.kid_size hx; omega⟩) ⟨⟨true, hk.1⟩, hk.2⟩ h0 h1 (fun x hx b p s' hb p1 p2 => zq6v hs m ctx x b p s' hc (hall x hx) (by have := Tr.kid_size hx; omega) hb (by omega) p2)
       match hr : zqh0 (zqab sig m ctx) a.kids k (p + 1) s with
       | (.inl e, s1) =>
         rw [hr] at r1
         exact ⟨r1.1, r1.2.1, fun e' h => by cases h; exact r1.2.2.1 e rfl, fun b h => by cases h⟩
       | (.inr b, s1) =>
         rw [hr] at r1
         have g1 := r1.1
         have g2 := r1.2.2.2 b rfl
         simp only at g1 g2 ⊢
         split
         ·exact ⟨g1, by simp only; omega, fun e h => (by cases h), fun x h => g2⟩
         ·exact ⟨g1, by simp only; omega, fun e h => (by cases h; exact (by decide : (8 : Int) ≠ 0)), fun x h => by cases h⟩
    ·exact .ok h1
end Go.H
namespace Go.H
open Go Go.RowKit
set_option linter.unusedVariables false

theorem zq5.below {P : Program} {f : FuncId} {args : List PV} {st : St} {p : PV} {v : Value} (vals : List Value) (he : zqir P f) (hv : ∀ C ws, ROs C args ws → ws = vals) (hp : ∀ C, RO C p v)
  (h : ∀ w, Calls P f vals.toArray w fun e w' => e = .returned v ∧ Below w.heap.size w w') : zq5 P f args st (Just p st) := by
 refine ⟨he, fun w ws hg ha => ?_⟩
 obtain rfl := hv _ _ ha
 refine (h w).mono ?_
 rintro e w' ⟨rfl, hb⟩
 have hev : Evo w st w' st := ⟨hb.os, hb.tape, hb.output, hb.size, fun b hlt hn => ⟨hb.block b hlt, hn⟩⟩
 exact ⟨.ret p, st, hev, hg.next hev fun b o hs => .inl ⟨hs, hb.block b (hg.lt hs)⟩, ⟨rfl, rfl⟩, hp _⟩
theorem ROs_str2 (s c : List UInt8) : ∀ C ws, ROs C [.str s, .str c] ws → ws = [.string ⟨s.toArray⟩, .string ⟨c.toArray⟩] := by
 rintro C ws ⟨v, vs, rfl, h1, v2, vs2, rfl, h2, h3⟩
 rw [zqgr h1, zqgr h2, h3]
theorem ROs_str_int (s : List UInt8) (k : IntKind) (n : Int) : ∀ C ws, ROs C [.str s, .int k n] ws → ws = [.string ⟨s.toArray⟩, .int k n] := by
 rintro C ws ⟨v, vs, rfl, h1, v2, vs2, rfl, h2, h3⟩
 rw [zqgr h1, zq9s h2, h3]
theorem RO_str_mk (C : Nat → Nat → Value → Prop) (s : List UInt8) : RO C (.str s) (.string ⟨s.toArray⟩) := .inr ⟨rfl, by simp [RX, Value.cells]⟩
theorem RO_int_mk (C : Nat → Nat → Value → Prop) (k : IntKind) (n : Int) : RO C (.int k n) (.int k n) := .inr ⟨rfl, by simp [RX, Value.cells]⟩

theorem zqfo {α : Type} (p : α → Bool) : ∀ (l : List α), l.dropWhile p = [] ↔ l.all p = true
 | [] => by simp
 | x :: l => by
   rw [List.dropWhile_cons]
   cases h : p x
   ·simp [h]
   ·simp only [if_true, List.all_cons, h, Bool.true_and]; exact zqfo p l
theorem dropWhile_mem {α : Type} (p : α → Bool) (l : List α) : (l.dropWhile p).all p = true ↔ l.all p = true := by
 induction l with
 | nil => simp
 | cons x l ih =>
   rw [List.dropWhile_cons]
   cases h : p x
   ·simp [h]
   ·simp only [if_true, List.all_cons, h, Bool.true_and]; exact ih
theorem trimS_nil (s cs : List UInt8) : Lib.trimS s cs = [] ↔ s.all (fun c => cs.contains c) = true := by
 unfold Lib.trimS Lib.trimLeftS Lib.trimRightS
 rw [zqfo, List.all_reverse, dropWhile_mem, List.all_reverse]
theorem zq3p (c : UInt8) : ∀ (l : List UInt8), (0 ≤ Lib.indexByte l c ↔ l.contains c = true) ∧ -1 ≤ Lib.indexByte l c
 | [] => by simp [Lib.indexByte]
 | b :: l => by
   have ih := zq3p c l
   simp only [Lib.indexByte]
   by_cases h : b = c
   ·subst h; simp
   ·have h1 : (b == c) = false := by simpa using h
    have h2 : (c == b) = false := by simpa using fun e : c = b => h e.symm
    simp only [h1, Bool.false_eq_true, if_false, List.contains_cons, h2, Bool.false_or]
    split
    ·rename_i h3
     have h3 : Lib.indexByte l c = -1 := by simpa using h3
     rw [h3] at ih
     refine ⟨?_, by omega⟩
     rw [← ih.1]
    ·rename_i h3
     have h3 : ¬ Lib.indexByte l c = -1 := by simpa using h3
     refine ⟨?_, by omega⟩
     rw [← ih.1]
     omega

def zq55 : List UInt8 := [97, 98, 99, 100, 101, 102, 103, 104, 105, 106, 107, 108, 109, 110, 111, 112, 113, 114, 115, 116, 117, 118, 119, 120, 121, 122, 65, 66, 67, 68, 69, 70, 71, 72, 73, 74, 75, 76, 77, 78, 79, 80, 81, 82, 83, 84, 85, 86, 87, 88, 89, 90, 95, 48, 49, 50, 51, 52, 53, 54, 55, 56, 57]
def zqlu : List UInt8 := [97, 98, 99, 100, 101, 102, 103, 104, 105, 106, 107, 108, 109, 110, 111, 112, 113, 114, 115, 116, 117, 118, 119, 120, 121, 122, 65, 66, 67, 68, 69, 70, 71, 72, 73, 74, 75, 76, 77, 78, 79, 80, 81, 82, 83, 84, 85, 86, 87, 88, 89, 90, 95]
def digitSigns : List UInt8 := [48, 49, 50, 51, 52, 53, 54, 55, 56, 57]
theorem byte_all (p q : UInt8 → Bool) (h : (List.range 256).all (fun n => p (UInt8.ofNat n) == q (UInt8.ofNat n)) = true) (c : UInt8) : p c = q c := by
 rw [List.all_eq_true] at h
 have := h c.toNat (by simp; exact c.toNat_lt)
 simpa using this
theorem letter_signs (c : UInt8) : zqlu.contains c = zqcl c := byte_all _ _ (by decide +kernel) c
theorem digit_signs (c : UInt8) : digitSigns.contains c = digit c := byte_all _ _ (by decide +kernel) c
theorem word_signs (c : UInt8) : zq55.contains c = (zqcl c || digit c) := byte_all _ (fun c => zqcl c || digit c) (by decide +kernel) c
end Go.H
namespace Go.H
open Go
set_option linter.unusedVariables false
set_option linter.unusedSimpArgs false
def cntR (mo : List PV) (s : Int) : HObj := .cells (.int .i64 s :: mo)
theorem zqfc (x y : PV) (mo : List PV) : zqg (x :: mo) 0 [y] = y :: mo := by simp [zqg]
def zq7w (mo : List PV) (h : TypeId) (b : Nat) (r : (Int ⊕ Tr) × Int) (st : St) : Res → St → Prop := fun q s => s = upd st b (cntR mo r.2) ∧ match r.1 with | .inr t => q = .ret (tree t) | .inl c => q = .pan (halt h c 0)
theorem zq7w.ret {mo : List PV} {h : TypeId} {b : Nat} {r : (Int ⊕ Tr) × Int} {st s : St} {t : Tr} {k : Int} (e : (.inr t, k) = r) (ha : zq16 b st s) (hb : s b = some (cntR mo k)) : retR (zq7w mo h b r st) (tree t) s := by
 subst e
 exact zq1h (ha.sub hb) ⟨rfl, rfl⟩
theorem zq7w.pan {mo : List PV} {h : TypeId} {b : Nat} {r : (Int ⊕ Tr) × Int} {st s : St} {c k : Int} (e : (.inl c, k) = r) (ha : zq16 b st s) (hb : s b = some (cntR mo k)) : panR (zq7w mo h b r st) (halt h c 0) s := by
 subst e
 exact zq56 (Conv.sub (ha.sub hb)) ⟨rfl, rfl⟩
theorem zq89 {mo : List PV} {P : Program} {g : FuncId} {us : List PV} {st : St} {K Kp : PV → St → Prop} {h : TypeId} {b : Nat} {r : (Int ⊕ Tr) × Int} (hc : zq5 P g us st (zq7w mo h b r st)) (hy : ∀ t k, r = (.inr t, k) → K (tree t) (upd st b (cntR mo k))) (hn : ∀ c k, r = (.inl c, k) → Kp (halt h c 0) (upd st b (cntR mo k))) : zqb P g us st K Kp := by
 obtain ⟨x, k⟩ := r
 refine zq15 hc (fun q st' h => ?_) (fun q st' h => ?_)
 ·obtain ⟨rfl, h⟩ := h
  cases x with
  | inr t => cases h; exact hy t k rfl
  | inl c => cases h
 ·obtain ⟨rfl, h⟩ := h
  cases x with
  | inr t => cases h
  | inl c => cases h; exact hn c k rfl
def zq8a {α : Type} (h : TypeId) (b : Nat) (o : Int → HObj) (enc : α → PV) (r : (Fz ⊕ α) × Int) (st : St) : Res → St → Prop := fun q s => s = upd st b (o r.2) ∧ match r.1 with | .inr x => q = .ret (enc x) | .inl e => q = .pan (halt h e.1 e.2)
theorem zq8a.ret {α : Type} {h : TypeId} {b : Nat} {o : Int → HObj} {enc : α → PV} {r : (Fz ⊕ α) × Int} {st s : St} {x : α} {k : Int} {p : PV} (hp : p = enc x) (e : r = (.inr x, k)) (ha : zq16 b st s) (hb : s b = some (o k)) : retR (zq8a h b o enc r st) p s := by
 subst e hp
 exact zq1h (ha.sub hb) ⟨rfl, rfl⟩
theorem zq8a.pan {α : Type} {h : TypeId} {b : Nat} {o : Int → HObj} {enc : α → PV} {r : (Fz ⊕ α) × Int} {st s : St} {c p k : Int} (e : r = (.inl (c, p), k)) (ha : zq16 b st s) (hb : s b = some (o k)) : panR (zq8a h b o enc r st) (halt h c p) s := by
 subst e
 exact zq56 (Conv.sub (ha.sub hb)) ⟨rfl, rfl⟩
theorem zq21 {α : Type} {P : Program} {g : FuncId} {us : List PV} {st : St} {K Kp : PV → St → Prop} {h : TypeId} {b : Nat} {o : Int → HObj} {enc : α → PV} {r : (Fz ⊕ α) × Int} (hc : zq5 P g us st (zq8a h b o enc r st))
  (hy : ∀ x k, r = (.inr x, k) → K (enc x) (upd st b (o k))) (hn : ∀ c p k, r = (.inl (c, p), k) → Kp (halt h c p) (upd st b (o k))) : zqb P g us st K Kp := by
 obtain ⟨x, k⟩ := r
 refine zq15 hc (fun q st' h => ?_) (fun q st' h => ?_)
 ·obtain ⟨rfl, h⟩ := h
  cases x with
  | inr t => cases h; exact hy t k rfl
  | inl c => cases h
 ·obtain ⟨rfl, h⟩ := h
  cases x with
  | inr t => cases h
  | inl c => cases h; exact hn c.1 c.2 k rfl
def unitP : Unit → PV := fun _ => .tup []
def ckr (sig : List Dc) (k : Int) : HObj := cntR [zqa7 sig] k
end Go.H
namespace Go.H
open Go
set_option linter.unusedVariables false
set_option linter.unusedSimpArgs false
def zqfn {α : Type} (r : (Fz ⊕ α) × Int) : Fz := match r.1 with | .inl e => e | .inr _ => (0, 0)
def zq87 (d : Dc) : Bool := zq8t d.name && (match d.fam with | true => d.type.kindOK | false => d.type.famOK)
def zq5m (sig : List Dc) (d : Dc) : Fz := zqfn (famC sig 900000 [] d.type 0 0)
def hasT (sig : List Dc) (n : List UInt8) : Bool := sig.any (named n)
def declT (sig : List Dc) (d : Dc) : Fz := if zq87 d = false then (1, 0) else if hasT sig d.name = true then (6, 0) else zq5m sig d
def sigGo (sig : List Dc) : Nat → List Dc → Bool
 | _, [] => true
 | i, d :: r => decide ((declT (sig.take i) d).1 = 0) && sigGo sig (i + 1) r
def sigOKT (sig : List Dc) : Bool := decide (sig.length ≤ 40) && sigGo sig 0 sig
def zq85 (sig : List Dc) (ctx : List Tr) (a : Tr) : Fz := zqfn (famC sig 900000 ctx a 0 0)
def ctxGo (sig : List Dc) (ctx : List Tr) : Nat → List Tr → Bool
 | _, [] => true
 | i, a :: r => a.famOK && decide ((zq85 sig (ctx.take i) a).1 = 0) && ctxGo sig ctx (i + 1) r
def zqen (sig : List Dc) (ctx : List Tr) : Bool := decide (ctx.length ≤ 40) && sigOKT sig && ctxGo sig ctx 0 ctx
def dueT (sig : List Dc) (ctx : List Tr) (a : Tr) : Bool := a.famOK && decide ((zq85 sig ctx a).1 = 0)
def zq98 (sig : List Dc) (ctx : List Tr) (form : Bool) (f : Fz) : Fz := if sig.length > 4096 ∨ ctx.length > 4096 then (2, 0) else if (zqen sig ctx && form) = false then (1, 0) else f
theorem form_fk {d : Dc} (h : zq87 d = true) : d.type.isFam d.fam = true ∧ d.type.size ≤ 150 := by
 unfold zq87 at h
 rw [Bool.and_eq_true] at h
 have h2 := h.2
 cases hf : d.fam with
 | true =>
   rw [hf] at h2
   unfold Tr.kindOK Tr.small at h2
   simp only [Bool.and_eq_true, decide_eq_true_eq] at h2
   exact ⟨h2.2, h2.1⟩
 | false =>
   rw [hf] at h2
   unfold Tr.famOK Tr.small at h2
   simp only [Bool.and_eq_true, decide_eq_true_eq] at h2
   exact ⟨h2.2, h2.1⟩
theorem zqi3 {a : Tr} (h : a.famOK = true) : FF a := by
 unfold Tr.famOK Tr.small at h
 simp only [Bool.and_eq_true, decide_eq_true_eq] at h
 exact ⟨h.2, h.1⟩
theorem SigR.nil : SigR [] := ⟨List.Pairwise.nil, fun d h => (by cases h), by simp⟩
theorem declT_ok {sig : List Dc} {d : Dc} (h : (declT sig d).1 = 0) : zq87 d = true ∧ hasT sig d.name = false ∧ (zq5m sig d).1 = 0 := by
 unfold declT at h
 split at h
 ·cases h
 ·split at h
  ·cases h
  ·rename_i h1 h2
   exact ⟨by simpa using h1, by simpa using h2, h⟩
theorem SigR.snoc {sig : List Dc} {d : Dc} (hs : SigR sig) (hl : sig.length < 1000000) (h : zq87 d = true) (hn : hasT sig d.name = false) : SigR (sig ++ [d]) := by
 refine ⟨?_, fun x hx => ?_, by simp; omega⟩
 ·unfold Apart
  rw [List.pairwise_append]
  refine ⟨hs.apart, by simp, fun a ha b hb => ?_⟩
  simp only [List.mem_singleton] at hb
  subst hb
  unfold hasT at hn
  rw [List.any_eq_false] at hn
  have := hn a ha
  unfold named at this
  simpa using this
 ·rcases List.mem_append.1 hx with hx | hx
  ·exact hs.types x hx
  ·simp only [List.mem_singleton] at hx
   subst hx
   exact form_fk h
theorem zqgt {α : Type} {l : List α} {i : Nat} {x : α} (h : l[i]? = some x) : l.take (i + 1) = l.take i ++ [x] := by
 rw [List.take_add_one, h]; rfl
theorem zqkb {sig : List Dc} (hl : sig.length ≤ 1000000) : ∀ (r : List Dc) (i : Nat), sig.drop i = r → SigR (sig.take i) → sigGo sig i r = true → SigR sig
 | [], i, hd, hs, _ => by
   rw [List.drop_eq_nil_iff] at hd
   rwa [List.take_of_length_le hd] at hs
 | d :: r, i, hd, hs, h => by
   rw [sigGo, Bool.and_eq_true, decide_eq_true_eq] at h
   obtain ⟨h1, h2, h3⟩ := declT_ok h.1
   have hx : sig[i]? = some d := by
    have := congrArg List.head? hd
    simpa [List.head?_drop] using this
   have hi := (List.getElem?_eq_some_iff.1 hx).1
   refine zqkb hl r (i + 1) ?_ ?_ h.2
   ·have := congrArg List.tail hd
    simpa [List.tail_drop] using this
   ·rw [zqgt hx]
    exact hs.snoc (by simp; omega) h1 h2
theorem zqh8 {sig : List Dc} (h : sigOKT sig = true) : SigR sig ∧ sig.length ≤ 40 := by
 unfold sigOKT at h
 rw [Bool.and_eq_true, decide_eq_true_eq] at h
 exact ⟨zqkb (by omega) sig 0 rfl SigR.nil h.2, h.1⟩
theorem zqkz {sig : List Dc} {ctx : List Tr} : ∀ (r : List Tr) (i : Nat), ctxGo sig ctx i r = true → ∀ a ∈ r, FF a
 | [], i, _, a, ha => by cases ha
 | b :: r, i, h, a, ha => by
   rw [ctxGo, Bool.and_eq_true, Bool.and_eq_true] at h
   rcases List.mem_cons.1 ha with rfl | ha
   ·exact zqi3 h.1.1
   ·exact zqkz r (i + 1) h.2 a ha
theorem zqi4 {sig : List Dc} {ctx : List Tr} (h : zqen sig ctx = true) : SigR sig ∧ (∀ a ∈ ctx, FF a) ∧ sig.length ≤ 40 ∧ ctx.length ≤ 40 := by
 unfold zqen at h
 simp only [Bool.and_eq_true, decide_eq_true_eq] at h
 have := zqh8 h.1.2
 exact ⟨this.1, zqkz ctx 0 h.2, this.2, h.1.1⟩
def Ends (h : TypeId) (f : Fz) (st : St) : Res → St → Prop := fun q s => s = st ∧ ((f = (0, 0) ∧ q = .ret (.tup [])) ∨ (f.1 ≠ 0 ∧ q = .pan (halt h f.1 f.2)))
theorem Ends.ret {h : TypeId} {f : Fz} {st s : St} (hf : f = (0, 0)) (hs : Sub st s) : retR (Ends h f st) (.tup []) s := zq1h hs ⟨rfl, .inl ⟨hf, rfl⟩⟩
theorem Ends.pan {h : TypeId} {f : Fz} {st s : St} {c p : Int} (hf : f = (c, p)) (hc : c ≠ 0) (hs : Sub st s) : panR (Ends h f st) (halt h c p) s := by
 subst hf
 exact zq56 (Conv.sub hs) ⟨rfl, .inr ⟨hc, rfl⟩⟩
def haltP (f : Fz) : PV := .agg [.int .i64 f.1, .int .i64 f.2]
@[simp] theorem haltP_isJunk (f : Fz) : (haltP f).isJunk = false := rfl
def srun (sig : List Dc) (b' : Nat) (c p : Int) : HObj := .cells [zqa7 sig, .ptr b' 0, .int .i64 c, .int .i64 p]
end Go.H
namespace Go.H
open Go
set_option linter.unusedVariables false
set_option linter.unusedSimpArgs false
end Go.H
