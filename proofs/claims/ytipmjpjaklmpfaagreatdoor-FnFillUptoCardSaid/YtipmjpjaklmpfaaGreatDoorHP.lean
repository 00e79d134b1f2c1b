/- Part of a proof that the program answers as the reference does: HPure1, HPure2, HPure3, HPure4, HPure5, HPure6, HPure7, HPure8, HPure9, HPure10, HLib, HPure11, HPure12. -/
import Derived.Lib.SlTrimSet
import Derived.Below
import Derived.Lib.Bytealg
import Derived.Test.YtipmjpjaklmpfaaGreatDoorHD
namespace Go.H
open Go
set_option linter.unusedVariables false

abbrev W (n : Int) : Int := IntKind.wrap .i64 n
theorem W_in {n : Int} (h : -9223372036854775808 ≤ n ∧ n ≤ 9223372036854775807) : W n = n := IntWalk.i64_in n h
theorem W_W (a b : Int) : W (W a + b) = W (a + b) := by
  simp only [W, IntKind.wrap_i64]; omega
theorem W_W' (a b : Int) : W (a + W b) = W (a + b) := by
  simp only [W, IntKind.wrap_i64]; omega
theorem W_succ {i : Nat} (h : i < maxLen) : W ((i : Int) + 1) = ((i + 1 : Nat) : Int) := by
  unfold maxLen at h
  rw [W_in (by omega)]; omega

theorem attach_mapIdx {α β : Type} (l : List α) (f : Nat → α → β) : (l.attach.mapIdx fun i x => f i x.1) = l.mapIdx f := by
  apply List.ext_getElem
  · simp
  · intro i h1 h2
    simp

theorem Tr.ext_iff (a b : Tr) : a = b ↔ a.kind = b.kind ∧ a.n = b.n ∧ a.name = b.name ∧ a.kids = b.kids := by
  cases a; cases b; simp
def Tr.same (a b : Tr) : Bool :=
  decide (a.kind = b.kind) && decide (a.n = b.n) && decide (a.name = b.name) && decide (a.kids.length = b.kids.length) &&
    (a.kids.attach.zip b.kids).all fun x => Tr.same x.1.1 x.2
termination_by SizeOf.sizeOf a
decreasing_by exact Tr.kids_lt x.1.2
theorem zip_all_iff {α : Type} (f : α → α → Bool) : ∀ (xs ys : List α), (∀ x ∈ xs, ∀ y, f x y = true ↔ x = y) → ((xs.length = ys.length ∧ (xs.zip ys).all (fun p => f p.1 p.2) = true) ↔ xs = ys)
  | [], ys, _ => by cases ys <;> simp
  | x :: xs, [], _ => by simp
  | x :: xs, y :: ys, h => by
    have ih := zip_all_iff f xs ys (fun z hz => h z (by simp [hz]))
    have h0 := h x (by simp) y
    simp only [List.length_cons, List.zip_cons_cons, List.all_cons, Bool.and_eq_true, List.cons.injEq, Nat.add_right_cancel_iff, h0]
    constructor
    · rintro ⟨h1, h2, h3⟩; exact ⟨h2, ih.1 ⟨h1, h3⟩⟩
    · rintro ⟨h1, h2⟩; exact ⟨(ih.2 h2).1, h1, (ih.2 h2).2⟩
theorem Tr.same_iff : ∀ (a b : Tr), Tr.same a b = true ↔ a = b := by
  intro a
  induction a using Tr.ind with
  | _ a ih =>
    intro b
    rw [Tr.same, Tr.ext_iff]
    have key := zip_all_iff Tr.same a.kids b.kids ih
    have e : (a.kids.attach.zip b.kids).all (fun x => Tr.same x.1.1 x.2) = (a.kids.zip b.kids).all (fun x => Tr.same x.1 x.2) := by
      have : a.kids.zip b.kids = (a.kids.attach.zip b.kids).map (fun x => (x.1.1, x.2)) := by
        conv => lhs; rw [← List.attach_map_subtype_val a.kids]
        rw [List.zip_map_left]
        rfl
      rw [this, List.all_map]
      rfl
    rw [e]
    simp only [Bool.and_eq_true, decide_eq_true_eq, and_assoc]
    rw [← key]
instance : DecidableEq Tr := fun a b => decidable_of_iff (Tr.same a b = true) (Tr.same_iff a b)

def Tr.size (t : Tr) : Nat := 1 + (t.kids.attach.map fun x => Tr.size x.1).sum
termination_by SizeOf.sizeOf t
decreasing_by exact Tr.kids_lt x.2
theorem Tr.size_eq (t : Tr) : t.size = 1 + (t.kids.map Tr.size).sum := by rw [Tr.size]; simp
def Tr.sizes (ts : List Tr) : Nat := (ts.map Tr.size).sum
theorem Tr.size_pos (t : Tr) : 1 ≤ t.size := by rw [Tr.size_eq]; omega
theorem Tr.sizes_mem {ts : List Tr} {t : Tr} (h : t ∈ ts) : t.size ≤ Tr.sizes ts := by
  unfold Tr.sizes
  induction ts with
  | nil => cases h
  | cons x xs ih =>
    simp only [List.map_cons, List.sum_cons]
    cases h with
    | head => omega
    | tail _ h => have := ih h; omega
theorem Tr.len_sizes (ts : List Tr) : ts.length ≤ Tr.sizes ts := by
  unfold Tr.sizes
  induction ts with
  | nil => simp
  | cons x xs ih => simp only [List.map_cons, List.sum_cons, List.length_cons]; have := x.size_pos; omega

theorem Tr.size_kids (t : Tr) : t.size = 1 + Tr.sizes t.kids := by rw [Tr.size_eq]; rfl
theorem Tr.kid_size {t x : Tr} (h : x ∈ t.kids) : x.size < t.size := by have := Tr.sizes_mem h; rw [Tr.size_kids t]; omega
theorem Tr.kids_len (t : Tr) : t.kids.length < t.size := by have := Tr.len_sizes t.kids; rw [Tr.size_kids t]; omega
def Tr.bulk (t : Tr) : Nat := t.name.length + t.kids.length + (t.kids.attach.map fun x => Tr.bulk x.1).sum
termination_by SizeOf.sizeOf t
decreasing_by exact Tr.kids_lt x.2
def Tr.bulks (ts : List Tr) : Nat := ts.length + (ts.map Tr.bulk).sum
theorem Tr.bulks_cons (t : Tr) (ts : List Tr) : Tr.bulks (t :: ts) = 1 + t.bulk + Tr.bulks ts := by
  unfold Tr.bulks; simp only [List.map_cons, List.sum_cons, List.length_cons]; omega
theorem Tr.bulk_mem {ts : List Tr} {t : Tr} (h : t ∈ ts) : t.bulk ≤ Tr.bulks ts := by
  unfold Tr.bulks
  induction ts with
  | nil => cases h
  | cons x xs ih =>
    simp only [List.map_cons, List.sum_cons, List.length_cons]
    cases h with
    | head => omega
    | tail _ h => have := ih h; omega
def left (m : Int) (s : Nat) : Int := if (s : Int) ≤ m then m - s else -1
theorem loop_fold {α β : Type} {F : List PV → St → (List PV → St → Prop) → Prop} (xs : List α) (enc : β → Nat → List PV) (stf : β → St) (Q : β → List α → Prop)
    (step : ∀ i x rest acc, i < xs.length → xs[i]? = some x → Q acc (x :: rest) → (∀ acc', Q acc' rest → hFix F (enc acc' (i + 1)) (stf acc')) → F (enc acc i) (stf acc) (hFix F))
    (fin : ∀ acc, Q acc [] → F (enc acc xs.length) (stf acc) (hFix F)) (acc0 : β) (h : Q acc0 xs) : hFix F (enc acc0 0) (stf acc0) := by
  have key : ∀ (rest : List α) (i : Nat) (acc : β), xs.drop i = rest → i ≤ xs.length → Q acc rest → hFix F (enc acc i) (stf acc) := by
    intro rest
    induction rest with
    | nil =>
      intro i acc hd hi hq
      have : i = xs.length := by rw [List.drop_eq_nil_iff] at hd; omega
      subst this
      exact hFix_unroll (fin acc hq)
    | cons x rest ih =>
      intro i acc hd hi hq
      have hlt : i < xs.length := by
        rcases Nat.lt_or_ge i xs.length with h | h
        · exact h
        · rw [List.drop_of_length_le h] at hd; cases hd
      have hx : xs[i]? = some x := by
        have := congrArg List.head? hd
        simpa [List.head?_drop] using this
      have hr : xs.drop (i + 1) = rest := by
        have := congrArg List.tail hd
        simpa [List.tail_drop] using this
      exact hFix_unroll (step i x rest acc hlt hx hq fun acc' hq' => ih (i + 1) acc' hr hlt hq')
  exact key xs 0 acc0 rfl (Nat.zero_le _) h
theorem loop_list {α : Type} {F : List PV → St → (List PV → St → Prop) → Prop} (xs : List α) (enc : Nat → List PV) (st : St) (Q : List α → Prop)
    (step : ∀ i x rest, i < xs.length → xs[i]? = some x → Q (x :: rest) → (Q rest → hFix F (enc (i + 1)) st) → F (enc i) st (hFix F))
    (fin : Q [] → F (enc xs.length) st (hFix F)) (h : Q xs) : hFix F (enc 0) st :=
  loop_fold (β := Unit) xs (fun _ => enc) (fun _ => st) (fun _ => Q) (fun i x rest _ hi hx hq k => step i x rest hi hx hq (k ())) (fun _ => fin) () h
theorem loop_idx {α β : Type} {F : List PV → St → (List PV → St → Prop) → Prop} (xs : List α) (enc : β → Nat → List PV) (stf : β → St) (Q : β → Nat → List α → Prop)
    (step : ∀ i x rest acc, i < xs.length → xs[i]? = some x → Q acc i (x :: rest) → (∀ acc', Q acc' (i + 1) rest → hFix F (enc acc' (i + 1)) (stf acc')) → F (enc acc i) (stf acc) (hFix F))
    (fin : ∀ acc, Q acc xs.length [] → F (enc acc xs.length) (stf acc) (hFix F)) (acc0 : β) (h : Q acc0 0 xs) : hFix F (enc acc0 0) (stf acc0) := by
  have key : ∀ (rest : List α) (i : Nat) (acc : β), xs.drop i = rest → i ≤ xs.length → Q acc i rest → hFix F (enc acc i) (stf acc) := by
    intro rest
    induction rest with
    | nil =>
      intro i acc hd hi hq
      have : i = xs.length := by rw [List.drop_eq_nil_iff] at hd; omega
      subst this
      exact hFix_unroll (fin acc hq)
    | cons x rest ih =>
      intro i acc hd hi hq
      have hlt : i < xs.length := by
        rcases Nat.lt_or_ge i xs.length with h | h
        · exact h
        · rw [List.drop_of_length_le h] at hd; cases hd
      have hx : xs[i]? = some x := by
        have := congrArg List.head? hd
        simpa [List.head?_drop] using this
      have hr : xs.drop (i + 1) = rest := by
        have := congrArg List.tail hd
        simpa [List.tail_drop] using this
      exact hFix_unroll (step i x rest acc hlt hx hq fun acc' hq' => ih (i + 1) acc' hr hlt hq')
  exact key xs 0 acc0 rfl (Nat.zero_le _) h
theorem drop_some {α : Type} {xs : List α} {i : Nat} {x : α} (h : xs[i]? = some x) : xs.drop i = x :: xs.drop (i + 1) := by
  obtain ⟨h1, h2⟩ := List.getElem?_eq_some_iff.1 h
  rw [List.drop_eq_getElem_cons h1, h2]
theorem ia_tree {ts : List Tr} {i : Nat} {t : Tr} (k : IntKind) (h : ts[i]? = some t) : q_ia 4 (.sl 4 false (ts.map tree)) (.int k (i : Int)) = some (.ref (tree t).cells) := by
  simp [q_ia, h]
theorem ia_tree0 {ts : List Tr} {t : Tr} (k : IntKind) (h : ts[0]? = some t) : q_ia 4 (.sl 4 false (ts.map tree)) (.int k 0) = some (.ref (tree t).cells) := ia_tree k h
theorem ia_tree1 {ts : List Tr} {t : Tr} (k : IntKind) (h : ts[1]? = some t) : q_ia 4 (.sl 4 false (ts.map tree)) (.int k 1) = some (.ref (tree t).cells) := ia_tree k h
theorem W_idx {α : Type} {xs : List α} {i : Nat} (h : i < xs.length) (hl : xs.length ≤ maxLen) : IntKind.i64.wrap ((i : Int) + 1) = ((i + 1 : Nat) : Int) := W_succ (by omega)

def letter (c : UInt8) : Bool := (decide (97 ≤ c.toNat) && decide (c.toNat ≤ 122)) || (decide (65 ≤ c.toNat) && decide (c.toNat ≤ 90)) || decide (c.toNat = 95)
def digit (c : UInt8) : Bool := decide (48 ≤ c.toNat) && decide (c.toNat ≤ 57)
def wordOK : List UInt8 → Bool
  | [] => false
  | c :: r => decide (r.length + 1 ≤ 40) && letter c && r.all fun c => letter c || digit c
def nameOK (s : List UInt8) : Bool :=
  wordOK s && !decide (s = [116, 121, 112, 101]) && !decide (s = [95]) && (match s with
    | [] => true
    | c :: r => !decide (c = 120) || decide (r = []) || !(r.all digit))

def Tr.bare (t : Tr) (kids : Nat) : Bool := decide (t.n = 0) && decide (t.name = []) && decide (t.kids.length = kids)
def Tr.isTerm (o : Bool) (t : Tr) : Bool :=
  if t.kind = 4 then t.bare 1 && t.kids.attach.all fun x => Tr.isTerm o x.1
  else if t.kind = 5 ∨ t.kind = 7 then decide (0 ≤ t.n) && decide (t.n ≤ 100) && decide (t.name = []) && t.kids.attach.all fun x => if o = true ∧ x.1.kind = 8 then x.1.bare 0 else Tr.isTerm o x.1
  else if t.kind = 6 then decide (t.n = 0) && nameOK t.name && t.kids.attach.all fun x => if o = true ∧ x.1.kind = 8 then x.1.bare 0 else Tr.isTerm o x.1
  else false
termination_by SizeOf.sizeOf t
decreasing_by all_goals exact Tr.kids_lt x.2
def Tr.isArg (o : Bool) (x : Tr) : Bool := if o = true ∧ x.kind = 8 then x.bare 0 else Tr.isTerm o x
theorem attach_all {α : Type} (l : List α) (p : α → Bool) : (l.attach.all fun x => p x.1) = l.all p := by simp
theorem Tr.isTerm_eq (o : Bool) (t : Tr) : Tr.isTerm o t =
    if t.kind = 4 then t.bare 1 && t.kids.all (Tr.isTerm o)
    else if t.kind = 5 ∨ t.kind = 7 then decide (0 ≤ t.n) && decide (t.n ≤ 100) && decide (t.name = []) && t.kids.all (Tr.isArg o)
    else if t.kind = 6 then decide (t.n = 0) && nameOK t.name && t.kids.all (Tr.isArg o)
    else false := by
  rw [Tr.isTerm, attach_all t.kids (Tr.isTerm o), attach_all t.kids (fun x => if o = true ∧ x.kind = 8 then x.bare 0 else Tr.isTerm o x)]
  rfl
def Tr.isSimple (t : Tr) : Bool :=
  if t.kind = 10 then t.bare 2 && t.kids.attach.all fun x => Tr.isSimple x.1
  else if t.kind = 9 then decide (t.n = 0) && nameOK t.name && decide (t.kids.length = 0)
  else false
termination_by SizeOf.sizeOf t
decreasing_by exact Tr.kids_lt x.2
theorem Tr.isSimple_eq (t : Tr) : Tr.isSimple t = if t.kind = 10 then t.bare 2 && t.kids.all Tr.isSimple else if t.kind = 9 then decide (t.n = 0) && nameOK t.name && decide (t.kids.length = 0) else false := by
  rw [Tr.isSimple, attach_all t.kids Tr.isSimple]
def Tr.small (t : Tr) : Bool := decide (t.size ≤ 150)
def Tr.termOK (t : Tr) : Bool := t.small && t.isTerm false
def Tr.simpleOK (t : Tr) : Bool := t.small && t.isSimple
def simplesOK (ts : List Tr) (m : Int) : Bool := decide ((ts.length : Int) ≤ m) && ts.all Tr.simpleOK
def Tr.under (t : Tr) (i : Int) : Int := if t.kind = 4 ∨ (t.kind = 2 ∧ i = 1) then 1 else 0
end Go.H
namespace Go.H
open Go
set_option linter.unusedVariables false

def Tr.lam (t : Tr) : Tr := .mk 4 0 [] [t]
def Tr.var (n : Int) (ks : List Tr) : Tr := .mk 5 n [] ks
def Tr.const (s : List UInt8) (ks : List Tr) : Tr := .mk 6 0 s ks
def lams : Nat → Tr → Tr
  | 0, t => t
  | k + 1, t => lams k (Tr.lam t)
def Tr.lift (t : Tr) (frm b : Int) : Tr :=
  .mk t.kind (if t.kind = 5 ∧ frm ≤ t.n then W (t.n + b) else t.n) t.name (t.kids.attach.mapIdx fun i x => Tr.lift x.1 (W (frm + t.under i)) b)
termination_by SizeOf.sizeOf t
decreasing_by exact Tr.kids_lt x.2
theorem Tr.lift_eq (t : Tr) (frm b : Int) : Tr.lift t frm b = .mk t.kind (if t.kind = 5 ∧ frm ≤ t.n then W (t.n + b) else t.n) t.name (t.kids.mapIdx fun i x => Tr.lift x (W (frm + t.under i)) b) := by
  rw [Tr.lift, attach_mapIdx t.kids (fun i x => Tr.lift x (W (frm + t.under i)) b)]
@[simp] theorem Tr.lift_kind (t : Tr) (f b : Int) : (t.lift f b).kind = t.kind := by rw [Tr.lift_eq]; rfl
@[simp] theorem Tr.lift_len (t : Tr) (f b : Int) : (t.lift f b).kids.length = t.kids.length := by rw [Tr.lift_eq]; simp
theorem mapIdx_snoc {α β : Type} (f : Nat → α → β) (xs : List α) (i : Nat) {x : α} (h : xs[i]? = some x) : (xs.mapIdx f).take (i + 1) = (xs.mapIdx f).take i ++ [f i x] := by
  rw [List.take_add_one, List.getElem?_mapIdx, h]
  rfl

def Tr.args (t : Tr) : List Tr :=
  if t.kind = 10 then (match h : t.kids with
    | [x, y] => x :: Tr.args y
    | _ => [])
  else []
termination_by SizeOf.sizeOf t
decreasing_by exact Tr.kids_lt (by rw [h]; simp)
def Tr.target (t : Tr) : Tr :=
  if t.kind = 10 then (match h : t.kids with
    | [x, y] => Tr.target y
    | _ => t)
  else t
termination_by SizeOf.sizeOf t
decreasing_by exact Tr.kids_lt (by rw [h]; simp)
theorem Tr.args_arrow {t x y : Tr} (hk : t.kind = 10) (h : t.kids = [x, y]) : t.args = x :: y.args := by
  rw [Tr.args, if_pos hk]
  split
  · rename_i a b e; rw [h] at e; cases e; rfl
  · rename_i e; exact absurd h (e x y)
theorem Tr.target_arrow {t x y : Tr} (hk : t.kind = 10) (h : t.kids = [x, y]) : t.target = y.target := by
  rw [Tr.target, if_pos hk]
  split
  · rename_i a b e; rw [h] at e; cases e; rfl
  · rename_i e; exact absurd h (e x y)
theorem Tr.args_base {t : Tr} (hk : ¬ t.kind = 10) : t.args = [] := by rw [Tr.args, if_neg hk]
theorem Tr.target_base {t : Tr} (hk : ¬ t.kind = 10) : t.target = t := by rw [Tr.target, if_neg hk]
theorem Tr.args_lt : ∀ (t b : Tr), b ∈ t.args → SizeOf.sizeOf b < SizeOf.sizeOf t := by
  intro t
  induction t using Tr.ind with
  | _ t ih =>
    intro b hb
    rw [Tr.args] at hb
    split at hb
    · split at hb
      · rename_i x y e
        have hy : y ∈ t.kids := by rw [e]; simp
        have hx : x ∈ t.kids := by rw [e]; simp
        rcases List.mem_cons.1 hb with rfl | hb
        · exact Tr.kids_lt hx
        · exact Nat.lt_trans (ih y hy b hb) (Tr.kids_lt hy)
      · cases hb
    · cases hb
theorem Tr.simple_cases {t : Tr} (h : t.isSimple = true) : (t.kind = 10 ∧ ∃ x y, t.kids = [x, y] ∧ x.isSimple = true ∧ y.isSimple = true ∧ t.n = 0 ∧ t.name = []) ∨ (t.kind = 9 ∧ t.kids = [] ∧ t.n = 0 ∧ nameOK t.name = true) := by
  rw [Tr.isSimple_eq] at h
  split at h
  · rename_i hk
    unfold Tr.bare at h
    simp only [Bool.and_eq_true, decide_eq_true_eq] at h
    obtain ⟨⟨⟨h1, h2⟩, h3⟩, h4⟩ := h
    left
    match hks : t.kids, h3 with
    | [x, y], _ =>
      rw [hks] at h4
      simp at h4
      exact ⟨hk, x, y, rfl, h4.1, h4.2, h1, h2⟩
  · split at h
    · rename_i hk
      simp only [Bool.and_eq_true, decide_eq_true_eq] at h
      exact .inr ⟨hk, List.length_eq_zero_iff.1 h.2, h.1.1, h.1.2⟩
    · cases h
theorem Tr.args_simple : ∀ (t : Tr), t.isSimple = true → ∀ b ∈ t.args, b.isSimple = true := by
  intro t
  induction t using Tr.ind with
  | _ t ih =>
    intro h b hb
    rcases Tr.simple_cases h with ⟨hk, x, y, e, hx, hy, _⟩ | ⟨hk, _⟩
    · rw [Tr.args_arrow hk e] at hb
      rcases List.mem_cons.1 hb with rfl | hb
      · exact hx
      · exact ih y (by rw [e]; simp) hy b hb
    · rw [Tr.args_base (by omega)] at hb; cases hb
theorem Tr.args_size : ∀ (t : Tr), t.isSimple = true → Tr.sizes t.args + t.args.length < t.size := by
  intro t
  induction t using Tr.ind with
  | _ t ih =>
    intro h
    rcases Tr.simple_cases h with ⟨hk, x, y, e, hx, hy, _⟩ | ⟨hk, _⟩
    · have := ih y (by rw [e]; simp) hy
      rw [Tr.args_arrow hk e, Tr.size_eq, e]
      simp [Tr.sizes] at this ⊢
      omega
    · rw [Tr.args_base (by omega)]
      have := t.size_pos
      simp [Tr.sizes]; omega
def longForm (head a : Tr) : Tr :=
  lams a.args.length (.mk head.kind (head.lift 0 a.args.length).n head.name ((head.lift 0 a.args.length).kids ++ a.args.attach.mapIdx fun i b => longForm (Tr.var (W (W (a.args.length - 1) - i)) []) b.1))
termination_by SizeOf.sizeOf a
decreasing_by exact Tr.args_lt _ _ b.2
theorem longForm_eq (head a : Tr) : longForm head a =
    lams a.args.length (.mk head.kind (head.lift 0 a.args.length).n head.name ((head.lift 0 a.args.length).kids ++ a.args.mapIdx fun i b => longForm (Tr.var (W (W (a.args.length - 1) - i)) []) b)) := by
  rw [longForm, attach_mapIdx a.args (fun i b => longForm (Tr.var (W (W (a.args.length - 1) - i)) []) b)]
def placeGo (k : Int) : Nat → List Int → Int
  | _, [] => -1
  | i, x :: r => if x = k then (i : Int) else placeGo k (i + 1) r
def place (l : List Int) (k : Int) : Int := placeGo k 0 l
end Go.H
namespace Go.H
open Go
def looks (f : Tr → Bool) (t : Tr) (m : Int) : Option Int := if f t = true ∧ (t.size : Int) ≤ m then some (m - t.size) else none
def looksAll (f : Tr → Bool) (ts : List Tr) (m : Int) : Option Int := if ts.all f = true ∧ (Tr.sizes ts : Int) ≤ m then some (m - Tr.sizes ts) else none
theorem looksAll_nil (f : Tr → Bool) {m : Int} (h : 0 ≤ m) : looksAll f [] m = some m := by simp [looksAll, Tr.sizes, h]
theorem looksAll_cons (f : Tr → Bool) (x : Tr) (r : List Tr) (m : Int) : looksAll f (x :: r) m = (looks f x m).bind (looksAll f r) := by
  have key : ∀ (p q : Prop) [Decidable p] [Decidable q] (a b : Int), (p ↔ q) → a = b → (if p then some a else none) = (if q then some b else none) := by
    intro p q _ _ a b h1 h2
    by_cases h : p
    · rw [if_pos h, if_pos (h1.1 h), h2]
    · rw [if_neg h, if_neg (fun hq => h (h1.2 hq))]
  by_cases h1 : f x = true ∧ (x.size : Int) ≤ m
  · have e : looks f x m = some (m - x.size) := by unfold looks; rw [if_pos h1]
    rw [e]
    simp only [Option.bind_some, looksAll, Tr.sizes, List.all_cons, Bool.and_eq_true, List.map_cons, List.sum_cons]
    refine key _ _ _ _ ?_ (by omega)
    constructor
    · rintro ⟨⟨_, h⟩, h'⟩; exact ⟨h, by omega⟩
    · rintro ⟨h, h'⟩; exact ⟨⟨h1.1, h⟩, by omega⟩
  · have e : looks f x m = none := by unfold looks; rw [if_neg h1]
    rw [e]
    simp only [Option.bind_none, looksAll, Tr.sizes, List.all_cons, Bool.and_eq_true, List.map_cons, List.sum_cons]
    rw [if_neg]
    rintro ⟨⟨h, _⟩, h'⟩
    exact h1 ⟨h, by omega⟩
theorem looksAll_one (f : Tr → Bool) (x : Tr) : looksAll f [x] = looks f x := by
  funext m; unfold looksAll looks; simp [Tr.sizes]
theorem looks_le {f : Tr → Bool} {t : Tr} {m m' : Int} (h : looks f t m = some m') : 0 ≤ m' ∧ m' < m := by
  unfold looks at h
  split at h
  · rename_i hc
    have := t.size_pos
    cases h; omega
  · cases h
end Go.H
namespace Go.H
open Go
theorem two_all' {α : Type} {xs : List α} {p : α → Bool} (h : xs.length = 2) : ∃ a b, xs = [a, b] ∧ xs.all p = (p a && p b) := by
  match xs, h with
  | [a, b], _ => exact ⟨a, b, rfl, by simp⟩
theorem one_all' {α : Type} {xs : List α} {p : α → Bool} (h : xs.length = 1) : ∃ a, xs = [a] ∧ xs.all p = p a := by
  match xs, h with
  | [a], _ => exact ⟨a, rfl, by simp⟩
def idxGo {α : Type} (p : α → Bool) : Nat → List α → Int
  | _, [] => -1
  | i, x :: r => if p x = true then (i : Int) else idxGo p (i + 1) r
theorem idxGo_any {α : Type} (p : α → Bool) : ∀ (l : List α) (i : Nat), (0 ≤ idxGo p i l ↔ l.any p = true) ∧ (l.any p = false → idxGo p i l = -1)
  | [], i => by simp [idxGo]
  | x :: r, i => by
    have ih := idxGo_any p r (i + 1)
    simp only [idxGo, List.any_cons]
    cases h : p x
    · simp only [Bool.false_or, Bool.false_eq_true, if_false]; exact ih
    · simp
end Go.H
namespace Go.H
open Go
def turnedT (F : Int → Int → Int) (t : Tr) (d : Int) : Tr :=
  .mk t.kind (if t.kind = 5 then F t.n d else t.n) t.name (t.kids.attach.mapIdx fun i x => turnedT F x.1 (W (d + t.under i)))
termination_by SizeOf.sizeOf t
decreasing_by exact Tr.kids_lt x.2
theorem turnedT_eq (F : Int → Int → Int) (t : Tr) (d : Int) : turnedT F t d = .mk t.kind (if t.kind = 5 then F t.n d else t.n) t.name (t.kids.mapIdx fun i x => turnedT F x (W (d + t.under i))) := by
  rw [turnedT, attach_mapIdx t.kids (fun i x => turnedT F x (W (d + t.under i)))]
def liftF (frm b : Int) (n d : Int) : Int := if W (frm + d) ≤ n then W (n + b) else n
theorem turned_lift (frm b : Int) : ∀ (t : Tr) (d : Int), turnedT (liftF frm b) t d = t.lift (W (frm + d)) b := by
  intro t
  induction t using Tr.ind with
  | _ t ih =>
    intro d
    rw [turnedT_eq, Tr.lift_eq]
    have e1 : (if t.kind = 5 then liftF frm b t.n d else t.n) = (if t.kind = 5 ∧ W (frm + d) ≤ t.n then W (t.n + b) else t.n) := by
      unfold liftF
      by_cases h1 : t.kind = 5 <;> by_cases h2 : W (frm + d) ≤ t.n <;> simp [h1, h2]
    rw [e1]
    congr 1
    apply List.ext_getElem
    · simp
    · intro i h1 h2
      simp only [List.getElem_mapIdx]
      have hx : t.kids[i]'(by simpa using h1) ∈ t.kids := List.getElem_mem _
      rw [ih _ hx]
      congr 1
      rw [W_W', W_W]
      congr 1
      omega
def eachT (p : Tr → Int → Bool) (t : Tr) (d : Int) : Bool := p t d || (t.kids.attach.mapIdx fun i x => eachT p x.1 (W (d + t.under i))).any id
termination_by SizeOf.sizeOf t
decreasing_by exact Tr.kids_lt x.2
theorem eachT_eq (p : Tr → Int → Bool) (t : Tr) (d : Int) : eachT p t d = (p t d || (t.kids.mapIdx fun i x => eachT p x (W (d + t.under i))).any id) := by
  rw [eachT, attach_mapIdx t.kids (fun i x => eachT p x (W (d + t.under i)))]
theorem drop_mapIdx {α β : Type} (f : Nat → α → β) (xs : List α) (i : Nat) {x : α} (h : xs[i]? = some x) : (xs.mapIdx f).drop i = f i x :: (xs.mapIdx f).drop (i + 1) :=
  drop_some (by rw [List.getElem?_mapIdx, h]; rfl)
end Go.H
namespace Go.H
open Go
theorem Tr.kids_lams {t x : Tr} (h : t.isTerm false = true) (hx : x ∈ t.kids) : x.isTerm false = true := by
  rw [Tr.isTerm_eq] at h
  have hall : t.kids.all (Tr.isTerm false) = true := by
    split at h
    · simp only [Bool.and_eq_true] at h; exact h.2
    · split at h
      · simp only [Bool.and_eq_true] at h
        have := h.2
        simpa [Tr.isArg] using this
      · split at h
        · simp only [Bool.and_eq_true] at h
          have := h.2
          simpa [Tr.isArg] using this
        · cases h
  rw [List.all_eq_true] at hall
  exact hall x hx
theorem simplesOK_mem {ts : List Tr} {m : Int} (h : simplesOK ts m = true) : ∀ a ∈ ts, a.isSimple = true ∧ a.size ≤ 1000000 := by
  intro a ha
  unfold simplesOK at h
  rw [Bool.and_eq_true, List.all_eq_true] at h
  have := h.2 a ha
  unfold Tr.simpleOK Tr.small at this
  simp only [Bool.and_eq_true, decide_eq_true_eq] at this
  exact ⟨this.2, by omega⟩
theorem termOK_of {t : Tr} (h : t.termOK = true) : t.isTerm false = true ∧ t.size ≤ 150 := by
  unfold Tr.termOK Tr.small at h
  simp only [Bool.and_eq_true, decide_eq_true_eq] at h
  exact ⟨h.2, h.1⟩
def MayList (o : Option (List Int)) (st : St) : Res → St → Prop := fun r st' => st' = st ∧ match o with
  | some l => r = .ret (.tup [ints l, .bool true])
  | none => ∃ p, r = .ret (.tup [p, .bool false])
theorem MayList.no {p : PV} {st st1 : St} (h : Sub st st1) : retR (MayList none st) (.tup [p, .bool false]) st1 := retR_conv (Conv.sub h) ⟨rfl, p, rfl⟩
theorem MayList.yes {p : PV} {l : List Int} {st st1 : St} (h : Conv [p] st1 [ints l] st) (hs : Sub st st1) : retR (MayList (some l) st) (.tup [p, .bool true]) st1 :=
  retR_conv (Conv.tup (Conv.cons h (Conv.sub hs))) ⟨rfl, rfl⟩
end Go.H
namespace Go.H
open Go
set_option linter.unusedVariables false
set_option linter.unusedSimpArgs false

structure Ty where
  name : List UInt8
  type : Tr
theorem Ty.ext_iff' (a b : Ty) : a = b ↔ a.name = b.name ∧ a.type = b.type := by
  cases a; cases b; simp
instance : DecidableEq Ty := fun a b => if h : a.name = b.name ∧ a.type = b.type then .isTrue ((Ty.ext_iff' a b).2 h) else .isFalse fun e => h ((Ty.ext_iff' a b).1 e)
instance : Inhabited Ty := ⟨⟨[], .mk 0 0 [] []⟩⟩
def typed (x : Ty) : PV := .agg (.str x.name :: (tree x.type).cells)
def typeds (xs : List Ty) : PV := .sl 5 false (xs.map typed)
@[simp] theorem typed_isJunk (x : Ty) : (typed x).isJunk = false := rfl
@[simp] theorem typed_isAgg (x : Ty) : (typed x).isAgg = true := rfl
theorem typed_cells (x : Ty) : (typed x).cells = .str x.name :: (tree x.type).cells := rfl
@[simp] theorem typed_len (x : Ty) : (typed x).cells.length = 5 := by rw [typed_cells]; simp
@[simp] theorem typed_ncells (x : Ty) : (typed x).ncells = 5 := by
  have := typed_len x
  unfold typed at this ⊢
  simpa [PV.ncells, PV.cells] using this
@[simp] theorem typed_cellOK (x : Ty) : (typed x).cells.all PV.cellOK = true := by
  rw [typed_cells, List.all_cons, tree_cellOK]; rfl
@[simp] theorem typed_cellOK' (x : Ty) : (∀ y ∈ (typed x).cells, y.cellOK = true) ↔ True := by
  have := typed_cellOK x
  rw [List.all_eq_true] at this
  exact ⟨fun _ => trivial, fun _ => this⟩
@[simp high] theorem takeV_typed (x : Ty) : takeV true 5 (typed x).cells = some (typed x) := by
  rw [typed_cells, tree_cells]; unfold typed; rw [tree_cells]; rfl
@[simp] theorem typed_tail (x : Ty) : (typed x).cells.tail = (tree x.type).cells := rfl
@[simp] theorem typed_drop1 (x : Ty) : (typed x).cells.drop 1 = (tree x.type).cells := rfl
@[simp] theorem typed_f0 (x : Ty) (n : Nat) : takeV false n (typed x).cells = some (.str x.name) := rfl
@[simp] theorem typed_take (x : Ty) : .agg ((typed x).cells.take 5) = typed x := by
  have := typed_len x
  rw [List.take_of_length_le (by omega)]
  rfl
theorem ia_typeds {ts : List Ty} {i : Nat} {k : IntKind} (h : i < ts.length) : q_ia 5 (.sl 5 false (ts.map typed)) (.int k (i : Int)) = some (.ref (typed ts[i]).cells) := by
  simp [q_ia, h]
theorem ia_typed {ts : List Ty} {i : Nat} {t : Ty} (k : IntKind) (h : ts[i]? = some t) : q_ia 5 (.sl 5 false (ts.map typed)) (.int k (i : Int)) = some (.ref (typed t).cells) := by
  obtain ⟨hi, rfl⟩ := List.getElem?_eq_some_iff.1 h
  exact ia_typeds hi
@[simp] theorem typeds_eq (ts : List Ty) : typeds ts = .sl 5 false (ts.map typed) := rfl
@[simp] theorem tree_take4 (t : Tr) : (tree t).cells.take 4 = (tree t).cells := List.take_of_length_le (by rw [tree_len]; omega)
@[simp] theorem tree_agg (t : Tr) : PV.agg (tree t).cells = tree t := by rw [tree_cells, tree_eq]
@[simp] theorem typed_agg (x : Ty) : PV.agg (typed x).cells = typed x := rfl
@[simp] theorem typed_fold (x : Ty) : PV.str x.name :: (tree x.type).cells = (typed x).cells := rfl
@[simp] theorem tree_cat (t : Tr) (s : List UInt8) : PV.agg (.str s :: (tree t).cells) = typed ⟨s, t⟩ := rfl
@[simp] theorem typed_s0 (x : Ty) (y : PV) : setRange (typed x).cells 0 [y] = y :: (tree x.type).cells := by rw [typed_cells, tree_cells]; rfl
@[simp] theorem set5_0 (a b c d e x : PV) : setRange [a, b, c, d, e] 0 [x] = [x, b, c, d, e] := rfl
@[simp] theorem set5_1 (a b c d e : PV) (t : Tr) : setRange [a, b, c, d, e] 1 (tree t).cells = a :: (tree t).cells := by rw [tree_cells]; rfl
@[simp] theorem set5_all (a b c d e : PV) (x : Ty) : setRange [a, b, c, d, e] 0 (typed x).cells = (typed x).cells := by rw [typed_cells, tree_cells]; rfl
@[simp] theorem set5_cat (a b c d e s : PV) (t : Tr) : setRange [a, b, c, d, e] 0 (s :: (tree t).cells) = s :: (tree t).cells := by rw [tree_cells]; rfl
@[simp] theorem set5_typed (x y : Ty) : setRange (typed y).cells 0 (typed x).cells = (typed x).cells := by rw [typed_cells, tree_cells, typed_cells, tree_cells]; rfl

def Ty.bulk (x : Ty) : Nat := x.name.length + x.type.bulk
def Ty.bulks (xs : List Ty) : Nat := xs.length + (xs.map Ty.bulk).sum
theorem Ty.bulk_mem {x : Ty} {xs : List Ty} (h : x ∈ xs) : x.bulk + 1 ≤ Ty.bulks xs := by
  unfold Ty.bulks
  have h1 : x.bulk ≤ (xs.map Ty.bulk).sum := by
    induction xs with
    | nil => cases h
    | cons y ys ih =>
      simp only [List.map_cons, List.sum_cons]
      cases List.mem_cons.1 h with
      | inl e => subst e; omega
      | inr e => have := ih e; omega
  have : 0 < xs.length := List.length_pos_of_mem h
  omega
theorem Ty.length_le (xs : List Ty) : xs.length ≤ Ty.bulks xs := by unfold Ty.bulks; omega

def tyGo (n : List UInt8) : Nat → List Ty → Int
  | _, [] => -1
  | i, x :: r => if x.name = n then i else tyGo n (i + 1) r
def tyAt (xs : List Ty) (n : List UInt8) : Int := tyGo n 0 xs
theorem tyGo_cases (n : List UInt8) : ∀ (i : Nat) (r : List Ty), (tyGo n i r = -1 ∧ ∀ x ∈ r, x.name ≠ n) ∨ ∃ (j : Nat) (h : j < r.length), tyGo n i r = ((i + j : Nat) : Int) ∧ r[j].name = n
  | i, [] => .inl ⟨rfl, by simp⟩
  | i, x :: r => by
    unfold tyGo
    by_cases h : x.name = n
    · rw [if_pos h]; exact .inr ⟨0, by simp, by simp, h⟩
    · rw [if_neg h]
      rcases tyGo_cases n (i + 1) r with ⟨h1, h2⟩ | ⟨j, hj, h1, h2⟩
      · refine .inl ⟨h1, ?_⟩
        intro y hy
        cases List.mem_cons.1 hy with
        | inl e => subst e; exact h
        | inr e => exact h2 y e
      · refine .inr ⟨j + 1, by simp; omega, by rw [h1]; congr 1; omega, ?_⟩
        simpa using h2
theorem tyAt_cases (xs : List Ty) (n : List UInt8) : (tyAt xs n = -1 ∧ ∀ x ∈ xs, x.name ≠ n) ∨ ∃ (j : Nat) (h : j < xs.length), tyAt xs n = (j : Int) ∧ xs[j].name = n := by
  rcases tyGo_cases n 0 xs with h | ⟨j, hj, h1, h2⟩
  · exact .inl h
  · exact .inr ⟨j, hj, by unfold tyAt; rw [h1]; simp, h2⟩
theorem tyAt_neg {xs : List Ty} {n : List UInt8} : tyAt xs n < 0 ↔ ∀ x ∈ xs, x.name ≠ n := by
  rcases tyAt_cases xs n with ⟨h1, h2⟩ | ⟨j, hj, h1, h2⟩
  · exact ⟨fun _ => h2, fun _ => by omega⟩
  · exact ⟨fun h => by omega, fun h => absurd h2 (h _ (List.getElem_mem hj))⟩
def tysGo (xs : List Ty) : Nat → List Ty → Bool
  | _, [] => true
  | i, x :: r => nameOK x.name && x.type.simpleOK && decide (tyAt (xs.take i) x.name < 0) && tysGo xs (i + 1) r
def tysOK (xs : List Ty) : Bool := decide (xs.length ≤ 60) && tysGo xs 0 xs

def noTree : Tr := .mk 0 0 [] []
def Tr.kid (t : Tr) (i : Nat) : Tr := (t.kids[i]?).getD noTree
def headType (cs : List Ty) (ctx holes : List Tr) (t : Tr) : Int ⊕ Tr :=
  if t.kind = 5 then (if t.n ≥ ctx.length then .inl 7 else .inr ((ctx[((ctx.length : Int) - 1 - t.n).toNat]?).getD noTree))
  else if t.kind = 7 then (if t.n ≥ holes.length then .inl 15 else .inr ((holes[t.n.toNat]?).getD noTree))
  else if tyAt cs t.name < 0 then .inl 5 else .inr (((cs[(tyAt cs t.name).toNat]?).map Ty.type).getD noTree)
def argsType (f : Tr → Tr → Int) : List Tr → Tr → Int ⊕ Tr
  | [], b => .inr b
  | x :: r, b => if b.kind = 10 then (if f x (b.kid 0) = 0 then argsType f r (b.kid 1) else .inl (f x (b.kid 0))) else .inl 8
def endType (a b : Tr) : Int := if b.kind = 10 then 8 else if b.name = a.name then 0 else 10
def typedT (cs : List Ty) (holes : List Tr) : Nat → List Tr → Tr → Tr → Int
  | 0, _, _, _ => 0
  | m + 1, ctx, t, a =>
    if t.kind = 4 then (if a.kind = 10 then typedT cs holes m (ctx ++ [a.kid 0]) (t.kid 0) (a.kid 1) else 9)
    else if a.kind = 10 then 9
    else match headType cs ctx holes t with
      | .inl c => c
      | .inr b => match argsType (typedT cs holes m ctx) t.kids b with
        | .inl c => c
        | .inr b => endType a b
def checkT (cs : List Ty) (ctx holes : List Tr) (t a : Tr) : Int :=
  if cs.length > 4096 ∨ ctx.length > 4096 ∨ holes.length > 4096 then 2
  else if !(tysOK cs && simplesOK ctx 40 && simplesOK holes 20 && t.termOK && a.simpleOK) then 1
  else typedT cs holes 1000000 ctx t a
theorem simple_kids {a : Tr} (h : a.isSimple = true) (hk : a.kind = 10) : ∃ x y, a.kids = [x, y] ∧ x.isSimple = true ∧ y.isSimple = true := by
  rw [Tr.isSimple_eq, if_pos hk] at h
  simp only [Bool.and_eq_true, List.all_eq_true] at h
  obtain ⟨h1, h2⟩ := h
  have hl : a.kids.length = 2 := by
    unfold Tr.bare at h1
    simp at h1
    omega
  match hks : a.kids, hl with
  | [x, y], _ =>
    rw [hks] at h2
    exact ⟨x, y, rfl, h2 x (by simp), h2 y (by simp)⟩
end Go.H
namespace Go.H
open Go
theorem lam_kid {t : Tr} (h : t.isTerm false = true) (hk : t.kind = 4) : ∃ x, t.kids = [x] ∧ x.isTerm false = true := by
  rw [Tr.isTerm_eq, if_pos hk] at h
  simp only [Bool.and_eq_true, List.all_eq_true] at h
  obtain ⟨h1, h2⟩ := h
  have hl : t.kids.length = 1 := by
    unfold Tr.bare at h1
    simp at h1
    omega
  match hks : t.kids, hl with
  | [x], _ =>
    rw [hks] at h2
    exact ⟨x, rfl, h2 x (by simp)⟩
theorem var_n {t : Tr} (h : t.isTerm false = true) (hk : t.kind = 5 ∨ t.kind = 7) : 0 ≤ t.n ∧ t.n ≤ 100 := by
  rw [Tr.isTerm_eq, if_neg (by omega), if_pos hk] at h
  simp only [Bool.and_eq_true, decide_eq_true_eq] at h
  exact ⟨h.1.1.1, h.1.1.2⟩
theorem simple_kind {a : Tr} (h : a.isSimple = true) : a.kind = 10 ∨ (a.kind = 9 ∧ a.n = 0 ∧ a.kids = []) := by
  rw [Tr.isSimple_eq] at h
  split at h
  · left; assumption
  · split at h
    · simp only [Bool.and_eq_true, decide_eq_true_eq] at h
      exact .inr ⟨by assumption, h.1.1, List.length_eq_zero_iff.1 h.2⟩
    · cases h
structure TyEnv (cs : List Ty) (holes : List Tr) : Prop where
  consts : ∀ x ∈ cs, x.type.isSimple = true
  hs : ∀ a ∈ holes, a.isSimple = true
  cl : cs.length ≤ 4096
  hl : holes.length ≤ 4096
theorem headType_simple {cs : List Ty} {ctx holes : List Tr} {t b : Tr} (he : TyEnv cs holes) (hc : ∀ a ∈ ctx, a.isSimple = true) (ht : t.isTerm false = true) (h : headType cs ctx holes t = .inr b) : b.isSimple = true := by
  have get : ∀ {l : List Tr} {i : Nat}, (∀ a ∈ l, a.isSimple = true) → i < l.length → (l[i]?.getD noTree).isSimple = true := fun {l i} hl hi => by
    rw [List.getElem?_eq_getElem hi]
    exact hl _ (List.getElem_mem hi)
  unfold headType at h
  split at h
  · split at h
    · cases h
    · have := var_n ht (.inl (by assumption))
      cases h
      exact get hc (by omega)
  · split at h
    · split at h
      · cases h
      · have := var_n ht (.inr (by assumption))
        cases h
        exact get he.hs (by omega)
    · split at h
      · cases h
      · cases h
        rcases tyAt_cases cs t.name with ⟨h1, _⟩ | ⟨j, hj, h1, _⟩
        · omega
        · rw [h1]
          simp only [Int.toNat_natCast, List.getElem?_eq_getElem hj, Option.map_some, Option.getD_some]
          exact he.consts _ (List.getElem_mem hj)
theorem endType_same {a b : Tr} (ha : a.isSimple = true) (hb : b.isSimple = true) (hk : a.kind ≠ 10) (hk' : b.kind ≠ 10) : b.name = a.name ↔ a = b := by
  rcases simple_kind ha with h | ⟨h1, h2, h3⟩
  · exact absurd h hk
  rcases simple_kind hb with h | ⟨g1, g2, g3⟩
  · exact absurd h hk'
  rw [Tr.ext_iff a b, h1, h2, h3, g1, g2, g3]
  simp [eq_comm]
theorem getD_of {l : List Tr} {i : Nat} (h : i < l.length) : (l[i]?).getD noTree = l[i] := by rw [List.getElem?_eq_getElem h]; rfl
theorem kid0 {t : Tr} {x : Tr} {r : List Tr} (h : t.kids = x :: r) : t.kid 0 = x := by unfold Tr.kid; rw [h]; rfl
theorem kid1 {t : Tr} {x y : Tr} {r : List Tr} (h : t.kids = x :: y :: r) : t.kid 1 = y := by unfold Tr.kid; rw [h]; rfl
end Go.H
namespace Go.H
open Go
set_option linter.unusedVariables false
set_option linter.unusedSimpArgs false

theorem sliceE_clip {e : Nat} {f : Bool} {xs : List PV} (k k' : IntKind) : q_sliceE e (.sl e f xs) none (some (.int k (xs.length : Int))) (some (.int k' (xs.length : Int))) = some (.sl e true xs) := by
  simp [q_sliceE, q_slice, optI]
theorem append_full {st : St} {esz bytes : Nat} {xs ys : List PV} {y : PV} {K : PV → St → Prop} (hy : elems st esz y = some ys) (hne : ys ≠ []) (hb : (xs.length + ys.length) * bytes ≤ 140737488355328)
    (hk : ∀ p' st', Grow st esz (xs ++ ys) p' st' → K p' st') : e_append st esz bytes (.sl esz true xs) y K := by
  have e1 : elems st esz (.sl esz true xs) = some xs := elems_sl _ _ _ _
  unfold e_append
  rw [e1, hy]
  refine ⟨hb, rfl, fun h => absurd h hne, fun _ => .inl fun b cap hb' hc => hk _ _ (.inr ⟨b, cap, rfl, hc, ?_, rfl⟩)⟩
  rcases hb' with hb' | hb'
  · cases hb'
  · exact hb'

def seen (xs : List Ty) : List (PV × PV) := xs.map fun x => (.str x.name, .bool true)
theorem findP_seen (n : List UInt8) : ∀ xs : List Ty, findP (.str n) (seen xs) = some (if xs.any fun x => decide (x.name = n) then some (.bool true) else none)
  | [] => rfl
  | x :: r => by
    have ih := findP_seen n r
    unfold seen at ih ⊢
    simp only [List.map_cons, findP, keyEq]
    by_cases h : n = x.name
    · rw [decide_eq_true h]; simp [h]
    · rw [decide_eq_false h]
      simp only [ih]
      have : ¬ x.name = n := fun e => h e.symm
      simp [this]
theorem putP_seen (x : Ty) : ∀ xs : List Ty, (xs.any fun y => decide (y.name = x.name)) = false → putP (.str x.name) (.bool true) (seen xs) = some (seen (xs ++ [x]))
  | [], _ => rfl
  | y :: r, h => by
    simp only [List.any_cons, Bool.or_eq_false_iff, decide_eq_false_iff_not] at h
    have ih := putP_seen x r h.2
    unfold seen at ih ⊢
    simp only [List.map_cons, putP, keyEq, List.cons_append]
    have : ¬ x.name = y.name := fun e => h.1 e.symm
    rw [decide_eq_false this]
    simp only [ih]
theorem tyAt_any {xs : List Ty} {n : List UInt8} : tyAt xs n < 0 ↔ (xs.any fun x => decide (x.name = n)) = false := by
  rw [tyAt_neg, List.any_eq_false]
  simp
theorem lookup_seen {st : St} {b : Nat} {xs : List Ty} (h : st b = some (.map (seen xs))) (n : List UInt8) : q_lookup st .string (.bool false) false (.map b) (.str n) = some (.bool (xs.any fun x => decide (x.name = n))) := by
  unfold q_lookup
  rw [if_pos ⟨rfl, rfl⟩]
  simp only [h, findP_seen, lookR]
  split <;> simp_all
theorem mapset_seen {st : St} {b : Nat} {xs : List Ty} {x : Ty} {K : St → Prop} (h : st b = some (.map (seen xs))) (hn : (xs.any fun y => decide (y.name = x.name)) = false) (hk : K (upd st b (.map (seen (xs ++ [x]))))) : e_mapset st .string (.map b) (.str x.name) (.bool true) K := by
  unfold e_mapset
  rw [if_pos ⟨rfl, rfl⟩]
  simp only [h, putP_seen x xs hn]
  exact hk

def halt (h : TypeId) (c p : Int) : PV := .iface h (.agg [.int .i64 c, .int .i64 p])
def Stops (h : TypeId) (c p : Int) (st : St) : Res → St → Prop := fun r st' => st' = st ∧ ((c = 0 ∧ r = .ret (.tup [])) ∨ (c ≠ 0 ∧ r = .pan (halt h c p)))
theorem Stops.ret {h : TypeId} {c p : Int} {st st1 : St} (hc : c = 0) (hs : Sub st st1) : retR (Stops h c p st) (.tup []) st1 := retR_sub hs ⟨rfl, .inl ⟨hc, rfl⟩⟩
theorem panR_conv {R : Res → St → Prop} {p p' : PV} {st st' : St} (hc : Conv [p] st [p'] st') (h : R (.pan p') st') : panR R p st := hRet.intro hc h
theorem Stops.pan {h : TypeId} {c c' p p' : Int} {st st1 : St} (hc : c ≠ 0) (e : c = c') (e' : p = p') (hs : Sub st st1) : panR (Stops h c' p' st) (halt h c p) st1 := by
  subst e e'
  exact panR_conv (Conv.sub hs) ⟨rfl, .inr ⟨hc, rfl⟩⟩
theorem callK_stops {P : Program} {g : FuncId} {us : List PV} {st : St} {K Kp : PV → St → Prop} {h : TypeId} {c p : Int} (hc : HCalls P g us st (Stops h c p st)) (hy : c = 0 → K (.tup []) st) (hn : c ≠ 0 → Kp (halt h c p) st) : callK P g us st K Kp := by
  refine callK_of hc (fun q st' h => ?_) (fun q st' h => ?_)
  · obtain ⟨rfl, h⟩ := h
    rcases h with ⟨h, e⟩ | ⟨h, e⟩
    · cases e; exact hy h
    · cases e
  · obtain ⟨rfl, h⟩ := h
    rcases h with ⟨h, e⟩ | ⟨h, e⟩
    · cases e
    · cases e; exact hn h
def Heads (h : TypeId) (x : Int ⊕ Tr) (st : St) : Res → St → Prop := fun r st' => st' = st ∧ match x with | .inr b => r = .ret (tree b) | .inl c => r = .pan (halt h c 0)
theorem Heads.ret {h : TypeId} {x : Int ⊕ Tr} {b : Tr} {st st1 : St} (e : x = .inr b) (hs : Sub st st1) : retR (Heads h x st) (tree b) st1 := retR_sub hs ⟨rfl, by rw [e]⟩
theorem Heads.pan {h : TypeId} {x : Int ⊕ Tr} {c : Int} {st st1 : St} (e : x = .inl c) (hs : Sub st st1) : panR (Heads h x st) (halt h c 0) st1 := panR_conv (Conv.sub hs) ⟨rfl, by rw [e]⟩
theorem callK_heads {P : Program} {g : FuncId} {us : List PV} {st : St} {K Kp : PV → St → Prop} {h : TypeId} {x : Int ⊕ Tr} (hc : HCalls P g us st (Heads h x st)) (hy : ∀ b, x = .inr b → K (tree b) st) (hn : ∀ c, x = .inl c → Kp (halt h c 0) st) : callK P g us st K Kp := by
  refine callK_of hc (fun q st' h => ?_) (fun q st' h => ?_)
  · obtain ⟨rfl, h⟩ := h
    cases x with
    | inr b => cases h; exact hy b rfl
    | inl c => cases h
  · obtain ⟨rfl, h⟩ := h
    cases x with
    | inr b => cases h
    | inl c => cases h; exact hn c rfl
def most (x : Int) : List Int → Int
  | [] => x
  | y :: r => most (if y > x then y else x) r
theorem most_any : ∀ (r : List Int) (x m : Int), m < most x r ↔ (x :: r).any (fun y => decide (y > m)) = true
  | [], x, m => by simp [most]
  | y :: r, x, m => by
    rw [most, most_any r]
    simp only [List.any_cons, Bool.or_eq_true, decide_eq_true_eq]
    by_cases h : y > x
    · rw [if_pos h]; constructor
      · rintro (h | h)
        · exact .inr (.inl h)
        · exact .inr (.inr h)
      · rintro (h | h | h)
        · left; omega
        · exact .inl h
        · exact .inr h
    · rw [if_neg h]; constructor
      · rintro (h | h)
        · exact .inl h
        · exact .inr (.inr h)
      · rintro (h | h | h)
        · exact .inl h
        · left; omega
        · exact .inr h
theorem headType_ne {cs : List Ty} {ctx holes : List Tr} {t : Tr} {c : Int} (h : headType cs ctx holes t = .inl c) : c ≠ 0 := by
  unfold headType at h
  split at h
  · split at h
    · cases h; omega
    · cases h
  · split at h
    · split at h
      · cases h; omega
      · cases h
    · split at h
      · cases h; omega
      · cases h
@[simp] theorem set1_all (x a : PV) : setRange [x] 0 [a] = [a] := rfl
@[simp] theorem set2_all (x y a b : PV) : setRange [x, y] 0 [a, b] = [a, b] := rfl
theorem fin_post {P : Program} {T : TypeId → Option TD} (hT : TyOK P T) {w0 w : World} {st0 st : St} (hev : Evo w0 st0 w st) (hg : Good w st) {env : List PV} {tmps : Array Value} (hs : ROs (Cw w st) env tmps.toList) {fn : Func} {R : Res → St → Prop} (h : resK T st env fn.results.toList [] (finK R st)) :
    ∃ v, (results fn tmps).run P w = .ok v w ∧ Post R w0 st0 (.returned v) w := by
  obtain ⟨p, v, h1, h2, p', st'', hcv, hr⟩ := fin_sound (P := P) hT hg hs h
  obtain ⟨hg2, he2, hv2⟩ := hcv w hg
  obtain ⟨v', vs', e, h3, _⟩ := hv2 [v] ⟨v, [], rfl, h2, rfl⟩
  simp only [List.cons.injEq] at e
  obtain ⟨rfl, _⟩ := e
  exact ⟨v, h1, .ret p', st'', hev.trans he2, hg2, hr, h3⟩
end Go.H
namespace Go.H
open Go
set_option linter.unusedVariables false
set_option linter.unusedSimpArgs false

theorem lams_size : ∀ (k : Nat) (t : Tr), (lams k t).size = t.size + k
  | 0, t => rfl
  | k + 1, t => by
    rw [lams, lams_size k]
    have : (Tr.lam t).size = t.size + 1 := by unfold Tr.lam; rw [Tr.size_eq]; simp; omega
    omega
theorem lam_term {t : Tr} (h : t.isTerm false = true) : (Tr.lam t).isTerm false = true := by
  rw [Tr.isTerm_eq]
  simp [Tr.lam, Tr.bare, h]
theorem simple_size : ∀ (N : Nat) (a : Tr), SizeOf.sizeOf a = N → a.isSimple = true → a.size = Tr.sizes a.args + a.args.length + 1 ∧ a.target.isSimple = true ∧ a.target.kind ≠ 10 := by
  intro N
  induction N using Nat.strongRecOn with
  | _ N ih =>
    intro a hN ha
    by_cases hk : a.kind = 10
    · obtain ⟨x, y, hxy, hx, hy⟩ := simple_kids ha hk
      obtain ⟨h1, h2, h3⟩ := ih _ (by rw [← hN]; exact Tr.kids_lt (x := y) (by rw [hxy]; simp)) y rfl hy
      rw [Tr.args_arrow hk hxy, Tr.target_arrow hk hxy]
      refine ⟨?_, h2, h3⟩
      rw [Tr.size_kids, hxy]
      simp only [Tr.sizes, List.map_cons, List.sum_cons, List.map_nil, List.sum_nil, List.length_cons] at h1 ⊢
      omega
    · rw [Tr.args_base hk, Tr.target_base hk]
      rcases simple_kind ha with h | ⟨_, _, h⟩
      · exact absurd h hk
      · refine ⟨?_, ha, hk⟩
        rw [Tr.size_kids, h]
        simp [Tr.sizes]
abbrev longV (n : Int) (a : Tr) : Tr := longForm (Tr.var n []) a
theorem longV_eq (n : Int) (a : Tr) (hn : 0 ≤ n ∧ n ≤ 1000000) (hk : a.args.length ≤ 1000000) :
    longV n a = lams a.args.length (.mk 5 (n + a.args.length) [] (a.args.mapIdx fun i b => longV ((a.args.length : Int) - 1 - i) b)) := by
  unfold longV
  rw [longForm_eq, Tr.lift_eq]
  simp only [Tr.var, Tr.kind_mk, Tr.n_mk, Tr.name_mk, Tr.kids_mk, List.mapIdx_nil, List.nil_append]
  rw [if_pos ⟨trivial, hn.1⟩, W_in (by omega)]
  congr 2
  refine List.ext_getElem (by simp) fun i h1 h2 => ?_
  simp at h1
  simp only [List.getElem_mapIdx]
  have e : W (W ((a.args.length : Int) - 1) - i) = (a.args.length : Int) - 1 - i := by rw [W_in (n := (a.args.length : Int) - 1) (by omega), W_in (by omega)]
  exact congrArg (fun z => longForm (Tr.mk 5 z [] []) a.args[i]) e
theorem sizes_mapIdx {f : Nat → Tr → Tr} : ∀ (l : List Tr), (∀ (i : Nat) (h : i < l.length), (f i l[i]).size = l[i].size) → Tr.sizes (l.mapIdx f) = Tr.sizes l := by
  intro l h
  unfold Tr.sizes
  congr 1
  refine List.ext_getElem (by simp) fun i h1 h2 => ?_
  simp at h1
  simp only [List.getElem_map, List.getElem_mapIdx]
  exact h i h1
def sNat : List UInt8 := [110, 97, 116]
def sO : List UInt8 := [111]
def Tr.base (s : List UInt8) : Tr := .mk 9 0 s []
def Tr.arrow (x y : Tr) : Tr := .mk 10 0 [] [x, y]
theorem base_simple {s : List UInt8} (h : nameOK s = true) : (Tr.base s).isSimple = true := by
  rw [Tr.isSimple_eq]; simp [Tr.base, h]
theorem arrow_simple {x y : Tr} (hx : x.isSimple = true) (hy : y.isSimple = true) : (Tr.arrow x y).isSimple = true := by
  rw [Tr.isSimple_eq]; simp [Tr.arrow, Tr.bare, hx, hy]
@[simp] theorem base_size (s : List UInt8) : (Tr.base s).size = 1 := by rw [Tr.size_eq]; simp [Tr.base]
@[simp] theorem arrow_size (x y : Tr) : (Tr.arrow x y).size = 1 + x.size + y.size := by rw [Tr.size_eq]; simp [Tr.arrow]; omega
theorem nameOK_nat : nameOK sNat = true := by decide
theorem nameOK_o : nameOK sO = true := by decide
def drawnS : Nat → Tr → Prop
  | 0, t => t = Tr.base sNat ∨ t = Tr.base sO
  | d + 1, t => (t = Tr.base sNat ∨ t = Tr.base sO) ∨ ∃ x y, drawnS d x ∧ drawnS d y ∧ t = Tr.arrow x y
def someConsts : List Ty := [⟨[122], .base sNat⟩, ⟨[115], .arrow (.base sNat) (.base sNat)⟩, ⟨[99], .arrow (.base sNat) (.arrow (.base sO) (.base sO))⟩, ⟨[97], .base sO⟩, ⟨[97, 108, 108], .arrow (.arrow (.base sNat) (.base sO)) (.base sO)⟩, ⟨[105, 116], .arrow (.arrow (.base sNat) (.base sNat)) (.arrow (.base sNat) (.base sNat))⟩]
theorem simpleOK_of {t : Tr} (h : t.isSimple = true) (hs : t.size ≤ 150) : t.simpleOK = true := by
  unfold Tr.simpleOK Tr.small
  rw [h, decide_eq_true hs]; rfl
theorem someConsts_ok : tysOK someConsts = true := by
  have n1 := base_simple nameOK_nat
  have n2 := base_simple nameOK_o
  have s : ∀ {t : Tr}, t.isSimple = true → t.size ≤ 150 → t.simpleOK = true := simpleOK_of
  unfold tysOK someConsts
  simp only [List.length_cons, List.length_nil]
  rw [decide_eq_true (by omega), Bool.true_and]
  simp only [tysGo]
  rw [s n1 (by simp), s (arrow_simple n1 n1) (by simp), s (arrow_simple n1 (arrow_simple n2 n2)) (by simp), s n2 (by simp), s (arrow_simple (arrow_simple n1 n2) n2) (by simp), s (arrow_simple (arrow_simple n1 n1) (arrow_simple n1 n1)) (by simp)]
  simp [tyAt, tyGo]
  decide
def Tr.high (t : Tr) : Bool := (decide (t.kind = 5) && decide (100 < t.n)) || t.kids.attach.any fun x => Tr.high x.1
termination_by SizeOf.sizeOf t
decreasing_by exact Tr.kids_lt x.2
theorem Tr.high_eq (t : Tr) : t.high = ((decide (t.kind = 5) && decide (100 < t.n)) || t.kids.any Tr.high) := by
  rw [Tr.high]
  congr 1
  simp
def Tr.big (t : Tr) : Bool := !t.small || t.high
def countOK (c : Int) (t : Tr) : Prop := c + t.size ≤ 150 ∧ t.high = false
theorem term_high : ∀ (t : Tr), t.isTerm false = true → t.high = false := by
  intro t
  induction t using Tr.ind with
  | _ t ih =>
    intro h
    rw [Tr.high_eq]
    have h1 : (t.kids.any Tr.high) = false := by
      rw [List.any_eq_false]
      intro x hx
      rw [ih x hx (Tr.kids_lams h hx)]
      simp
    rw [h1, Bool.or_false]
    by_cases h5 : t.kind = 5
    · have := var_n h (.inl h5)
      simp [h5]
      omega
    · simp [h5]
theorem upd_fold {st : St} {b : Nat} {o : HObj} (h : st b = some o) : upd st b o = st := by
  funext c; unfold Go.H.upd; split
  · rename_i e; rw [e, h]
  · rfl
theorem longV_size : ∀ (N : Nat) (a : Tr), SizeOf.sizeOf a = N → a.isSimple = true → ∀ n : Int, (longForm (Tr.var n []) a).size = a.size := by
  intro N
  induction N using Nat.strongRecOn with
  | _ N ih =>
    intro a hN ha n
    obtain ⟨h1, _, _⟩ := simple_size _ a rfl ha
    rw [longForm_eq, lams_size, Tr.size_kids, Tr.kids_mk]
    have e : ((Tr.var n []).lift 0 a.args.length).kids = [] := by rw [Tr.lift_eq]; simp [Tr.var]
    rw [e, List.nil_append, sizes_mapIdx _ fun i h => ih _ (by rw [← hN]; exact Tr.args_lt a _ (List.getElem_mem h)) _ rfl (Tr.args_simple a ha _ (List.getElem_mem h)) _]
    omega
def bytesP (bs : List UInt8) : PV := .sl 1 false (bs.map fun c => .int .u8 (c.toNat : Int))
@[simp] theorem bytesP_len (bs : List UInt8) : q_len (bytesP bs) = some (.int .i64 (bs.length : Int)) := by simp [bytesP]
theorem bytesP_ia {bs : List UInt8} {i : Nat} {k : IntKind} (h : i < bs.length) : q_ia 1 (bytesP bs) (.int k (i : Int)) = some (.ref [.int .u8 (bs[i].toNat : Int)]) := by
  simp [q_ia, bytesP, h, PV.cells]
structure Src (bs : List UInt8) (M : Int) (b : Nat) (st : St) : Prop where
  is : ∃ at_ seed : Int, st b = some (.cells [bytesP bs, .int .i64 at_, .int .i64 seed]) ∧ 0 ≤ at_ ∧ at_ ≤ M ∧ 0 ≤ seed ∧ seed < 2147483648
def Drew (bs : List UInt8) (M : Int) (b : Nat) (Q : PV → Prop) (st : St) : Res → St → Prop := fun r s => ∃ p o, r = .ret p ∧ Q p ∧ s = upd st b o ∧ Src bs M b s
theorem callK_drew {P : Program} {g : FuncId} {us : List PV} {st : St} {K Kp : PV → St → Prop} {bs : List UInt8} {M : Int} {b : Nat} {Q : PV → Prop} (hc : HCalls P g us st (Drew bs M b Q st)) (hk : ∀ p o, Q p → Src bs M b (upd st b o) → K p (upd st b o)) : callK P g us st K Kp := by
  refine callK_of hc (fun p s h => ?_) (fun p s h => ?_)
  · obtain ⟨p', o, h, hq, rfl, hs⟩ := h
    cases h
    exact hk _ _ hq hs
  · obtain ⟨_, _, h, _⟩ := h
    cases h
theorem Drew.mk {bs : List UInt8} {M : Int} {b : Nat} {Q : PV → Prop} {st st1 : St} {p : PV} {o : HObj} (hq : Q p) (hs : Src bs M b (upd st b o)) (h : Sub (upd st b o) st1) : retR (Drew bs M b Q st) p st1 := retR_sub h ⟨p, o, rfl, hq, rfl, hs⟩
theorem Src.mk' {bs : List UInt8} {M : Int} {b : Nat} {st : St} {a s : Int} (h1 : 0 ≤ a) (h2 : a ≤ M) (h3 : 0 ≤ s) (h4 : s < 2147483648) : Src bs M b (upd st b (.cells [bytesP bs, .int .i64 a, .int .i64 s])) := ⟨a, s, upd_same _ _ _, h1, h2, h3, h4⟩
theorem Src.mono {bs : List UInt8} {M M' : Int} {b : Nat} {st : St} (h : Src bs M b st) (hm : M ≤ M') : Src bs M' b st := by
  obtain ⟨a, s, h1, h2, h3, h4⟩ := h.is
  exact ⟨a, s, h1, h2, by omega, h4⟩
theorem rem_nat {i : Int} {L : Nat} (h : 0 ≤ i) : i.tmod (L : Int) = ((i.toNat % L : Nat) : Int) := by
  rw [Int.tmod_eq_emod_of_nonneg h, Int.natCast_emod, Int.toNat_of_nonneg h]
theorem quo_nat {i : Int} {L : Nat} (h : 0 ≤ i) : i.tdiv (L : Int) = ((i.toNat / L : Nat) : Int) := by
  rw [Int.tdiv_eq_ediv_of_nonneg h, Int.natCast_ediv, Int.toNat_of_nonneg h]
theorem q_rem_nat {i : Int} {L : Nat} (h : 0 ≤ i) (hL : 0 < L) : q_int .rem .i64 i (L : Int) = some (.int .i64 ((i.toNat % L : Nat) : Int)) := by
  simp only [q_int]
  rw [if_neg (by omega), rem_nat h]
theorem q_quo_nat {i : Int} {L : Nat} (h : 0 ≤ i) (hi : i ≤ 1000000000000) (hL : 0 < L) : q_int .quo .i64 i (L : Int) = some (.int .i64 ((i.toNat / L : Nat) : Int)) := by
  simp only [q_int]
  have : i.toNat / L ≤ i.toNat := Nat.div_le_self _ _
  have h2 : ((i.toNat / L : Nat) : Int) ≤ (i.toNat : Int) := Int.ofNat_le.2 this
  have h3 : (0 : Int) ≤ ((i.toNat / L : Nat) : Int) := Int.natCast_nonneg _
  rw [if_neg (by omega), quo_nat h, wrap64 (by omega) (by omega)]
theorem byte_le (c : UInt8) : (c.toNat : Int) ≤ 255 := by have := UInt8.toNat_lt c; omega
theorem q_rem {k : IntKind} {a b : Int} (h : b ≠ 0) : q_int .rem k a b = some (.int k (a.tmod b)) := by
  simp only [q_int]
  rw [if_neg h]
@[simp] theorem set3_0 (a b c x : PV) : setRange [a, b, c] 0 [x] = [x, b, c] := rfl
@[simp] theorem set3_1 (a b c x : PV) : setRange [a, b, c] 1 [x] = [a, x, c] := rfl
@[simp] theorem set3_2 (a b c x : PV) : setRange [a, b, c] 2 [x] = [a, b, x] := rfl
@[simp] theorem takeV_bytes (n : Nat) (bs : List UInt8) (cs : List PV) : takeV false n (bytesP bs :: cs) = some (bytesP bs) := rfl
theorem sourceLit (bs : List UInt8) (n : Int) : q_struct [PV.sl 0 true [], PV.int IntKind.i64 0, PV.int IntKind.i64 0] [(0, 1, bytesP bs), (2, 1, PV.int IntKind.i64 n)] = some (.agg [bytesP bs, .int .i64 0, .int .i64 n]) := rfl
def Begun (bs : List UInt8) (st : St) : Res → St → Prop := fun r s => ∃ b o, st b = none ∧ r = .ret (.ptr b 0) ∧ s = upd st b o ∧ Src bs 0 b s
theorem callK_begun {P : Program} {g : FuncId} {us : List PV} {st : St} {K Kp : PV → St → Prop} {bs : List UInt8} (hc : HCalls P g us st (Begun bs st)) (hk : ∀ b o, st b = none → Src bs 0 b (upd st b o) → K (.ptr b 0) (upd st b o)) : callK P g us st K Kp := by
  refine callK_of hc (fun p s h => ?_) (fun p s h => ?_)
  · obtain ⟨b, o, hb, h, rfl, hs⟩ := h
    cases h
    exact hk _ _ hb hs
  · obtain ⟨_, _, _, h, _⟩ := h
    cases h
def OneOf (n : Int) (p : PV) : Prop := ∃ k : Int, p = .int .i64 k ∧ 0 ≤ k ∧ (k < n ∨ k = 0)
def ABool (p : PV) : Prop := ∃ v : Bool, p = .bool v
def ATree (C : Tr → Prop) (p : PV) : Prop := ∃ t, p = tree t ∧ C t
def Around (b : Nat) (st s : St) : Prop := ∀ c o, c ≠ b → st c = some o → s c = some o
theorem Around.refl (b : Nat) (st : St) : Around b st st := fun _ _ _ h => h
theorem Around.put {b c : Nat} {st s : St} (h : Around b st s) (hc : st c = none) (o : HObj) : Around b st (upd s c o) := fun d od hd hs => by
  have : d ≠ c := fun e => by rw [e, hc] at hs; cases hs
  rw [upd_ne _ _ this]
  exact h d od hd hs
theorem Around.draw {b : Nat} {st s : St} (h : Around b st s) (o : HObj) : Around b st (upd s b o) := fun d od hd hs => by
  rw [upd_ne _ _ hd]
  exact h d od hd hs
theorem Around.isNone {b c : Nat} {st s : St} (h : Around b st s) (hne : c ≠ b) (hc : s c = none) : st c = none := by
  cases hs : st c with
  | none => rfl
  | some o => rw [h c o hne hs] at hc; cases hc
theorem Src.ne {bs : List UInt8} {M : Int} {b c : Nat} {st : St} (h : Src bs M b st) (hc : st c = none) : b ≠ c := fun e => by
  obtain ⟨a, s, h1, _⟩ := h.is
  rw [e, hc] at h1; cases h1
theorem Src.put {bs : List UInt8} {M : Int} {b c : Nat} {st : St} (h : Src bs M b st) (hne : b ≠ c) (o : HObj) : Src bs M b (upd st c o) := by
  obtain ⟨a, s, h1, h2⟩ := h.is
  exact ⟨a, s, by rw [upd_ne _ _ hne]; exact h1, h2⟩
theorem Drew.fin {bs : List UInt8} {M : Int} {b : Nat} {Q : PV → Prop} {st s : St} {p : PV} (hq : Q p) (hs : Src bs M b s) (ha : Around b st s) : retR (Drew bs M b Q st) p s := by
  obtain ⟨a, e, h1, h2, h3, h4, h5⟩ := hs.is
  refine Drew.mk (o := .cells [bytesP bs, .int .i64 a, .int .i64 e]) hq (Src.mk' h2 h3 h4 h5) fun c oc hc => ?_
  by_cases hcb : c = b
  · subst hcb; rw [upd_same] at hc; rw [h1]; exact hc
  · rw [upd_ne _ _ hcb] at hc; exact ha c oc hcb hc
theorem typedLit (s : List UInt8) (t : Tr) : q_struct [PV.str [], PV.int IntKind.i64 0, PV.int IntKind.i64 0, PV.str [], PV.sl 0 true []] [(0, 1, PV.str s), (1, 4, tree t)] = some (typed ⟨s, t⟩) := by
  unfold q_struct
  simp [fillL, PV.ncells, PV.cells, PV.cellOK, tree_cells, typed]
  all_goals (try (rw [tree_eq]; simp [fillL, PV.ncells, PV.cells, PV.cellOK]))
end Go.H
namespace Go.H
open Go
set_option linter.unusedVariables false
set_option linter.unusedSimpArgs false

def kidsT (f : Nat → Tr → Int → (Int ⊕ Tr) × Int) : Nat → List Tr → Int → (Int ⊕ List Tr) × Int
  | _, [], s => (.inr [], s)
  | i, x :: r, s => match f i x s with
    | (.inl c, s) => (.inl c, s)
    | (.inr y, s) => match kidsT f (i + 1) r s with
      | (.inl c, s) => (.inl c, s)
      | (.inr ys, s) => (.inr (y :: ys), s)
def redT (sub : Tr → Tr → Tr → Int → (Int ⊕ Tr) × Int) : Tr → Tr → List Tr → Int → (Int ⊕ Tr) × Int
  | f, a, [], s => (.inr f, s)
  | f, a, x :: r, s =>
    if a.kind = 10 ∧ f.kind = 4 then
      (if s + 1 > 20000 then (.inl 17, s + 1)
      else match sub x (a.kid 0) (f.kid 0) (s + 1) with
        | (.inl c, s) => (.inl c, s)
        | (.inr g, s) => redT sub g (a.kid 1) r s)
    else (.inl 12, s)
def subT : Nat → Tr → Tr → Tr → Int → Int → (Int ⊕ Tr) × Int
  | 0, _, _, _, _, s => (.inl 0, s)
  | N + 1, m, a, t, n, s =>
    match kidsT (fun i x s => subT N m a x (W (n + t.under i)) s) 0 t.kids s with
    | (.inl c, s) => (.inl c, s)
    | (.inr ks, s) =>
      if t.kind = 5 ∧ t.n = n then
        (if (m.lift 0 n).big = true then (.inl 11, s) else redT (fun x a f s => subT N x a f 0 s) (m.lift 0 n) a ks s)
      else if (Tr.mk t.kind (if t.kind = 5 ∧ n < t.n then W (t.n - 1) else t.n) t.name ks).big = true then (.inl 11, s)
      else (.inr (.mk t.kind (if t.kind = 5 ∧ n < t.n then W (t.n - 1) else t.n) t.name ks), s)
def Tr.lamy (t : Tr) : Bool := (decide (t.kind = 4 → t.kids.length = 1)) && t.kids.attach.all fun x => Tr.lamy x.1
termination_by SizeOf.sizeOf t
decreasing_by exact Tr.kids_lt x.2
theorem Tr.lamy_eq (t : Tr) : t.lamy = ((decide (t.kind = 4 → t.kids.length = 1)) && t.kids.all Tr.lamy) := by
  rw [Tr.lamy, attach_all t.kids Tr.lamy]
theorem Tr.lamy_kids {t x : Tr} (h : t.lamy = true) (hx : x ∈ t.kids) : x.lamy = true := by
  rw [Tr.lamy_eq, Bool.and_eq_true, List.all_eq_true] at h
  exact h.2 x hx
theorem Tr.lamy_lam {t : Tr} (h : t.lamy = true) (hk : t.kind = 4) : ∃ x, t.kids = [x] ∧ x.lamy = true := by
  rw [Tr.lamy_eq, Bool.and_eq_true, decide_eq_true_eq, List.all_eq_true] at h
  match hks : t.kids, h.1 hk with
  | [x], _ => exact ⟨x, rfl, h.2 x (by rw [hks]; simp)⟩
theorem lift_lamy : ∀ (t : Tr) (f b : Int), t.lamy = true → (t.lift f b).lamy = true := by
  intro t
  induction t using Tr.ind with
  | _ t ih =>
    intro f b h
    rw [Tr.lift_eq, Tr.lamy_eq, Bool.and_eq_true, decide_eq_true_eq, List.all_eq_true]
    have h2 := h
    rw [Tr.lamy_eq, Bool.and_eq_true, decide_eq_true_eq] at h2
    refine ⟨fun hk => by simpa using h2.1 (by simpa using hk), fun y hy => ?_⟩
    simp only [Tr.kids_mk, List.mem_mapIdx] at hy
    obtain ⟨i, hi, rfl⟩ := hy
    exact ih _ (List.getElem_mem hi) _ _ (Tr.lamy_kids h (List.getElem_mem hi))
theorem lift_size : ∀ (t : Tr) (f b : Int), (t.lift f b).size = t.size := by
  intro t
  induction t using Tr.ind with
  | _ t ih =>
    intro f b
    rw [Tr.lift_eq, Tr.size_kids, Tr.kids_mk, sizes_mapIdx _ fun i h => ih _ (List.getElem_mem h) _ _, ← Tr.size_kids]
theorem term_lamy : ∀ (t : Tr), t.isTerm false = true → t.lamy = true := by
  intro t
  induction t using Tr.ind with
  | _ t ih =>
    intro h
    rw [Tr.lamy_eq, Bool.and_eq_true, decide_eq_true_eq, List.all_eq_true]
    refine ⟨fun hk => ?_, fun x hx => ih x hx (Tr.kids_lams h hx)⟩
    obtain ⟨x, hx, _⟩ := lam_kid h hk
    rw [hx]; rfl
def FineT (r : (Int ⊕ Tr) × Int) (s : Int) : Prop := s ≤ r.2 ∧ r.2 ≤ 20001 ∧ (∀ c, r.1 = .inl c → c ≠ 0) ∧ ∀ t, r.1 = .inr t → t.lamy = true ∧ t.big = false ∧ r.2 ≤ 20000
theorem kidsT_fine {f : Nat → Tr → Int → (Int ⊕ Tr) × Int} : ∀ (l : List Tr) (i : Nat) (s : Int), s ≤ 20000 → (∀ (j : Nat) (x : Tr) (s' : Int), x ∈ l → s ≤ s' → s' ≤ 20000 → FineT (f j x s') s') →
    s ≤ (kidsT f i l s).2 ∧ (kidsT f i l s).2 ≤ 20001 ∧ (∀ c, (kidsT f i l s).1 = .inl c → c ≠ 0) ∧ (∀ ys, (kidsT f i l s).1 = .inr ys → ys.length = l.length ∧ (∀ y ∈ ys, y.lamy = true ∧ y.big = false) ∧ (kidsT f i l s).2 ≤ 20000)
  | [], i, s, hs, hf => by simp only [kidsT]; exact ⟨by omega, by omega, fun c h => (by cases h), fun ys h => by cases h; exact ⟨rfl, by simp, hs⟩⟩
  | x :: r, i, s, hs, hf => by
    obtain ⟨h1, h2, h3, h4⟩ := hf i x s (by simp) (by omega) hs
    rw [kidsT]
    match hfx : f i x s with
    | (.inl c, s1) =>
      rw [hfx] at h1 h2 h3
      simp only at h1 h2 h3 ⊢
      exact ⟨h1, h2, fun c' h => by cases h; exact h3 _ rfl, fun ys h => by cases h⟩
    | (.inr y, s1) =>
      rw [hfx] at h1 h2 h4
      simp only at h1 h2 h4 ⊢
      obtain ⟨g1, g2, g3⟩ := h4 y rfl
      obtain ⟨k1, k2, k3, k4⟩ := kidsT_fine r (i + 1) s1 g3 (fun j z s' hz hs1 hs2 => hf j z s' (by simp [hz]) (by omega) hs2)
      match hkr : kidsT f (i + 1) r s1 with
      | (.inl c, s2) =>
        rw [hkr] at k1 k2 k3
        simp only at k1 k2 k3 ⊢
        exact ⟨by omega, k2, fun c' h => by cases h; exact k3 _ rfl, fun ys h => by cases h⟩
      | (.inr ys, s2) =>
        rw [hkr] at k1 k2 k4
        simp only at k1 k2 k4 ⊢
        obtain ⟨e1, e2, e3⟩ := k4 ys rfl
        refine ⟨by omega, k2, (fun c' h => by cases h), fun zs h => ?_⟩
        cases h
        exact ⟨by simp [e1], by simpa using ⟨⟨g1, g2⟩, e2⟩, e3⟩
theorem redT_fine {sub : Tr → Tr → Tr → Int → (Int ⊕ Tr) × Int} : ∀ (l : List Tr) (f a : Tr) (s : Int), s ≤ 20000 → a.isSimple = true → f.lamy = true → f.big = false → (∀ x ∈ l, x.lamy = true) →
    (∀ (x b g : Tr) (s' : Int), x.lamy = true → b.isSimple = true → g.lamy = true → g.size ≤ 150 → s < s' → s' ≤ 20000 → FineT (sub x b g s') s') → FineT (redT sub f a l s) s
  | [], f, a, s, hs, ha, hf, hfb, hl, hsub => ⟨by simp [redT], by simp [redT]; omega, fun c h => by simp [redT] at h, fun t h => by simp [redT] at h; subst h; exact ⟨hf, hfb, by simpa [redT] using hs⟩⟩
  | x :: r, f, a, s, hs, ha, hf, hfb, hl, hsub => by
    rw [redT]
    split
    · rename_i hk
      obtain ⟨y, z, hyz, hy, hz⟩ := simple_kids ha hk.1
      obtain ⟨g, hg, hgl⟩ := Tr.lamy_lam hf hk.2
      split
      · exact ⟨by simp; omega, by simp; omega, fun c h => by cases h; decide, fun t h => by cases h⟩
      · rename_i hgt
        have hsz : g.size ≤ 150 := by
          have h1 : g.size < f.size := Tr.kid_size (by rw [hg]; simp)
          unfold Tr.big Tr.small at hfb
          simp only [Bool.or_eq_false_iff, Bool.not_eq_false', decide_eq_true_eq] at hfb
          omega
        have h := hsub x (a.kid 0) (f.kid 0) (s + 1) (hl x (by simp)) (by rw [kid0 hyz]; exact hy) (by rw [kid0 hg]; exact hgl) (by rw [kid0 hg]; exact hsz) (by omega) (by omega)
        obtain ⟨h1, h2, h3, h4⟩ := h
        match hfx : sub x (a.kid 0) (f.kid 0) (s + 1) with
        | (.inl c, s1) =>
          rw [hfx] at h1 h2 h3
          simp only at h1 h2 h3 ⊢
          exact ⟨by simp only; omega, h2, fun c' h => by cases h; exact h3 _ rfl, fun t h => by cases h⟩
        | (.inr g', s1) =>
          rw [hfx] at h1 h2 h4
          simp only at h1 h2 h4 ⊢
          obtain ⟨e1, e2, e3⟩ := h4 g' rfl
          obtain ⟨k1, k2, k3, k4⟩ := redT_fine r g' (a.kid 1) s1 e3 (by rw [kid1 hyz]; exact hz) e1 e2 (fun x hx => hl x (by simp [hx])) (fun x b g s' p1 p2 p3 p4 p5 p6 => hsub x b g s' p1 p2 p3 p4 (by omega) p6)
          exact ⟨by omega, k2, k3, k4⟩
    · exact ⟨by simp, by simp; omega, fun c h => by cases h; decide, fun t h => by cases h⟩
theorem subT_fine : ∀ (N : Nat) (m a t : Tr) (n s : Int), m.lamy = true → t.lamy = true → a.isSimple = true → 0 ≤ s → s ≤ 20000 → (20001 - s) * 1000 + t.size ≤ N → FineT (subT N m a t n s) s := by
  intro N
  induction N with
  | zero => intro m a t n s _ _ _ h0 h1 hN; have := t.size_pos; omega
  | succ N ih =>
    intro m a t n s hm ht ha h0 h1 hN
    rw [subT]
    obtain ⟨k1, k2, k3, k4⟩ := kidsT_fine (f := fun i x s => subT N m a x (W (n + t.under i)) s) t.kids 0 s h1 (fun j x s' hx p1 p2 => ih m a x _ s' hm (Tr.lamy_kids ht hx) ha (by omega) p2 (by have := Tr.kid_size hx; omega))
    match hk : kidsT (fun i x s => subT N m a x (W (n + t.under i)) s) 0 t.kids s with
    | (.inl c, s1) =>
      rw [hk] at k1 k2 k3
      simp only at k1 k2 k3 ⊢
      exact ⟨k1, k2, fun c' h => by cases h; exact k3 _ rfl, fun t h => by cases h⟩
    | (.inr ks, s1) =>
      rw [hk] at k1 k2 k4
      simp only at k1 k2 k4 ⊢
      obtain ⟨e1, e2, e3⟩ := k4 ks rfl
      split
      · split
        · exact ⟨k1, k2, fun c' h => by cases h; decide, fun t h => by cases h⟩
        · rename_i hb
          obtain ⟨r1, r2, r3, r4⟩ := redT_fine (sub := fun x a f s => subT N x a f 0 s) ks (m.lift 0 n) a s1 e3 ha (lift_lamy m 0 n hm) (by simpa using hb) (fun x hx => (e2 x hx).1) (fun x b g s' p1 p2 p3 p4 p5 p6 => ih x b g 0 s' p1 p3 p2 (by omega) p6 (by have := t.size_pos; omega))
          exact ⟨by omega, r2, r3, r4⟩
      · generalize (if t.kind = 5 ∧ n < t.n then W (t.n - 1) else t.n) = n'
        split
        · exact ⟨k1, k2, fun c' h => by cases h; decide, fun t h => by cases h⟩
        · rename_i hb
          refine ⟨k1, k2, fun c' h => by (cases h), fun t' h => ?_⟩
          cases h
          refine ⟨?_, by simpa using hb, e3⟩
          rw [Tr.lamy_eq, Bool.and_eq_true, decide_eq_true_eq, List.all_eq_true]
          have h2 := ht
          rw [Tr.lamy_eq, Bool.and_eq_true, decide_eq_true_eq] at h2
          exact ⟨fun hk4 => by rw [Tr.kids_mk, e1]; exact h2.1 hk4, fun y hy => (e2 y hy).1⟩
theorem Around.sub {b : Nat} {st s : St} {o : HObj} (h : Around b st s) (hb : s b = some o) : Sub (upd st b o) s := fun c oc hc => by
  by_cases hcb : c = b
  · subst hcb; rw [upd_same] at hc; rw [hb]; exact hc
  · rw [upd_ne _ _ hcb] at hc; exact h c oc hcb hc
def cnt (s : Int) : HObj := .cells [.int .i64 s]
def Works (h : TypeId) (b : Nat) (r : (Int ⊕ Tr) × Int) (st : St) : Res → St → Prop := fun q s => s = upd st b (cnt r.2) ∧ match r.1 with | .inr t => q = .ret (tree t) | .inl c => q = .pan (halt h c 0)
theorem Works.ret {h : TypeId} {b : Nat} {r : (Int ⊕ Tr) × Int} {st s : St} {t : Tr} {k : Int} (e : (.inr t, k) = r) (ha : Around b st s) (hb : s b = some (cnt k)) : retR (Works h b r st) (tree t) s := by
  subst e
  exact retR_sub (ha.sub hb) ⟨rfl, rfl⟩
theorem Works.pan {h : TypeId} {b : Nat} {r : (Int ⊕ Tr) × Int} {st s : St} {c k : Int} (e : (.inl c, k) = r) (ha : Around b st s) (hb : s b = some (cnt k)) : panR (Works h b r st) (halt h c 0) s := by
  subst e
  exact panR_conv (Conv.sub (ha.sub hb)) ⟨rfl, rfl⟩
def finT (N : Nat) (m a t : Tr) (n : Int) (ks : List Tr) (s : Int) : (Int ⊕ Tr) × Int :=
  if t.kind = 5 ∧ t.n = n then
    (if (m.lift 0 n).big = true then (.inl 11, s) else redT (fun x a f s => subT N x a f 0 s) (m.lift 0 n) a ks s)
  else if (Tr.mk t.kind (if t.kind = 5 ∧ n < t.n then W (t.n - 1) else t.n) t.name ks).big = true then (.inl 11, s)
  else (.inr (.mk t.kind (if t.kind = 5 ∧ n < t.n then W (t.n - 1) else t.n) t.name ks), s)
def restT (N : Nat) (m a t : Tr) (n : Int) (i : Nat) (done rest : List Tr) (s : Int) : (Int ⊕ Tr) × Int :=
  match kidsT (fun i x s => subT N m a x (W (n + t.under i)) s) i rest s with
  | (.inl c, s) => (.inl c, s)
  | (.inr ks, s) => finT N m a t n (done ++ ks) s
theorem subT_rest (N : Nat) (m a t : Tr) (n s : Int) : subT (N + 1) m a t n s = restT N m a t n 0 [] t.kids s := by
  rw [subT, restT]
  rfl
theorem restT_nil (N : Nat) (m a t : Tr) (n : Int) (i : Nat) (done : List Tr) (s : Int) : restT N m a t n i done [] s = finT N m a t n done s := by
  simp [restT, kidsT]
theorem restT_cons (N : Nat) (m a t : Tr) (n : Int) (i : Nat) (done : List Tr) (x : Tr) (r : List Tr) (s : Int) :
    restT N m a t n i done (x :: r) s = match subT N m a x (W (n + t.under i)) s with
      | (.inl c, s) => (.inl c, s)
      | (.inr y, s) => restT N m a t n (i + 1) (done ++ [y]) r s := by
  simp only [restT, kidsT]
  match h : subT N m a x (W (n + t.under i)) s with
  | (.inl c, s1) => simp
  | (.inr y, s1) =>
    simp only
    match h2 : kidsT (fun i x s => subT N m a x (W (n + t.under i)) s) (i + 1) r s1 with
    | (.inl c, s2) => simp
    | (.inr ys, s2) => simp
theorem sizes_small : ∀ (l : List Tr), (∀ x ∈ l, x.big = false) → Tr.sizes l ≤ 150 * l.length
  | [], _ => by simp [Tr.sizes]
  | x :: r, h => by
    have h1 := sizes_small r (fun y hy => h y (by simp [hy]))
    have h2 := h x (by simp)
    unfold Tr.big Tr.small at h2
    simp only [Bool.or_eq_false_iff, Bool.not_eq_false', decide_eq_true_eq] at h2
    simp only [Tr.sizes, List.map_cons, List.sum_cons, List.length_cons] at h1 ⊢
    omega
theorem small_size {x : Tr} (h : x.big = false) : x.size ≤ 150 := by
  unfold Tr.big Tr.small at h
  simp only [Bool.or_eq_false_iff, Bool.not_eq_false', decide_eq_true_eq] at h
  exact h.1
theorem Around.more {b : Nat} {st s s' : St} (h : Around b st s) (hs : Sub s s') : Around b st s' := fun c o hc h0 => hs c o (h c o hc h0)
theorem Grow.one {st0 st : St} {esz : Nat} {acc : List PV} {p : PV} (h : Grow st0 esz acc p st) : p.cells = [p] ∧ p.ncells = 1 ∧ p.isJunk = false ∧ p.cellOK = true := by
  rcases h with ⟨rfl, ⟨e, rfl⟩, rfl⟩ | ⟨b, cap, rfl, hcap, hn, rfl⟩ <;> exact ⟨rfl, rfl, rfl, rfl⟩
def WorksS (b : Nat) (r : (Int ⊕ Tr) × Int) (st : St) : Res → St → Prop := fun q s => s = upd st b (cnt r.2) ∧ match r.1 with | .inr t => q = .ret (.tup [tree t, .int .i64 0]) | .inl c => q = .ret (.tup [tree noTree, .int .i64 c])
theorem WorksS.ok {b : Nat} {r : (Int ⊕ Tr) × Int} {st s : St} {t : Tr} {k : Int} (e : (.inr t, k) = r) (ha : Around b st s) (hb : s b = some (cnt k)) : retR (WorksS b r st) (.tup [tree t, .int .i64 0]) s := by
  subst e
  exact retR_sub (ha.sub hb) ⟨rfl, rfl⟩
theorem WorksS.fail {b : Nat} {r : (Int ⊕ Tr) × Int} {st s : St} {c k : Int} (e : (.inl c, k) = r) (ha : Around b st s) (hb : s b = some (cnt k)) : retR (WorksS b r st) (.tup [tree noTree, .int .i64 c]) s := by
  subst e
  exact retR_sub (ha.sub hb) ⟨rfl, rfl⟩
theorem WorksS.zero {b : Nat} {r : (Int ⊕ Tr) × Int} {st s : St} {c k : Int} (e : (.inl c, k) = r) (ha : Around b st s) (hb : s b = some (cnt k)) : retR (WorksS b r st) (.tup [.agg [.int .i64 0, .int .i64 0, .str [], .sl 0 true []], .int .i64 c]) s := by
  subst e
  exact retR_conv (Conv.trans (Conv.tup (Conv.cons (conv_tree _ 0 0 [] 0 true [] (.inr rfl)) (Conv.refl _ _))) (Conv.sub (ha.sub hb))) ⟨rfl, rfl⟩
theorem callK_worksS {P : Program} {g : FuncId} {us : List PV} {st : St} {K Kp : PV → St → Prop} {b : Nat} {r : (Int ⊕ Tr) × Int} (hc : HCalls P g us st (WorksS b r st)) (hy : ∀ t k, r = (.inr t, k) → K (.tup [tree t, .int .i64 0]) (upd st b (cnt k))) (hn : ∀ c k, r = (.inl c, k) → K (.tup [tree noTree, .int .i64 c]) (upd st b (cnt k))) : callK P g us st K Kp := by
  obtain ⟨x, k⟩ := r
  refine callK_of hc (fun q st' h => ?_) (fun q st' h => ?_)
  · obtain ⟨rfl, h⟩ := h
    cases x with
    | inr t => cases h; exact hy t k rfl
    | inl c => cases h; exact hn c k rfl
  · obtain ⟨rfl, h⟩ := h
    cases x with
    | inr t => cases h
    | inl c => cases h
end Go.H
namespace Go.H
open Go
set_option linter.unusedVariables false
set_option linter.unusedSimpArgs false
def Tr.isFam (kd : Bool) (t : Tr) : Bool :=
  if t.kind = 1 then kd && t.bare 0
  else if t.kind = 3 then !kd && (decide (t.n = 0) && nameOK t.name && t.kids.all (Tr.isArg false))
  else if t.kind = 2 then t.bare 2 && (match h : t.kids with
    | [x, y] => Tr.isFam false x && Tr.isFam kd y
    | _ => false)
  else false
termination_by SizeOf.sizeOf t
decreasing_by
  all_goals exact Tr.kids_lt (by rw [h]; simp)
theorem Tr.isFam_type {kd : Bool} {t : Tr} (h : t.kind = 1) : t.isFam kd = (kd && t.bare 0) := by rw [Tr.isFam, if_pos h]
theorem Tr.isFam_head {kd : Bool} {t : Tr} (h : t.kind = 3) : t.isFam kd = (!kd && (decide (t.n = 0) && nameOK t.name && t.kids.all (Tr.isArg false))) := by rw [Tr.isFam, if_neg (by omega), if_pos h]
theorem Tr.isFam_pi {kd : Bool} {t x y : Tr} (h : t.kind = 2) (hk : t.kids = [x, y]) : t.isFam kd = (t.bare 2 && (x.isFam false && y.isFam kd)) := by
  rw [Tr.isFam, if_neg (by omega), if_neg (by omega), if_pos h]
  congr 1
  split
  · rename_i a b hab
    rw [hk] at hab
    cases hab
    rfl
  · rename_i hno
    exact absurd hk (by intro e; exact hno _ _ e)
theorem Tr.isFam_bad {kd : Bool} {t : Tr} (h : t.kind = 2) (hk : t.bare 2 = false) : t.isFam kd = false := by
  rw [Tr.isFam, if_neg (by omega), if_neg (by omega), if_pos h, hk]
  rfl
theorem Tr.isFam_no {kd : Bool} {t : Tr} (h1 : t.kind ≠ 1) (h3 : t.kind ≠ 3) (h2 : t.kind ≠ 2) : t.isFam kd = false := by
  rw [Tr.isFam, if_neg h1, if_neg h3, if_neg h2]
theorem bare_two {t : Tr} (h : t.bare 2 = true) : ∃ x y, t.kids = [x, y] := by
  unfold Tr.bare at h
  simp only [Bool.and_eq_true, decide_eq_true_eq] at h
  match hk : t.kids, h.2 with
  | [x, y], _ => exact ⟨x, y, rfl⟩
def Tr.famOK (t : Tr) : Bool := t.small && t.isFam false
def Tr.kindOK (t : Tr) : Bool := t.small && t.isFam true
theorem fam_lamy : ∀ (t : Tr) (kd : Bool), t.isFam kd = true → t.lamy = true := by
  intro t
  induction t using Tr.ind with
  | _ t ih =>
    intro kd h
    rw [Tr.lamy_eq, Bool.and_eq_true, decide_eq_true_eq, List.all_eq_true]
    by_cases h1 : t.kind = 1
    · rw [Tr.isFam_type h1] at h
      simp only [Bool.and_eq_true] at h
      have hl : t.kids = [] := by have := h.2; unfold Tr.bare at this; simp at this; exact this.2
      exact ⟨fun h4 => by omega, fun x hx => by rw [hl] at hx; cases hx⟩
    · by_cases h3 : t.kind = 3
      · rw [Tr.isFam_head h3] at h
        simp only [Bool.and_eq_true, List.all_eq_true] at h
        refine ⟨fun h4 => by omega, fun x hx => term_lamy x ?_⟩
        have := h.2.2 x hx
        unfold Tr.isArg at this
        rw [if_neg (by simp)] at this
        exact this
      · by_cases h2 : t.kind = 2
        · cases hb : t.bare 2 with
          | false => rw [Tr.isFam_bad h2 hb] at h; cases h
          | true =>
            obtain ⟨x, y, hxy⟩ := bare_two hb
            rw [Tr.isFam_pi h2 hxy] at h
            simp only [Bool.and_eq_true] at h
            refine ⟨fun h4 => by omega, fun z hz => ?_⟩
            rw [hxy] at hz
            simp at hz
            rcases hz with rfl | rfl
            · exact ih _ (by rw [hxy]; simp) false h.2.1
            · exact ih _ (by rw [hxy]; simp) kd h.2.2
        · rw [Tr.isFam_no h1 h3 h2] at h; cases h
def eraseT (t : Tr) : Tr :=
  if t.kind = 2 then (match h : t.kids with
    | [x, y] => Tr.arrow (eraseT x) (eraseT y)
    | _ => noTree)
  else Tr.base t.name
termination_by SizeOf.sizeOf t
decreasing_by all_goals exact Tr.kids_lt (by rw [h]; simp)
theorem eraseT_pi {t x y : Tr} (h : t.kind = 2) (hk : t.kids = [x, y]) : eraseT t = Tr.arrow (eraseT x) (eraseT y) := by
  rw [eraseT, if_pos h]
  split
  · rename_i a b hab
    rw [hk] at hab
    cases hab
    rfl
  · rename_i hno
    exact absurd hk (by intro e; exact hno _ _ e)
theorem eraseT_head {t : Tr} (h : t.kind ≠ 2) : eraseT t = Tr.base t.name := by rw [eraseT, if_neg h]
end Go.H
namespace Go.H
open Go
set_option linter.unusedVariables false
set_option linter.unusedSimpArgs false
theorem erase_simple : ∀ (t : Tr), t.isFam false = true → (eraseT t).isSimple = true := by
  intro t
  induction t using Tr.ind with
  | _ t ih =>
    intro h
    by_cases h2 : t.kind = 2
    · cases hb : t.bare 2 with
      | false => rw [Tr.isFam_bad h2 hb] at h; cases h
      | true =>
        obtain ⟨x, y, hxy⟩ := bare_two hb
        rw [Tr.isFam_pi h2 hxy] at h
        simp only [Bool.and_eq_true] at h
        rw [eraseT_pi h2 hxy]
        exact arrow_simple (ih x (by rw [hxy]; simp) h.2.1) (ih y (by rw [hxy]; simp) h.2.2)
    · rw [eraseT_head h2]
      by_cases h3 : t.kind = 3
      · rw [Tr.isFam_head h3] at h
        simp only [Bool.and_eq_true] at h
        exact base_simple h.2.1.2
      · by_cases h1 : t.kind = 1
        · rw [Tr.isFam_type h1] at h; cases h
        · rw [Tr.isFam_no h1 h3 h2] at h; cases h
end Go.H
namespace Go.H
open Go
set_option linter.unusedVariables false
set_option linter.unusedSimpArgs false

structure Dc where
  name : List UInt8
  fam : Bool
  type : Tr
theorem Dc.ext_iff' (a b : Dc) : a = b ↔ a.name = b.name ∧ a.fam = b.fam ∧ a.type = b.type := by
  cases a; cases b; simp
instance : DecidableEq Dc := fun a b => if h : a.name = b.name ∧ a.fam = b.fam ∧ a.type = b.type then .isTrue ((Dc.ext_iff' a b).2 h) else .isFalse fun e => h ((Dc.ext_iff' a b).1 e)
instance : Inhabited Dc := ⟨⟨[], false, .mk 0 0 [] []⟩⟩
def decl (x : Dc) : PV := .agg (.str x.name :: .bool x.fam :: (tree x.type).cells)
def decls (xs : List Dc) : PV := .sl 6 false (xs.map decl)
@[simp] theorem decl_isJunk (x : Dc) : (decl x).isJunk = false := rfl
@[simp] theorem decl_isAgg (x : Dc) : (decl x).isAgg = true := rfl
theorem decl_cells (x : Dc) : (decl x).cells = .str x.name :: .bool x.fam :: (tree x.type).cells := rfl
@[simp] theorem decl_len (x : Dc) : (decl x).cells.length = 6 := by rw [decl_cells]; simp
@[simp] theorem decl_ncells (x : Dc) : (decl x).ncells = 6 := by
  have := decl_len x
  unfold decl at this ⊢
  simpa [PV.ncells, PV.cells] using this
@[simp] theorem decl_cellOK (x : Dc) : (decl x).cells.all PV.cellOK = true := by
  rw [decl_cells, List.all_cons, List.all_cons, tree_cellOK]; rfl
@[simp] theorem decl_cellOK' (x : Dc) : (∀ y ∈ (decl x).cells, y.cellOK = true) ↔ True := by
  have := decl_cellOK x
  rw [List.all_eq_true] at this
  exact ⟨fun _ => trivial, fun _ => this⟩
@[simp high] theorem takeV_decl (x : Dc) : takeV true 6 (decl x).cells = some (decl x) := by
  rw [decl_cells, tree_cells]; unfold decl; rw [tree_cells]; rfl
@[simp] theorem decl_tail (x : Dc) : (decl x).cells.tail = .bool x.fam :: (tree x.type).cells := rfl
@[simp] theorem decl_drop1 (x : Dc) : (decl x).cells.drop 1 = .bool x.fam :: (tree x.type).cells := rfl
@[simp] theorem decl_drop2 (x : Dc) : (decl x).cells.drop 2 = (tree x.type).cells := rfl
@[simp] theorem decl_tail2 (x : Dc) : (decl x).cells.tail.tail = (tree x.type).cells := rfl
@[simp] theorem decl_f0 (x : Dc) (n : Nat) : takeV false n (decl x).cells = some (.str x.name) := rfl
@[simp] theorem decl_f1 (x : Dc) (n : Nat) : takeV false n (.bool x.fam :: (tree x.type).cells) = some (.bool x.fam) := rfl
@[simp] theorem decl_take (x : Dc) : .agg ((decl x).cells.take 6) = decl x := by
  have := decl_len x
  rw [List.take_of_length_le (by omega)]
  rfl
@[simp] theorem decls_eq (ts : List Dc) : decls ts = .sl 6 false (ts.map decl) := rfl
@[simp] theorem decl_agg (x : Dc) : PV.agg (decl x).cells = decl x := rfl
@[simp] theorem decl_fold (x : Dc) : PV.str x.name :: .bool x.fam :: (tree x.type).cells = (decl x).cells := rfl
@[simp] theorem decl_cat (t : Tr) (s : List UInt8) (b : Bool) : PV.agg (.str s :: .bool b :: (tree t).cells) = decl ⟨s, b, t⟩ := rfl
@[simp] theorem decl_s0 (x : Dc) (y : PV) : setRange (decl x).cells 0 [y] = y :: .bool x.fam :: (tree x.type).cells := by rw [decl_cells, tree_cells]; rfl
@[simp] theorem set6_0 (a b c d e f x : PV) : setRange [a, b, c, d, e, f] 0 [x] = [x, b, c, d, e, f] := rfl
@[simp] theorem set6_1 (a b c d e f x : PV) : setRange [a, b, c, d, e, f] 1 [x] = [a, x, c, d, e, f] := rfl
@[simp] theorem set6_2 (a b c d e f : PV) (t : Tr) : setRange [a, b, c, d, e, f] 2 (tree t).cells = a :: b :: (tree t).cells := by rw [tree_cells]; rfl
@[simp] theorem set6_all (a b c d e f : PV) (x : Dc) : setRange [a, b, c, d, e, f] 0 (decl x).cells = (decl x).cells := by rw [decl_cells, tree_cells]; rfl
@[simp] theorem set6_cat (a b c d e f s u : PV) (t : Tr) : setRange [a, b, c, d, e, f] 0 (s :: u :: (tree t).cells) = s :: u :: (tree t).cells := by rw [tree_cells]; rfl
@[simp] theorem set6_decl (x y : Dc) : setRange (decl y).cells 0 (decl x).cells = (decl x).cells := by rw [decl_cells, tree_cells, decl_cells, tree_cells]; rfl

def Dc.bulk (x : Dc) : Nat := x.name.length + x.type.bulk
def Dc.bulks (xs : List Dc) : Nat := xs.length + (xs.map Dc.bulk).sum
theorem Dc.bulks_cons (x : Dc) (xs : List Dc) : Dc.bulks (x :: xs) = 1 + x.bulk + Dc.bulks xs := by
  unfold Dc.bulks; simp only [List.map_cons, List.sum_cons, List.length_cons]; omega
theorem Dc.bulk_mem {x : Dc} {xs : List Dc} (h : x ∈ xs) : x.bulk + 1 ≤ Dc.bulks xs := by
  unfold Dc.bulks
  have h1 : x.bulk ≤ (xs.map Dc.bulk).sum := by
    induction xs with
    | nil => cases h
    | cons y ys ih =>
      simp only [List.map_cons, List.sum_cons]
      cases List.mem_cons.1 h with
      | inl e => subst e; omega
      | inr e => have := ih e; omega
  have : 0 < xs.length := List.length_pos_of_mem h
  omega
theorem Dc.length_le (xs : List Dc) : xs.length ≤ Dc.bulks xs := by unfold Dc.bulks; omega

def named (n : List UInt8) (d : Dc) : Bool := decide (d.name = n)
def declaredT (sig : List Dc) (n : List UInt8) (fam : Bool) : Option Tr := match sig.find? (named n) with
  | some d => if d.fam = fam then some d.type else none
  | none => none
def Apart (sig : List Dc) : Prop := sig.Pairwise fun a b => a.name ≠ b.name
end Go.H
namespace Go.H
open Go
set_option linter.unusedVariables false
set_option linter.unusedSimpArgs false

abbrev Fz := Int × Int
def leftC (t a : Tr) (p s : Int) : (Fz ⊕ Tr) × Int := match subT 100000000 t (eraseT (a.kid 0)) (a.kid 1) 0 s with
  | (.inl c, s) => (.inl (c, p), s)
  | (.inr b, s) => (.inr b, s)
def argsC (f : Tr → Tr → Int → Int → (Fz ⊕ Unit) × Int) : List Tr → Tr → Int → Int → (Fz ⊕ Tr) × Int
  | [], a, p, s => (.inr a, s)
  | x :: r, a, p, s =>
    if a.kind = 2 then (match f x (a.kid 0) p s with
      | (.inl e, s) => (.inl e, s)
      | (.inr _, s) => match leftC x a p s with
        | (.inl e, s) => (.inl e, s)
        | (.inr b, s) => argsC f r b (p + x.size) s)
    else (.inl (8, p), s)
def headC (sig : List Dc) (ctx : List Tr) (t : Tr) : Int ⊕ Tr :=
  if t.kind = 5 then (if t.n ≥ ctx.length then .inl 7 else
    if (((ctx[((ctx.length : Int) - 1 - t.n).toNat]?).getD noTree).lift 0 (t.n + 1)).big = true then .inl 11
    else .inr (((ctx[((ctx.length : Int) - 1 - t.n).toNat]?).getD noTree).lift 0 (t.n + 1)))
  else if t.kind = 6 then (match declaredT sig t.name false with | none => .inl 5 | some a => .inr a)
  else .inl 15
def foundC (f : Tr → Tr → Int → Int → (Fz ⊕ Unit) × Int) (sig : List Dc) (ctx : List Tr) (t : Tr) (p s : Int) : (Fz ⊕ Tr) × Int :=
  match headC sig ctx t with
  | .inl c => (.inl (c, p), s)
  | .inr a => match argsC f t.kids a (p + 1) s with
    | (.inl e, s) => (.inl e, s)
    | (.inr b, s) => if b.kind = 3 then (.inr b, s) else (.inl (8, p), s)
def termC (sig : List Dc) : Nat → List Tr → Tr → Tr → Int → Int → (Fz ⊕ Unit) × Int
  | 0, _, _, _, _, s => (.inr (), s)
  | m + 1, ctx, t, a, p, s =>
    if t.kind = 4 then (if a.kind = 2 then termC sig m (ctx ++ [a.kid 0]) (t.kid 0) (a.kid 1) (p + 1) s else (.inl (9, p), s))
    else if a.kind = 2 then (.inl (9, p), s)
    else match foundC (termC sig m ctx) sig ctx t p s with
      | (.inl e, s) => (.inl e, s)
      | (.inr b, s) => if b = a then (.inr (), s) else (.inl (10, p), s)
def FK (a : Tr) : Prop := (∃ kd, a.isFam kd = true) ∧ a.size ≤ 150
def FF (a : Tr) : Prop := a.isFam false = true ∧ a.size ≤ 150
theorem FF.simple {a : Tr} (h : FF a) : (eraseT a).isSimple = true := erase_simple a h.1
theorem FK.lamy {a : Tr} (h : FK a) : a.lamy = true := by obtain ⟨⟨kd, h⟩, _⟩ := h; exact fam_lamy a kd h
structure SigR (sig : List Dc) : Prop where
  apart : Apart sig
  types : ∀ d ∈ sig, d.type.isFam d.fam = true ∧ d.type.size ≤ 150
  len : sig.length ≤ 1000000
def CntOK {α : Type} (r : (Fz ⊕ α) × Int) (s : Int) : Prop := s ≤ r.2 ∧ r.2 ≤ 20001 ∧ (∀ e, r.1 = .inl e → e.1 ≠ 0) ∧ ∀ x, r.1 = .inr x → r.2 ≤ 20000
theorem CntOK.ok {α : Type} {x : α} {s : Int} (hs : s ≤ 20000) : CntOK (.inr x, s) s := ⟨Int.le_refl _, by simp only; omega, fun e h => by (cases h), fun x h => by simpa using hs⟩
end Go.H
namespace Go.H
open Go Go.RowKit
set_option linter.unusedVariables false

theorem HCalls.below {P : Program} {f : FuncId} {args : List PV} {st : St} {p : PV} {v : Value} (vals : List Value) (he : Enters P f) (hv : ∀ C ws, ROs C args ws → ws = vals) (hp : ∀ C, RO C p v)
    (h : ∀ w, Calls P f vals.toArray w fun e w' => e = .returned v ∧ Below w.heap.size w w') : HCalls P f args st (Just p st) := by
  refine ⟨he, fun w ws hg ha => ?_⟩
  obtain rfl := hv _ _ ha
  refine (h w).mono ?_
  rintro e w' ⟨rfl, hb⟩
  have hev : Evo w st w' st := ⟨hb.os, hb.tape, hb.output, hb.size, fun b hlt hn => ⟨hb.block b hlt, hn⟩⟩
  exact ⟨.ret p, st, hev, hg.next hev fun b o hs => .inl ⟨hs, hb.block b (hg.lt hs)⟩, ⟨rfl, rfl⟩, hp _⟩
theorem ROs_str2 (s c : List UInt8) : ∀ C ws, ROs C [.str s, .str c] ws → ws = [.string ⟨s.toArray⟩, .string ⟨c.toArray⟩] := by
  rintro C ws ⟨v, vs, rfl, h1, v2, vs2, rfl, h2, h3⟩
  rw [RO_str h1, RO_str h2, h3]
theorem ROs_str_int (s : List UInt8) (k : IntKind) (n : Int) : ∀ C ws, ROs C [.str s, .int k n] ws → ws = [.string ⟨s.toArray⟩, .int k n] := by
  rintro C ws ⟨v, vs, rfl, h1, v2, vs2, rfl, h2, h3⟩
  rw [RO_str h1, RO_int h2, h3]
theorem RO_str_mk (C : Nat → Nat → Value → Prop) (s : List UInt8) : RO C (.str s) (.string ⟨s.toArray⟩) := .inr ⟨rfl, by simp [RX, Value.cells]⟩
theorem RO_int_mk (C : Nat → Nat → Value → Prop) (k : IntKind) (n : Int) : RO C (.int k n) (.int k n) := .inr ⟨rfl, by simp [RX, Value.cells]⟩

theorem dropWhile_nil {α : Type} (p : α → Bool) : ∀ (l : List α), l.dropWhile p = [] ↔ l.all p = true
  | [] => by simp
  | x :: l => by
    rw [List.dropWhile_cons]
    cases h : p x
    · simp [h]
    · simp only [if_true, List.all_cons, h, Bool.true_and]; exact dropWhile_nil p l
theorem dropWhile_mem {α : Type} (p : α → Bool) (l : List α) : (l.dropWhile p).all p = true ↔ l.all p = true := by
  induction l with
  | nil => simp
  | cons x l ih =>
    rw [List.dropWhile_cons]
    cases h : p x
    · simp [h]
    · simp only [if_true, List.all_cons, h, Bool.true_and]; exact ih
theorem trimS_nil (s cs : List UInt8) : Lib.trimS s cs = [] ↔ s.all (fun c => cs.contains c) = true := by
  unfold Lib.trimS Lib.trimLeftS Lib.trimRightS
  rw [dropWhile_nil, List.all_reverse, dropWhile_mem, List.all_reverse]
theorem indexByte_neg (c : UInt8) : ∀ (l : List UInt8), (0 ≤ Lib.indexByte l c ↔ l.contains c = true) ∧ -1 ≤ Lib.indexByte l c
  | [] => by simp [Lib.indexByte]
  | b :: l => by
    have ih := indexByte_neg c l
    simp only [Lib.indexByte]
    by_cases h : b = c
    · subst h; simp
    · have h1 : (b == c) = false := by simpa using h
      have h2 : (c == b) = false := by simpa using fun e : c = b => h e.symm
      simp only [h1, Bool.false_eq_true, if_false, List.contains_cons, h2, Bool.false_or]
      split
      · rename_i h3
        have h3 : Lib.indexByte l c = -1 := by simpa using h3
        rw [h3] at ih
        refine ⟨?_, by omega⟩
        rw [← ih.1]
      · rename_i h3
        have h3 : ¬ Lib.indexByte l c = -1 := by simpa using h3
        refine ⟨?_, by omega⟩
        rw [← ih.1]
        omega

def wordSigns : List UInt8 := [97, 98, 99, 100, 101, 102, 103, 104, 105, 106, 107, 108, 109, 110, 111, 112, 113, 114, 115, 116, 117, 118, 119, 120, 121, 122, 65, 66, 67, 68, 69, 70, 71, 72, 73, 74, 75, 76, 77, 78, 79, 80, 81, 82, 83, 84, 85, 86, 87, 88, 89, 90, 95, 48, 49, 50, 51, 52, 53, 54, 55, 56, 57]
def headSigns : List UInt8 := [97, 98, 99, 100, 101, 102, 103, 104, 105, 106, 107, 108, 109, 110, 111, 112, 113, 114, 115, 116, 117, 118, 119, 120, 121, 122, 65, 66, 67, 68, 69, 70, 71, 72, 73, 74, 75, 76, 77, 78, 79, 80, 81, 82, 83, 84, 85, 86, 87, 88, 89, 90, 95]
def digitSigns : List UInt8 := [48, 49, 50, 51, 52, 53, 54, 55, 56, 57]
theorem byte_all (p q : UInt8 → Bool) (h : (List.range 256).all (fun n => p (UInt8.ofNat n) == q (UInt8.ofNat n)) = true) (c : UInt8) : p c = q c := by
  rw [List.all_eq_true] at h
  have := h c.toNat (by simp; exact c.toNat_lt)
  simpa using this
theorem letter_signs (c : UInt8) : headSigns.contains c = letter c := byte_all _ _ (by decide +kernel) c
theorem digit_signs (c : UInt8) : digitSigns.contains c = digit c := byte_all _ _ (by decide +kernel) c
theorem word_signs (c : UInt8) : wordSigns.contains c = (letter c || digit c) := byte_all _ (fun c => letter c || digit c) (by decide +kernel) c
end Go.H
namespace Go.H
open Go
set_option linter.unusedVariables false
set_option linter.unusedSimpArgs false
def cntR (mo : List PV) (s : Int) : HObj := .cells (.int .i64 s :: mo)
theorem setRange_head (x y : PV) (mo : List PV) : setRange (x :: mo) 0 [y] = y :: mo := by simp [setRange]
def WorksR (mo : List PV) (h : TypeId) (b : Nat) (r : (Int ⊕ Tr) × Int) (st : St) : Res → St → Prop := fun q s => s = upd st b (cntR mo r.2) ∧ match r.1 with | .inr t => q = .ret (tree t) | .inl c => q = .pan (halt h c 0)
theorem WorksR.ret {mo : List PV} {h : TypeId} {b : Nat} {r : (Int ⊕ Tr) × Int} {st s : St} {t : Tr} {k : Int} (e : (.inr t, k) = r) (ha : Around b st s) (hb : s b = some (cntR mo k)) : retR (WorksR mo h b r st) (tree t) s := by
  subst e
  exact retR_sub (ha.sub hb) ⟨rfl, rfl⟩
theorem WorksR.pan {mo : List PV} {h : TypeId} {b : Nat} {r : (Int ⊕ Tr) × Int} {st s : St} {c k : Int} (e : (.inl c, k) = r) (ha : Around b st s) (hb : s b = some (cntR mo k)) : panR (WorksR mo h b r st) (halt h c 0) s := by
  subst e
  exact panR_conv (Conv.sub (ha.sub hb)) ⟨rfl, rfl⟩
theorem callK_worksR {mo : List PV} {P : Program} {g : FuncId} {us : List PV} {st : St} {K Kp : PV → St → Prop} {h : TypeId} {b : Nat} {r : (Int ⊕ Tr) × Int} (hc : HCalls P g us st (WorksR mo h b r st)) (hy : ∀ t k, r = (.inr t, k) → K (tree t) (upd st b (cntR mo k))) (hn : ∀ c k, r = (.inl c, k) → Kp (halt h c 0) (upd st b (cntR mo k))) : callK P g us st K Kp := by
  obtain ⟨x, k⟩ := r
  refine callK_of hc (fun q st' h => ?_) (fun q st' h => ?_)
  · obtain ⟨rfl, h⟩ := h
    cases x with
    | inr t => cases h; exact hy t k rfl
    | inl c => cases h
  · obtain ⟨rfl, h⟩ := h
    cases x with
    | inr t => cases h
    | inl c => cases h; exact hn c k rfl
def Halts {α : Type} (h : TypeId) (b : Nat) (o : Int → HObj) (enc : α → PV) (r : (Fz ⊕ α) × Int) (st : St) : Res → St → Prop := fun q s => s = upd st b (o r.2) ∧ match r.1 with | .inr x => q = .ret (enc x) | .inl e => q = .pan (halt h e.1 e.2)
theorem Halts.ret {α : Type} {h : TypeId} {b : Nat} {o : Int → HObj} {enc : α → PV} {r : (Fz ⊕ α) × Int} {st s : St} {x : α} {k : Int} {p : PV} (hp : p = enc x) (e : r = (.inr x, k)) (ha : Around b st s) (hb : s b = some (o k)) : retR (Halts h b o enc r st) p s := by
  subst e hp
  exact retR_sub (ha.sub hb) ⟨rfl, rfl⟩
theorem Halts.pan {α : Type} {h : TypeId} {b : Nat} {o : Int → HObj} {enc : α → PV} {r : (Fz ⊕ α) × Int} {st s : St} {c p k : Int} (e : r = (.inl (c, p), k)) (ha : Around b st s) (hb : s b = some (o k)) : panR (Halts h b o enc r st) (halt h c p) s := by
  subst e
  exact panR_conv (Conv.sub (ha.sub hb)) ⟨rfl, rfl⟩
end Go.H
namespace Go.H
open Go
set_option linter.unusedVariables false
set_option linter.unusedSimpArgs false
def declForm (d : Dc) : Bool := nameOK d.name && (match d.fam with | true => d.type.kindOK | false => d.type.famOK)
def hasT (sig : List Dc) (n : List UInt8) : Bool := sig.any (named n)
theorem form_fk {d : Dc} (h : declForm d = true) : d.type.isFam d.fam = true ∧ d.type.size ≤ 150 := by
  unfold declForm at h
  rw [Bool.and_eq_true] at h
  have h2 := h.2
  cases hf : d.fam with
  | true =>
    rw [hf] at h2
    unfold Tr.kindOK Tr.small at h2
    simp only [Bool.and_eq_true, decide_eq_true_eq] at h2
    exact ⟨h2.2, h2.1⟩
  | false =>
    rw [hf] at h2
    unfold Tr.famOK Tr.small at h2
    simp only [Bool.and_eq_true, decide_eq_true_eq] at h2
    exact ⟨h2.2, h2.1⟩
theorem SigR.nil : SigR [] := ⟨List.Pairwise.nil, fun d h => (by cases h), by simp⟩
theorem SigR.snoc {sig : List Dc} {d : Dc} (hs : SigR sig) (hl : sig.length < 1000000) (h : declForm d = true) (hn : hasT sig d.name = false) : SigR (sig ++ [d]) := by
  refine ⟨?_, fun x hx => ?_, by simp; omega⟩
  · unfold Apart
    rw [List.pairwise_append]
    refine ⟨hs.apart, by simp, fun a ha b hb => ?_⟩
    simp only [List.mem_singleton] at hb
    subst hb
    unfold hasT at hn
    rw [List.any_eq_false] at hn
    have := hn a ha
    unfold named at this
    simpa using this
  · rcases List.mem_append.1 hx with hx | hx
    · exact hs.types x hx
    · simp only [List.mem_singleton] at hx
      subst hx
      exact form_fk h
def Ends (h : TypeId) (f : Fz) (st : St) : Res → St → Prop := fun q s => s = st ∧ ((f = (0, 0) ∧ q = .ret (.tup [])) ∨ (f.1 ≠ 0 ∧ q = .pan (halt h f.1 f.2)))
theorem Ends.ret {h : TypeId} {f : Fz} {st s : St} (hf : f = (0, 0)) (hs : Sub st s) : retR (Ends h f st) (.tup []) s := retR_sub hs ⟨rfl, .inl ⟨hf, rfl⟩⟩
theorem Ends.pan {h : TypeId} {f : Fz} {st s : St} {c p : Int} (hf : f = (c, p)) (hc : c ≠ 0) (hs : Sub st s) : panR (Ends h f st) (halt h c p) s := by
  subst hf
  exact panR_conv (Conv.sub hs) ⟨rfl, .inr ⟨hc, rfl⟩⟩
def haltP (f : Fz) : PV := .agg [.int .i64 f.1, .int .i64 f.2]
@[simp] theorem haltP_isJunk (f : Fz) : (haltP f).isJunk = false := rfl
def srun (sig : List Dc) (b' : Nat) (c p : Int) : HObj := .cells [decls sig, .ptr b' 0, .int .i64 c, .int .i64 p]
def Around2 (b b' : Nat) (st s : St) : Prop := ∀ c o, c ≠ b → c ≠ b' → st c = some o → s c = some o
theorem Around2.refl (b b' : Nat) (st : St) : Around2 b b' st st := fun _ _ _ _ h => h
theorem Around2.put {b b' c : Nat} {st s : St} (h : Around2 b b' st s) (hc : s c = none) (o : HObj) : Around2 b b' st (upd s c o) := fun d od h1 h2 hs => by
  have := h d od h1 h2 hs
  by_cases hd : d = c
  · subst hd; rw [hc] at this; cases this
  · rw [upd_ne _ _ hd]; exact this
theorem Around2.own {b b' c : Nat} {st s : St} (h : Around2 b b' st s) (hc : st c = none) (o : HObj) : Around2 b b' st (upd s c o) := fun d od h1 h2 hs => by
  have := h d od h1 h2 hs
  by_cases hd : d = c
  · subst hd; rw [hc] at hs; cases hs
  · rw [upd_ne _ _ hd]; exact this
theorem Around2.draw {b b' : Nat} {st s : St} (h : Around2 b b' st s) (o : HObj) : Around2 b b' st (upd s b o) := fun d od h1 h2 hs => by
  rw [upd_ne _ _ h1]; exact h d od h1 h2 hs
theorem Around2.more {b b' : Nat} {st s s' : St} (h : Around2 b b' st s) (hs : Sub s s') : Around2 b b' st s' := fun c o h1 h2 h0 => hs c o (h c o h1 h2 h0)
theorem Around2.isNone {b b' c : Nat} {st s : St} (h : Around2 b b' st s) (h1 : c ≠ b) (h2 : c ≠ b') (hc : s c = none) : st c = none := by
  cases hs : st c with
  | none => rfl
  | some o => rw [h c o h1 h2 hs] at hc; cases hc
theorem Around2.sub {b b' : Nat} {st s : St} {o o' : HObj} (h : Around2 b b' st s) (hb : s b = some o) (hb' : s b' = some o') : Sub (upd (upd st b' o') b o) s := fun c oc hc => by
  by_cases h1 : c = b
  · subst h1; rw [upd_same] at hc; rw [hb]; exact hc
  · rw [upd_ne _ _ h1] at hc
    by_cases h2 : c = b'
    · subst h2; rw [upd_same] at hc; rw [hb']; exact hc
    · rw [upd_ne _ _ h2] at hc; exact h c oc h1 h2 hc
def RunS {α : Type} (sig : List Dc) (b b' : Nat) (ok : α → PV → Prop) (no : PV → Prop) (r : (Fz ⊕ α) × Int) (st : St) : Res → St → Prop := fun q s => match r.1 with
  | .inr x => s = upd (upd st b' (cnt r.2)) b (srun sig b' 0 0) ∧ ∃ v, q = .ret v ∧ ok x v
  | .inl e => s = upd (upd st b' (cnt r.2)) b (srun sig b' e.1 e.2) ∧ ∃ v, q = .ret v ∧ no v
theorem RunS.ok {α : Type} {sig : List Dc} {b b' : Nat} {ok : α → PV → Prop} {no : PV → Prop} {r : (Fz ⊕ α) × Int} {st s : St} {x : α} {k : Int} {v : PV} (hv : ok x v) (e : r = (.inr x, k)) (ha : Around2 b b' st s) (hb : s b = some (srun sig b' 0 0)) (hb' : s b' = some (cnt k)) : retR (RunS sig b b' ok no r st) v s := by
  subst e
  exact retR_sub (ha.sub hb hb') ⟨rfl, v, rfl, hv⟩
theorem RunS.no {α : Type} {sig : List Dc} {b b' : Nat} {ok : α → PV → Prop} {no : PV → Prop} {r : (Fz ⊕ α) × Int} {st s : St} {c p k : Int} {v : PV} (hv : no v) (e : r = (.inl (c, p), k)) (ha : Around2 b b' st s) (hb : s b = some (srun sig b' c p)) (hb' : s b' = some (cnt k)) : retR (RunS sig b b' ok no r st) v s := by
  subst e
  exact retR_sub (ha.sub hb hb') ⟨rfl, v, rfl, hv⟩
end Go.H
