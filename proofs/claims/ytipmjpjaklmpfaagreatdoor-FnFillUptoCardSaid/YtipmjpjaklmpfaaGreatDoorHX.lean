/- Part of a proof that the program answers as the reference does: ZGC3, ZGC4, ZGC5, ZGC6, ZGC7, ZGC8, ZGC1, ZGT2. -/
import Derived.Test.YtipmjpjaklmpfaaGreatDoorHS0
import Derived.Test.YtipmjpjaklmpfaaGreatDoorHS1
import Derived.Test.YtipmjpjaklmpfaaGreatDoorHS2
import Derived.Test.YtipmjpjaklmpfaaGreatDoorHS3
import Derived.Test.YtipmjpjaklmpfaaGreatDoorHS4
import Derived.Test.YtipmjpjaklmpfaaGreatDoorHS5
import Derived.Test.YtipmjpjaklmpfaaGreatDoorHS6
import Derived.Test.YtipmjpjaklmpfaaGreatDoorHS7
import Derived.Test.YtipmjpjaklmpfaaGreatDoorHP
import Derived.Test.YtipmjpjaklmpfaaGreatDoorHL
set_option linter.unusedVariables false
set_option linter.unusedSimpArgs false
namespace Go.H.Tryz
open Go Go.H

theorem h_spec_l00Letter (c : UInt8) (st : St) : HCalls prog n_spec_l00Letter [.int .u8 c.toNat] st (Just (.bool (letter c)) st) := by
  apply c_spec_l00Letter
  unfold b_spec_l00Letter letter
  try simp
  repeat' (first | refine br_dec (fun _ => ?_) (fun _ => ?_) | exact Just.bool (by rw [Bool.eq_iff_iff]; simp; omega) | (simp; done))
theorem h_spec_l00Digit (c : UInt8) (st : St) : HCalls prog n_spec_l00Digit [.int .u8 c.toNat] st (Just (.bool (digit c)) st) := by
  apply c_spec_l00Digit
  unfold b_spec_l00Digit digit
  try simp
  repeat' (first | refine br_dec (fun _ => ?_) (fun _ => ?_) | exact Just.bool (by rw [Bool.eq_iff_iff]; simp; omega) | (simp; done))
theorem h_spec_l00Word (s : List UInt8) (st : St) : HCalls prog n_spec_l00Word [.str s] st (Just (.bool (wordOK s)) st) := by
  apply c_spec_l00Word
  unfold b_spec_l00Word
  generalize hv : wordOK s = v
  cases s with
  | nil => simp; exact Just.bool (by rw [← hv]; rfl)
  | cons c r =>
    simp only [wordOK] at hv
    try simp
    refine br_dec (fun h => by omega) (fun _ => ?_)
    refine br_dec (fun h => Just.bool (by rw [← hv, decide_eq_false (by omega)]; rfl)) (fun h => ?_)
    rw [decide_eq_true (by omega), Bool.true_and] at hv
    refine callK_just (h_spec_l00Letter _ _) ?_
    try simp
    refine br_of (fun hc => ?_) (fun hc => Just.bool (by rw [← hv, hc]; rfl))
    rw [hc, Bool.true_and] at hv
    refine loop_list r (fun i => [.int .i64 ((i : Int) + 1)]) st (fun rest => (rest.all fun c => letter c || digit c) = v) ?_ ?_ hv
    · intro i x rest hi hx hq k
      rw [List.all_cons] at hq
      have e : (c :: r)[i + 1]? = some x := by simpa using hx
      try simp
      refine br_dec (fun _ => ?_) (fun h => by omega)
      rw [show ((i : Int) + 1) = ((i + 1 : Nat) : Int) by omega, q_ix_str _ _ _ e]
      try simp
      refine callK_just (h_spec_l00Letter _ _) ?_
      try simp
      have hk : (letter x || digit x) = true → hFix _ [PV.int IntKind.i64 (IntKind.i64.wrap ((i : Int) + 1 + 1))] st := fun h => by
        rw [show IntKind.i64.wrap ((i : Int) + 1 + 1) = ((i + 1 : Nat) : Int) + 1 by rw [wrap64 (by omega) (by omega)]; omega]
        exact k (by rw [← hq, h, Bool.true_and])
      refine br_of (fun hl => hk (by simp [hl])) (fun hl => ?_)
      refine callK_just (h_spec_l00Digit _ _) ?_
      try simp
      refine br_of (fun hd => hk (by simp [hd])) (fun hd => ?_)
      exact Just.bool (by rw [← hq, hl, hd]; rfl)
    · intro hq
      try simp
      exact Just.bool hq
theorem h_spec_NameOK (s : List UInt8) (st : St) : HCalls prog n_spec_NameOK [.str s] st (Just (.bool (nameOK s)) st) := by
  apply c_spec_NameOK
  unfold b_spec_NameOK
  generalize hv : nameOK s = v
  unfold nameOK at hv
  refine callK_just (h_spec_l00Word _ _) ?_
  try simp
  refine br_of (fun hw => ?_) (fun hw => Just.bool (by rw [← hv, hw]; rfl))
  rw [hw, Bool.true_and] at hv
  refine br_dec (fun h => Just.bool (by rw [← hv, decide_eq_true h]; rfl)) (fun h1 => ?_)
  rw [decide_eq_false h1, Bool.not_false, Bool.true_and] at hv
  refine br_dec (fun h => Just.bool (by rw [← hv, decide_eq_true h]; rfl)) (fun h2 => ?_)
  rw [decide_eq_false h2, Bool.not_false, Bool.true_and] at hv
  cases s with
  | nil => simp [wordOK] at hw
  | cons c r =>
    have hlen : r.length ≤ 40 := by simp [wordOK] at hw; omega
    simp only at hv
    have hc : (c.toNat : Int) = 120 ↔ c = 120 := by
      constructor
      · intro h; exact UInt8.toNat.inj (by simpa using (by omega : c.toNat = 120))
      · rintro rfl; rfl
    try simp
    refine hJ_of fun J hJ => ?_
    refine loop_list r (fun i => [.int .i64 ((i : Int) + 1)]) st (fun rest => (!decide (c = 120) || decide (r = []) || !(rest.all digit)) = v) ?_ ?_ hv
    · intro i x rest hi hx hq k
      have hne : r ≠ [] := by intro e; rw [e] at hi; simp at hi
      have e : (c :: r)[i + 1]? = some x := by simpa using hx
      rw [List.all_cons] at hq
      try simp
      refine br_dec (fun _ => ?_) (fun h => by omega)
      refine br_dec (fun hx => ?_) (fun hx => Just.bool (by rw [hc] at hx; rw [← hq, decide_eq_false hx]; rfl))
      rw [hc] at hx
      rw [show ((i : Int) + 1) = ((i + 1 : Nat) : Int) by omega, q_ix_str _ _ _ e]
      try simp
      refine callK_just (h_spec_l00Digit _ _) ?_
      try simp
      refine br_of (fun hd => ?_) (fun hd => Just.bool (by rw [← hq, hd]; simp))
      rw [show IntKind.i64.wrap ((i : Int) + 1 + 1) = ((i + 1 : Nat) : Int) + 1 by rw [wrap64 (by omega) (by omega)]; omega]
      exact k (by rw [← hq, hd, Bool.true_and])
    · intro hq
      try simp
      refine hJ _ _ ?_
      refine br_dec (fun hx => ?_) (fun hx => Just.bool (by rw [hc] at hx; rw [← hq, decide_eq_false hx]; rfl))
      rw [hc] at hx
      refine Just.bool ?_
      rw [← hq, decide_eq_true hx]
      cases r <;> simp
      omega
theorem h_spec_l01Terms_of (ts : List Tr) (o : Bool) (st : St) (hl : ts.length ≤ maxLen) (ih : ∀ t ∈ ts, ∀ st, HCalls prog n_spec_l01Term [tree t, .bool o] st (Just (.bool (t.isTerm o)) st)) :
    HCalls prog n_spec_l01Terms [trees ts, .bool o] st (Just (.bool (ts.all (Tr.isArg o))) st) := by
  apply c_spec_l01Terms
  unfold b_spec_l01Terms
  generalize hv : ts.all (Tr.isArg o) = v
  try simp
  refine loop_list ts (fun i => [.int .i64 (i : Int)]) st (fun rest => v = rest.all (Tr.isArg o)) ?_ ?_ hv.symm
  · intro i x rest hi hx hq k
    rw [List.all_cons] at hq
    try simp [hi]
    refine hJ_of fun J hJ => ?_
    have main : J [.bool (o && decide (x.kind = 8))] st := hJ _ _ (by
      try simp
      by_cases h8 : o = true ∧ x.kind = 8
      · have hb : Tr.isArg o x = x.bare 0 := by unfold Tr.isArg; rw [if_pos h8]
        rw [hb] at hq
        rw [show (o && decide (x.kind = 8)) = true by simp [h8], ia_tree _ hx]
        try simp
        refine br_dec (fun hn => ?_) (fun hn => Just.bool (by rw [hq]; simp [Tr.bare, hn]))
        refine br_dec (fun hm => ?_) (fun hm => Just.bool (by rw [hq]; simp [Tr.bare, hm]))
        refine br_dec (fun hk => ?_) (fun hk => Just.bool (by rw [hq]; simp [Tr.bare, hk]))
        rw [W_idx hi hl]
        exact k (by rw [hq]; simp [Tr.bare, hn, hm, hk])
      · have hb : Tr.isArg o x = x.isTerm o := by unfold Tr.isArg; rw [if_neg h8]
        rw [hb] at hq
        have : (o && decide (x.kind = 8)) = false := by
          cases o <;> simp at h8 ⊢
          exact h8
        rw [this, ia_tree _ hx]
        try simp
        refine callK_just (ih x (List.mem_of_getElem? hx) _) ?_
        try simp
        refine br_of (fun ht => ?_) (fun ht => Just.bool (by rw [hq]; simp [ht]))
        rw [W_idx hi hl]
        exact k (by rw [hq]; simp [ht]))
    refine br_of (fun ho => ?_) (fun ho => by simpa [ho] using main)
    rw [ia_tree _ hx]
    simpa [ho] using main
  · intro hq
    try simp
    exact Just.bool hq.symm

theorem two_all {α : Type} {xs : List α} {p : α → Bool} (h : xs.length = 2) : ∃ a b, xs = [a, b] ∧ xs.all p = (p a && p b) := by
  match xs, h with
  | [a, b], _ => exact ⟨a, b, rfl, by simp⟩
theorem one_all {α : Type} {xs : List α} {p : α → Bool} (h : xs.length = 1) : ∃ a, xs = [a] ∧ xs.all p = p a := by
  match xs, h with
  | [a], _ => exact ⟨a, rfl, by simp⟩
theorem h_spec_l01Term_of (t : Tr) (o : Bool) (st : St) (ih : ∀ x ∈ t.kids, ∀ st, HCalls prog n_spec_l01Term [tree x, .bool o] st (Just (.bool (x.isTerm o)) st))
    (ihs : ∀ st, HCalls prog n_spec_l01Terms [trees t.kids, .bool o] st (Just (.bool (t.kids.all (Tr.isArg o))) st)) :
    HCalls prog n_spec_l01Term [tree t, .bool o] st (Just (.bool (t.isTerm o)) st) := by
  apply c_spec_l01Term
  unfold b_spec_l01Term
  refine e_box_ref (tree_isJunk _) ?_
  generalize hv : t.isTerm o = v
  rw [Tr.isTerm_eq] at hv
  try simp
  refine br_dec (fun h4 => ?_) (fun h4 => ?_)
  · rw [if_pos h4] at hv
    unfold Tr.bare at hv
    refine br_dec (fun hn => ?_) (fun hn => Just.bool (by rw [← hv, decide_eq_false hn]; rfl))
    refine br_dec (fun hs => ?_) (fun hs => Just.bool (by rw [← hv, decide_eq_false hs]; simp))
    refine br_dec (fun hl => ?_) (fun hl => Just.bool (by rw [← hv, decide_eq_false (show ¬ t.kids.length = 1 by omega)]; simp))
    obtain ⟨a, ha, hall⟩ := one_all (p := Tr.isTerm o) (xs := t.kids) (by omega)
    rw [hall, decide_eq_true hn, decide_eq_true hs, decide_eq_true (by omega)] at hv
    rw [ia_tree0 (t := a) _ (by rw [ha]; rfl)]
    try simp
    refine callK_just (ih a (by rw [ha]; simp) _) ?_
    exact Just.bool (by rw [← hv]; simp)
  · rw [if_neg h4] at hv
    refine hJ_of fun J hJ => ?_
    have args : ∀ (b : Bool), v = (b && t.kids.all (Tr.isArg o)) → br b (callK prog n_spec_l01Terms [.sl 4 false (t.kids.map tree), .bool o] st (fun v51 st_1 => retR (Just (.bool v) st) v51 st_1) (panR (Just (.bool v) st))) (retR (Just (.bool v) st) (.bool false) st) := by
      intro b hb
      refine br_of (fun h => ?_) (fun h => Just.bool (by rw [hb, h]; rfl))
      refine callK_just (ihs _) ?_
      exact Just.bool (by rw [hb, h]; rfl)
    have main : J [.bool (decide (t.kind = 5 ∨ t.kind = 7))] st := hJ _ _ (by
      try simp
      refine br_of (fun h57 => ?_) (fun h57 => ?_)
      · have h57' : t.kind = 5 ∨ t.kind = 7 := by simpa using h57
        rw [if_pos h57'] at hv
        refine br_dec (fun h0 => ?_) (fun h0 => Just.bool (by rw [← hv, decide_eq_false h0]; rfl))
        refine br_dec (fun h1 => ?_) (fun h1 => Just.bool (by rw [← hv, decide_eq_false h1]; simp))
        refine args _ ?_
        rw [← hv, decide_eq_true h0, decide_eq_true h1]; rfl
      · have h57' : ¬ (t.kind = 5 ∨ t.kind = 7) := by simpa using h57
        rw [if_neg h57'] at hv
        refine br_dec (fun h6 => ?_) (fun h6 => Just.bool (by rw [← hv, if_neg h6]))
        rw [if_pos h6] at hv
        refine br_dec (fun h0 => ?_) (fun h0 => Just.bool (by rw [← hv, decide_eq_false h0]; rfl))
        refine callK_just (h_spec_NameOK _ _) ?_
        try simp
        refine args _ ?_
        rw [← hv, decide_eq_true h0]; rfl)
    refine br_dec (fun h5 => ?_) (fun h5 => ?_)
    · simpa [h5] using main
    · simpa [h5] using main
theorem h_spec_l01Term (t : Tr) (o : Bool) (st : St) : HCalls prog n_spec_l01Term [tree t, .bool o] st (Just (.bool (t.isTerm o)) st) := by
  induction t using Tr.ind generalizing st with
  | _ t ih =>
  refine HCalls.wf e_spec_l01Term fun hw => ?_
  exact h_spec_l01Term_of t o st ih fun st => h_spec_l01Terms_of _ o st (tree_wf hw.1).1 ih
theorem h_spec_l01Simple (t : Tr) (st : St) : HCalls prog n_spec_l01Simple [tree t] st (Just (.bool t.isSimple) st) := by
  induction t using Tr.ind generalizing st with
  | _ t ih =>
  apply c_spec_l01Simple
  unfold b_spec_l01Simple
  refine e_box_ref (tree_isJunk _) ?_
  generalize hv : t.isSimple = v
  rw [Tr.isSimple_eq] at hv
  try simp
  refine br_dec (fun h4 => ?_) (fun h4 => ?_)
  · rw [if_pos h4] at hv
    unfold Tr.bare at hv
    refine br_dec (fun hn => ?_) (fun hn => Just.bool (by rw [← hv, decide_eq_false hn]; rfl))
    refine br_dec (fun hs => ?_) (fun hs => Just.bool (by rw [← hv, decide_eq_false hs]; simp))
    refine br_dec (fun hl => ?_) (fun hl => Just.bool (by rw [← hv, decide_eq_false (show ¬ t.kids.length = 2 by omega)]; simp))
    obtain ⟨a, b, ha, hall⟩ := two_all (p := Tr.isSimple) (xs := t.kids) (by omega)
    rw [hall, decide_eq_true hn, decide_eq_true hs, decide_eq_true (by omega)] at hv
    rw [ia_tree0 (t := a) _ (by rw [ha]; rfl)]
    try simp
    refine callK_just (ih a (by rw [ha]; simp) _) ?_
    try simp
    refine br_of (fun h => ?_) (fun h => Just.bool (by rw [← hv, h]; rfl))
    rw [ia_tree1 (t := b) _ (by rw [ha]; rfl)]
    try simp
    refine callK_just (ih b (by rw [ha]; simp) _) ?_
    exact Just.bool (by rw [← hv, h]; rfl)
  · rw [if_neg h4] at hv
    refine br_dec (fun h9 => ?_) (fun h9 => Just.bool (by rw [← hv, if_neg h9]))
    rw [if_pos h9] at hv
    refine br_dec (fun hn => ?_) (fun hn => Just.bool (by rw [← hv, decide_eq_false hn]; rfl))
    refine callK_just (h_spec_NameOK _ _) ?_
    try simp
    refine br_of (fun h => ?_) (fun h => Just.bool (by rw [← hv, h]; simp))
    exact Just.bool (by rw [← hv, h, decide_eq_true hn]; simp)
def countT (t : Tr) (m : Int) : Int := if (t.size : Int) ≤ m then m - t.size else -1
theorem h_spec_l01Count (t : Tr) (m : Int) (hm : 0 ≤ m ∧ m ≤ 1000000) (st : St) : HCalls prog n_spec_l01Count [tree t, .int .i64 m] st (Just (.int .i64 (countT t m)) st) := by
  induction t using Tr.ind generalizing m st with
  | _ t ih =>
  refine HCalls.wf e_spec_l01Count fun hw => ?_
  have hl := (tree_wf hw.1).1
  apply c_spec_l01Count
  unfold b_spec_l01Count
  refine e_box_ref (tree_isJunk _) ?_
  generalize hv : countT t m = v
  have hs := Tr.size_eq t
  try simp
  rw [wrap64 (by omega) (by omega)]
  refine loop_fold (β := Int) t.kids (fun c i => [.int .i64 c, .int .i64 (i : Int)]) (fun _ => st)
    (fun c rest => -1 ≤ c ∧ c ≤ 1000000 ∧ v = if 0 ≤ c then (if ((rest.map Tr.size).sum : Int) ≤ c then c - (rest.map Tr.size).sum else -1) else -1) ?_ ?_ (m - 1) ⟨by omega, by omega, by
      rw [← hv]; unfold countT; split <;> split <;> (try split) <;> omega⟩
  · intro i x rest c hi hx ⟨hc1, hc2, hq⟩ k
    simp only [List.map_cons, List.sum_cons] at hq
    have := x.size_pos
    try simp
    refine hJ_of fun J hJ => ?_
    refine br_dec (fun _ => ?_) (fun h => absurd hi (by omega))
    refine hJ _ _ ?_
    try simp
    refine br_dec (fun h => ?_) (fun h => ?_)
    · rw [ia_tree _ hx]
      try simp
      refine callK_just (ih x (List.mem_of_getElem? hx) c (by omega) _) ?_
      try simp
      rw [W_idx hi hl]
      refine k _ ⟨?_, ?_, ?_⟩
      · unfold countT; split <;> omega
      · unfold countT; split <;> omega
      · rw [hq]; unfold countT; split <;> (try split) <;> (try split) <;> (try split) <;> omega
    · exact Just.int (by rw [hq, if_neg h]; omega)
  · intro c ⟨hc1, hc2, hq⟩
    simp at hq ⊢
    refine hJ_of fun J hJ => ?_
    refine hJ _ _ ?_
    try simp
    exact Just.int (by rw [hq]; split <;> (try split) <;> omega)
theorem h_spec_l01Small (t : Tr) (st : St) : HCalls prog n_spec_l01Small [tree t] st (Just (.bool t.small) st) := by
  apply c_spec_l01Small
  unfold b_spec_l01Small
  refine e_box_ref (tree_isJunk _) ?_
  try simp
  refine callK_just (h_spec_l01Count t 150 (by omega) _) ?_
  try simp
  refine Just.bool ?_
  unfold countT Tr.small
  rw [Bool.eq_iff_iff]; simp; split <;> omega
theorem h_spec_TermOK (t : Tr) (st : St) : HCalls prog n_spec_TermOK [tree t] st (Just (.bool t.termOK) st) := by
  apply c_spec_TermOK
  unfold b_spec_TermOK
  refine e_box_ref (tree_isJunk _) ?_
  try simp
  refine callK_just (h_spec_l01Small t _) ?_
  try simp
  refine br_of (fun h => ?_) (fun h => Just.bool (by unfold Tr.termOK; rw [h]; rfl))
  refine callK_just (h_spec_l01Term t false _) ?_
  exact Just.bool (by unfold Tr.termOK; rw [h]; rfl)
theorem h_spec_SimpleOK (t : Tr) (st : St) : HCalls prog n_spec_SimpleOK [tree t] st (Just (.bool t.simpleOK) st) := by
  apply c_spec_SimpleOK
  unfold b_spec_SimpleOK
  refine e_box_ref (tree_isJunk _) ?_
  try simp
  refine callK_just (h_spec_l01Small t _) ?_
  try simp
  refine br_of (fun h => ?_) (fun h => Just.bool (by unfold Tr.simpleOK; rw [h]; rfl))
  refine callK_just (h_spec_l01Simple t _) ?_
  exact Just.bool (by unfold Tr.simpleOK; rw [h]; rfl)
theorem h_spec_l03Simples (ts : List Tr) (m : Int) (st : St) : HCalls prog n_spec_l03Simples [trees ts, .int .i64 m] st (Just (.bool (simplesOK ts m)) st) := by
  refine HCalls.wf e_spec_l03Simples fun hw => ?_
  have hl := (trees_wf hw.1).1
  apply c_spec_l03Simples
  unfold b_spec_l03Simples
  generalize hv : simplesOK ts m = v
  unfold simplesOK at hv
  try simp
  refine br_dec (fun h => Just.bool (by rw [← hv, decide_eq_false (by omega)]; rfl)) (fun h => ?_)
  rw [decide_eq_true (by omega), Bool.true_and] at hv
  refine loop_list ts (fun i => [.int .i64 (i : Int)]) st (fun rest => rest.all Tr.simpleOK = v) ?_ ?_ hv
  · intro i x rest hi hx hq k
    rw [List.all_cons] at hq
    try simp [hi]
    rw [ia_tree _ hx]
    try simp
    refine callK_just (h_spec_SimpleOK x _) ?_
    try simp
    refine br_of (fun h => ?_) (fun h => Just.bool (by rw [← hq, h]; rfl))
    rw [W_idx hi hl]
    exact k (by rw [← hq, h]; rfl)
  · intro hq
    try simp
    exact Just.bool hq
theorem h_spec_l01Binds (t : Tr) (i : Int) (st : St) : HCalls prog n_spec_l01Binds [tree t, .int .i64 i] st (Just (.bool (decide (t.under i = 1))) st) := by
  apply c_spec_l01Binds
  unfold b_spec_l01Binds
  refine e_box_ref (tree_isJunk _) ?_
  try simp
  refine br_dec (fun h => Just.bool (by simp [Tr.under, h])) (fun h => ?_)
  refine br_dec (fun h2 => ?_) (fun h2 => Just.bool (by simp [Tr.under, h, h2]))
  exact Just.bool (by simp [Tr.under, h2])
theorem h_spec_l01Under (t : Tr) (i : Int) (st : St) : HCalls prog n_spec_l01Under [tree t, .int .i64 i] st (Just (.int .i64 (t.under i)) st) := by
  apply c_spec_l01Under
  unfold b_spec_l01Under
  refine e_box_ref (tree_isJunk _) ?_
  try simp
  refine callK_just (h_spec_l01Binds t i _) ?_
  try simp
  refine br_dec (fun h => Just.int h.symm) (fun h => Just.int ?_)
  unfold Tr.under at h ⊢
  split <;> simp_all
theorem h_spec_l01Same (a b : Tr) (st : St) : HCalls prog n_spec_l01Same [tree a, tree b] st (Just (.bool (decide (a = b))) st) := by
  induction a using Tr.ind generalizing b st with
  | _ a ih =>
  refine HCalls.wf e_spec_l01Same fun hw => ?_
  have hl := (tree_wf hw.1).1
  apply c_spec_l01Same
  unfold b_spec_l01Same
  refine e_box_ref (tree_isJunk _) ?_
  refine e_box_ref (tree_isJunk _) ?_
  generalize hv : decide (a = b) = v
  have he := Tr.ext_iff a b
  try simp
  refine br_dec (fun h1 => ?_) (fun h1 => Just.bool (by rw [← hv, decide_eq_false (by rw [he]; simp [h1])]))
  refine br_dec (fun h2 => ?_) (fun h2 => Just.bool (by rw [← hv, decide_eq_false (by rw [he]; simp [h2])]))
  refine br_dec (fun h3 => ?_) (fun h3 => Just.bool (by rw [← hv, decide_eq_false (by rw [he]; simp [h3])]))
  refine br_dec (fun h4 => ?_) (fun h4 => Just.bool (by rw [← hv, decide_eq_false (by rw [he]; intro e; rw [e.2.2.2] at h4; exact h4 rfl)]))
  have hl4 : a.kids.length = b.kids.length := by omega
  refine loop_idx (β := Unit) a.kids (fun _ i => [.int .i64 (i : Int)]) (fun _ => st) (fun _ i rest => decide (rest = b.kids.drop i) = v) ?_ ?_ () (by rw [← hv, decide_eq_decide, he]; simp [h1, h2, h3])
  · intro i x rest _ hi hx hq k
    obtain ⟨y, hy⟩ : ∃ y, b.kids[i]? = some y := ⟨b.kids[i]'(by omega), List.getElem?_eq_getElem _⟩
    rw [drop_some hy] at hq
    try simp [hi]
    rw [ia_tree _ hx, ia_tree _ hy]
    try simp
    refine callK_just (ih x (List.mem_of_getElem? hx) y _) ?_
    try simp
    refine br_dec (fun h => ?_) (fun h => Just.bool (by rw [← hq, decide_eq_false (by simp [h])]))
    rw [W_idx hi hl]
    exact k () (by rw [← hq, h, decide_eq_decide]; simp)
  · intro _ hq
    try simp
    exact Just.bool (by rw [← hq, hl4, List.drop_length]; rfl)
end Go.H.Tryz
set_option linter.unusedVariables false
set_option linter.unusedSimpArgs false
namespace Go.H.Tryz
open Go Go.H

theorem h_spec_l01With (t : Tr) (ks : List Tr) (st : St) : HCalls prog n_spec_l01With [tree t, trees ks] st (Just (tree (.mk t.kind t.n t.name ks)) st) := by
  apply c_spec_l01With
  unfold b_spec_l01With
  refine e_box_ref (tree_isJunk _) ?_
  intro b hb
  try simp [q_struct, fillL, upd_apply, q_load_p]
  exact Just.ret (Sub.fresh (Sub.refl _) hb)
theorem h_spec_l01Lam (t : Tr) (st : St) : HCalls prog n_spec_l01Lam [tree t] st (Just (tree (Tr.lam t)) st) := by
  apply c_spec_l01Lam
  unfold b_spec_l01Lam
  refine e_box_ref (tree_isJunk _) ?_
  intro b hb
  try simp [q_struct, fillL, upd_apply, q_load_p]
  exact Just.tree rfl (.inl rfl) rfl rfl rfl (Sub.fresh (Sub.refl _) hb)
theorem h_spec_l01Var (n : Int) (e : Nat) (f : Bool) (ks : List Tr) (he : e = 4 ∨ ks = []) (st : St) : HCalls prog n_spec_l01Var [.int .i64 n, .sl e f (ks.map tree)] st (Just (tree (Tr.var n ks)) st) := by
  apply c_spec_l01Var
  unfold b_spec_l01Var
  intro b hb
  try simp [q_struct, fillL, upd_apply, q_load_p]
  exact Just.tree rfl (by rcases he with h | h; exact .inl h; exact .inr (by simp [h])) rfl rfl rfl (Sub.fresh (Sub.refl _) hb)
theorem h_spec_l01Var0 (n : Int) (st : St) : HCalls prog n_spec_l01Var [.int .i64 n, .sl 0 true []] st (Just (tree (Tr.var n [])) st) := h_spec_l01Var n 0 true [] (.inr rfl) st
theorem h_spec_l01Lift (t : Tr) (frm b : Int) (hsz : t.size ≤ 1000000000000) (st : St) : HCalls prog n_spec_l01Lift [tree t, .int .i64 frm, .int .i64 b] st (Just (tree (t.lift frm b)) st) := by
  induction t using Tr.ind generalizing frm st with
  | _ t ih =>
  refine HCalls.wf e_spec_l01Lift fun hw => ?_
  have hl := (tree_wf hw.1).1
  have hlen : t.kids.length ≤ 1000000000000 := by have := t.kids_len; omega
  apply c_spec_l01Lift
  unfold b_spec_l01Lift
  refine e_box_ref (tree_isJunk _) ?_
  intro b6 hb6
  generalize hv : t.lift frm b = v
  rw [Tr.lift_eq] at hv
  try simp
  refine hJ_of fun J hJ => ?_
  generalize hst1 : upd st b6 (HObj.cells [PV.int IntKind.i64 0, PV.int IntKind.i64 0, PV.str [], PV.sl 0 true []]) = st1 at hJ ⊢
  refine loop_idx (β := PV × St) t.kids (fun s i => [s.1, .int .i64 (i : Int)]) (fun s => s.2) (fun s i rest => Grow st1 4 (((t.kids.mapIdx fun i x => Tr.lift x (W (frm + t.under i)) b).take i).map tree) s.1 s.2) ?_ ?_ (_, st1) (Grow.nil _ _ _)
  · rintro i x rest ⟨p, s⟩ hi hx hq k
    simp only at hq
    try simp [hi]
    rw [ia_tree _ hx]
    try simp
    refine callK_just (h_spec_l01Under t i _) ?_
    try simp
    refine callK_just (ih x (List.mem_of_getElem? hx) _ (by have := Tr.kid_size (List.mem_of_getElem? hx); omega) _) ?_
    try simp
    refine hq.append (elems_sl _ _ _ _) (by simp; omega) fun p' st' hg => ?_
    rw [W_idx hi hl]
    refine k (p', st') ?_
    simp only
    rw [mapIdx_snoc _ _ _ hx]
    simpa using hg
  · rintro ⟨p, s⟩ hq
    simp only at hq
    try simp
    refine hJ _ _ ?_
    try simp
    rw [List.take_of_length_le (by simp)] at hq
    refine callK_conv (Conv.two (Conv.sub hq.sub) hq.freeze) ?_
    refine callK_just (h_spec_l01With t _ _) ?_
    subst hst1
    intro b9 hb9
    simp only [upd_none] at hb9
    try simp [q_load_p, upd_apply, hb9]
    refine hJ_of fun J hJ => ?_
    have fin : ∀ st2, Sub st st2 → retR (Just (tree v) st) (tree v) st2 := fun st2 h => Just.ret h
    refine br_dec (fun h5 => ?_) (fun h5 => ?_)
    · refine hJ _ _ ?_
      try simp
      refine br_dec (fun hf => ?_) (fun hf => ?_)
      · simp [q_load_p, upd_apply, hb9]
        rw [if_pos ⟨h5, hf⟩] at hv
        subst hv
        exact Just.ret (((Sub.refl _).fresh hb6 |>.fresh hb9.2.2).fresh hb6)
      · simp [q_load_p, upd_apply, hb9]
        rw [if_neg (fun h => hf h.2)] at hv
        subst hv
        exact Just.ret ((Sub.refl _).fresh hb6 |>.fresh hb9.2.2 |>.fresh hb6)
    · refine hJ _ _ ?_
      try simp [q_load_p, upd_apply, hb9]
      rw [if_neg (fun h => h5 h.1)] at hv
      subst hv
      exact Just.ret ((Sub.refl _).fresh hb6 |>.fresh hb9.2.2 |>.fresh hb6)

theorem h_spec_l03Long (head a : Tr) (ha : a.isSimple = true) (hsz : a.size ≤ 1000000) (hh : head.size ≤ 1000000) (st : St) : HCalls prog n_spec_l03Long [tree head, tree a] st (Just (tree (longForm head a)) st) := by
  induction hn : SizeOf.sizeOf a using Nat.strongRecOn generalizing head a st with
  | _ N ih =>
  have hargs := Tr.args_size a ha
  apply c_spec_l03Long
  unfold b_spec_l03Long
  refine e_box_ref (tree_isJunk _) ?_
  refine e_box_own (tree_isJunk _) fun b3 hb3 => ?_
  intro b4 hb4
  simp only [upd_none] at hb4
  generalize hv : longForm head a = v
  rw [longForm_eq] at hv
  try simp [q_load_p, upd_apply, hb4]
  intro b6 hb6
  simp only [upd_none] at hb6
  try simp [q_load_p, upd_apply, hb6]
  generalize hs0 : upd (upd (upd st b3 (HObj.cells (tree a).cells)) b4 (HObj.cells [PV.int IntKind.i64 0, PV.int IntKind.i64 0, PV.str [], PV.sl 0 true []])) b6 (HObj.cells (tree a).cells) = s0
  have h03 : s0 b3 = some (.cells (tree a).cells) := by subst hs0; simp [upd_apply, hb6, hb4]
  have h04 : s0 b4 = some (HObj.cells [PV.int IntKind.i64 0, PV.int IntKind.i64 0, PV.str [], PV.sl 0 true []]) := by subst hs0; simp [upd_apply, hb6, hb4]
  have h06 : s0 b6 = some (.cells (tree a).cells) := by subst hs0; simp [upd_apply]
  have hsub : Sub st s0 := by subst hs0; exact ((Sub.refl _).fresh hb3 |>.fresh hb4.2.2).fresh hb6.2.2.2.2
  have hb34 : b3 ≠ b4 := fun e => hb4.1 e.symm
  clear hs0 hb6
  refine hFix_rec (σ := Nat × Tr × Nat × St) (fun s => s.2.1.size) (fun s => [.int .i64 (s.1 : Int), .ptr s.2.2.1 0]) (fun s => s.2.2.2)
    (fun s => s.2.2.2 s.2.2.1 = some (.cells (tree s.2.1).cells) ∧ s.2.2.2 b3 = some (.cells (tree a).cells) ∧ s.2.2.2 b4 = some (HObj.cells [PV.int IntKind.i64 0, PV.int IntKind.i64 0, PV.str [], PV.sl 0 true []]) ∧ Sub st s.2.2.2 ∧ s.2.1.isSimple = true ∧ s.1 + s.2.1.args.length = a.args.length) ?_ (0, a, b6, s0) ⟨h06, h03, h04, hsub, ha, by simp⟩
  rintro ⟨n, u, q, s⟩ ⟨g1, g3, g4, gs, gu, gn⟩ ihl
  simp only at g1 g3 g4 gs gu gn
  try simp [q_load_p g1]
  refine br_dec (fun hk => ?_) (fun hk => ?_)
  · rcases Tr.simple_cases gu with ⟨_, x, y, e, hx, hy, _⟩ | ⟨hk2, _⟩
    · intro c hc
      try simp [q_load_p, upd_apply, ia_tree1 (ts := u.kids) (t := y) _ (by rw [e]; rfl)]
      have e2 := Tr.args_arrow hk e
      rw [e2] at gn
      simp only [List.length_cons] at gn
      rw [show IntKind.i64.wrap ((n : Int) + 1) = ((n + 1 : Nat) : Int) by rw [wrap64 (by omega) (by omega)]; omega]
      refine ihl (n + 1, y, c, upd s c (.cells (tree y).cells)) (by simp only; exact Tr.kid_size (by rw [e]; simp)) ⟨?_, ?_, ?_, ?_, hy, by simp only; omega⟩
      · simp [upd_apply]
      · simp [upd_apply, ne_of g3 hc, g3]
      · simp [upd_apply, ne_of g4 hc, g4]
      · exact gs.put (gs.isNone hc)
    · omega
  · rw [Tr.args_base hk] at gn
    simp at gn
    subst gn
    refine callK_just (h_spec_l01Lift head 0 _ (by omega) _) ?_
    intro b7 hb7
    have n37 := ne_of g3 hb7
    have gs0 := gs
    have n47 := ne_of g4 hb7
    try simp [q_load_p, upd_apply]
    have hlk : (head.lift 0 (a.args.length : Int)).kids.length ≤ 1000000 := by have := head.kids_len; simp; omega
    generalize hout : head.lift 0 (a.args.length : Int) = out at hv hlk ⊢
    have hw : IntKind.i64.wrap ((a.args.length : Int) - 1) = (a.args.length : Int) - 1 := wrap64 (by omega) (by omega)
    rw [hw]
    generalize hs2 : upd s b7 (HObj.cells (tree out).cells) = s2
    have k3 : s2 b3 = some (.cells (tree a).cells) := by subst hs2; simp [upd_apply, n37, g3]
    have k4 : s2 b4 = some (HObj.cells [PV.int IntKind.i64 0, PV.int IntKind.i64 0, PV.str [], PV.sl 0 true []]) := by subst hs2; simp [upd_apply, n47, g4]
    have k7 : s2 b7 = some (.cells (tree out).cells) := by subst hs2; simp [upd_apply]
    have ks : Sub st s2 := by subst hs2; exact gs.put (gs.isNone hb7)
    clear hs2 ihl g1 g3 g4 gs
    refine (Grow.nil s2 4 4).append (elems_sl _ _ _ _) (by simp; omega) fun p' s' hg => ?_
    rw [show ((a.args.length : Int) - 1) = (a.args.length : Int) - 1 - ((0 : Nat) : Int) by omega]
    refine loop_idx (β := PV × St × St × Tr) a.args (fun z j => [z.1, .int .i64 ((a.args.length : Int) - 1 - (j : Int))]) (fun z => z.2.1)
      (fun z j rest => Grow z.2.2.1 4 ((out.kids ++ (a.args.mapIdx fun i b => longForm (Tr.var (W (W (a.args.length - 1) - i)) []) b).take j).map tree) z.1 z.2.1 ∧ z.2.2.1 b3 = some (.cells (tree z.2.2.2).cells) ∧ z.2.2.1 b4 = some (HObj.cells [PV.int IntKind.i64 0, PV.int IntKind.i64 0, PV.str [], PV.sl 0 true []]) ∧ z.2.2.1 b7 = some (.cells (tree out).cells) ∧ Sub st z.2.2.1 ∧ z.2.2.2.isSimple = true ∧ z.2.2.2.args = rest) ?_ ?_ (p', s', s2, a) ⟨by simpa using hg, k3, k4, k7, ks, ha, rfl⟩
    · rintro j x rest ⟨p, s, sb, u⟩ hj hx ⟨q0, q3, q4, q7, qs, qu, qa⟩ kk
      simp only at q0 q3 q4 q7 qs qu qa
      try simp
      refine br_dec (fun _ => ?_) (fun h => absurd h (by omega))
      have e3 := q0.sub.get q3
      rcases Tr.simple_cases qu with ⟨hku, y, z, e, hy, hz, _⟩ | ⟨hk2, _⟩
      · have e2 := Tr.args_arrow hku e
        rw [qa] at e2
        simp only [List.cons.injEq] at e2
        obtain ⟨rfl, rfl⟩ := e2
        try simp [q_load_p e3, ia_tree0 (ts := u.kids) (t := x) _ (by rw [e]; rfl)]
        refine callK_just (h_spec_l01Var0 _ _) ?_
        try simp [q_load_p e3]
        have hxa : x ∈ a.args := List.mem_of_getElem? hx
        have hxs : x.size ≤ 1000000 := by have := Tr.sizes_mem hxa; omega
        refine callK_just (ih _ (by rw [← hn]; exact Tr.args_lt a x hxa) _ x (Tr.args_simple a ha x hxa) hxs (by simp [Tr.var, Tr.size_eq]) _ rfl) ?_
        try simp
        have hwj : IntKind.i64.wrap ((a.args.length : Int) - 1 - (j : Int)) = (a.args.length : Int) - 1 - (j : Int) := wrap64 (by omega) (by omega)
        refine q0.append (elems_sl _ _ _ _) (by simp; omega) fun p2 s2' hg2 => ?_
        have e3' := hg2.sub.get q3
        try simp [q_load_p e3', ia_tree1 (ts := u.kids) (t := z) _ (by rw [e]; rfl)]
        rw [e_store_p _ _ _ _ _ _ _ e3']
        try simp
        rw [show IntKind.i64.wrap ((a.args.length : Int) - 1 - (j : Int) - 1) = (a.args.length : Int) - 1 - ((j + 1 : Nat) : Int) by rw [wrap64 (by omega) (by omega)]; omega]
        refine kk (p2, upd s2' b3 (.cells (tree z).cells), upd sb b3 (.cells (tree z).cells), z) ⟨?_, ?_, ?_, ?_, ?_, hz, rfl⟩
        · have := hg2.store (.cells (tree z).cells) q3
          simp only
          have hel : longForm (Tr.var (W (W ((a.args.length : Int) - 1) - (j : Int))) []) x = longForm (Tr.var ((a.args.length : Int) - 1 - (j : Int)) []) x := by simp only [W]; rw [hw, hwj]
          rw [mapIdx_snoc _ _ _ hx, hel]
          simpa using this
        · simp [upd_apply]
        · simp [upd_apply, hb34.symm, q4]
        · simp [upd_apply, n37.symm, q7]
        · exact qs.put hb3
      · rw [Tr.args_base (by omega)] at qa; cases qa
    · rintro ⟨p, s, sb, u⟩ ⟨q0, q3, q4, q7, qs, qu, qa⟩
      simp only at q0 q3 q4 q7 qs qu qa
      try simp
      refine br_dec (fun h => absurd h (by omega)) (fun _ => ?_)
      rw [List.take_of_length_le (by simp)] at q0
      have e7 := q0.sub.get q7
      try simp [q_load_p e7]
      refine callK_conv (Conv.two (Conv.sub q0.sub) q0.freeze) ?_
      refine callK_just (h_spec_l01With out _ _) ?_
      rw [e_store_p _ _ _ _ _ _ _ q7]
      try simp
      generalize hT : Tr.mk out.kind out.n out.name (out.kids ++ List.mapIdx (fun i b => longForm (Tr.var (W (W (a.args.length - 1) - i)) []) b) a.args) = T
      have hout2 : lams a.args.length T = v := by
        rw [← hT, ← hv]
        congr 2
        · rw [← hout, Tr.lift_eq]; rfl
        · rw [← hout, Tr.lift_eq]; rfl
      refine hFix_rec (σ := Nat × St × Tr) (fun z => z.1) (fun z => [.int .i64 (z.1 : Int)]) (fun z => z.2.1) (fun z => z.2.1 b7 = some (.cells (tree z.2.2).cells) ∧ z.2.1 b4 = some (HObj.cells [PV.int IntKind.i64 0, PV.int IntKind.i64 0, PV.str [], PV.sl 0 true []]) ∧ Sub st z.2.1 ∧ lams z.1 z.2.2 = v ∧ z.1 ≤ a.args.length) ?_ (a.args.length, upd sb b7 (.cells (tree T).cells), T) ⟨by simp [upd_apply], by simp [upd_apply, n47, q4], ?_, hout2, by simp⟩
      · rintro ⟨m, s, t⟩ ⟨r7, r4, rs, rl, rm⟩ ihm
        simp only at r7 r4 rs rl rm
        try simp
        refine br_dec (fun hm => ?_) (fun hm => ?_)
        · simp [q_load_p r7]
          refine callK_just (h_spec_l01Lam t _) ?_
          rw [e_store_p _ _ _ _ _ _ _ r7]
          try simp
          obtain ⟨m', rfl⟩ : ∃ m', m = m' + 1 := ⟨m - 1, by omega⟩
          rw [show IntKind.i64.wrap (((m' + 1 : Nat) : Int) - 1) = (m' : Int) by rw [wrap64 (by omega) (by omega)]; omega]
          refine ihm (m', upd s b7 (.cells (tree (Tr.lam t)).cells), Tr.lam t) (by simp only; omega) ⟨by simp [upd_apply], by simp [upd_apply, n47, r4], ?_, rl, by simp only; omega⟩
          exact rs.put (gs0.isNone hb7)
        · have : m = 0 := by omega
          subst this
          simp only [lams] at rl
          subst rl
          try simp [q_load_p r7, e_store_p _ _ _ _ _ _ _ r4, upd_apply, q_load_p]
          exact Just.ret (rs.put hb4.2.2)
      · exact qs.put (gs0.isNone hb7)
end Go.H.Tryz
set_option linter.unusedVariables false
set_option linter.unusedSimpArgs false
namespace Go.H.Tryz
open Go Go.H

theorem h_spec_l06Args (a : Tr) (ha : a.isSimple = true) (hsz : a.size ≤ 1000000) (st : St) : HCalls prog n_spec_l06Args [tree a] st (Just (trees a.args) st) := by
  apply c_spec_l06Args
  unfold b_spec_l06Args
  refine e_box_own (tree_isJunk _) fun b1 hb1 => ?_
  have hargs := Tr.args_size a ha
  generalize hv : a.args = v at hargs
  try simp
  generalize hs1 : upd st b1 (HObj.cells (tree a).cells) = s1
  refine hFix_rec (σ := PV × St × St × Tr × List Tr) (fun z => z.2.2.2.1.size) (fun z => [z.1]) (fun z => z.2.1)
    (fun z => Grow z.2.2.1 4 (z.2.2.2.2.map tree) z.1 z.2.1 ∧ z.2.2.1 b1 = some (.cells (tree z.2.2.2.1).cells) ∧ Sub st z.2.2.1 ∧ z.2.2.2.1.isSimple = true ∧ z.2.2.2.2 ++ z.2.2.2.1.args = v) ?_ (_, s1, s1, a, [])
    ⟨Grow.nil _ _ _, by subst hs1; simp [upd_apply], by subst hs1; exact (Sub.refl _).fresh hb1, ha, by simpa using hv⟩
  rintro ⟨p, s, sb, u, acc⟩ ⟨q0, q1, qs, qu, qa⟩ ihl
  simp only at q0 q1 qs qu qa
  have e1 := q0.sub.get q1
  try simp [q_load_p e1]
  refine br_dec (fun hk => ?_) (fun hk => ?_)
  · rcases Tr.simple_cases qu with ⟨_, x, y, e, hx, hy, _⟩ | ⟨hk2, _⟩
    · simp [q_load_p e1, ia_tree0 (ts := u.kids) (t := x) _ (by rw [e]; rfl)]
      have e2 := Tr.args_arrow hk e
      refine q0.append (elems_sl _ _ _ _) (by rw [e2] at qa; have := congrArg List.length qa; simp at this ⊢; omega) fun p2 s2 hg => ?_
      have e1' := hg.sub.get q1
      try simp [q_load_p e1', ia_tree1 (ts := u.kids) (t := y) _ (by rw [e]; rfl)]
      rw [e_store_p _ _ _ _ _ _ _ e1']
      try simp
      refine ihl (p2, upd s2 b1 (.cells (tree y).cells), upd sb b1 (.cells (tree y).cells), y, acc ++ [x]) (by simp only; exact Tr.kid_size (by rw [e]; simp)) ⟨?_, by simp [upd_apply], qs.put hb1, hy, by simp only; rw [← qa, e2]; simp⟩
      simpa using hg.store (.cells (tree y).cells) q1
    · omega
  · rw [Tr.args_base hk, List.append_nil] at qa
    subst qa
    exact Just.conv (Conv.trans q0.freeze (Conv.sub qs))
theorem h_spec_l06Place {l : List Int} (k : Int) {p : PV} {st : St} (hr : Reads st 1 (l.map (PV.int .i64)) p) (hl : l.length ≤ 1000000000) : HCalls prog n_spec_l06Place [p, .int .i64 k] st (Just (.int .i64 (place l k)) st) := by
  apply c_spec_l06Place
  unfold b_spec_l06Place
  generalize hv : place l k = v
  try simp [hr.len]
  refine loop_idx (β := Unit) l (fun _ i => [.int .i64 (i : Int)]) (fun _ => st) (fun _ i rest => placeGo k i rest = v) ?_ ?_ () hv
  · intro i x rest _ hi hx hq kk
    obtain ⟨a, h1, h2⟩ := hr.get i (.int .i64 x) .i64 (by simp [hx])
    try simp [hi, h1, h2]
    rw [placeGo] at hq
    refine br_dec (fun h => Just.int ?_) (fun h => ?_)
    · rw [← hq, if_pos h]
    · rw [if_neg h] at hq
      rw [W_idx hi (by unfold maxLen; omega)]
      exact kk () hq
  · intro _ hq
    try simp
    exact Just.int hq
end Go.H.Tryz
set_option linter.unusedVariables false
set_option linter.unusedSimpArgs false
namespace Go.H.Tryz
open Go Go.H

theorem h_strings_Trim (s cs : List UInt8) (hs : s.length ≤ 9223372036854775807) (hc : cs.length ≤ 1000) (ha : cs.all (fun b => decide (b.toNat < 128)) = true) (st : St) :
    HCalls prog n_strings_Trim [.str s, .str cs] st (Just (.str (Lib.trimS s cs)) st) := by
  refine HCalls.below [.string ⟨s.toArray⟩, .string ⟨cs.toArray⟩] e_strings_Trim (ROs_str2 s cs) (fun C => RO_str_mk C _) fun w => ?_
  exact Go.Proofs.Tryz.strings_Trim_ascii ⟨s.toArray⟩ ⟨cs.toArray⟩ w (by simpa [ByteArray.size] using hs) (by simp [ByteArray.size]; omega) (Go.Proofs.ascii_of_all (by simpa using ha))
theorem h_strings_IndexByte (s : List UInt8) (c : UInt8) (st : St) : HCalls prog n_strings_IndexByte [.str s, .int .u8 c.toNat] st (Just (.int .i64 (Lib.indexByte s c)) st) := by
  refine HCalls.below [.string ⟨s.toArray⟩, .int .u8 c.toNat] e_strings_IndexByte (ROs_str_int s .u8 c.toNat) (v := .int .i64 (Lib.indexByte s c)) (fun C => RO_int_mk C _ _) fun w => ?_
  refine (Go.Proofs.Tryz.strings_IndexByte ⟨s.toArray⟩ c.toNat w).mono ?_
  rintro e w' ⟨rfl, rfl⟩
  exact ⟨by simp, RowKit.Below.refl _ _⟩
theorem h_impl_over (s cs : List UInt8) (hs : s.length ≤ 9223372036854775807) (hc : cs.length ≤ 1000) (ha : cs.all (fun b => decide (b.toNat < 128)) = true) (st : St) :
    HCalls prog n_impl_over [.str s, .str cs] st (Just (.bool (s.all fun c => cs.contains c)) st) := by
  apply c_impl_over
  unfold b_impl_over
  refine callK_just (h_strings_Trim s cs hs hc ha _) ?_
  generalize hv : (s.all fun c => cs.contains c) = v
  try simp
  refine Just.bool ?_
  rw [← hv, Bool.eq_iff_iff, decide_eq_true_eq, trimS_nil]
theorem h_impl_in (n a b : Int) (st : St) : HCalls prog n_impl_in [.int .i64 n, .int .i64 a, .int .i64 b] st (Just (.bool (decide (a ≤ n) && decide (n ≤ b))) st) := by
  apply c_impl_in
  unfold b_impl_in
  try simp
  refine br_dec (fun h => Just.bool (by simp [h])) (fun h => Just.bool (by simp [h]))
theorem h_impl_isHead (c : UInt8) (st : St) : HCalls prog n_impl_isHead [.int .u8 c.toNat] st (Just (.bool (letter c)) st) := by
  apply c_impl_isHead
  unfold b_impl_isHead
  refine callK_just (h_strings_IndexByte headSigns c _) ?_
  try simp
  refine Just.bool ?_
  rw [Bool.eq_iff_iff, decide_eq_true_eq, (indexByte_neg c headSigns).1, letter_signs]
theorem h_impl_wordOK (s : List UInt8) (st : St) : HCalls prog n_impl_wordOK [.str s] st (Just (.bool (wordOK s)) st) := by
  apply c_impl_wordOK
  unfold b_impl_wordOK
  generalize hv : wordOK s = v
  try simp
  refine callK_just (h_impl_in _ _ _ _) ?_
  try simp
  cases s with
  | nil => simp; exact Just.bool (by rw [← hv]; rfl)
  | cons c r =>
    simp only [wordOK] at hv
    refine br_of (fun h => ?_) (fun h => Just.bool ?_)
    · simp at h
      try simp
      refine callK_just (h_impl_isHead _ _) ?_
      try simp
      refine br_of (fun hc => ?_) (fun hc => Just.bool (by rw [← hv, hc]; simp))
      refine callK_just (h_impl_over (c :: r) wordSigns (by simp; omega) (by decide) (by decide +kernel) _) ?_
      refine Just.bool ?_
      rw [← hv, hc, decide_eq_true (by omega)]
      simp only [List.all_cons, word_signs, hc, Bool.true_or, Bool.true_and]
    · rw [← hv, decide_eq_false (by simp at h; omega)]; rfl
theorem h_internal_stringslite_HasPrefix (s p : List UInt8) (st : St) : HCalls prog n_internal_stringslite_HasPrefix [.str s, .str p] st (Just (.bool (p.isPrefixOf s)) st) := by
  apply c_internal_stringslite_HasPrefix
  unfold b_internal_stringslite_HasPrefix
  generalize hv : p.isPrefixOf s = v
  try simp
  refine br_dec (fun h => ?_) (fun h => Just.bool ?_)
  · simp [q_sliceS, q_slice, optI, h]
    refine Just.bool ?_
    rw [← hv, Bool.eq_iff_iff, decide_eq_true_eq, List.isPrefixOf_iff_prefix, List.prefix_iff_eq_take]
    exact eq_comm
  · rw [← hv]
    cases hp : p.isPrefixOf s with
    | false => rfl
    | true =>
      have := (List.isPrefixOf_iff_prefix.1 hp).length_le
      omega
theorem h_internal_stringslite_CutPrefix (s p : List UInt8) (st : St) : HCalls prog n_internal_stringslite_CutPrefix [.str s, .str p] st (Just (.tup [.str (if p.isPrefixOf s = true then s.drop p.length else s), .bool (p.isPrefixOf s)]) st) := by
  apply c_internal_stringslite_CutPrefix
  unfold b_internal_stringslite_CutPrefix
  refine callK_just (h_internal_stringslite_HasPrefix _ _ _) ?_
  generalize hv : PV.tup [.str (if p.isPrefixOf s = true then s.drop p.length else s), .bool (p.isPrefixOf s)] = v
  cases h : p.isPrefixOf s with
  | true =>
    rw [h] at hv
    have hl := (List.isPrefixOf_iff_prefix.1 h).length_le
    try simp [q_sliceS, q_slice, optI, hl]
    exact Just.same hv
  | false =>
    rw [h] at hv
    try simp
    exact Just.same hv
theorem h_strings_CutPrefix (s p : List UInt8) (st : St) : HCalls prog n_strings_CutPrefix [.str s, .str p] st (Just (.tup [.str (if p.isPrefixOf s = true then s.drop p.length else s), .bool (p.isPrefixOf s)]) st) := by
  apply c_strings_CutPrefix
  unfold b_strings_CutPrefix
  refine callK_just (h_internal_stringslite_CutPrefix _ _ _) ?_
  try simp
  exact Just.same rfl
theorem h_impl_NameOK (s : List UInt8) (st : St) : HCalls prog n_impl_NameOK [.str s] st (Just (.bool (nameOK s)) st) := by
  apply c_impl_NameOK
  unfold b_impl_NameOK
  generalize hv : nameOK s = v
  unfold nameOK at hv
  refine callK_just (h_impl_wordOK _ _) ?_
  try simp
  refine br_of (fun hw => ?_) (fun hw => Just.bool (by rw [← hv, hw]; rfl))
  rw [hw, Bool.true_and] at hv
  refine br_dec (fun h => Just.bool (by rw [← hv, decide_eq_true h]; rfl)) (fun h1 => ?_)
  rw [decide_eq_false h1, Bool.not_false, Bool.true_and] at hv
  refine br_dec (fun h => Just.bool (by rw [← hv, decide_eq_true h]; rfl)) (fun h2 => ?_)
  rw [decide_eq_false h2, Bool.not_false, Bool.true_and] at hv
  cases s with
  | nil => simp [wordOK] at hw
  | cons c r =>
    have hlen : r.length ≤ 40 := by simp [wordOK] at hw; omega
    simp only at hv
    refine callK_just (h_strings_CutPrefix _ _ _) ?_
    try simp
    by_cases hc : c = 120
    · subst hc
      try simp [List.isPrefixOf]
      refine br_dec (fun h => Just.bool (by rw [← hv, h]; rfl)) (fun h => ?_)
      refine callK_just (h_impl_over r digitSigns (by omega) (by decide) (by decide +kernel) _) ?_
      simp only [digit_signs]
      refine Just.bool ?_
      rw [← hv, decide_eq_false h]; simp
    · have : ([120] : List UInt8).isPrefixOf (c :: r) = false := by
        simp [List.isPrefixOf]; exact fun h => hc h.symm
      try simp [this]
      exact Just.bool (by rw [← hv, decide_eq_false hc]; rfl)
end Go.H.Tryz
set_option linter.unusedVariables false
set_option linter.unusedSimpArgs false
namespace Go.H.Tryz
open Go Go.H

theorem h_impl_Tree_bare (t : Tr) (k : Nat) {p : PV} {st : St} (hp : PT st (tree t).cells p) : HCalls prog n_impl_Tree_bare [p, .int .i64 (k : Int)] st (Just (.bool (t.bare k)) st) := by
  apply c_impl_Tree_bare
  unfold b_impl_Tree_bare
  generalize hv : t.bare k = v
  unfold Tr.bare at hv
  obtain ⟨q1, g1, g1'⟩ := hp.at_ 1 (by simp)
  obtain ⟨q2, g2, g2'⟩ := hp.at_ 2 (by simp)
  obtain ⟨q3, g3, g3'⟩ := hp.at_ 3 (by simp)
  try simp [hp.nil, g1, g1']
  refine br_dec (fun hn => ?_) (fun hn => Just.bool (by rw [← hv, decide_eq_false hn]; rfl))
  try simp [hp.nil, g2, g2']
  refine br_dec (fun hs => ?_) (fun hs => Just.bool (by rw [← hv, decide_eq_false hs]; simp))
  try simp [hp.nil, g3, g3']
  exact Just.bool (by rw [← hv, decide_eq_true hn, decide_eq_true hs]; simp; omega)
def lk (m : Int) (o : Bool) : HObj := .cells [.int .i64 m, .bool o]
def LookR (b : Nat) (o : Bool) (res : Option Int) (st : St) : Res → St → Prop := fun r st' => match res with
  | some m => r = .ret (.bool true) ∧ st' = upd st b (lk m o)
  | none => r = .ret (.bool false) ∧ ∃ m, st' = upd st b (lk m o)
theorem callK_look {P : Program} {g : FuncId} {us : List PV} {st : St} {b : Nat} {o : Bool} {K Kp : PV → St → Prop} {res : Option Int} (hc : HCalls P g us st (LookR b o res st)) (hy : ∀ m, res = some m → K (.bool true) (upd st b (lk m o))) (hn : res = none → ∀ m, K (.bool false) (upd st b (lk m o))) : callK P g us st K Kp := by
  refine callK_of hc (fun q st' h => ?_) (fun q st' h => ?_)
  · cases res with
    | some m => obtain ⟨h, rfl⟩ := h; cases h; exact hy m rfl
    | none => obtain ⟨h, m, rfl⟩ := h; cases h; exact hn rfl m
  · cases res with
    | some m => obtain ⟨h, _⟩ := h; cases h
    | none => obtain ⟨h, _⟩ := h; cases h
theorem LookR.yes {b : Nat} {o : Bool} {m : Int} {st st1 : St} {res : Option Int} (h : res = some m) (hs : Sub (upd st b (lk m o)) st1) : retR (LookR b o res st) (.bool true) st1 := by
  subst h; exact retR_sub hs ⟨rfl, rfl⟩
theorem LookR.no {b : Nat} {o : Bool} {m : Int} {st st1 : St} {res : Option Int} (h : res = none) (hs : Sub (upd st b (lk m o)) st1) : retR (LookR b o res st) (.bool false) st1 := by
  subst h; exact retR_sub hs ⟨rfl, m, rfl⟩
theorem h_impl_looker_node (b : Nat) (o : Bool) (m : Int) (hm : -1000 ≤ m ∧ m ≤ 1000) {st : St} (hb : st b = some (lk m o)) :
    HCalls prog n_impl_looker_node [.ptr b 0] st (LookR b o (if 1 ≤ m then some (m - 1) else none) st) := by
  apply c_impl_looker_node
  unfold b_impl_looker_node
  unfold lk at hb
  try simp [q_load_p hb]
  rw [wrap64 (by omega) (by omega), e_store_p _ _ _ _ _ _ _ hb]
  try simp [setRange, q_load_p, upd_apply]
  by_cases h : 1 ≤ m
  · rw [if_pos h, decide_eq_true (by omega)]
    exact LookR.yes rfl (Sub.refl _)
  · rw [if_neg h, decide_eq_false (by omega)]
    exact LookR.no (m := m - 1) rfl (Sub.refl _)
theorem Sub.self {st : St} {b : Nat} {o : HObj} (h : st b = some o) : Sub (Go.H.upd st b o) st := fun c oc hc => by
  unfold Go.H.upd at hc
  split at hc
  · rename_i e; rw [e, h]; exact hc
  · exact hc
theorem h_impl_looker_args_of (b : Nat) (o : Bool) (ts : List Tr) (hl : ts.length ≤ maxLen) (m : Int) (hm : 0 ≤ m ∧ m ≤ 1000) {st : St} (hb : st b = some (lk m o))
    (ih : ∀ t ∈ ts, ∀ m : Int, 0 ≤ m ∧ m ≤ 1000 → ∀ {st : St}, st b = some (lk m o) → HCalls prog n_impl_looker_term [.ptr b 0, tree t] st (LookR b o (looks (Tr.isTerm o) t m) st)) :
    HCalls prog n_impl_looker_args [.ptr b 0, trees ts] st (LookR b o (looksAll (Tr.isArg o) ts m) st) := by
  apply c_impl_looker_args
  unfold b_impl_looker_args
  generalize hv : looksAll (Tr.isArg o) ts m = v
  try simp
  refine loop_fold (β := Int × St) ts (fun z i => [.int .i64 (i : Int)]) (fun z => z.2) (fun z rest => 0 ≤ z.1 ∧ z.1 ≤ 1000 ∧ Sub (upd st b (lk z.1 o)) z.2 ∧ looksAll (Tr.isArg o) rest z.1 = v) ?_ ?_ (m, st) ⟨hm.1, hm.2, Sub.self hb, hv⟩
  · rintro i x rest ⟨m, s⟩ hi hx ⟨q1, q2, qs, qv⟩ k
    simp only at q1 q2 qs qv
    rw [looksAll_cons] at qv
    have hsb : s b = some (lk m o) := qs.get (by simp [upd_apply])
    have hxm := List.mem_of_getElem? hx
    try simp [hi, ia_tree _ hx]
    intro c hc
    have hne := ne_of hsb hc
    have hst : (upd st b (lk m o)) c = none := by
      cases h : upd st b (lk m o) c with
      | none => rfl
      | some oc => rw [qs c oc h] at hc; cases hc
    try simp [q_load_p, upd_apply]
    refine hJ_of fun J hJ => ?_
    have hs2 : Sub (upd st b (lk m o)) (upd s c (.cells (tree x).cells)) := qs.put hst
    have hb2 : upd s c (.cells (tree x).cells) b = some (lk m o) := by simp [upd_apply, hne, hsb]
    have next : ∀ m', looks (Tr.isArg o) x m = some m' → ∀ s' : St, Sub (upd st b (lk m' o)) s' → hFix _ [.int .i64 (IntKind.i64.wrap ((i : Int) + 1))] s' := fun m' hm' s' hs' => by
      rw [W_idx hi hl]
      have := looks_le hm'
      rw [hm'] at qv
      exact k (m', s') ⟨this.1, by simp only; omega, hs', qv⟩
    have stop : looks (Tr.isArg o) x m = none → ∀ m' (s' : St), Sub (upd st b (lk m' o)) s' → retR (LookR b o v st) (.bool false) s' := fun h m' s' hs' => by
      rw [h] at qv
      exact LookR.no (by rw [← qv]; rfl) hs'
    have hup : ∀ m', Sub (upd st b (lk m' o)) (upd (upd s c (.cells (tree x).cells)) b (lk m' o)) := fun m' => by
      have := hs2.upd b (lk m' o)
      simpa using this
    have main : J [.bool (o && decide (x.kind = 8))] (upd s c (.cells (tree x).cells)) := hJ _ _ (by
      by_cases h8 : o = true ∧ x.kind = 8
      · have hb1 : Tr.isArg o x = x.bare 0 := by unfold Tr.isArg; rw [if_pos h8]
        rw [show (o && decide (x.kind = 8)) = true by simp [h8]]
        try simp
        refine callK_just (h_impl_Tree_bare x 0 (PT.ptr (by simp [upd_apply]))) ?_
        try simp
        refine br_of (fun h => ?_) (fun h => ?_)
        · have hk : x.size = 1 := by
            unfold Tr.bare at h
            simp only [Bool.and_eq_true, decide_eq_true_eq] at h
            rw [Tr.size_kids, List.length_eq_zero_iff.1 h.2]; rfl
          refine callK_look (h_impl_looker_node b o m (by omega) hb2) (fun m' hm' => ?_) (fun hm' m' => ?_)
          · simp
            refine next m' ?_ _ (hup m')
            split at hm'
            · cases hm'
              unfold looks; rw [if_pos ⟨by rw [hb1]; exact h, by omega⟩, hk]; rfl
            · cases hm'
          · simp
            refine stop ?_ m' _ (hup m')
            split at hm'
            · cases hm'
            · unfold looks; rw [if_neg (by rw [hk]; omega)]
        · exact stop (by unfold looks; rw [if_neg (fun hh => by rw [hb1, h] at hh; cases hh.1)]) m _ hs2
      · have hb1 : Tr.isArg o x = x.isTerm o := by unfold Tr.isArg; rw [if_neg h8]
        have : (o && decide (x.kind = 8)) = false := by
          cases o <;> simp at h8 ⊢
          exact h8
        have hle : looks (Tr.isArg o) x m = looks (Tr.isTerm o) x m := by unfold looks; rw [hb1]
        rw [this]
        try simp [q_load_p, upd_apply]
        refine callK_look (ih x hxm m ⟨q1, q2⟩ hb2) (fun m' hm' => ?_) (fun hm' m' => ?_)
        · simp
          exact next m' (by rw [hle]; exact hm') _ (hup m')
        · simp
          exact stop (by rw [hle]; exact hm') m' _ (hup m'))
    have hb3 := hb2
    unfold lk at hb3
    rw [q_load_p hb3]
    try simp
    refine br_of (fun ho => ?_) (fun ho => ?_)
    · simpa [ho, q_load_p, upd_apply] using main
    · simpa [ho] using main
  · rintro ⟨m, s⟩ ⟨q1, q2, qs, qv⟩
    simp only at q1 q2 qs qv
    rw [looksAll_nil _ q1] at qv
    try simp
    exact LookR.yes qv.symm qs
end Go.H.Tryz
set_option linter.unusedVariables false
set_option linter.unusedSimpArgs false
namespace Go.H.Tryz
open Go Go.H

theorem looks_kids {f : Tr → Bool} {g : Tr → Bool} {t : Tr} {m : Int} (h : f t = t.kids.all g) : looks f t m = if 1 ≤ m then looksAll g t.kids (m - 1) else none := by
  unfold looks looksAll
  rw [h, Tr.size_kids]
  by_cases h1 : 1 ≤ m
  · rw [if_pos h1]
    by_cases h2 : t.kids.all g = true ∧ (Tr.sizes t.kids : Int) ≤ m - 1
    · rw [if_pos h2, if_pos ⟨h2.1, by omega⟩]; congr 1; omega
    · rw [if_neg h2, if_neg (fun hh => h2 ⟨hh.1, by omega⟩)]
  · rw [if_neg h1, if_neg (fun hh => by omega)]
theorem looks_no {f : Tr → Bool} {t : Tr} {m : Int} (h : f t = false) : looks f t m = none := by
  unfold looks; rw [if_neg (fun hh => by rw [h] at hh; cases hh.1)]
theorem looks_small {f : Tr → Bool} {t : Tr} {m : Int} (h : ¬ 1 ≤ m) : looks f t m = none := by
  have := t.size_pos
  unfold looks; rw [if_neg (fun hh => by omega)]
theorem h_impl_looker_term_of (b : Nat) (o : Bool) (t : Tr) (m : Int) (hm : 0 ≤ m ∧ m ≤ 1000) {st : St} (hb : st b = some (lk m o))
    (ih : ∀ x ∈ t.kids, ∀ m : Int, 0 ≤ m ∧ m ≤ 1000 → ∀ {st : St}, st b = some (lk m o) → HCalls prog n_impl_looker_term [.ptr b 0, tree x] st (LookR b o (looks (Tr.isTerm o) x m) st))
    (ihs : ∀ m : Int, 0 ≤ m ∧ m ≤ 1000 → ∀ {st : St}, st b = some (lk m o) → HCalls prog n_impl_looker_args [.ptr b 0, trees t.kids] st (LookR b o (looksAll (Tr.isArg o) t.kids m) st)) :
    HCalls prog n_impl_looker_term [.ptr b 0, tree t] st (LookR b o (looks (Tr.isTerm o) t m) st) := by
  apply c_impl_looker_term
  unfold b_impl_looker_term
  refine e_box_ref (tree_isJunk _) ?_
  generalize hv : looks (Tr.isTerm o) t m = v
  have ht := Tr.isTerm_eq o t
  refine callK_look (h_impl_looker_node b o m (by omega) hb) (fun m' hm' => ?_) (fun hm' m' => ?_)
  rotate_left
  · simp
    refine LookR.no ?_ (Sub.refl (upd st b (lk m' o)))
    rw [← hv]
    split at hm'
    · cases hm'
    · exact looks_small ‹_›
  split at hm'
  case isFalse => cases hm'
  rename_i h1
  cases hm'
  have hb' : upd st b (lk (m - 1) o) b = some (lk (m - 1) o) := upd_same _ _ _
  have no : Tr.isTerm o t = false → retR (LookR b o v st) (.bool false) (upd st b (lk (m - 1) o)) := fun h => LookR.no (by rw [← hv]; exact looks_no h) (Sub.refl (upd st b (lk (m - 1) o)))
  have step : ∀ (g : Tr → Bool) (n : FuncId) (us : List PV), (Tr.isTerm o t = t.kids.all g) → HCalls prog n us (upd st b (lk (m - 1) o)) (LookR b o (looksAll g t.kids (m - 1)) (upd st b (lk (m - 1) o))) →
      callK prog n us (upd st b (lk (m - 1) o)) (fun p s => retR (LookR b o v st) p s) (panR (LookR b o v st)) := fun g n us hg hc => by
    rw [looks_kids hg, if_pos h1] at hv
    rw [hv] at hc
    refine callK_look hc (fun m' hm' => ?_) (fun hm' m' => ?_)
    · simp
      exact LookR.yes hm' (Sub.refl _)
    · simp
      exact LookR.no hm' (Sub.refl (upd st b (lk m' o)))
  try simp
  refine br_dec (fun h4 => ?_) (fun h4 => ?_)
  · rw [if_pos h4] at ht
    refine callK_just (h_impl_Tree_bare t 1 (PT.ref _ _)) ?_
    try simp
    refine br_of (fun hbr => ?_) (fun hbr => no (by rw [ht, hbr]; rfl))
    have hl : t.kids.length = 1 := by unfold Tr.bare at hbr; simp at hbr; exact hbr.2
    obtain ⟨a, ha, hall⟩ := one_all' (p := Tr.isTerm o) hl
    try simp [ia_tree0 (ts := t.kids) (t := a) _ (by rw [ha]; rfl)]
    refine step (Tr.isTerm o) _ _ (by rw [ht, hbr]; rfl) ?_
    have hx := ih a (by rw [ha]; simp) (m - 1) (by omega) hb'
    have e : looksAll (Tr.isTerm o) t.kids (m - 1) = looks (Tr.isTerm o) a (m - 1) := by
      unfold looksAll looks; rw [ha]; simp [Tr.sizes]
    rw [e]
    exact hx
  · rw [if_neg h4] at ht
    refine hJ_of fun J hJ => ?_
    have main : J [.bool (decide (t.kind = 5 ∨ t.kind = 7))] (upd st b (lk (m - 1) o)) := hJ _ _ (by
      try simp
      refine br_of (fun h57 => ?_) (fun h57 => ?_)
      · have h57' : t.kind = 5 ∨ t.kind = 7 := by simpa using h57
        rw [if_pos h57'] at ht
        refine callK_just (h_impl_in _ _ _ _) ?_
        try simp
        refine br_of (fun h0 => ?_) (fun h0 => no (by rw [ht, h0]; rfl))
        refine br_dec (fun hs => ?_) (fun hs => no (by rw [ht, decide_eq_false hs]; simp))
        exact step (Tr.isArg o) _ _ (by rw [ht, h0, decide_eq_true hs]; rfl) (ihs _ (by omega) hb')
      · have h57' : ¬ (t.kind = 5 ∨ t.kind = 7) := by simpa using h57
        rw [if_neg h57'] at ht
        refine br_dec (fun h6 => ?_) (fun h6 => no (by rw [ht, if_neg h6]))
        rw [if_pos h6] at ht
        refine br_dec (fun h0 => ?_) (fun h0 => no (by rw [ht, decide_eq_false h0]; rfl))
        refine callK_just (h_impl_NameOK _ _) ?_
        try simp
        refine br_of (fun hs => ?_) (fun hs => no (by rw [ht, hs]; simp))
        exact step (Tr.isArg o) _ _ (by rw [ht, decide_eq_true h0, hs]; rfl) (ihs _ (by omega) hb'))
    refine br_dec (fun h5 => ?_) (fun h5 => ?_)
    · simpa [h5] using main
    · simpa [h5] using main
theorem h_impl_looker_term (b : Nat) (o : Bool) (t : Tr) (m : Int) (hm : 0 ≤ m ∧ m ≤ 1000) {st : St} (hb : st b = some (lk m o)) :
    HCalls prog n_impl_looker_term [.ptr b 0, tree t] st (LookR b o (looks (Tr.isTerm o) t m) st) := by
  induction t using Tr.ind generalizing m st with
  | _ t ih =>
  refine HCalls.wf e_impl_looker_term fun hw => ?_
  exact h_impl_looker_term_of b o t m hm hb ih fun m hm {st} hb => h_impl_looker_args_of b o t.kids (tree_wf hw.2.1).1 m hm hb ih
theorem h_impl_looker_simple (b : Nat) (o : Bool) (t : Tr) (m : Int) (hm : 0 ≤ m ∧ m ≤ 1000) {st : St} (hb : st b = some (lk m o)) :
    HCalls prog n_impl_looker_simple [.ptr b 0, tree t] st (LookR b o (looks Tr.isSimple t m) st) := by
  induction t using Tr.ind generalizing m st with
  | _ t ih =>
  apply c_impl_looker_simple
  unfold b_impl_looker_simple
  refine e_box_ref (tree_isJunk _) ?_
  generalize hv : looks Tr.isSimple t m = v
  have ht := Tr.isSimple_eq t
  refine callK_look (h_impl_looker_node b o m (by omega) hb) (fun m' hm' => ?_) (fun hm' m' => ?_)
  rotate_left
  · simp
    refine LookR.no ?_ (Sub.refl (upd st b (lk m' o)))
    rw [← hv]
    split at hm'
    · cases hm'
    · exact looks_small ‹_›
  split at hm'
  case isFalse => cases hm'
  rename_i h1
  cases hm'
  have hb' : upd st b (lk (m - 1) o) b = some (lk (m - 1) o) := upd_same _ _ _
  have no : Tr.isSimple t = false → retR (LookR b o v st) (.bool false) (upd st b (lk (m - 1) o)) := fun h => LookR.no (by rw [← hv]; exact looks_no h) (Sub.refl (upd st b (lk (m - 1) o)))
  try simp
  refine br_dec (fun h9 => ?_) (fun h9 => ?_)
  · rw [if_neg (by omega), if_pos h9] at ht
    refine br_dec (fun h0 => ?_) (fun h0 => no (by rw [ht, decide_eq_false h0]; rfl))
    refine callK_just (h_impl_NameOK _ _) ?_
    try simp
    refine br_of (fun hs => ?_) (fun hs => no (by rw [ht, hs]; simp))
    by_cases hl : t.kids = []
    · rw [hl]
      try simp
      refine LookR.yes (m := m - 1) ?_ (Sub.refl _)
      have hs1 : t.size = 1 := by rw [Tr.size_kids, hl]; rfl
      rw [← hv]; unfold looks
      rw [if_pos ⟨by rw [ht, hs, hl, decide_eq_true h0]; rfl, by rw [hs1]; omega⟩, hs1]; rfl
    · have : decide (t.kids = []) = false := decide_eq_false hl
      try simp [hl]
      exact no (by rw [ht]; simp [hl])
  · refine br_dec (fun h10 => ?_) (fun h10 => no (by rw [ht, if_neg h10, if_neg h9]))
    rw [if_pos h10] at ht
    refine callK_just (h_impl_Tree_bare t 2 (PT.ref _ _)) ?_
    try simp
    refine br_of (fun hbr => ?_) (fun hbr => no (by rw [ht, hbr]; rfl))
    have hl : t.kids.length = 2 := by unfold Tr.bare at hbr; simp at hbr; exact hbr.2
    obtain ⟨x, y, ha, hall⟩ := two_all' (p := Tr.isSimple) hl
    rw [hbr, Bool.true_and] at ht
    rw [looks_kids ht, if_pos h1, ha, looksAll_cons, looksAll_one] at hv
    try simp [ia_tree0 (ts := t.kids) (t := x) _ (by rw [ha]; rfl)]
    refine callK_look (ih x (by rw [ha]; simp) (m - 1) (by omega) hb') (fun m2 hm2 => ?_) (fun hm2 m2 => ?_)
    · have hle := looks_le hm2
      try simp [ia_tree1 (ts := t.kids) (t := y) _ (by rw [ha]; rfl)]
      refine callK_look (ih y (by rw [ha]; simp) m2 (by omega) (by simp [upd_apply])) (fun m3 hm3 => ?_) (fun hm3 m3 => ?_)
      · simp
        have := looks_le hm3
        exact LookR.yes (by rw [← hv, hm2]; simp only [Option.bind_some]; rw [hm3]) (Sub.refl _)
      · simp
        exact LookR.no (m := m3) (by rw [← hv, hm2]; simp only [Option.bind_some]; rw [hm3]) (Sub.refl _)
    · simp
      exact LookR.no (m := m2) (by rw [← hv, hm2]; rfl) (Sub.refl _)
theorem h_impl_fresh (st : St) : HCalls prog n_impl_fresh [] st (fun r st' => ∃ b, st b = none ∧ r = .ret (.ptr b 0) ∧ st' = upd st b (lk 150 false)) := by
  apply c_impl_fresh
  unfold b_impl_fresh
  try simp [q_struct, fillL]
  refine e_box_own rfl fun b hb => ?_
  exact retR_same ⟨b, hb, rfl, rfl⟩
theorem callK_ptr {P : Program} {g : FuncId} {us : List PV} {st : St} {o : HObj} {K Kp : PV → St → Prop} (hc : HCalls P g us st (fun r st' => ∃ b, st b = none ∧ r = .ret (.ptr b 0) ∧ st' = upd st b o)) (hk : ∀ b, st b = none → K (.ptr b 0) (upd st b o)) : callK P g us st K Kp := by
  refine callK_of hc (fun q st' h => ?_) (fun q st' h => ?_)
  · obtain ⟨b, hb, h1, rfl⟩ := h; cases h1; exact hk b hb
  · obtain ⟨b, hb, h1, rfl⟩ := h; cases h1
theorem looks_ok (f : Tr → Bool) (t : Tr) : (looks f t 150).isSome = (t.small && f t) := by
  unfold looks Tr.small
  by_cases h1 : f t = true <;> by_cases h2 : t.size ≤ 150
  · rw [if_pos ⟨h1, by omega⟩]; simp [h1, h2]
  · rw [if_neg (fun h => by omega)]; simp [h1, h2]
  · rw [if_neg (fun h => h1 h.1)]; simp [h1, h2]
  · rw [if_neg (fun h => h1 h.1)]; simp [h1, h2]
theorem h_impl_TermOK (t : Tr) (st : St) : HCalls prog n_impl_TermOK [tree t] st (Just (.bool t.termOK) st) := by
  apply c_impl_TermOK
  unfold b_impl_TermOK
  refine e_box_ref (tree_isJunk _) ?_
  generalize hv : t.termOK = v
  unfold Tr.termOK at hv
  rw [← looks_ok] at hv
  try simp
  refine callK_ptr (h_impl_fresh _) fun b hb => ?_
  try simp
  refine callK_look (h_impl_looker_term b false t 150 (by omega) (upd_same _ _ _)) (fun m hm => ?_) (fun hm m => ?_)
  · exact Just.bool (by rw [← hv, hm]; rfl) (by simpa using (Sub.refl st).fresh hb)
  · exact Just.bool (by rw [← hv, hm]; rfl) (by simpa using (Sub.refl st).fresh hb)
theorem h_impl_SimpleOK (t : Tr) (st : St) : HCalls prog n_impl_SimpleOK [tree t] st (Just (.bool t.simpleOK) st) := by
  apply c_impl_SimpleOK
  unfold b_impl_SimpleOK
  refine e_box_ref (tree_isJunk _) ?_
  generalize hv : t.simpleOK = v
  unfold Tr.simpleOK at hv
  rw [← looks_ok] at hv
  try simp
  refine callK_ptr (h_impl_fresh _) fun b hb => ?_
  try simp
  refine callK_look (h_impl_looker_simple b false t 150 (by omega) (upd_same _ _ _)) (fun m hm => ?_) (fun hm m => ?_)
  · exact Just.bool (by rw [← hv, hm]; rfl) (by simpa using (Sub.refl st).fresh hb)
  · exact Just.bool (by rw [← hv, hm]; rfl) (by simpa using (Sub.refl st).fresh hb)
theorem h_impl_badTerm (t : Tr) (st : St) : HCalls prog n_impl_badTerm [tree t] st (Just (.bool (!t.termOK)) st) := by
  apply c_impl_badTerm
  unfold b_impl_badTerm
  refine e_box_ref (tree_isJunk _) ?_
  try simp
  refine callK_just (h_impl_TermOK t _) ?_
  try simp
  exact Just.bool rfl
theorem h_impl_badSimple (t : Tr) (st : St) : HCalls prog n_impl_badSimple [tree t] st (Just (.bool (!t.simpleOK)) st) := by
  apply c_impl_badSimple
  unfold b_impl_badSimple
  refine e_box_ref (tree_isJunk _) ?_
  try simp
  refine callK_just (h_impl_SimpleOK t _) ?_
  try simp
  exact Just.bool rfl
theorem h_slices_IndexFunc_impl_Tree_impl_Tree (ts : List Tr) (g : FuncId) (us vs : List PV) (p : Tr → Bool) (st : St) (hg : ∀ t ∈ ts, HCalls prog g (us ++ [tree t] ++ vs) st (Just (.bool (p t)) st)) :
    HCalls prog n_slices_IndexFunc_impl_Tree_impl_Tree [trees ts, .fn (.func g) us vs] st (Just (.int .i64 (idxGo p 0 ts)) st) := by
  refine HCalls.wf e_slices_IndexFunc_impl_Tree_impl_Tree fun hw => ?_
  have hl := (trees_wf hw.1).1
  apply c_slices_IndexFunc_impl_Tree_impl_Tree
  unfold b_slices_IndexFunc_impl_Tree_impl_Tree
  generalize hv : idxGo p 0 ts = v
  try simp
  refine loop_idx (β := Unit) ts (fun _ i => [.int .i64 (i : Int)]) (fun _ => st) (fun _ i rest => idxGo p i rest = v) ?_ ?_ () hv
  · intro i x rest _ hi hx hq k
    rw [idxGo] at hq
    try simp [hi, ia_tree _ hx]
    refine callK_just (by simpa using hg x (List.mem_of_getElem? hx)) ?_
    try simp
    refine br_of (fun h => Just.int (by rw [← hq, if_pos h])) (fun h => ?_)
    rw [W_idx hi hl]
    exact k () (by rw [← hq, if_neg (by rw [h]; simp)])
  · intro _ hq
    try simp
    exact Just.int hq
theorem h_slices_ContainsFunc_impl_Tree_impl_Tree (ts : List Tr) (g : FuncId) (us vs : List PV) (p : Tr → Bool) (st : St) (hg : ∀ t ∈ ts, HCalls prog g (us ++ [tree t] ++ vs) st (Just (.bool (p t)) st)) :
    HCalls prog n_slices_ContainsFunc_impl_Tree_impl_Tree [trees ts, .fn (.func g) us vs] st (Just (.bool (ts.any p)) st) := by
  apply c_slices_ContainsFunc_impl_Tree_impl_Tree
  unfold b_slices_ContainsFunc_impl_Tree_impl_Tree
  refine callK_just (h_slices_IndexFunc_impl_Tree_impl_Tree ts g us vs p st hg) ?_
  try simp
  exact Just.bool (by rw [Bool.eq_iff_iff, decide_eq_true_eq]; exact (idxGo_any p ts 0).1)
theorem h_impl_simplesOK (ts : List Tr) (m : Int) (st : St) : HCalls prog n_impl_simplesOK [trees ts, .int .i64 m] st (Just (.bool (simplesOK ts m)) st) := by
  apply c_impl_simplesOK
  unfold b_impl_simplesOK
  generalize hv : simplesOK ts m = v
  unfold simplesOK at hv
  try simp
  refine br_dec (fun h => ?_) (fun h => Just.bool (by rw [← hv, decide_eq_false (by omega)]; rfl))
  refine callK_just (h_slices_ContainsFunc_impl_Tree_impl_Tree ts n_impl_badSimple [] [] (fun t => !t.simpleOK) st (fun t ht => h_impl_badSimple t st)) ?_
  simp only [q_not, qb_some]
  exact Just.bool (by rw [← hv, decide_eq_true (by omega), Bool.true_and, List.not_any_eq_all_not]; simp)
end Go.H.Tryz
set_option linter.unusedVariables false
set_option linter.unusedSimpArgs false
namespace Go.H.Tryz
open Go Go.H

end Go.H.Tryz
set_option linter.unusedVariables false
set_option linter.unusedSimpArgs false
namespace Go.H.Tryz
open Go Go.H
end Go.H.Tryz
