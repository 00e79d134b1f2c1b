/- Part of a proof that the program answers as the reference does: ZFC110, ZFC111, ZFC112, ZFC113, ZFC114. -/
import Derived.Test.YtakcoedklmoboaaGreatDoorHY
import Derived.Test.YtakcoedklmoboaaGreatDoorHZ
import Derived.Test.YtakcoedklmoboaaGreatDoorHM
import Derived.Test.YtakcoedklmoboaaGreatDoorHW
/- Contracts: forms: sameness, draws, the terms that stand for them. -/
set_option linter.unusedVariables false
set_option linter.unusedSimpArgs false
namespace Go.H.Tryz
open Go Go.H

abbrev z3f : List PV := [.int .i64 0, .int .i64 0, .sl 0 true []]
theorem fm_kids_le (f : Fm) : f.kids.length ≤ 2 := by cases f <;> simp [Fm.kids]
theorem h_laws_sameForm (f g : Fm) (st : St) : HCalls prog n_laws_sameForm [fm f, fm g] st (Just (.bool (decide (f = g))) st) := by
  induction f using Fm.ind generalizing g st with
  | _ f ih =>
  apply c_laws_sameForm
  unfold b_laws_sameForm
  generalize hv : decide (f = g) = v
  refine e_box_ref (fm_isJunk _) ?_
  refine e_box_ref (fm_isJunk _) ?_
  have hfk := fm_kids_le f
  have no : ¬ (f.kind = g.kind ∧ f.num = g.num ∧ f.kids = g.kids) → false = v := fun h => by rw [← hv, decide_eq_false (fun e => h (by rw [e]; exact ⟨rfl, rfl, rfl⟩))]
  refine qb_of (x := .ref (fm f).cells) (by simp [q_fa]) ?_
  refine qb_of (x := .int .i64 f.kind) (by simp) ?_
  refine qb_of (x := .ref (fm g).cells) (by simp [q_fa]) ?_
  refine qb_of (x := .int .i64 g.kind) (by simp) ?_
  refine qb_of (x := .bool (decide (f.kind ≠ g.kind))) (by simp) ?_
  refine br_dec (fun h1 => Just.bool (no fun h => h1 h.1) (Sub.refl _)) (fun h1 => ?_)
  refine qb_of (x := .ref ((fm f).cells.drop 1)) (by simp [q_fa]) ?_
  refine qb_of (x := .int .i64 f.num) (by simp) ?_
  refine qb_of (x := .ref ((fm g).cells.drop 1)) (by simp [q_fa]) ?_
  refine qb_of (x := .int .i64 g.num) (by simp) ?_
  refine qb_of (x := .bool (decide (f.num ≠ g.num))) (by simp) ?_
  refine br_dec (fun h2 => Just.bool (no fun h => h2 h.2.1) (Sub.refl _)) (fun h2 => ?_)
  have k2 : ∀ h : Fm, q_fa 2 (.ref (fm h).cells) = some (.ref ((fm h).cells.drop 2)) := fun h => by simp [q_fa]
  have l2 : ∀ (h : Fm) (s : St), q_load s false 1 (.ref ((fm h).cells.drop 2)) = some (.sl 3 false (h.kids.map fm)) := fun h s => by simp
  refine qb_of (k2 f) ?_
  refine qb_of (l2 f _) ?_
  refine qb_of (x := .int .i64 f.kids.length) (by simp) ?_
  refine qb_of (k2 g) ?_
  refine qb_of (l2 g _) ?_
  refine qb_of (x := .int .i64 g.kids.length) (by simp) ?_
  refine qb_of (x := .bool (decide (f.kids.length ≠ g.kids.length))) (by simp; omega) ?_
  refine br_dec (fun h3 => Just.bool (no fun h => h3 (by rw [h.2.2])) (Sub.refl _)) (fun h3 => ?_)
  refine loop_idx (β := Unit) f.kids (fun _ i => [.int .i64 (i : Int)]) (fun _ => st) (fun _ i rest => (f.kids = g.kids ↔ rest = g.kids.drop i)) ?_ ?_ () (by simp)
  · intro i x rest _ hi hx hq kk
    obtain ⟨y, hy⟩ : ∃ y, g.kids[i]? = some y := ⟨g.kids[i]'(by omega), List.getElem?_eq_getElem _⟩
    refine qb_of (k2 f) ?_
    refine qb_of (l2 f _) ?_
    refine qb_of (x := .int .i64 f.kids.length) (by simp) ?_
    refine qb_of (x := .bool true) (by simp [hi]) ?_
    rw [cb_bool, br_true]
    refine qb_of (k2 f) ?_
    refine qb_of (l2 f _) ?_
    refine qb_of (ia_fms .i64 hx) ?_
    refine qb_of (x := fm x) (by simp) ?_
    refine qb_of (k2 g) ?_
    refine qb_of (l2 g _) ?_
    refine qb_of (ia_fms .i64 hy) ?_
    refine qb_of (x := fm y) (by simp) ?_
    refine callK_just (ih x (List.mem_of_getElem? hx) y _) ?_
    refine qb_of (x := .bool (decide (x ≠ y))) (by simp) ?_
    rw [drop_some hy, List.cons.injEq] at hq
    refine br_dec (fun h => Just.bool (no fun hh => h (hq.1 hh.2.2).1) (Sub.refl _)) (fun h => ?_)
    refine qb_of (x := .int .i64 ((i + 1 : Nat) : Int)) (by simp; rw [wrap64 (by omega) (by omega)]) ?_
    exact kk () (by rw [hq]; simp only [Decidable.not_not] at h; simp [h])
  · intro _ hq
    refine qb_of (k2 f) ?_
    refine qb_of (l2 f _) ?_
    refine qb_of (x := .int .i64 f.kids.length) (by simp) ?_
    refine qb_of (x := .bool false) (by simp) ?_
    rw [cb_bool, br_false]
    refine Just.bool ?_ (Sub.refl _)
    simp only [Decidable.not_not] at h1 h2 h3
    rw [← hv, decide_eq_true (Fm.ext_of h1 h2 (hq.2 ?_))]
    rw [List.drop_of_length_le (by omega)]
theorem two_and (st : St) (a b : Fm) : Conv [.agg [.int .i64 2, .int .i64 0, .sl 3 true [fm a, fm b]]] st [fm (.and a b)] st := conv_fm st 2 0 3 true [a, b] (.and a b) ⟨rfl, rfl, rfl⟩ (.inl rfl)
theorem two_imp (st : St) (a b : Fm) : Conv [.agg [.int .i64 3, .int .i64 0, .sl 3 true [fm a, fm b]]] st [fm (.imp a b)] st := conv_fm st 3 0 3 true [a, b] (.imp a b) ⟨rfl, rfl, rfl⟩ (.inl rfl)
def twoF (k : Int) (a b : Fm) : Fm := if k = 2 then .and a b else .imp a b
theorem lit_f2 (a b : Fm) : q_lit 3 2 0 [] [(0, fm a), (1, fm b)] = some (.sl 3 true [fm a, fm b]) := by simp
theorem box3 (a b c : PV) (h : [a, b, c].all PV.cellOK = true) : Box 3 (.agg [a, b, c]) := ⟨_, rfl, rfl, h⟩
theorem h_spec_l08Two (k : Int) (a b : Fm) (hk : k = 2 ∨ k = 3) (st : St) : HCalls prog n_spec_l08Two [.int .i64 k, fm a, fm b] st (Just (fm (twoF k a b)) st) := by
  apply c_spec_l08Two
  unfold b_spec_l08Two
  refine e_box_ref (fm_isJunk _) ?_
  refine e_box_ref (fm_isJunk _) ?_
  refine (Held.start st).alloc fun v6 w1 h1 => ?_
  refine qb_of (x := fm a) (by simp) ?_
  refine qb_of (x := fm b) (by simp) ?_
  refine qb_of (lit_f2 a b) ?_
  refine qb_of (x := .agg [.int .i64 k, .int .i64 0, .sl 3 true [fm a, fm b]]) rfl ?_
  refine h1.store (box3 _ _ _ rfl) rfl fun w2 h2 => ?_
  refine qb_of (h2.top (box3 _ _ _ rfl)) ?_
  rcases hk with rfl | rfl
  · exact Just.conv (Conv.trans (two_and w2 a b) (Conv.sub h2.sub))
  · exact Just.conv (Conv.trans (two_imp w2 a b) (Conv.sub h2.sub))
/-- How large a drawn form is at most; how many draws it takes. -/
def fmS : Nat → Nat
  | 0 => 1
  | d + 1 => 1 + 2 * fmS d
def fmC : Nat → Int
  | 0 => 3
  | d + 1 => 3 + 2 * fmC d
def AForm (d : Nat) (p : PV) : Prop := ∃ f : Fm, p = fm f ∧ f.ok = true ∧ f.size ≤ fmS d
theorem fmC_pos : ∀ d, 3 ≤ fmC d
  | 0 => by decide
  | d + 1 => by have := fmC_pos d; unfold fmC; omega
theorem fmC_ge : ∀ d : Nat, (d : Int) ≤ fmC d
  | 0 => by decide
  | d + 1 => by have := fmC_ge d; have := fmC_pos d; unfold fmC; omega
theorem fmS_pos : ∀ d, 1 ≤ fmS d
  | 0 => by decide
  | d + 1 => by unfold fmS; omega
theorem HS.just {bs : List UInt8} {M : Int} {b : Nat} {st w : St} {L : List (Nat × PV)} {P : List (Nat × List PV)} {Pr : Program} {g : FuncId} {us : List PV} {K Kp : PV → St → Prop} {p : PV} (h : HS bs M b st w L P) (hc : HCalls Pr g us w (Just p w)) (hk : K p w) : callK Pr g us w K Kp := callK_just hc hk
/-- The end of a draw of a form. -/
theorem form_leaf (bs : List UInt8) (hl : bs.length ≤ 1000000000) {M M' : Int} {b : Nat} {st w : St} {v4 d : Nat} {p : PV} (hM : M + 1 ≤ 10000000) (h2 : HS bs (M + 1) b st w [] ([] ++ [(v4, z3f)])) (hp : ABool p) (hm : M + 1 + 1 ≤ M') (hd : 1 ≤ fmS d) :
    cb p fun b_1 => br b_1
      (qb (q_struct [.int .i64 0, .int .i64 0, .sl 0 true []] [(0, 1, (.int .i64 4))]) fun v26 => e_store w 3 (.ptr v4 0) v26 fun st_1 => qb (q_load st_1 true 3 (.ptr v4 0)) fun r_1 => retR (Drew bs M' b (AForm d) st) r_1 st_1)
      (callK prog n_spec_l00Src_next [.ptr b 0, .int .i64 3] w (fun v28 st_1 => qb (q_struct [.int .i64 0, .int .i64 0, .sl 0 true []] [(0, 1, (.int .i64 1)), (1, 1, v28)]) fun v29 => e_store st_1 3 (.ptr v4 0) v29 fun st_2 => qb (q_load st_2 true 3 (.ptr v4 0)) fun r_2 => retR (Drew bs M' b (AForm d) st) r_2 st_2) (panR (Drew bs M' b (AForm d) st))) := by
  obtain ⟨c, rfl⟩ := hp
  rw [cb_bool]
  refine br_of (fun _ => ?_) (fun _ => ?_)
  · refine qb_of (x := .agg [.int .i64 4, .int .i64 0, .sl 0 true []]) rfl ?_
    refine h2.store (box3 _ _ _ rfl) rfl fun w3 h3 => ?_
    refine qb_of (h3.top (box3 _ _ _ rfl)) ?_
    refine retR_via (conv_fm w3 4 0 0 true [] .bot ⟨rfl, rfl, rfl⟩ (.inr rfl)) ?_
    exact (h3.mono (by omega)).fin ⟨.bot, rfl, rfl, hd⟩
  · refine h2.drew (h_spec_l00Src_next bs hl (M + 1) (by omega) 3 (by decide) b w h2.src) fun p w3 hp h3 => ?_
    obtain ⟨k, rfl, k0, k1⟩ := hp
    refine qb_of (x := .agg [.int .i64 1, .int .i64 k, .sl 0 true []]) rfl ?_
    refine h3.store (box3 _ _ _ rfl) rfl fun w4 h4 => ?_
    refine qb_of (h4.top (box3 _ _ _ rfl)) ?_
    refine retR_via (conv_fm w4 1 k 0 true [] (.atom k.toNat) ⟨rfl, by simp only [Fm.num]; omega, rfl⟩ (.inr rfl)) ?_
    exact (h4.mono (by omega)).fin ⟨.atom k.toNat, rfl, by simp only [Fm.ok, decide_eq_true_eq]; omega, hd⟩
theorem h_spec_l00Src_form (bs : List UInt8) (hl : bs.length ≤ 1000000000) : ∀ (d : Nat) (M : Int), 0 ≤ M → M + fmC d ≤ 1000000 → ∀ (b : Nat) (st : St), Src bs M b st → HCalls prog n_spec_l00Src_form [.ptr b 0, .int .i64 d] st (Drew bs (M + fmC d) b (AForm d) st) := by
  intro d
  induction d with
  | zero =>
    intro M hM0 hM b st hs
    have hc0 := fmC_pos 0
    apply c_spec_l00Src_form
    unfold b_spec_l00Src_form
    refine (HS.start hs).alloc fun v4 w1 h1 => ?_
    refine hJ_of fun J hJ => ?_
    refine qb_of (x := .bool false) (by simp) ?_
    rw [cb_bool, br_false]
    refine hJ _ _ ?_
    show cb (.bool false) _
    rw [cb_bool, br_false]
    refine h1.drew (h_spec_l00Src_chance bs hl M (by omega) 6 ⟨by decide, by decide⟩ b w1 h1.src) fun p w2 hp h2 => ?_
    exact form_leaf bs hl (by have := fmC_pos 0; omega) h2 hp (by have := fmC_pos 0; omega) (fmS_pos 0)
  | succ d ih =>
    intro M hM0 hM b st hs
    have hc0 := fmC_pos d
    have hcd := fmC_ge d
    have hcs : fmC (d + 1) = 3 + 2 * fmC d := rfl
    apply c_spec_l00Src_form
    unfold b_spec_l00Src_form
    refine (HS.start hs).alloc fun v4 w1 h1 => ?_
    refine hJ_of fun J hJ => ?_
    refine qb_of (x := .bool true) (by simp) ?_
    rw [cb_bool, br_true]
    refine h1.drew (h_spec_l00Src_chance bs hl M (by omega) 3 ⟨by decide, by decide⟩ b w1 h1.src) fun p w2 hp h2 => ?_
    obtain ⟨c, rfl⟩ := hp
    refine qb_of (x := .bool (!c)) rfl ?_
    refine hJ _ _ ?_
    show cb (.bool (!c)) _
    rw [cb_bool]
    refine br_of (fun _ => ?_) (fun _ => ?_)
    · refine h2.drew (h_spec_l00Src_next bs hl (M + 1) (by omega) 2 (by decide) b w2 h2.src) fun p w3 hp h3 => ?_
      obtain ⟨k, rfl, k0, k1⟩ := hp
      refine qb_of (x := .int .i64 (2 + k)) (by simp; rw [wrap64 (by omega) (by omega)]) ?_
      have e1 : q_bin .sub (.int .i64 ((d + 1 : Nat) : Int)) (.int .i64 1) = some (.int .i64 (d : Int)) := by simp; rw [wrap64 (by omega) (by omega)]
      refine qb_of e1 ?_
      refine h3.drew (ih (M + 1 + 1) (by omega) (by omega) b w3 h3.src) fun p w4 hp h4 => ?_
      obtain ⟨f, rfl, hf, hfs⟩ := hp
      refine qb_of e1 ?_
      refine h4.drew (ih (M + 1 + 1 + fmC d) (by omega) (by omega) b w4 h4.src) fun p w5 hp h5 => ?_
      obtain ⟨g, rfl, hg, hgs⟩ := hp
      refine callK_just (h_spec_l08Two (2 + k) f g (by omega) w5) ?_
      refine h5.store (Box.fm _) rfl fun w6 h6 => ?_
      refine qb_of (h6.top (Box.fm _)) ?_
      refine (h6.mono (by omega)).fin ⟨_, rfl, ?_, ?_⟩
      · unfold twoF
        split <;> simp [Fm.ok, hf, hg]
      · have : (twoF (2 + k) f g).size = 1 + f.size + g.size := by unfold twoF; split <;> rfl
        rw [this]
        unfold fmS
        omega
    · refine h2.drew (h_spec_l00Src_chance bs hl (M + 1) (by omega) 6 ⟨by decide, by decide⟩ b w2 h2.src) fun p w3 hp h3 => ?_
      exact form_leaf bs hl (by omega) h3 hp (by omega) (fmS_pos (d + 1))
end Go.H.Tryz
/- Contracts: the program's terms of forms. -/
set_option linter.unusedVariables false
set_option linter.unusedSimpArgs false
namespace Go.H.Tryz
open Go Go.H

theorem atom_slice {n : Nat} (h : n < 6) : q_sliceS (.str [112, 48, 112, 49, 112, 50, 112, 51, 112, 52, 112, 53]) (some (.int .i64 ((2 * n : Nat) : Int))) (some (.int .i64 ((2 * n + 2 : Nat) : Int))) none = some (.str (wAtom n)) := by
  match n, h with
  | 0, _ => rfl
  | 1, _ => rfl
  | 2, _ => rfl
  | 3, _ => rfl
  | 4, _ => rfl
  | 5, _ => rfl
theorem lit_t2 (a b : Tr) : q_lit 4 2 0 [] [(0, tree a), (1, tree b)] = some (.sl 4 true [tree a, tree b]) := by simp
theorem box4 (a b c d : PV) (h : [a, b, c, d].all PV.cellOK = true) : Box 4 (.agg [a, b, c, d]) := ⟨_, rfl, rfl, h⟩
theorem h_impl_constant2 (w : List UInt8) (a b : Tr) (st : St) : HCalls prog n_impl_constant [.str w, .sl 4 true [tree a, tree b]] st (Just (tree (.const w [a, b])) st) := by
  apply c_impl_constant
  unfold b_impl_constant
  refine (Held.start st).alloc fun v4 w1 h1 => ?_
  refine qb_of (x := .agg [.int .i64 6, .int .i64 0, .str w, .sl 4 true [tree a, tree b]]) rfl ?_
  refine h1.store (box4 _ _ _ _ rfl) rfl fun w2 h2 => ?_
  refine qb_of (h2.top (box4 _ _ _ _ rfl)) ?_
  exact Just.conv (Conv.trans (conv_tree w2 6 0 w 4 true [a, b] (.inl rfl)) (Conv.sub h2.sub))
theorem fa1 (f : Fm) : q_fa 1 (.ref (fm f).cells) = some (.ref ((fm f).cells.drop 1)) := by simp [q_fa]
theorem fa2 (f : Fm) : q_fa 2 (.ref (fm f).cells) = some (.ref ((fm f).cells.drop 2)) := by simp [q_fa]
theorem h_impl_formTerm (f : Fm) (hf : f.ok = true) (st : St) : HCalls prog n_impl_formTerm [fm f] st (Just (tree (fmT f)) st) := by
  induction f generalizing st with
  | atom n =>
    simp only [Fm.ok, decide_eq_true_eq] at hf
    apply c_impl_formTerm
    unfold b_impl_formTerm
    refine e_box_ref (fm_isJunk _) ?_
    refine (Held.start st).alloc fun v2 w1 h1 => ?_
    refine qb_of (x := .ref (fm (.atom n)).cells) (by simp [q_fa]) ?_
    refine qb_of (x := .int .i64 1) (by simp [Fm.kind]) ?_
    refine qb_of (x := .bool true) rfl ?_
    rw [cb_bool, br_true]
    refine qb_of (fa1 _) ?_
    refine qb_of (x := .int .i64 (n : Int)) (by simp [Fm.num]) ?_
    have e1 : q_bin .mul (.int .i64 2) (.int .i64 (n : Int)) = some (.int .i64 ((2 * n : Nat) : Int)) := by simp; rw [wrap64 (by omega) (by omega)]
    refine qb_of e1 ?_
    refine qb_of (fa1 _) ?_
    refine qb_of (x := .int .i64 (n : Int)) (by simp [Fm.num]) ?_
    refine qb_of e1 ?_
    refine qb_of (x := .int .i64 ((2 * n + 2 : Nat) : Int)) (by simp; rw [wrap64 (by omega) (by omega)]) ?_
    refine qb_of (atom_slice hf) ?_
    refine callK_just (h_impl_constant0 (wAtom n) _) ?_
    refine h1.store (Box.tree _) rfl fun w2 h2 => ?_
    refine qb_of (h2.top (Box.tree _)) ?_
    exact Just.ret h2.sub
  | bot =>
    apply c_impl_formTerm
    unfold b_impl_formTerm
    refine e_box_ref (fm_isJunk _) ?_
    refine (Held.start st).alloc fun v2 w1 h1 => ?_
    refine qb_of (x := .ref (fm .bot).cells) (by simp [q_fa]) ?_
    refine qb_of (x := .int .i64 4) (by simp [Fm.kind]) ?_
    refine qb_of (x := .bool false) rfl ?_
    rw [cb_bool, br_false]
    refine qb_of (x := .bool true) rfl ?_
    rw [cb_bool, br_true]
    refine callK_just (h_impl_constant0 wBot _) ?_
    refine h1.store (Box.tree _) rfl fun w2 h2 => ?_
    refine qb_of (h2.top (Box.tree _)) ?_
    exact Just.ret h2.sub
  | and a b ia ib =>
    simp only [Fm.ok, Bool.and_eq_true] at hf
    apply c_impl_formTerm
    unfold b_impl_formTerm
    refine e_box_ref (fm_isJunk _) ?_
    refine (Held.start st).alloc fun v2 w1 h1 => ?_
    refine qb_of (x := .ref (fm (.and a b)).cells) (by simp [q_fa]) ?_
    refine qb_of (x := .int .i64 2) (by simp [Fm.kind]) ?_
    refine qb_of (x := .bool false) rfl ?_
    rw [cb_bool, br_false]
    refine qb_of (x := .bool false) rfl ?_
    rw [cb_bool, br_false]
    refine qb_of (x := .bool true) rfl ?_
    rw [cb_bool, br_true]
    have k0 : q_ia 3 (.sl 3 false [fm a, fm b]) (.int .i64 0) = some (.ref (fm a).cells) := by rfl
    have k1 : q_ia 3 (.sl 3 false [fm a, fm b]) (.int .i64 1) = some (.ref (fm b).cells) := by rfl
    refine qb_of (fa2 _) ?_
    refine qb_of (x := .sl 3 false [fm a, fm b]) (by simp [Fm.kids]) ?_
    refine qb_of k0 ?_
    refine qb_of (x := fm a) (by simp) ?_
    refine qb_of (fa2 _) ?_
    refine qb_of (x := .sl 3 false [fm a, fm b]) (by simp [Fm.kids]) ?_
    refine qb_of k1 ?_
    refine qb_of (x := fm b) (by simp) ?_
    refine callK_just (ia hf.1 _) ?_
    refine ⟨by simp, by simp [Fm.kids], ?_⟩
    refine callK_just (ib hf.2 _) ?_
    refine qb_of (lit_t2 _ _) ?_
    refine callK_just (h_impl_constant2 wAnd (fmT a) (fmT b) _) ?_
    refine h1.store (Box.tree _) rfl fun w2 h2 => ?_
    refine qb_of (h2.top (Box.tree _)) ?_
    exact Just.ret h2.sub
  | imp a b ia ib =>
    simp only [Fm.ok, Bool.and_eq_true] at hf
    apply c_impl_formTerm
    unfold b_impl_formTerm
    refine e_box_ref (fm_isJunk _) ?_
    refine (Held.start st).alloc fun v2 w1 h1 => ?_
    refine qb_of (x := .ref (fm (.imp a b)).cells) (by simp [q_fa]) ?_
    refine qb_of (x := .int .i64 3) (by simp [Fm.kind]) ?_
    refine qb_of (x := .bool false) rfl ?_
    rw [cb_bool, br_false]
    refine qb_of (x := .bool false) rfl ?_
    rw [cb_bool, br_false]
    refine qb_of (x := .bool false) rfl ?_
    rw [cb_bool, br_false]
    have k0 : q_ia 3 (.sl 3 false [fm a, fm b]) (.int .i64 0) = some (.ref (fm a).cells) := by rfl
    have k1 : q_ia 3 (.sl 3 false [fm a, fm b]) (.int .i64 1) = some (.ref (fm b).cells) := by rfl
    refine qb_of (fa2 _) ?_
    refine qb_of (x := .sl 3 false [fm a, fm b]) (by simp [Fm.kids]) ?_
    refine qb_of k0 ?_
    refine qb_of (x := fm a) (by simp) ?_
    refine qb_of (fa2 _) ?_
    refine qb_of (x := .sl 3 false [fm a, fm b]) (by simp [Fm.kids]) ?_
    refine qb_of k1 ?_
    refine qb_of (x := fm b) (by simp) ?_
    refine callK_just (ia hf.1 _) ?_
    refine ⟨by simp, by simp [Fm.kids], ?_⟩
    refine callK_just (ib hf.2 _) ?_
    refine qb_of (lit_t2 _ _) ?_
    refine callK_just (h_impl_constant2 wImp (fmT a) (fmT b) _) ?_
    refine h1.store (Box.tree _) rfl fun w2 h2 => ?_
    refine qb_of (h2.top (Box.tree _)) ?_
    exact Just.ret h2.sub
end Go.H.Tryz
/- Contracts: the program's forms: checked, encoded, decoded. -/
set_option linter.unusedVariables false
set_option linter.unusedSimpArgs false
namespace Go.H.Tryz
open Go Go.H

theorem node_yes (b : Nat) (o : Bool) (m : Int) (hm : 1 ≤ m ∧ m ≤ 1000) {st : St} (hb : st b = some (lk m o)) {K Kp : PV → St → Prop} (hk : K (.bool true) (upd st b (lk (m - 1) o))) : callK prog n_impl_looker_node [.ptr b 0] st K Kp := by
  refine callK_look (h_impl_looker_node b o m (by omega) hb) (fun m' hm' => ?_) (fun hm' => ?_)
  · rw [if_pos hm.1] at hm'; cases hm'; exact hk
  · rw [if_pos hm.1] at hm'; cases hm'
theorem h_impl_looker_form (f : Fm) (hf : f.ok = true) (b : Nat) (o : Bool) (m : Int) (hm : (f.size : Int) ≤ m ∧ m ≤ 1000) (st : St) (hb : st b = some (lk m o)) :
    HCalls prog n_impl_looker_form [.ptr b 0, fm f] st (LookR b o (some (m - f.size)) st) := by
  induction f generalizing m st with
  | atom n =>
    simp only [Fm.ok, decide_eq_true_eq] at hf
    simp only [Fm.size] at hm
    apply c_impl_looker_form
    unfold b_impl_looker_form
    refine e_box_ref (fm_isJunk _) ?_
    refine node_yes b o m (by omega) hb ?_
    refine qb_of (x := .bool false) rfl ?_
    rw [cb_bool, br_false]
    refine qb_of (x := .ref (fm (.atom n)).cells) (by simp [q_fa]) ?_
    refine qb_of (x := .int .i64 1) (by simp [Fm.kind]) ?_
    refine qb_of (x := .bool true) rfl ?_
    rw [cb_bool, br_true]
    refine qb_of (fa1 _) ?_
    refine qb_of (x := .int .i64 (n : Int)) (by simp [Fm.num]) ?_
    refine callK_just (h_impl_in (n : Int) 0 5 _) ?_
    rw [cb_bool, show (decide ((0 : Int) ≤ n) && decide ((n : Int) ≤ 5)) = true by rw [decide_eq_true (by omega), decide_eq_true (by omega)]; rfl, br_true]
    refine qb_of (fa2 _) ?_
    refine qb_of (x := .sl 3 false []) (by simp [Fm.kids]) ?_
    refine qb_of (x := .int .i64 0) rfl ?_
    refine qb_of (x := .bool true) rfl ?_
    exact LookR.yes rfl (Sub.refl _)
  | bot =>
    simp only [Fm.size] at hm
    apply c_impl_looker_form
    unfold b_impl_looker_form
    refine e_box_ref (fm_isJunk _) ?_
    refine node_yes b o m (by omega) hb ?_
    refine qb_of (x := .bool false) rfl ?_
    rw [cb_bool, br_false]
    refine qb_of (x := .ref (fm .bot).cells) (by simp [q_fa]) ?_
    refine qb_of (x := .int .i64 4) (by simp [Fm.kind]) ?_
    refine qb_of (x := .bool false) rfl ?_
    rw [cb_bool, br_false]
    refine qb_of (x := .bool true) rfl ?_
    rw [cb_bool, br_true]
    refine qb_of (fa1 _) ?_
    refine qb_of (x := .int .i64 0) (by simp [Fm.num]) ?_
    refine qb_of (x := .bool true) rfl ?_
    rw [cb_bool, br_true]
    refine qb_of (fa2 _) ?_
    refine qb_of (x := .sl 3 false []) (by simp [Fm.kids]) ?_
    refine qb_of (x := .int .i64 0) rfl ?_
    refine qb_of (x := .bool true) rfl ?_
    exact LookR.yes rfl (Sub.refl _)
  | and x y ix iy =>
    simp only [Fm.ok, Bool.and_eq_true] at hf
    simp only [Fm.size] at hm
    have px := x.size_pos
    have py := y.size_pos
    apply c_impl_looker_form
    unfold b_impl_looker_form
    refine e_box_ref (fm_isJunk _) ?_
    refine node_yes b o m (by omega) hb ?_
    refine qb_of (x := .bool false) rfl ?_
    rw [cb_bool, br_false]
    refine qb_of (x := .ref (fm (.and x y)).cells) (by simp [q_fa]) ?_
    refine qb_of (x := .int .i64 2) (by simp [Fm.kind]) ?_
    refine qb_of (x := .bool false) rfl ?_
    rw [cb_bool, br_false]
    refine qb_of (x := .bool false) rfl ?_
    rw [cb_bool, br_false]
    refine qb_of (x := .bool true) rfl ?_
    refine hJ_of fun J hJ => ?_
    rw [cb_bool, br_true]
    refine hJ _ _ ?_
    show cb (.bool true) _
    rw [cb_bool, br_true]
    refine qb_of (fa1 _) ?_
    refine qb_of (x := .int .i64 0) (by simp [Fm.num]) ?_
    refine qb_of (x := .bool true) rfl ?_
    rw [cb_bool, br_true]
    refine qb_of (fa2 _) ?_
    refine qb_of (x := .sl 3 false [fm x, fm y]) (by simp [Fm.kids]) ?_
    refine qb_of (x := .int .i64 2) rfl ?_
    refine qb_of (x := .bool true) rfl ?_
    rw [cb_bool, br_true]
    refine qb_of (fa2 _) ?_
    refine qb_of (x := .sl 3 false [fm x, fm y]) (by simp [Fm.kids]) ?_
    refine qb_of (x := .ref (fm x).cells) rfl ?_
    refine qb_of (x := fm x) (by simp) ?_
    refine callK_look (ix hf.1 (m - 1) (by omega) _ (upd_same _ _ _)) (fun m' hm' => ?_) (fun hm' => by cases hm')
    cases hm'
    rw [upd_upd, cb_bool, br_true]
    refine qb_of (fa2 _) ?_
    refine qb_of (x := .sl 3 false [fm x, fm y]) (by simp [Fm.kids]) ?_
    refine qb_of (x := .ref (fm y).cells) rfl ?_
    refine qb_of (x := fm y) (by simp) ?_
    refine callK_look (iy hf.2 (m - 1 - x.size) (by omega) _ (upd_same _ _ _)) (fun m' hm' => ?_) (fun hm' => by cases hm')
    cases hm'
    rw [upd_upd]
    refine LookR.yes (m := m - 1 - x.size - y.size) ?_ (Sub.refl _)
    simp only [Fm.size]; congr 1; omega
  | imp x y ix iy =>
    simp only [Fm.ok, Bool.and_eq_true] at hf
    simp only [Fm.size] at hm
    have px := x.size_pos
    have py := y.size_pos
    apply c_impl_looker_form
    unfold b_impl_looker_form
    refine e_box_ref (fm_isJunk _) ?_
    refine node_yes b o m (by omega) hb ?_
    refine qb_of (x := .bool false) rfl ?_
    rw [cb_bool, br_false]
    refine qb_of (x := .ref (fm (.imp x y)).cells) (by simp [q_fa]) ?_
    refine qb_of (x := .int .i64 3) (by simp [Fm.kind]) ?_
    refine qb_of (x := .bool false) rfl ?_
    rw [cb_bool, br_false]
    refine qb_of (x := .bool false) rfl ?_
    rw [cb_bool, br_false]
    refine qb_of (x := .bool false) rfl ?_
    refine hJ_of fun J hJ => ?_
    rw [cb_bool, br_false]
    refine qb_of (x := .bool true) rfl ?_
    refine hJ _ _ ?_
    show cb (.bool true) _
    rw [cb_bool, br_true]
    refine qb_of (fa1 _) ?_
    refine qb_of (x := .int .i64 0) (by simp [Fm.num]) ?_
    refine qb_of (x := .bool true) rfl ?_
    rw [cb_bool, br_true]
    refine qb_of (fa2 _) ?_
    refine qb_of (x := .sl 3 false [fm x, fm y]) (by simp [Fm.kids]) ?_
    refine qb_of (x := .int .i64 2) rfl ?_
    refine qb_of (x := .bool true) rfl ?_
    rw [cb_bool, br_true]
    refine qb_of (fa2 _) ?_
    refine qb_of (x := .sl 3 false [fm x, fm y]) (by simp [Fm.kids]) ?_
    refine qb_of (x := .ref (fm x).cells) rfl ?_
    refine qb_of (x := fm x) (by simp) ?_
    refine callK_look (ix hf.1 (m - 1) (by omega) _ (upd_same _ _ _)) (fun m' hm' => ?_) (fun hm' => by cases hm')
    cases hm'
    rw [upd_upd, cb_bool, br_true]
    refine qb_of (fa2 _) ?_
    refine qb_of (x := .sl 3 false [fm x, fm y]) (by simp [Fm.kids]) ?_
    refine qb_of (x := .ref (fm y).cells) rfl ?_
    refine qb_of (x := fm y) (by simp) ?_
    refine callK_look (iy hf.2 (m - 1 - x.size) (by omega) _ (upd_same _ _ _)) (fun m' hm' => ?_) (fun hm' => by cases hm')
    cases hm'
    rw [upd_upd]
    refine LookR.yes (m := m - 1 - x.size - y.size) ?_ (Sub.refl _)
    simp only [Fm.size]; congr 1; omega
/-- A form that is right and small. -/
theorem h_impl_FormOK (f : Fm) (hf : f.ok = true) (hs : f.size ≤ 150) (st : St) : HCalls prog n_impl_FormOK [fm f] st (Just (.bool true) st) := by
  apply c_impl_FormOK
  unfold b_impl_FormOK
  refine e_box_ref (fm_isJunk _) ?_
  refine qb_of (x := fm f) (by simp) ?_
  refine callK_ptr (h_impl_fresh _) fun b hb => ?_
  refine ⟨by simp, ?_⟩
  refine callK_look (h_impl_looker_form f hf b false 150 (by omega) _ (upd_same _ _ _)) (fun m' hm' => ?_) (fun hm' => by cases hm')
  exact Just.bool rfl (by rw [upd_upd]; exact (Sub.refl st).fresh hb)
/-- A tree of something that is right. -/
theorem h_impl_encoded (g : FuncId) (caps : List PV) (t : Tr) (hsz : t.size ≤ 1000000000) (st : St) (hc : ∀ s, Sub st s → HCalls prog g caps s (Just (tree t) s)) :
    HCalls prog n_impl_encoded [.bool true, .fn (.func g) [] caps] st (Just (if t.big = true then .tup [tree noTree, .int .i64 11] else .tup [tree t, .int .i64 0]) st) := by
  apply c_impl_encoded
  unfold b_impl_encoded
  refine (Held.start st).alloc fun v4 w1 h1 => ?_
  refine qb_of (x := .bool false) rfl ?_
  rw [cb_bool, br_false]
  rw [e_call_func]
  refine callK_just (by simpa using hc w1 h1.sub) ?_
  refine (h1.alloc fun v6 w2 h2 => ?_)
  refine h2.store2 (Box.tree t) rfl fun w3 h3 => ?_
  refine qb_of (h3.top (Box.tree t)) ?_
  refine callK_just (h_impl_tooBig t hsz _) ?_
  rw [cb_bool]
  refine br_of (fun hb => ?_) (fun hb => ?_)
  · refine qb_of (x := .agg [.int .i64 0, .int .i64 0, .str [], .sl 0 true []]) rfl ?_
    refine h3.store (box4 _ _ _ _ rfl) rfl fun w4 h4 => ?_
    refine qb_of (h4.top (box4 _ _ _ _ rfl)) ?_
    rw [if_pos hb]
    refine Just.conv (Conv.tup (Conv.cons (Conv.trans (conv_tree w4 0 0 [] 0 true [] (.inr rfl)) (Conv.sub h4.sub)) (Conv.sub h4.sub)))
  · refine qb_of (h3.top (Box.tree t)) ?_
    refine h3.store (Box.tree t) rfl fun w4 h4 => ?_
    refine qb_of (h4.top (Box.tree t)) ?_
    rw [if_neg (by rw [hb]; decide)]
    exact Just.ret h4.sub
end Go.H.Tryz
/- Contracts: forms read back; the law FnForms. -/
set_option linter.unusedVariables false
set_option linter.unusedSimpArgs false
namespace Go.H.Tryz
open Go Go.H

theorem h_impl_bottom (st : St) : HCalls prog n_impl_bottom [] st (Just (fm .bot) st) := by
  apply c_impl_bottom
  unfold b_impl_bottom
  refine (Held.start st).alloc fun v0 w1 h1 => ?_
  refine qb_of (x := .agg [.int .i64 4, .int .i64 0, .sl 0 true []]) rfl ?_
  refine h1.store (box3 _ _ _ rfl) rfl fun w3 h3 => ?_
  refine qb_of (h3.top (box3 _ _ _ rfl)) ?_
  exact Just.conv (Conv.trans (conv_fm w3 4 0 0 true [] .bot ⟨rfl, rfl, rfl⟩ (.inr rfl)) (Conv.sub h3.sub))
theorem h_impl_and (a b : Fm) (st : St) : HCalls prog n_impl_and [fm a, fm b] st (Just (fm (.and a b)) st) := by
  apply c_impl_and
  unfold b_impl_and
  refine e_box_ref (fm_isJunk _) ?_
  refine e_box_ref (fm_isJunk _) ?_
  refine (Held.start st).alloc fun v0 w1 h1 => ?_
  refine qb_of (x := fm a) (by simp) ?_
  refine qb_of (x := fm b) (by simp) ?_
  refine qb_of (lit_f2 a b) ?_
  refine qb_of (x := .agg [.int .i64 2, .int .i64 0, .sl 3 true [fm a, fm b]]) rfl ?_
  refine h1.store (box3 _ _ _ rfl) rfl fun w3 h3 => ?_
  refine qb_of (h3.top (box3 _ _ _ rfl)) ?_
  exact Just.conv (Conv.trans (two_and w3 a b) (Conv.sub h3.sub))
theorem h_impl_implies (a b : Fm) (st : St) : HCalls prog n_impl_implies [fm a, fm b] st (Just (fm (.imp a b)) st) := by
  apply c_impl_implies
  unfold b_impl_implies
  refine e_box_ref (fm_isJunk _) ?_
  refine e_box_ref (fm_isJunk _) ?_
  refine (Held.start st).alloc fun v0 w1 h1 => ?_
  refine qb_of (x := fm a) (by simp) ?_
  refine qb_of (x := fm b) (by simp) ?_
  refine qb_of (lit_f2 a b) ?_
  refine qb_of (x := .agg [.int .i64 3, .int .i64 0, .sl 3 true [fm a, fm b]]) rfl ?_
  refine h1.store (box3 _ _ _ rfl) rfl fun w3 h3 => ?_
  refine qb_of (h3.top (box3 _ _ _ rfl)) ?_
  exact Just.conv (Conv.trans (two_imp w3 a b) (Conv.sub h3.sub))
end Go.H.Tryz
/- Contracts: the law FnForms. -/
set_option linter.unusedVariables false
set_option linter.unusedSimpArgs false
namespace Go.H.Tryz
open Go Go.H

/-- What is caught of a call that ends well, and has set a variable. -/
theorem callK_caught_set {g : FuncId} {caps : List PV} {st : St} {v : Nat} {o : HObj} {K Kp : PV → St → Prop} (hv : st v ≠ none) (hc : ∀ b, st b = none → HCalls prog g caps (upd st b (.cells [.int .i64 0, .int .i64 0])) (fun r s => r = .ret (.tup []) ∧ s = upd (upd st b (.cells [.int .i64 0, .int .i64 0])) v o))
    (hk : K (.agg [.int .i64 0, .int .i64 0]) (upd st v o)) : callK prog n_impl_caught [.fn (.func g) [] caps] st K Kp := by
  refine callK_of (h_impl_caught g caps st (fun c p s => c = 0 ∧ p = 0 ∧ s = upd st v o) (fun b hb => (hc b hb).mono fun r s h => ?_)) (fun p s h => ?_) (fun p s h => ?_)
  · obtain ⟨rfl, rfl⟩ := h
    have ne : v ≠ b := fun e => hv (by rw [e]; exact hb)
    exact ⟨upd st v o, by rw [upd_ne _ _ (Ne.symm ne)]; exact hb, upd_comm _ _ _ (Ne.symm ne), .inl ⟨rfl, rfl, rfl, rfl⟩⟩
  · obtain ⟨c, p', h, rfl, rfl, rfl⟩ := h
    cases h
    exact hk
  · obtain ⟨c, p', h, _⟩ := h
    cases h
end Go.H.Tryz
