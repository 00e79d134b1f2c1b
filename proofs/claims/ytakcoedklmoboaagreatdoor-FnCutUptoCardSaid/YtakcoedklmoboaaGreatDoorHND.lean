/- Part of a proof that the program answers as the reference does: ZFC130, ZFC131, ZFC132, ZFC133, ZFC134, ZFC135, ZFC136, ZFC137, ZFC138. -/
import Derived.Test.YtakcoedklmoboaaGreatDoorHY
import Derived.Test.YtakcoedklmoboaaGreatDoorHM
import Derived.Test.YtakcoedklmoboaaGreatDoorHNB
import Derived.Test.YtakcoedklmoboaaGreatDoorHNC
/- Contracts: a proof is the same as itself. -/
set_option linter.unusedVariables false
set_option linter.unusedSimpArgs false
namespace Go.H.Tryz
open Go Go.H

theorem k2p (p : Pf) : q_fa 2 (.ref (pf p).cells) = some (.ref ((pf p).cells.drop 2)) := by simp [q_fa]
theorem k3p (p : Pf) : q_fa 3 (.ref (pf p).cells) = some (.ref ((pf p).cells.drop 3)) := by simp [q_fa]
theorem l2p (p : Pf) (s : St) : q_load s false 1 (.ref ((pf p).cells.drop 2)) = some (.sl 3 false (p.forms.map fm)) := by simp
theorem l3p (p : Pf) (s : St) : q_load s false 1 (.ref ((pf p).cells.drop 3)) = some (.sl 4 false (p.kids.map pf)) := by simp
theorem pf_len2 (p : Pf) : p.forms.length ≤ 2 ∧ p.kids.length ≤ 2 := by cases p <;> simp [Pf.forms, Pf.kids]
theorem h_laws_sameProof (p : Pf) (st : St) : HCalls prog n_laws_sameProof [pf p, pf p] st (Just (.bool true) st) := by
  induction p using Pf.ind generalizing st with
  | _ p ih =>
  apply c_laws_sameProof
  unfold b_laws_sameProof
  refine e_box_ref (pf_isJunk _) ?_
  refine e_box_ref (pf_isJunk _) ?_
  obtain ⟨hfl, hkl⟩ := pf_len2 p
  refine qb_of (x := .ref (pf p).cells) (by simp [q_fa]) ?_
  refine qb_of (x := .int .i64 p.kind) (by simp) ?_
  refine qb_of (x := .ref (pf p).cells) (by simp [q_fa]) ?_
  refine qb_of (x := .int .i64 p.kind) (by simp) ?_
  refine qb_of (x := .bool false) (by simp) ?_
  refine cbr_f rfl ?_
  refine qb_of (x := .ref ((pf p).cells.drop 1)) (by simp [q_fa]) ?_
  refine qb_of (x := .int .i64 p.num) (by simp) ?_
  refine qb_of (x := .ref ((pf p).cells.drop 1)) (by simp [q_fa]) ?_
  refine qb_of (x := .int .i64 p.num) (by simp) ?_
  refine qb_of (x := .bool false) (by simp) ?_
  refine cbr_f rfl ?_
  refine qb_of (k2p p) ?_
  refine qb_of (l2p p _) ?_
  refine qb_of (x := .int .i64 p.forms.length) (by simp) ?_
  refine qb_of (k2p p) ?_
  refine qb_of (l2p p _) ?_
  refine qb_of (x := .int .i64 p.forms.length) (by simp) ?_
  refine qb_of (x := .bool false) (by simp) ?_
  refine cbr_f rfl ?_
  refine qb_of (k3p p) ?_
  refine qb_of (l3p p _) ?_
  refine qb_of (x := .int .i64 p.kids.length) (by simp) ?_
  refine qb_of (k3p p) ?_
  refine qb_of (l3p p _) ?_
  refine qb_of (x := .int .i64 p.kids.length) (by simp) ?_
  refine qb_of (x := .bool false) (by simp) ?_
  refine cbr_f rfl ?_
  refine loop_idx (β := Unit) p.forms (fun _ i => [.int .i64 (i : Int)]) (fun _ => st) (fun _ _ _ => True) ?_ ?_ () trivial
  · intro i x rest _ hi hx _ kk
    refine qb_of (k2p p) ?_
    refine qb_of (l2p p _) ?_
    refine qb_of (x := .int .i64 p.forms.length) (by simp) ?_
    refine qb_of (x := .bool true) (by simp [hi]) ?_
    refine cbr_t rfl ?_
    refine qb_of (k2p p) ?_
    refine qb_of (l2p p _) ?_
    refine qb_of (ia_fms .i64 hx) ?_
    refine qb_of (lfm _ _) ?_
    refine qb_of (k2p p) ?_
    refine qb_of (l2p p _) ?_
    refine qb_of (ia_fms .i64 hx) ?_
    refine qb_of (lfm _ _) ?_
    refine callK_just (h_laws_sameForm x x _) ?_
    refine qb_of (x := .bool false) (by simp) ?_
    refine cbr_f rfl ?_
    refine qb_of (qinc (by omega)) ?_
    exact kk () trivial
  · intro _ _
    refine qb_of (k2p p) ?_
    refine qb_of (l2p p _) ?_
    refine qb_of (x := .int .i64 p.forms.length) (by simp) ?_
    refine qb_of (x := .bool false) (by simp) ?_
    refine cbr_f rfl ?_
    refine loop_idx (β := Unit) p.kids (fun _ i => [.int .i64 (i : Int)]) (fun _ => st) (fun _ _ _ => True) ?_ ?_ () trivial
    · intro i x rest _ hi hx _ kk
      refine qb_of (k3p p) ?_
      refine qb_of (l3p p _) ?_
      refine qb_of (x := .int .i64 p.kids.length) (by simp) ?_
      refine qb_of (x := .bool true) (by simp [hi]) ?_
      refine cbr_t rfl ?_
      refine qb_of (k3p p) ?_
      refine qb_of (l3p p _) ?_
      refine qb_of (ia_pfs .i64 hx) ?_
      refine qb_of (lpf _ _) ?_
      refine qb_of (k3p p) ?_
      refine qb_of (l3p p _) ?_
      refine qb_of (ia_pfs .i64 hx) ?_
      refine qb_of (lpf _ _) ?_
      refine callK_just (ih x (List.mem_of_getElem? hx) _) ?_
      refine qb_of (x := .bool false) (by simp) ?_
      refine cbr_f rfl ?_
      refine qb_of (qinc (by omega)) ?_
      exact kk () trivial
    · intro _ _
      refine qb_of (k3p p) ?_
      refine qb_of (l3p p _) ?_
      refine qb_of (x := .int .i64 p.kids.length) (by simp) ?_
      refine qb_of (x := .bool false) (by simp) ?_
      refine cbr_f rfl ?_
      exact Just.bool rfl (Sub.refl _)
theorem h_laws_sameProof_zero (st : St) : HCalls prog n_laws_sameProof [zeroP, zeroP] st (Just (.bool true) st) := by
  apply c_laws_sameProof
  unfold b_laws_sameProof
  refine e_box_ref rfl ?_
  refine e_box_ref rfl ?_
  repeat' (first
    | refine cbr_t rfl ?_
    | refine cbr_f rfl ?_
    | refine qb_of (lfm _ _) ?_
    | refine qb_of (lpf _ _) ?_
    | refine qb_of (ltr _ _) ?_
    | refine qb_of (qinc (by omega)) ?_
    | refine qb_of rfl ?_
    | (refine hFix_step ?_; try simp only [List.getD_cons_zero, List.getD_cons_succ])
    | refine hJ_step fun J hJ => ?_
    | (apply_assumption; try simp only [List.getD_cons_zero, List.getD_cons_succ])
    | refine cbr_dec (fun _ => ?_) (fun _ => ?_))
  exact Just.bool rfl (Sub.refl _)
end Go.H.Tryz
/- Contracts: the rules of deduction. -/
set_option linter.unusedVariables false
set_option linter.unusedSimpArgs false
namespace Go.H.Tryz
open Go Go.H

/-- The rule a proof ends with. -/
def ruleP : Pf → PV
  | .hyp _ => .agg [.int .i64 0, .int .i64 0, .str [], .nilfn, .nilfn]
  | .andI .. => .agg [.int .i64 2, .int .i64 2, .str [97, 110, 100, 73], .fn (.func n_impl_ruleOf_4) [] [], .fn (.func n_impl_ruleOf_5) [] []]
  | .fst .. => .agg [.int .i64 2, .int .i64 1, .str [102, 115, 116], .fn (.func n_impl_ruleOf_1) [] [], .fn (.func n_impl_ruleOf_2) [] []]
  | .snd .. => .agg [.int .i64 2, .int .i64 1, .str [115, 110, 100], .fn (.func n_impl_ruleOf_1) [] [], .fn (.func n_impl_ruleOf_3) [] []]
  | .funI .. => .agg [.int .i64 2, .int .i64 1, .str [102, 117, 110, 73], .fn (.func n_impl_ruleOf_6) [] [], .fn (.func n_impl_ruleOf_7) [] []]
  | .use .. => .agg [.int .i64 2, .int .i64 2, .str [117, 115, 101], .fn (.func n_impl_ruleOf_8) [] [], .fn (.func n_impl_ruleOf_3) [] []]
  | .botE .. => .agg [.int .i64 1, .int .i64 1, .str [98, 111, 116, 69], .fn (.func n_impl_ruleOf_9) [] [], .fn (.func n_impl_ruleOf_2) [] []]
theorem ruleP_box (p : Pf) : Box 5 (ruleP p) := by cases p <;> exact ⟨_, rfl, rfl, rfl⟩
theorem h_impl_ruleOf (p : Pf) (hp : p.kind ≠ 1) (st : St) : HCalls prog n_impl_ruleOf [.int .i64 p.kind] st (Just (.tup [ruleP p, .bool true]) st) := by
  apply c_impl_ruleOf
  unfold b_impl_ruleOf
  refine (Held.start st).alloc fun v2 w1 h1 => ?_
  have fin : ∀ y : PV, y = ruleP p → e_store w1 5 (.ptr v2 0) y fun s => qb (q_load s true 5 (.ptr v2 0)) fun r => retR (Just (.tup [ruleP p, .bool true]) st) (.tup [r, .bool true]) s := by
    rintro y rfl
    refine h1.store (ruleP_box p) rfl fun w2 h2 => ?_
    refine qb_of (h2.top (ruleP_box p)) ?_
    exact retR_sub h2.sub ⟨rfl, rfl⟩
  cases p with
  | hyp n => exact absurd rfl hp
  | _ =>
    simp only [Pf.kind]
    repeat' (first
      | exact fin _ rfl
      | refine cbr_t rfl ?_
      | refine cbr_f rfl ?_
      | refine qb_of (lfm _ _) ?_
      | refine qb_of (lpf _ _) ?_
      | refine qb_of (ltr _ _) ?_
      | refine qb_of (qinc (by omega)) ?_
      | refine qb_of rfl ?_
      | (refine hFix_step ?_; try simp only [List.getD_cons_zero, List.getD_cons_succ])
      | refine hJ_step fun J hJ => ?_
      | (apply_assumption; try simp only [List.getD_cons_zero, List.getD_cons_succ])
      | refine cbr_dec (fun _ => ?_) (fun _ => ?_))
end Go.H.Tryz
/- Contracts: what a rule takes and what it gives. -/
set_option linter.unusedVariables false
set_option linter.unusedSimpArgs false
namespace Go.H.Tryz
open Go Go.H

/-- What must be proved first; and what a rule proves. -/
def prems : Pf → List Fm
  | .hyp _ => []
  | .andI a b _ _ => [a, b]
  | .fst a b _ => [.and a b]
  | .snd a b _ => [.and a b]
  | .funI a b _ => [b]
  | .use a b _ _ => [.imp a b, a]
  | .botE _ _ => [.bot]
def concl : Pf → Fm
  | .hyp _ => .bot
  | .andI a b _ _ => .and a b
  | .fst a b _ => a
  | .snd a b _ => b
  | .funI a b _ => .imp a b
  | .use a b _ _ => b
  | .botE a _ => a
theorem Just.fms {b : Bool} {fs : List Fm} {st w : St} (h : Sub st w) : retR (Just (Go.H.fms fs) st) (.sl 3 b (fs.map fm)) w := retR_via (Conv.sl_to w 3 3 b _ (.inl rfl)) (Just.ret h)
theorem h_impl_ruleOf_1 (a b : Fm) (st : St) : HCalls prog n_impl_ruleOf_1 [fms [a, b]] st (Just (fms [.and a b]) st) := by
  apply c_impl_ruleOf_1
  unfold b_impl_ruleOf_1
  refine qb_of (x := .ref (fm a).cells) rfl ?_
  refine qb_of (lfm _ _) ?_
  refine qb_of (x := .ref (fm b).cells) rfl ?_
  refine qb_of (lfm _ _) ?_
  refine callK_just (h_impl_and a b _) ?_
  refine qb_of (lit_f1 (.and a b)) ?_
  exact Just.fms (fs := [.and a b]) (Sub.refl _)
theorem h_impl_ruleOf_8 (a b : Fm) (st : St) : HCalls prog n_impl_ruleOf_8 [fms [a, b]] st (Just (fms [.imp a b, a]) st) := by
  apply c_impl_ruleOf_8
  unfold b_impl_ruleOf_8
  refine qb_of (x := .ref (fm a).cells) rfl ?_
  refine qb_of (lfm _ _) ?_
  refine qb_of (x := .ref (fm b).cells) rfl ?_
  refine qb_of (lfm _ _) ?_
  refine qb_of (x := .ref (fm a).cells) rfl ?_
  refine qb_of (lfm _ _) ?_
  refine callK_just (h_impl_implies a b _) ?_
  refine ⟨lfm _ _, ?_⟩
  refine qb_of (lit_f2 (.imp a b) a) ?_
  exact Just.fms (fs := [.imp a b, a]) (Sub.refl _)
theorem h_impl_ruleOf_9 (fs : List Fm) (st : St) : HCalls prog n_impl_ruleOf_9 [fms fs] st (Just (fms [.bot]) st) := by
  apply c_impl_ruleOf_9
  unfold b_impl_ruleOf_9
  refine callK_just (h_impl_bottom _) ?_
  refine qb_of (lit_f1 .bot) ?_
  exact Just.fms (fs := [.bot]) (Sub.refl _)
theorem h_impl_ruleOf_6 (a b : Fm) (st : St) : HCalls prog n_impl_ruleOf_6 [fms [a, b]] st (Just (fms [b]) st) := by
  apply c_impl_ruleOf_6
  unfold b_impl_ruleOf_6
  refine qb_of (x := .sl 3 false [fm b]) (by simp [fms, q_sliceE, q_slice, optI]) ?_
  exact Just.fms (fs := [b]) (Sub.refl _)
theorem h_impl_ruleOf_4 (fs : List Fm) (st : St) : HCalls prog n_impl_ruleOf_4 [fms fs] st (Just (fms fs) st) := by
  apply c_impl_ruleOf_4
  unfold b_impl_ruleOf_4
  exact Just.ret (Sub.refl _)
theorem h_impl_ruleOf_2 (a : Fm) (fs : List Fm) (st : St) : HCalls prog n_impl_ruleOf_2 [fms (a :: fs)] st (Just (fm a) st) := by
  apply c_impl_ruleOf_2
  unfold b_impl_ruleOf_2
  refine (Held.start st).alloc fun v2 w1 h1 => ?_
  refine qb_of (x := .ref (fm a).cells) (by simp [fms, q_ia]) ?_
  refine qb_of (lfm _ _) ?_
  refine h1.store (Box.fm a) rfl fun w2 h2 => ?_
  refine qb_of (h2.top (Box.fm a)) ?_
  exact Just.ret h2.sub
theorem h_impl_ruleOf_3 (a b : Fm) (st : St) : HCalls prog n_impl_ruleOf_3 [fms [a, b]] st (Just (fm b) st) := by
  apply c_impl_ruleOf_3
  unfold b_impl_ruleOf_3
  refine (Held.start st).alloc fun v2 w1 h1 => ?_
  refine qb_of (x := .ref (fm b).cells) rfl ?_
  refine qb_of (lfm _ _) ?_
  refine h1.store (Box.fm b) rfl fun w2 h2 => ?_
  refine qb_of (h2.top (Box.fm b)) ?_
  exact Just.ret h2.sub
theorem h_impl_ruleOf_5 (a b : Fm) (st : St) : HCalls prog n_impl_ruleOf_5 [fms [a, b]] st (Just (fm (.and a b)) st) := by
  apply c_impl_ruleOf_5
  unfold b_impl_ruleOf_5
  refine (Held.start st).alloc fun v2 w1 h1 => ?_
  refine qb_of (x := .ref (fm a).cells) rfl ?_
  refine qb_of (lfm _ _) ?_
  refine qb_of (x := .ref (fm b).cells) rfl ?_
  refine qb_of (lfm _ _) ?_
  refine callK_just (h_impl_and a b _) ?_
  refine h1.store (Box.fm _) rfl fun w2 h2 => ?_
  refine qb_of (h2.top (Box.fm _)) ?_
  exact Just.ret h2.sub
theorem h_impl_ruleOf_7 (a b : Fm) (st : St) : HCalls prog n_impl_ruleOf_7 [fms [a, b]] st (Just (fm (.imp a b)) st) := by
  apply c_impl_ruleOf_7
  unfold b_impl_ruleOf_7
  refine (Held.start st).alloc fun v2 w1 h1 => ?_
  refine qb_of (x := .ref (fm a).cells) rfl ?_
  refine qb_of (lfm _ _) ?_
  refine qb_of (x := .ref (fm b).cells) rfl ?_
  refine qb_of (lfm _ _) ?_
  refine callK_just (h_impl_implies a b _) ?_
  refine h1.store (Box.fm _) rfl fun w2 h2 => ?_
  refine qb_of (h2.top (Box.fm _)) ?_
  exact Just.ret h2.sub
/-- The functions of a rule, as they lie in its record. -/
def ruleF3 (p : Pf) : PV := (ruleP p).cells.getD 3 .junk
def ruleF4 (p : Pf) : PV := (ruleP p).cells.getD 4 .junk
theorem rule_prems (p : Pf) (h : p.kind ≠ 1) (st : St) {K Kp : PV → St → Prop} (hk : K (fms (prems p)) st) : e_call prog st (ruleF3 p) [fms p.forms] K Kp := by
  cases p with
  | hyp n => exact absurd rfl h
  | andI a b x y => exact callK_just (h_impl_ruleOf_4 _ st) hk
  | fst a b x => exact callK_just (h_impl_ruleOf_1 a b st) hk
  | snd a b x => exact callK_just (h_impl_ruleOf_1 a b st) hk
  | funI a b x => exact callK_just (h_impl_ruleOf_6 a b st) hk
  | use a b x y => exact callK_just (h_impl_ruleOf_8 a b st) hk
  | botE a x => exact callK_just (h_impl_ruleOf_9 _ st) hk
theorem rule_concl (p : Pf) (h : p.kind ≠ 1) (st : St) {K Kp : PV → St → Prop} (hk : K (fm (concl p)) st) : e_call prog st (ruleF4 p) [fms p.forms] K Kp := by
  cases p with
  | hyp n => exact absurd rfl h
  | andI a b x y => exact callK_just (h_impl_ruleOf_5 a b st) hk
  | fst a b x => exact callK_just (h_impl_ruleOf_2 a [b] st) hk
  | snd a b x => exact callK_just (h_impl_ruleOf_3 a b st) hk
  | funI a b x => exact callK_just (h_impl_ruleOf_7 a b st) hk
  | use a b x y => exact callK_just (h_impl_ruleOf_3 a b st) hk
  | botE a x => exact callK_just (h_impl_ruleOf_2 a [] st) hk
end Go.H.Tryz
/- Contracts: the program's proofs and hypotheses: are they right. -/
set_option linter.unusedVariables false
set_option linter.unusedSimpArgs false
namespace Go.H.Tryz
open Go Go.H

/-- A look at a form of so many nodes with so many left. -/
def lookF (f : Fm) (m : Int) : Option Int := if (f.size : Int) ≤ m then some (m - f.size) else none
theorem lookF_yes {f : Fm} {m : Int} (h : (f.size : Int) ≤ m) : lookF f m = some (m - f.size) := if_pos h
theorem lookF_no {f : Fm} {m : Int} (h : ¬ (f.size : Int) ≤ m) : lookF f m = none := if_neg h
theorem lookF_some {f : Fm} {m m' : Int} (h : lookF f m = some m') : (f.size : Int) ≤ m ∧ m' = m - f.size := by
  unfold lookF at h
  split at h
  · cases h; exact ⟨‹_›, rfl⟩
  · cases h
theorem lookF_none {f : Fm} {m : Int} (h : lookF f m = none) : ¬ (f.size : Int) ≤ m := by
  unfold lookF at h
  split at h
  · cases h
  · assumption
theorem h_impl_looker_form_any (f : Fm) (hf : f.ok = true) (b : Nat) (o : Bool) (m : Int) (hm : 0 ≤ m ∧ m ≤ 1000) (st : St) (hb : st b = some (lk m o)) :
    HCalls prog n_impl_looker_form [.ptr b 0, fm f] st (LookR b o (lookF f m) st) := by
  induction f using Fm.ind generalizing m st with
  | _ f ih =>
  by_cases hs : (f.size : Int) ≤ m
  · rw [lookF_yes hs]; exact h_impl_looker_form f hf b o m ⟨hs, hm.2⟩ st hb
  have hres := lookF_no hs
  generalize lookF f m = res at hres ⊢
  apply c_impl_looker_form
  unfold b_impl_looker_form
  refine e_box_ref (fm_isJunk _) ?_
  refine callK_look (h_impl_looker_node b o m (by omega) hb) (fun m' hm' => ?_) (fun hm' m' => ?_)
  rotate_left
  · skip
    refine qb_of (x := .bool true) rfl ?_
    rw [cb_bool, br_true]
    exact LookR.no hres (Sub.refl _)
  have hm1 : 1 ≤ m := by
    by_cases h : 1 ≤ m
    · exact h
    · rw [if_neg h] at hm'; cases hm'
  rw [if_pos hm1] at hm'
  cases hm'
  refine qb_of (x := .bool false) rfl ?_
  rw [cb_bool, br_false]
  cases f with
  | atom n => simp only [Fm.size] at hs; omega
  | bot => simp only [Fm.size] at hs; omega
  | and x y =>
    simp only [Fm.ok, Bool.and_eq_true] at hf
    simp only [Fm.size] at hs
    refine qb_of (x := .ref (fm (.and x y)).cells) (by simp [q_fa]) ?_
    refine qb_of (x := .int .i64 2) (by simp [Fm.kind]) ?_
    refine qb_of (x := .bool false) rfl ?_
    rw [cb_bool, br_false]
    refine qb_of (x := .bool false) rfl ?_
    rw [cb_bool, br_false]
    refine qb_of (x := .bool true) rfl ?_
    refine hJ_of fun J hJ => ?_
    rw [cb_bool, br_true]
    refine hJ _ _ ?_
    show cb (.bool true) _
    rw [cb_bool, br_true]
    refine qb_of (fa1 _) ?_
    refine qb_of (x := .int .i64 0) (by simp [Fm.num]) ?_
    refine qb_of (x := .bool true) rfl ?_
    rw [cb_bool, br_true]
    refine qb_of (fa2 _) ?_
    refine qb_of (x := .sl 3 false [fm x, fm y]) (by simp [Fm.kids]) ?_
    refine qb_of (x := .int .i64 2) rfl ?_
    refine qb_of (x := .bool true) rfl ?_
    rw [cb_bool, br_true]
    refine qb_of (fa2 _) ?_
    refine qb_of (x := .sl 3 false [fm x, fm y]) (by simp [Fm.kids]) ?_
    refine qb_of (x := .ref (fm x).cells) rfl ?_
    refine qb_of (x := fm x) (by simp) ?_
    refine callK_look (ih x (by simp [Fm.kids]) hf.1 (m - 1) (by omega) _ (upd_same _ _ _)) (fun m2 h2 => ?_) (fun h2 m2 => ?_)
    rotate_left
    · skip
      rw [upd_upd, cb_bool, br_false]
      exact LookR.no hres (Sub.refl _)
    obtain ⟨hx, rfl⟩ := lookF_some h2
    rw [upd_upd, cb_bool, br_true]
    refine qb_of (fa2 _) ?_
    refine qb_of (x := .sl 3 false [fm x, fm y]) (by simp [Fm.kids]) ?_
    refine qb_of (x := .ref (fm y).cells) rfl ?_
    refine qb_of (x := fm y) (by simp) ?_
    refine callK_look (ih y (by simp [Fm.kids]) hf.2 (m - 1 - x.size) (by omega) _ (upd_same _ _ _)) (fun m3 h3 => ?_) (fun h3 m3 => ?_)
    rotate_left
    · skip
      rw [upd_upd]
      exact LookR.no hres (Sub.refl _)
    obtain ⟨hy, rfl⟩ := lookF_some h3
    omega
  | imp x y =>
    simp only [Fm.ok, Bool.and_eq_true] at hf
    simp only [Fm.size] at hs
    refine qb_of (x := .ref (fm (.imp x y)).cells) (by simp [q_fa]) ?_
    refine qb_of (x := .int .i64 3) (by simp [Fm.kind]) ?_
    refine qb_of (x := .bool false) rfl ?_
    rw [cb_bool, br_false]
    refine qb_of (x := .bool false) rfl ?_
    rw [cb_bool, br_false]
    refine qb_of (x := .bool false) rfl ?_
    refine hJ_of fun J hJ => ?_
    rw [cb_bool, br_false]
    refine qb_of (x := .bool true) rfl ?_
    refine hJ _ _ ?_
    show cb (.bool true) _
    rw [cb_bool, br_true]
    refine qb_of (fa1 _) ?_
    refine qb_of (x := .int .i64 0) (by simp [Fm.num]) ?_
    refine qb_of (x := .bool true) rfl ?_
    rw [cb_bool, br_true]
    refine qb_of (fa2 _) ?_
    refine qb_of (x := .sl 3 false [fm x, fm y]) (by simp [Fm.kids]) ?_
    refine qb_of (x := .int .i64 2) rfl ?_
    refine qb_of (x := .bool true) rfl ?_
    rw [cb_bool, br_true]
    refine qb_of (fa2 _) ?_
    refine qb_of (x := .sl 3 false [fm x, fm y]) (by simp [Fm.kids]) ?_
    refine qb_of (x := .ref (fm x).cells) rfl ?_
    refine qb_of (x := fm x) (by simp) ?_
    refine callK_look (ih x (by simp [Fm.kids]) hf.1 (m - 1) (by omega) _ (upd_same _ _ _)) (fun m2 h2 => ?_) (fun h2 m2 => ?_)
    rotate_left
    · skip
      rw [upd_upd, cb_bool, br_false]
      exact LookR.no hres (Sub.refl _)
    obtain ⟨hx, rfl⟩ := lookF_some h2
    rw [upd_upd, cb_bool, br_true]
    refine qb_of (fa2 _) ?_
    refine qb_of (x := .sl 3 false [fm x, fm y]) (by simp [Fm.kids]) ?_
    refine qb_of (x := .ref (fm y).cells) rfl ?_
    refine qb_of (x := fm y) (by simp) ?_
    refine callK_look (ih y (by simp [Fm.kids]) hf.2 (m - 1 - x.size) (by omega) _ (upd_same _ _ _)) (fun m3 h3 => ?_) (fun h3 m3 => ?_)
    rotate_left
    · skip
      rw [upd_upd]
      exact LookR.no hres (Sub.refl _)
    obtain ⟨hy, rfl⟩ := lookF_some h3
    omega
/-- A look at a proof. -/
def lookP (p : Pf) (m : Int) : Option Int := if p.hok = true ∧ (p.count : Int) ≤ m then some (m - p.count) else none
theorem lookP_some {p : Pf} {m m' : Int} (h : lookP p m = some m') : p.hok = true ∧ (p.count : Int) ≤ m ∧ m' = m - p.count := by
  unfold lookP at h
  split at h
  · cases h; exact ⟨‹_ ∧ _›.1, ‹_ ∧ _›.2, rfl⟩
  · cases h
theorem lookP_none {p : Pf} {m : Int} (h : lookP p m = none) : ¬ (p.hok = true ∧ (p.count : Int) ≤ m) := by
  unfold lookP at h
  split at h
  · cases h
  · assumption
def fmSum (l : List Fm) : Nat := (l.map Fm.size).sum
def pfSum (l : List Pf) : Nat := (l.map Pf.count).sum
theorem fmSum_cons (f : Fm) (l : List Fm) : fmSum (f :: l) = f.size + fmSum l := by simp [fmSum]
theorem pfSum_cons (p : Pf) (l : List Pf) : pfSum (p :: l) = p.count + pfSum l := by simp [pfSum]
theorem count_sums (p : Pf) : p.count = 1 + fmSum p.forms + pfSum p.kids := by cases p <;> simp [Pf.count, fmSum, pfSum, Pf.forms, Pf.kids] <;> omega
theorem hok_kids {p : Pf} (h : p.kind ≠ 1) : p.hok = p.kids.all Pf.hok := by cases p <;> simp_all [Pf.hok, Pf.kids, Pf.kind]
theorem num_zero {p : Pf} (h : p.kind ≠ 1) : p.num = 0 := by cases p <;> simp_all [Pf.num, Pf.kind]
theorem h_impl_looker_proof (p : Pf) (hf : p.fok = true) (b : Nat) (o : Bool) (m : Int) (hm : 0 ≤ m ∧ m ≤ 1000) (st : St) (hb : st b = some (lk m o)) :
    HCalls prog n_impl_looker_proof [.ptr b 0, pf p] st (LookR b o (lookP p m) st) := by
  induction p using Pf.ind generalizing m st with
  | _ p ih =>
  have hcs := count_sums p
  have hlp := pf_lens p
  generalize hv : lookP p m = v
  apply c_impl_looker_proof
  unfold b_impl_looker_proof
  refine e_box_ref (pf_isJunk _) ?_
  have no : ∀ {s : St} {m' : Int}, Sub (upd st b (lk m' o)) s → ¬ (p.hok = true ∧ (p.count : Int) ≤ m) → retR (LookR b o v st) (.bool false) s := fun hs h => LookR.no (by rw [← hv]; unfold lookP; rw [if_neg h]) hs
  refine callK_look (h_impl_looker_node b o m (by omega) hb) (fun m' hm' => ?_) (fun hm' m' => ?_)
  rotate_left
  · skip
    refine qb_of (x := .bool true) rfl ?_
    rw [cb_bool, br_true]
    refine no (Sub.refl _) (fun h => ?_)
    split at hm'
    · cases hm'
    · omega
  have hm1 : 1 ≤ m := by
    by_cases h : 1 ≤ m
    · exact h
    · rw [if_neg h] at hm'; cases hm'
  rw [if_pos hm1] at hm'
  cases hm'
  refine qb_of (x := .bool false) rfl ?_
  rw [cb_bool, br_false]
  refine qb_of (pfa0 _) ?_
  refine qb_of (pl0 _ _) ?_
  refine qb_of (x := .bool (decide (p.kind = 1))) (by simp) ?_
  refine cbr_dec (fun hk => ?_) (fun hk => ?_)
  · obtain ⟨n, rfl⟩ := pf_hyp hk
    refine qb_of (pfa1 _) ?_
    refine qb_of (x := .int .i64 (n : Int)) (pl1 _ _) ?_
    refine callK_just (h_impl_in (n : Int) 0 100 _) ?_
    rw [cb_bool]
    refine br_of (fun h => ?_) (fun h => ?_)
    · rw [Bool.and_eq_true, decide_eq_true_eq, decide_eq_true_eq] at h
      refine qb_of (pfa2 _) ?_
      refine qb_of (x := .sl 3 false []) (pl2 _ _) ?_
      refine qb_of (x := .int .i64 0) rfl ?_
      refine qb_of (x := .bool true) rfl ?_
      rw [cb_bool, br_true]
      refine qb_of (pfa3 _) ?_
      refine qb_of (x := .sl 4 false []) (pl3 _ _) ?_
      refine qb_of (x := .int .i64 0) rfl ?_
      refine qb_of (x := .bool true) rfl ?_
      refine LookR.yes (m := m - 1) ?_ (Sub.refl _)
      rw [← hv]; unfold lookP
      rw [if_pos ⟨by simp only [Pf.hok, decide_eq_true_eq]; omega, by simp only [Pf.count]; omega⟩]; rfl
    · refine no (Sub.refl _) (fun h' => ?_)
      rw [Bool.and_eq_false_iff, decide_eq_false_iff_not, decide_eq_false_iff_not] at h
      have h1 := h'.1
      simp only [Pf.hok, decide_eq_true_eq] at h1
      omega
  · refine qb_of (pfa0 _) ?_
    refine qb_of (pl0 _ _) ?_
    refine callK_just (h_impl_ruleOf p hk _) ?_
    refine qb_of (x := ruleP p) rfl ?_
    refine qb_of (x := .bool true) rfl ?_
    refine (Held.start _).alloc fun v5 w1 h1 => ?_
    refine h1.store (ruleP_box p) rfl fun w2 h2 => ?_
    have e5 := h2.got _ (List.mem_cons_self ..)
    have hbw : w2 b = some (lk (m - 1) o) := h2.sub _ _ (upd_same _ _ _)
    have nb5 : b ≠ v5 := fun e => by
      have := h2.out v5 (by simp)
      rw [← e, upd_same] at this; cases this
    have sb : Sub (upd st b (lk (m - 1) o)) w2 := h2.sub
    refine qb_of (x := .bool false) rfl ?_
    rw [cb_bool, br_false]
    refine qb_of (pfa1 _) ?_
    refine qb_of (pl1 _ _) ?_
    refine qb_of (x := .bool false) (by rw [num_zero hk]; rfl) ?_
    rw [cb_bool, br_false]
    refine qb_of (pfa2 _) ?_
    refine qb_of (pl2 _ _) ?_
    refine qb_of (x := .int .i64 (p.forms.length : Int)) (by simp) ?_
    refine qb_of (x := .ptr v5 0) rfl ?_
    refine qb_of (x := .int .i64 (p.forms.length : Int)) (by rw [q_load_ptr e5]; cases p <;> first | exact absurd rfl hk | rfl) ?_
    refine qb_of (x := .bool false) (by simp) ?_
    rw [cb_bool, br_false]
    refine qb_of (pfa3 _) ?_
    refine qb_of (pl3 _ _) ?_
    refine qb_of (x := .int .i64 (p.kids.length : Int)) (by simp) ?_
    refine qb_of (x := .ptr v5 1) rfl ?_
    refine qb_of (x := .int .i64 (p.kids.length : Int)) (by rw [q_load_ptr e5]; cases p <;> first | exact absurd rfl hk | rfl) ?_
    refine qb_of (x := .bool false) (by simp) ?_
    rw [cb_bool, br_false]
    refine qb_of (pfa2 _) ?_
    refine qb_of (pl2 _ _) ?_
    refine qb_of (x := .int .i64 (p.forms.length : Int)) (by simp) ?_
    have hfs := (fok_forms hf).1
    have hks := (fok_forms hf).2
    have hkh := hok_kids hk
    refine loop_idx (β := Int × St) p.forms (fun _ i => [.int .i64 (i : Int)]) (fun z => z.2) (fun z i rest => 0 ≤ z.1 ∧ z.1 - fmSum rest = m - 1 - fmSum p.forms ∧ z.1 ≤ m ∧ Sub (upd st b (lk z.1 o)) z.2) ?_ ?_ (m - 1, w2) ⟨by simp only; omega, by simp only, by simp only; omega, sb⟩
    · rintro i x rest ⟨c, s⟩ hi hx ⟨hc0, hc, hcm, hs⟩ kk
      simp only at hc0 hc hcm hs
      rw [fmSum_cons] at hc
      have hxm := List.mem_of_getElem? hx
      refine qb_of (x := .bool true) (by simp [hi]) ?_
      rw [cb_bool, br_true]
      refine qb_of (ia_fms .i64 hx) ?_
      refine qb_of (lfm _ _) ?_
      refine (Held.start s).new (Box.fm x) rfl fun v8 s2 k2 => ?_
      refine qb_of (k2.top (Box.fm x)) ?_
      have hb2 : s2 b = some (lk c o) := k2.sub _ _ (hs _ _ (upd_same _ _ _))
      refine callK_look (h_impl_looker_form_any x (hfs x hxm) b o c (by omega) _ hb2) (fun m2 h2 => ?_) (fun h2 m2 => ?_)
      · obtain ⟨hx1, rfl⟩ := lookF_some h2
        refine qb_of (x := .bool false) rfl ?_
        rw [cb_bool, br_false]
        refine qb_of (qinc (by omega)) ?_
        refine kk (c - x.size, _) ⟨by simp only; omega, by simp only; omega, by simp only; omega, ?_⟩
        have := Sub.upd (hs.trans k2.sub) b (lk (c - x.size) o)
        rw [upd_upd] at this
        exact this
      · have := lookF_none h2
        refine qb_of (x := .bool true) rfl ?_
        rw [cb_bool, br_true]
        have hu := Sub.upd (hs.trans k2.sub) b (lk m2 o)
        rw [upd_upd] at hu
        exact no hu (fun h => by omega)
    · rintro ⟨c, s⟩ ⟨hc0, hc, hcm, hs⟩
      simp only at hc0 hc hcm hs
      refine qb_of (x := .bool false) (by simp) ?_
      rw [cb_bool, br_false]
      refine qb_of (pfa3 _) ?_
      refine qb_of (pl3 _ _) ?_
      refine qb_of (x := .int .i64 (p.kids.length : Int)) (by simp) ?_
      rw [show fmSum [] = 0 by rfl] at hc
      refine loop_idx (β := Int × St) p.kids (fun _ i => [.int .i64 (i : Int)]) (fun z => z.2) (fun z i rest => (0 ≤ z.1 ∧ z.1 ≤ m) ∧ z.1 - pfSum rest = m - p.count ∧ (p.kids.all Pf.hok = rest.all Pf.hok) ∧ Sub (upd st b (lk z.1 o)) z.2) ?_ ?_ (c, s) ⟨by simp only; omega, by simp only; omega, rfl, hs⟩
      · rintro i x rest ⟨c, s⟩ hi hx ⟨hc0, hc, hall, hs⟩ kk
        simp only at hc0 hc hs
        rw [pfSum_cons] at hc
        rw [List.all_cons] at hall
        have hxm := List.mem_of_getElem? hx
        refine qb_of (x := .bool true) (by simp [hi]) ?_
        rw [cb_bool, br_true]
        refine qb_of (ia_pfs .i64 hx) ?_
        refine qb_of (lpf _ _) ?_
        refine (Held.start s).new (Box.pf x) rfl fun v8 s2 k2 => ?_
        refine qb_of (k2.top (Box.pf x)) ?_
        have hb2 : s2 b = some (lk c o) := k2.sub _ _ (hs _ _ (upd_same _ _ _))
        have hcm : c ≤ 1000 := by omega
        refine callK_look (ih x hxm (hks x hxm) c (by omega) _ hb2) (fun m2 h2 => ?_) (fun h2 m2 => ?_)
        · obtain ⟨hx0, hx1, rfl⟩ := lookP_some h2
          refine qb_of (x := .bool false) rfl ?_
          rw [cb_bool, br_false]
          refine qb_of (qinc (by omega)) ?_
          refine kk (c - x.count, _) ⟨by simp only; omega, by simp only; omega, by rw [hall, hx0, Bool.true_and], ?_⟩
          have := Sub.upd (hs.trans k2.sub) b (lk (c - x.count) o)
          rw [upd_upd] at this
          exact this
        · have hn := lookP_none h2
          refine qb_of (x := .bool true) rfl ?_
          rw [cb_bool, br_true]
          have hu := Sub.upd (hs.trans k2.sub) b (lk m2 o)
          rw [upd_upd] at hu
          refine no hu (fun h => hn ⟨?_, by omega⟩)
          have h1 := h.1
          rw [hkh, hall, Bool.and_eq_true] at h1
          exact h1.1
      · rintro ⟨c, s⟩ ⟨hc0, hc, hall, hs⟩
        simp only at hc0 hc hs
        rw [show pfSum [] = 0 by rfl] at hc
        refine qb_of (x := .bool false) (by simp) ?_
        rw [cb_bool, br_false]
        refine LookR.yes (m := c) ?_ hs
        rw [← hv]; unfold lookP
        rw [if_pos ⟨by rw [hkh, hall]; rfl, by omega⟩]; congr 1; omega
theorem h_impl_ProofOK (p : Pf) (hf : p.fok = true) (st : St) : HCalls prog n_impl_ProofOK [pf p] st (Just (.bool (pfOK p)) st) := by
  apply c_impl_ProofOK
  unfold b_impl_ProofOK
  refine e_box_ref (pf_isJunk _) ?_
  refine qb_of (lpf _ _) ?_
  refine callK_ptr (h_impl_fresh _) fun b hb => ?_
  refine ⟨lpf _ _, ?_⟩
  refine callK_look (h_impl_looker_proof p hf b false 150 (by omega) _ (upd_same _ _ _)) (fun m' hm' => ?_) (fun hm' m' => ?_)
  · obtain ⟨h1, h2, _⟩ := lookP_some hm'
    refine Just.bool ?_ (by rw [upd_upd]; exact (Sub.refl st).fresh hb)
    unfold pfOK
    rw [h1, decide_eq_true (by omega)]; rfl
  · have hn := lookP_none hm'
    refine Just.bool ?_ (by rw [upd_upd]; exact (Sub.refl st).fresh hb)
    unfold pfOK
    by_cases h : p.hok = true
    · rw [h, decide_eq_false (fun h' => hn ⟨h, by omega⟩)]; rfl
    · rw [Bool.not_eq_true] at h; rw [h]; simp
theorem h_impl_badForm (f : Fm) (hf : f.ok = true) (hs : f.size ≤ 150) (st : St) : HCalls prog n_impl_badForm [fm f] st (Just (.bool false) st) := by
  apply c_impl_badForm
  unfold b_impl_badForm
  refine e_box_ref (fm_isJunk _) ?_
  refine qb_of (lfm _ _) ?_
  refine callK_just (h_impl_FormOK f hf hs _) ?_
  refine qb_of (x := .bool false) rfl ?_
  exact Just.bool rfl (Sub.refl _)
theorem h_impl_hypsOK (G : List Fm) (hG : ∀ f ∈ G, f.ok = true ∧ f.size ≤ 150) (hl : G.length ≤ 12) (st : St) : HCalls prog n_impl_hypsOK [fms G] st (Just (.bool true) st) := by
  have hi : HCalls prog n_slices_IndexFunc_impl_Form_impl_Form [fms G, .fn (.func n_impl_badForm) [] []] st (Just (.int .i64 (-1)) st) := by
    apply c_slices_IndexFunc_impl_Form_impl_Form
    unfold b_slices_IndexFunc_impl_Form_impl_Form
    refine qb_of (x := .int .i64 (G.length : Int)) (by simp [fms]) ?_
    refine loop_idx (β := Unit) G (fun _ i => [.int .i64 (i : Int)]) (fun _ => st) (fun _ i rest => True) ?_ ?_ () trivial
    · intro i x rest _ hi hx _ kk
      refine qb_of (x := .bool true) (by simp [hi]) ?_
      rw [cb_bool, br_true]
      refine qb_of (ia_fms .i64 hx) ?_
      refine qb_of (lfm _ _) ?_
      have hx' := hG x (List.mem_of_getElem? hx)
      rw [e_call_func]
      refine callK_just (by simpa using h_impl_badForm x hx'.1 hx'.2 st) ?_
      rw [cb_bool, br_false]
      refine qb_of (qinc (by omega)) ?_
      exact kk () trivial
    · intro _ _
      refine qb_of (x := .bool false) (by simp) ?_
      rw [cb_bool, br_false]
      exact Just.ret (Sub.refl _)
  have hc : HCalls prog n_slices_ContainsFunc_impl_Form_impl_Form [fms G, .fn (.func n_impl_badForm) [] []] st (Just (.bool false) st) := by
    apply c_slices_ContainsFunc_impl_Form_impl_Form
    unfold b_slices_ContainsFunc_impl_Form_impl_Form
    refine callK_just hi ?_
    refine qb_of (x := .bool false) rfl ?_
    exact Just.bool rfl (Sub.refl _)
  apply c_impl_hypsOK
  unfold b_impl_hypsOK
  refine qb_of (x := .int .i64 (G.length : Int)) (by simp [fms]) ?_
  refine qb_of (x := .bool true) (by simp; omega) ?_
  rw [cb_bool, br_true]
  refine callK_just hc ?_
  refine qb_of (x := .bool true) rfl ?_
  exact Just.bool rfl (Sub.refl _)
end Go.H.Tryz
/- Contracts: what the program's proofs prove. -/
set_option linter.unusedVariables false
set_option linter.unusedSimpArgs false
namespace Go.H.Tryz
open Go Go.H

theorem h_forms_equal (fs gs : List Fm) (st : St) (hl : fs.length ≤ 1000) (ih : ∀ x ∈ fs, ∀ (y : Fm) (s : St), HCalls prog n_impl_sameForm [fm x, fm y] s (Just (.bool (decide (x = y))) s)) :
    HCalls prog n_slices_EqualFunc_impl_Form_impl_Form_impl_Form_impl_Form [fms fs, fms gs, .fn (.func n_impl_sameForm) [] []] st (Just (.bool (decide (fs = gs))) st) := by
  apply c_slices_EqualFunc_impl_Form_impl_Form_impl_Form_impl_Form
  unfold b_slices_EqualFunc_impl_Form_impl_Form_impl_Form_impl_Form
  generalize hv : decide (fs = gs) = v
  refine qb_of (x := .int .i64 (fs.length : Int)) (by simp [fms]) ?_
  refine qb_of (x := .int .i64 (gs.length : Int)) (by simp [fms]) ?_
  refine qb_of (x := .bool (decide (fs.length ≠ gs.length))) (by simp; omega) ?_
  have no : ¬ fs = gs → false = v := fun h => by rw [← hv, decide_eq_false h]
  refine br_dec (fun h1 => Just.bool (no fun h => h1 (by rw [h])) (Sub.refl _)) (fun h1 => ?_)
  refine qb_of (x := .int .i64 (fs.length : Int)) (by simp [fms]) ?_
  refine loop_idx (β := St) fs (fun _ i => [.int .i64 (i : Int)]) (fun z => z) (fun z i rest => Sub st z ∧ (fs = gs ↔ rest = gs.drop i)) ?_ ?_ st ⟨Sub.refl _, by simp⟩
  · rintro i x rest s hi hx ⟨hs, hq⟩ kk
    obtain ⟨y, hy⟩ : ∃ y, gs[i]? = some y := ⟨gs[i]'(by omega), List.getElem?_eq_getElem _⟩
    refine qb_of (x := .bool true) (by simp [hi]) ?_
    rw [cb_bool, br_true]
    refine qb_of (ia_fms .i64 hx) ?_
    refine qb_of (lfm _ _) ?_
    refine (Held.start s).new (Box.fm x) rfl fun v8 s2 k2 => ?_
    refine qb_of (ia_fms .i64 hy) ?_
    refine qb_of (lfm _ _) ?_
    refine k2.new (Box.fm y) rfl fun v9 s3 k3 => ?_
    refine qb_of (k3.ldf (f := x) (by simp)) ?_
    refine qb_of (k3.top (Box.fm y)) ?_
    rw [e_call_func]
    refine callK_just (by simpa using ih x (List.mem_of_getElem? hx) y s3) ?_
    refine qb_of (x := .bool (decide (x ≠ y))) (by simp) ?_
    rw [drop_some hy, List.cons.injEq] at hq
    refine br_dec (fun h => Just.bool (no fun hh => h (hq.1 hh).1) (hs.trans k3.sub)) (fun h => ?_)
    refine qb_of (qinc (by omega)) ?_
    refine kk s3 ⟨hs.trans k3.sub, ?_⟩
    rw [hq]; simp only [Decidable.not_not] at h; simp [h]
  · rintro s ⟨hs, hq⟩
    refine qb_of (x := .bool false) (by simp) ?_
    rw [cb_bool, br_false]
    refine Just.bool ?_ hs
    simp only [Decidable.not_not] at h1
    rw [← hv, decide_eq_true (hq.2 ?_)]
    rw [List.drop_of_length_le (by omega)]
theorem h_impl_sameForm (f g : Fm) (st : St) : HCalls prog n_impl_sameForm [fm f, fm g] st (Just (.bool (decide (f = g))) st) := by
  induction f using Fm.ind generalizing g st with
  | _ f ih =>
  apply c_impl_sameForm
  unfold b_impl_sameForm
  generalize hv : decide (f = g) = v
  refine e_box_ref (fm_isJunk _) ?_
  refine e_box_ref (fm_isJunk _) ?_
  have hfk := fm_kids_le f
  have no : ¬ (f.kind = g.kind ∧ f.num = g.num ∧ f.kids = g.kids) → false = v := fun h => by rw [← hv, decide_eq_false (fun e => h (by rw [e]; exact ⟨rfl, rfl, rfl⟩))]
  refine qb_of (x := .ref (fm f).cells) (by simp [q_fa]) ?_
  refine qb_of (x := .int .i64 f.kind) (by simp) ?_
  refine qb_of (x := .ref (fm g).cells) (by simp [q_fa]) ?_
  refine qb_of (x := .int .i64 g.kind) (by simp) ?_
  refine qb_of (x := .bool (decide (f.kind = g.kind))) (by simp) ?_
  refine br_dec (fun h1 => ?_) (fun h1 => Just.bool (no fun h => h1 h.1) (Sub.refl _))
  refine qb_of (x := .ref ((fm f).cells.drop 1)) (by simp [q_fa]) ?_
  refine qb_of (x := .int .i64 f.num) (by simp) ?_
  refine qb_of (x := .ref ((fm g).cells.drop 1)) (by simp [q_fa]) ?_
  refine qb_of (x := .int .i64 g.num) (by simp) ?_
  refine qb_of (x := .bool (decide (f.num = g.num))) (by simp) ?_
  refine br_dec (fun h2 => ?_) (fun h2 => Just.bool (no fun h => h2 h.2.1) (Sub.refl _))
  refine qb_of (x := .ref ((fm f).cells.drop 2)) (by simp [q_fa]) ?_
  refine qb_of (x := fms f.kids) (by simp [fms]) ?_
  refine qb_of (x := .ref ((fm g).cells.drop 2)) (by simp [q_fa]) ?_
  refine qb_of (x := fms g.kids) (by simp [fms]) ?_
  refine callK_just (h_forms_equal f.kids g.kids st (by omega) ih) ?_
  refine Just.bool ?_ (Sub.refl _)
  rw [← hv]
  by_cases h3 : f.kids = g.kids
  · rw [decide_eq_true h3, decide_eq_true (Fm.ext_of h1 h2 h3)]
  · rw [decide_eq_false h3, decide_eq_false (fun e => h3 (by rw [e]))]
/-- The nodes of a proof, whose place is known or which lies in a variable. -/
theorem psize_loop (x : Pf) (hx : x.size ≤ 1000000) (st : St) (a : PV) (h3 : ∃ b, q_nil a = some a ∧ q_fa 3 a = some b ∧ q_load st false 1 b = some (.sl 4 false (x.kids.map pf))) (ih : ∀ y ∈ x.kids, HCalls prog n_impl_Proof_size [.ref (pf y).cells] st (Just (.int .i64 y.size) st)) :
    HCalls prog n_impl_Proof_size [a] st (Just (.int .i64 x.size) st) := by
  obtain ⟨b, hb0, hb1, hb2⟩ := h3
  have hsz := size_sum x
  have hl := pf_lens x
  apply c_impl_Proof_size
  unfold b_impl_Proof_size
  refine qb_of hb0 ?_
  refine qb_of hb1 ?_
  refine qb_of hb2 ?_
  refine qb_of (x := .int .i64 (x.kids.length : Int)) (by simp) ?_
  refine loop_idx (β := Int) x.kids (fun z i => [.int .i64 z, .int .i64 (i : Int)]) (fun _ => st) (fun z i rest => 0 ≤ z ∧ z + sizeSum rest = x.size) ?_ ?_ 1 ⟨by omega, by omega⟩
  · rintro i y rest c hi hy ⟨hc0, hc⟩ kk
    have hc' : c + (y.size + sizeSum rest : Nat) = x.size := by rw [← hc]; simp [sizeSum]
    refine qb_of (x := .bool true) (by simp [hi]) ?_
    rw [cb_bool, br_true]
    refine qb_of hb0 ?_
    refine qb_of hb1 ?_
    refine qb_of hb2 ?_
    refine qb_of (ia_pfs .i64 hy) ?_
    refine callK_just (ih y (List.mem_of_getElem? hy)) ?_
    refine qb_of (x := .int .i64 (c + y.size)) (by simp; rw [wrap64 (by omega) (by omega)]) ?_
    refine qb_of (x := .int .i64 ((i + 1 : Nat) : Int)) (by simp; rw [wrap64 (by omega) (by omega)]) ?_
    exact kk (c + y.size) ⟨by omega, by omega⟩
  · rintro c ⟨hc0, hc⟩
    refine qb_of (x := .bool false) (by simp) ?_
    rw [cb_bool, br_false]
    refine Just.int ?_ (Sub.refl _)
    simp only [sizeSum] at hc
    simpa using hc
theorem h_impl_Proof_size (x : Pf) (hx : x.size ≤ 1000000) (st : St) : HCalls prog n_impl_Proof_size [.ref (pf x).cells] st (Just (.int .i64 x.size) st) := by
  induction x using Pf.ind with
  | _ x ih =>
  have hsz := size_sum x
  refine psize_loop x hx st _ ⟨_, rfl, pfa3 _, pl3 _ _⟩ fun y hy => ih y hy ?_
  have := sizeSum_le hy
  omega
theorem h_impl_Proof_size_at (x : Pf) (hx : x.size ≤ 1000000) (v : Nat) (st : St) (hv : st v = some (.cells (pf x).cells)) : HCalls prog n_impl_Proof_size [.ptr v 0] st (Just (.int .i64 x.size) st) := by
  have hsz := size_sum x
  refine psize_loop x hx st _ ⟨.ptr v 3, rfl, rfl, by rw [q_load_ptr hv]; simp⟩ fun y hy => h_impl_Proof_size y ?_ st
  have := sizeSum_le hy
  omega
/-- What proves a proof's premises proves what it says. -/
theorem prv_parts {G : List Fm} {x : Pf} {f : Fm} (h : Prv G x f) (hk : x.kind ≠ 1) : Prvs (if x.kind = 5 then x.forms.headD .bot :: G else G) x.kids (prems x) ∧ f = concl x := by
  cases h <;> first | exact absurd rfl hk | simp_all [Prvs, Pf.kind, Pf.forms, Pf.kids, prems, concl]
theorem h_slices_Clip_forms (fs : List Fm) (f : Bool) (st : St) : HCalls prog n_slices_Clip_impl_Form_impl_Form [.sl 3 f (fs.map fm)] st (Just (.sl 3 true (fs.map fm)) st) := by
  apply c_slices_Clip_impl_Form_impl_Form
  unfold b_slices_Clip_impl_Form_impl_Form
  have := sliceE_clip (e := 3) (f := f) (xs := fs.map fm) .i64 .i64
  simp at this
  try simp [this]
  exact Just.ret (Sub.refl _)
theorem h_impl_proves (x : Pf) : ∀ (G : List Fm) (f : Fm), Prv G x f → G.length + x.size ≤ 100000 → ∀ (at_ : Int), 0 ≤ at_ → at_ + x.size ≤ 1000000 → ∀ (st : St), HCalls prog n_impl_proves [fms G.reverse, pf x, .int .i64 at_] st (Just (fm f) st) := by
  induction x using Pf.ind with
  | _ x ih =>
  intro G f hp hG at_ ha0 ha st
  have hl := pf_lens x
  have hsz := size_sum x
  apply c_impl_proves
  unfold b_impl_proves
  refine e_box_ref (pf_isJunk _) ?_
  refine (Held.start st).alloc fun v6 w1 h1 => ?_
  refine qb_of (pfa0 _) ?_
  refine qb_of (pl0 _ _) ?_
  refine qb_of (x := .bool (decide (x.kind = 1))) (by simp) ?_
  refine cbr_dec (fun hk => ?_) (fun hk => ?_)
  · obtain ⟨n, rfl⟩ := pf_hyp hk
    cases hp with
    | hyp hn =>
      have hlt := (List.getElem?_eq_some_iff.1 hn).1
      refine qb_of (pfa1 _) ?_
      refine qb_of (x := .int .i64 (n : Int)) (pl1 _ _) ?_
      refine qb_of (x := .int .i64 (G.length : Int)) (by simp [fms]) ?_
      refine qb_of (x := .bool false) (by simp; omega) ?_
      refine hJ_of fun J hJ => ?_
      rw [cb_bool, br_false]
      refine hJ _ _ ?_
      refine qb_of (x := .int .i64 (G.length : Int)) (by simp [fms]) ?_
      refine qb_of (qdec (by omega)) ?_
      refine qb_of (pfa1 _) ?_
      refine qb_of (x := .int .i64 (n : Int)) (pl1 _ _) ?_
      refine qb_of (x := .int .i64 ((G.length - 1 - n : Nat) : Int)) (by simp; rw [wrap64 (by omega) (by omega)]; omega) ?_
      refine qb_of (ia_fms .i64 (f := f) (by rw [List.getElem?_reverse (by omega), show G.length - 1 - (G.length - 1 - n) = n by omega]; exact hn)) ?_
      refine qb_of (lfm _ _) ?_
      refine h1.store (Box.fm f) rfl fun w4 h4 => ?_
      refine qb_of (h4.top (Box.fm f)) ?_
      exact Just.ret h4.sub
  · obtain ⟨hps, hfe⟩ := prv_parts hp hk
    refine qb_of (pfa0 _) ?_
    refine qb_of (pl0 _ _) ?_
    refine callK_just (h_impl_ruleOf x hk _) ?_
    refine qb_of (x := ruleP x) rfl ?_
    refine qb_of (x := .bool true) rfl ?_
    refine h1.alloc fun v7 w2 h2 => ?_
    refine h2.store2 (ruleP_box x) rfl fun w3 h3 => ?_
    have e7 := h3.got _ (List.mem_cons_self ..)
    refine qb_of (x := .ptr v7 3) rfl ?_
    refine qb_of (x := ruleF3 x) (by rw [q_load_ptr e7]; cases x <;> first | exact absurd rfl hk | rfl) ?_
    refine qb_of (pfa2 _) ?_
    refine qb_of (pl2 _ _) ?_
    refine rule_prems x hk _ ?_
    refine qb_of (x := .int .i64 (at_ + 1)) (by simp; rw [wrap64 (by omega) (by omega)]) ?_
    refine qb_of (pfa0 _) ?_
    refine qb_of (pl0 _ _) ?_
    refine qb_of (x := .bool (decide (x.kind = 5))) (by simp) ?_
    refine hJ_cv fun J hJ => ?_
    generalize hGe : (if x.kind = 5 then x.forms.headD .bot :: G else G) = G' at hps
    have hGl : G'.length ≤ G.length + 1 := by rw [← hGe]; split <;> simp
    have main : ∀ (p : PV) (s : St), Conv [p] s [fms G'.reverse] w3 → J [p] s := fun p s hcv => by
      obtain ⟨hlen, hget⟩ := hps.get
      refine hJ [p] s [fms G'.reverse] w3 hcv ?_
      refine qb_of (pfa3 _) ?_
      refine qb_of (pl3 _ _) ?_
      refine qb_of (x := .int .i64 x.kids.length) (by simp) ?_
      refine hJ_of fun J2 hJ2 => ?_
      refine loop_idx (β := Int × St) x.kids (fun z i => [.int .i64 z.1, .int .i64 (i : Int)]) (fun z => z.2) (fun z i rest => 0 ≤ z.1 ∧ z.1 + sizeSum rest = at_ + x.size ∧ Sub w3 z.2) ?_ ?_ (at_ + 1, w3) ⟨by simp only; omega, by simp only; omega, Sub.refl w3⟩
      · rintro i y rest ⟨c, s⟩ hi hy ⟨hc0, hc, hs⟩ kk
        simp only at hc0 hc hs
        have hm := List.mem_of_getElem? hy
        have hys := sizeSum_le hm
        obtain ⟨g, hg, hpg⟩ := hget i y hy
        have hc' : c + (y.size + sizeSum rest : Nat) = at_ + x.size := by rw [← hc]; simp [sizeSum]
        refine qb_of (x := .bool true) (by simp [hi]) ?_
        rw [cb_bool, br_true]
        refine qb_of (ia_pfs .i64 hy) ?_
        refine qb_of (lpf _ _) ?_
        refine (Held.start s).new (Box.pf y) rfl fun v12 s2 k2 => ?_
        refine qb_of (k2.top (Box.pf y)) ?_
        refine qb_of (ia_fms .i64 hg) ?_
        refine qb_of (lfm _ _) ?_
        refine callK_just (ih y hm G' g hpg (by omega) c hc0 (by omega) _) ?_
        refine ⟨lfm _ _, ?_⟩
        refine callK_just (h_impl_sameForm g g _) ?_
        refine qb_of (x := .bool false) (by simp) ?_
        rw [cb_bool, br_false]
        refine callK_just (h_impl_Proof_size_at y (by omega) v12 _ (k2.got _ (List.mem_cons_self ..))) ?_
        refine qb_of (x := .int .i64 (c + y.size)) (by simp; rw [wrap64 (by omega) (by omega)]) ?_
        refine qb_of (x := .int .i64 ((i + 1 : Nat) : Int)) (by simp; rw [wrap64 (by omega) (by omega)]) ?_
        exact kk (c + y.size, s2) ⟨by simp only; omega, by simp only; omega, hs.trans k2.sub⟩
      · rintro ⟨c, s⟩ ⟨hc0, hc, hs⟩
        simp only at hs
        have hs' := h3.grow hs
        refine qb_of (x := .bool false) (by simp) ?_
        rw [cb_bool, br_false]
        refine hJ2 _ _ ?_
        have e7' := hs'.got _ (List.mem_cons_self ..)
        refine qb_of (x := .ptr v7 4) rfl ?_
        refine qb_of (x := ruleF4 x) (by rw [q_load_ptr e7']; cases x <;> first | exact absurd rfl hk | rfl) ?_
        refine qb_of (pfa2 _) ?_
        refine qb_of (pl2 _ _) ?_
        refine rule_concl x hk _ ?_
        rw [← hfe]
        refine hs'.store (Box.fm f) rfl fun s2 k2 => ?_
        refine qb_of (k2.top (Box.fm f)) ?_
        exact Just.ret k2.sub
    refine cbr_dec (fun h5 => ?_) (fun h5 => ?_)
    · obtain ⟨a, b, y, rfl⟩ : ∃ a b y, x = .funI a b y := by cases x <;> simp_all [Pf.kind]
      rw [if_pos h5] at hGe
      refine qb_of (pfa2 _) ?_
      refine qb_of (x := .sl 3 false [fm a, fm b]) (pl2 _ _) ?_
      refine qb_of (x := .ref (fm a).cells) rfl ?_
      refine qb_of (lfm _ _) ?_
      refine qb_of (lit_f1 a) ?_
      refine callK_just (h_slices_Clip_forms G.reverse false _) ?_
      refine ⟨lfm _ _, pl2 _ _, ?_⟩
      refine append_full (elems_sl _ _ _ _) (by simp) (by simp; omega) fun p2 s2 hg2 => ?_
      refine main _ _ ?_
      rw [← hGe]
      simpa [fms, Pf.forms] using hg2.freeze
    · rw [if_neg h5] at hGe
      subst hGe
      exact main _ _ (Conv.refl _ _)
end Go.H.Tryz
/- Contracts: the program's copies of forms; a proof whose hypotheses are moved. -/
set_option linter.unusedVariables false
set_option linter.unusedSimpArgs false
namespace Go.H.Tryz
open Go Go.H

theorem h_impl_cloneForms_of (fs : List Fm) (hl : fs.length ≤ 1000) (st : St) (ih : ∀ x ∈ fs, ∀ s : St, HCalls prog n_impl_cloneForm [fm x] s (Just (fm x) s)) : HCalls prog n_impl_cloneForms [fms fs] st (Just (fms fs) st) := by
  apply c_impl_cloneForms
  unfold b_impl_cloneForms
  refine qb_of (x := .sl 3 true []) rfl ?_
  refine qb_of (x := .int .i64 (fs.length : Int)) (by simp [fms]) ?_
  refine loop_idx (β := PV × St × St) fs (fun z i => [z.1, .int .i64 (i : Int)]) (fun z => z.2.1) (fun z i rest => Grow z.2.2 3 ((fs.take i).map fm) z.1 z.2.1 ∧ Sub st z.2.2) ?_ ?_ (.sl 3 true [], st, st) ⟨Grow.nil _ _ _, Sub.refl _⟩
  · rintro i x rest ⟨p, s1, s0⟩ hi hx ⟨q0, qs⟩ kk
    simp only at q0 qs
    refine qb_of (x := .bool true) (by simp [hi]) ?_
    rw [cb_bool, br_true]
    refine qb_of (ia_fms .i64 hx) ?_
    refine qb_of (lfm _ _) ?_
    intro b5 hb5
    have q1 := q0.beside (.cells (fm x).cells) hb5
    refine e_store_ptr (upd_same _ _ _) (fm_cellOK x) (fm_ncells x) (fm_isJunk x) (by simp) ?_
    rw [fm_set, upd_upd]
    refine qb_of (load_fm (upd_same _ _ _)) ?_
    refine callK_just (ih x (List.mem_of_getElem? hx) _) ?_
    refine qb_of (lit_f1 x) ?_
    refine q1.append (elems_sl _ _ _ _) (by simp; omega) fun p' s' hg => ?_
    refine qb_of (qinc (by omega)) ?_
    refine kk (p', s', upd s0 b5 (.cells (fm x).cells)) ⟨?_, qs.put (qs.isNone (q0.sub.isNone hb5))⟩
    rw [List.take_add_one, hx]
    simpa using hg
  · rintro ⟨p, s1, s0⟩ ⟨q0, qs⟩
    simp only at q0 qs
    refine qb_of (x := .bool false) (by simp) ?_
    rw [cb_bool, br_false]
    rw [List.take_length] at q0
    exact Just.conv (Conv.trans q0.freeze (Conv.sub qs))
theorem h_impl_cloneForm (f : Fm) (st : St) : HCalls prog n_impl_cloneForm [fm f] st (Just (fm f) st) := by
  induction f using Fm.ind generalizing st with
  | _ f ih =>
  have hl := fm_kids_le f
  apply c_impl_cloneForm
  unfold b_impl_cloneForm
  refine e_box_own (fm_isJunk _) fun b1 hb1 => ?_
  intro b2 hb2
  have hne : b1 ≠ b2 := fun e => by rw [← e, upd_same] at hb2; cases hb2
  rw [upd_ne _ _ hne.symm] at hb2
  generalize hs : upd (upd st b1 (.cells (fm f).cells)) b2 (.cells [.int .i64 0, .int .i64 0, .sl 0 true []]) = s
  have e1 : s b1 = some (.cells (fm f).cells) := by rw [← hs, upd_ne _ _ hne]; exact upd_same _ _ _
  have e2 : s b2 = some (.cells [.int .i64 0, .int .i64 0, .sl 0 true []]) := by rw [← hs]; exact upd_same _ _ _
  have hsub : Sub st s := by
    rw [← hs]
    refine ((Sub.refl st).put hb1).put hb2
  clear hs
  refine qb_of (x := .ptr b1 2) rfl ?_
  refine qb_of (x := fms f.kids) (by rw [q_load_ptr e1]; simp [fms]) ?_
  refine callK_just (h_impl_cloneForms_of f.kids (by omega) s fun x hx s' => ih x hx s') ?_
  refine qb_of (x := .ptr b1 2) rfl ?_
  refine e_store_ptr e1 (by rfl) rfl rfl (by simp) ?_
  have e3 : setRange (fm f).cells 2 (fms f.kids).cells = (fm f).cells := by rw [fm_cells]; rfl
  rw [e3]
  refine qb_of (load_fm (upd_same _ _ _)) ?_
  have hne2 : b2 ≠ b1 := fun e => hne e.symm
  refine e_store_ptr (vs := [.int .i64 0, .int .i64 0, .sl 0 true []]) (by rw [upd_ne _ _ hne2]; exact e2) (fm_cellOK f) (fm_ncells f) (fm_isJunk f) (by simp) ?_
  rw [fm_set]
  refine qb_of (load_fm (upd_same _ _ _)) ?_
  refine Just.ret ?_
  exact (hsub.put hb1).put hb2
theorem h_impl_cloneForms (fs : List Fm) (hl : fs.length ≤ 1000) (st : St) : HCalls prog n_impl_cloneForms [fms fs] st (Just (fms fs) st) := h_impl_cloneForms_of fs hl st fun x _ s => h_impl_cloneForm x s
/-- What a proof's hypotheses become, one by one; k is how many abstractions stand around. -/
def _root_.Go.H.Pf.mv (h : Nat → Nat → Pf) : Pf → Nat → Pf
  | .hyp n, k => h n k
  | .andI x y p q, k => .andI x y (p.mv h k) (q.mv h k)
  | .fst x y p, k => .fst x y (p.mv h k)
  | .snd x y p, k => .snd x y (p.mv h k)
  | .funI x y p, k => .funI x y (p.mv h (k + 1))
  | .use x y p q, k => .use x y (p.mv h k) (q.mv h k)
  | .botE x p, k => .botE x (p.mv h k)
theorem mv_lift (b : Nat) (x : Pf) : ∀ k, x.mv (fun n k => .hyp (if k ≤ n then n + b else n)) k = x.lift k b := by
  induction x with
  | hyp n => intro k; rfl
  | andI a b p q i1 i2 => intro k; simp only [Pf.mv, Pf.lift, i1, i2]
  | fst a b p i1 => intro k; simp only [Pf.mv, Pf.lift, i1]
  | snd a b p i1 => intro k; simp only [Pf.mv, Pf.lift, i1]
  | funI a b p i1 => intro k; simp only [Pf.mv, Pf.lift, i1]
  | use a b p q i1 i2 => intro k; simp only [Pf.mv, Pf.lift, i1, i2]
  | botE a p i1 => intro k; simp only [Pf.mv, Pf.lift, i1]
theorem mv_cut (m : Pf) (x : Pf) : ∀ k, x.mv (fun n k => if n = k then m.lift 0 k else if k < n then .hyp (n - 1) else .hyp n) k = m.cut x k := by
  induction x with
  | hyp n => intro k; rfl
  | andI a b p q i1 i2 => intro k; simp only [Pf.mv, Pf.cut, i1, i2]
  | fst a b p i1 => intro k; simp only [Pf.mv, Pf.cut, i1]
  | snd a b p i1 => intro k; simp only [Pf.mv, Pf.cut, i1]
  | funI a b p i1 => intro k; simp only [Pf.mv, Pf.cut, i1]
  | use a b p q i1 i2 => intro k; simp only [Pf.mv, Pf.cut, i1, i2]
  | botE a p i1 => intro k; simp only [Pf.mv, Pf.cut, i1]
theorem mv_node {h : Nat → Nat → Pf} {x : Pf} (hk : x.kind ≠ 1) (k : Nat) : (x.mv h k).kind = x.kind ∧ (x.mv h k).num = 0 ∧ (x.mv h k).forms = x.forms ∧ (x.mv h k).kids = x.kids.map fun y => y.mv h (if x.kind = 5 then k + 1 else k) := by
  cases x <;> simp_all [Pf.mv, Pf.kind, Pf.num, Pf.forms, Pf.kids]
theorem MkK.beside {w s : St} {v b : Nat} {k n : Int} {fs : List Fm} {ks : List Pf} {p : PV} (h : MkK w v k n fs ks p s) (o : HObj) (hb : s b = none) : MkK (upd w b o) v k n fs ks p (upd s b o) := by
  have ne : b ≠ v := fun e => by
    have := h.at
    rw [← e, hb] at this; cases this
  have := Grow.beside h o hb
  rw [upd_comm _ _ _ (Ne.symm ne)] at this
  exact this
theorem h_impl_Proof_moved (g : FuncId) (caps : List PV) (h : Nat → Nat → Pf) (B : Nat) (hg : ∀ (n k : Nat) (s : St), n ≤ B → k ≤ 100000 → HCalls prog g ([.int .i64 n, .int .i64 k] ++ caps) s (Just (pf (h n k)) s)) (x : Pf) (hx : Pf.le B x) :
    ∀ (k : Nat), k + x.size ≤ 100000 → ∀ (st : St), HCalls prog n_impl_Proof_moved [pf x, .int .i64 k, .fn (.func g) [] caps] st (Just (pf (x.mv h k)) st) := by
  induction x using Pf.ind with
  | _ x ih =>
  intro k hk st
  have hl := pf_lens x
  have hsz := size_sum x
  apply c_impl_Proof_moved
  unfold b_impl_Proof_moved
  refine e_box_ref (pf_isJunk _) ?_
  refine (Held.start st).alloc fun v6 w1 h1 => ?_
  refine qb_of (pfa0 _) ?_
  refine qb_of (pl0 _ _) ?_
  refine qb_of (x := .bool (decide (x.kind = 1))) (by simp) ?_
  refine cbr_dec (fun hk1 => ?_) (fun hk1 => ?_)
  · obtain ⟨n, rfl⟩ := pf_hyp hk1
    refine qb_of (pfa1 _) ?_
    refine qb_of (x := .int .i64 (n : Int)) (pl1 _ _) ?_
    rw [e_call_func]
    refine callK_just (by simpa using hg n k w1 hx (by omega)) ?_
    refine h1.store (Box.pf _) rfl fun w2 h2 => ?_
    refine qb_of (h2.top (Box.pf _)) ?_
    exact Just.ret h2.sub
  · obtain ⟨m1, m2, m3, m4⟩ := mv_node (h := h) hk1 k
    refine hJ_of fun J hJ => ?_
    have fin : ∀ (v7 : Nat) (w3 : St), Held st w3 [(v7, .agg [.int .i64 x.kind, .int .i64 0, .sl 3 false (x.forms.map fm), .sl 0 true []])] [(v6, [.int .i64 0, .int .i64 0, .sl 0 true [], .sl 0 true []])] → J [.ptr v7 0] w3 := fun v7 w3 h3 => by
      refine hJ _ _ ?_
      have e7 := h3.got _ (List.mem_cons_self ..)
      have e6 := h3.zat (v6, [.int .i64 0, .int .i64 0, .sl 0 true [], .sl 0 true []]) (by simp)
      have ne67 : v6 ≠ v7 := fun e => by
        have := h3.nd
        simp [e] at this
      have o6 := h3.out v6 (by simp)
      have o7 := h3.out v7 (by simp)
      have e : upd w3 v7 (.cells [.int .i64 x.kind, .int .i64 0, .sl 3 false (x.forms.map fm), .sl 0 true []]) = w3 := by
        funext c
        unfold upd
        split
        · rename_i h; rw [h]; exact e7.symm
        · rfl
      refine qb_of (pfa0 _) ?_
      refine qb_of (pl0 _ _) ?_
      refine qb_of (x := .bool (decide (x.kind = 5))) (by simp) ?_
      refine hJ_of fun J1 hJ1 => ?_
      have kids : ∀ (k' : Nat), k' = (if x.kind = 5 then k + 1 else k) → J1 [.int .i64 (k' : Int)] w3 := fun k' hk' => by
        have hk2 : k' ≤ k + 1 := by rw [hk']; split <;> omega
        refine hJ1 _ _ ?_
        refine qb_of (pfa3 _) ?_
        refine qb_of (pl3 _ _) ?_
        refine qb_of (x := .int .i64 x.kids.length) (by simp) ?_
        have start : MkK w3 v7 x.kind 0 x.forms [] (.sl 0 true []) w3 := by
          have : MkK w3 v7 x.kind 0 x.forms [] (.sl 0 true []) (upd w3 v7 (.cells [.int .i64 x.kind, .int .i64 0, .sl 3 false (x.forms.map fm), .sl 0 true []])) := Grow.nil _ _ _
          rw [e] at this
          exact this
        refine loop_idx (β := PV × St × St) x.kids (fun _ i => [.int .i64 (i : Int)]) (fun z => z.2.1) (fun z i rest => MkK z.2.2 v7 x.kind 0 x.forms ((x.kids.take i).map fun y => y.mv h k') z.1 z.2.1 ∧ Sub w3 z.2.2) ?_ ?_ (.sl 0 true [], w3, w3) ⟨start, Sub.refl _⟩
        · rintro i y rest ⟨p, s, w⟩ hi hy ⟨hg0, hws⟩ kk
          simp only at hg0 hws
          have hm := List.mem_of_getElem? hy
          have hys := sizeSum_le hm
          refine qb_of (x := .bool true) (by simp [hi]) ?_
          rw [cb_bool, br_true]
          refine qb_of (ia_pfs .i64 hy) ?_
          refine qb_of (lpf _ _) ?_
          intro b9 hb9
          have hb9 : s b9 = none := hb9
          have hg1 := hg0.beside (.cells (pf y).cells) hb9
          refine e_store_ptr (upd_same _ _ _) (pf_cellOK y) (pf_ncells y) (pf_isJunk y) (by simp) ?_
          rw [upd_upd, show setRange [.int .i64 0, .int .i64 0, .sl 0 true [], .sl 0 true []] 0 (pf y).cells = (pf y).cells by rw [pf_cells]; rfl]
          have hat := hg1.at
          refine qb_of (x := .ptr v7 3) rfl ?_
          have hlo : q_load (upd s b9 (.cells (pf y).cells)) false 1 (.ptr v7 3) = some p := by
            obtain ⟨o1, o2, o3, o4⟩ := hg1.one
            rw [q_load_ptr hat]
            show takeV false 1 [p] = _
            unfold takeV
            cases p <;> first | rfl | (simp [PV.cellOK] at o4)
          refine qb_of hlo ?_
          refine qb_of (load_pf (upd_same _ _ _)) ?_
          refine callK_just (ih y hm (Pf.le_kids hx y hm) k' (by omega) _) ?_
          refine ⟨hlo, ?_⟩
          refine qb_of (x := .sl 4 true [pf (y.mv h k')]) (by simp) ?_
          refine hg1.more (by simp; omega) fun p' s' hg' => ?_
          refine qb_of (qinc (by omega)) ?_
          refine kk (p', s', upd w b9 (.cells (pf y).cells)) ⟨?_, hws.put (hws.isNone ?_)⟩
          · rw [List.take_add_one, hy, List.map_append]
            exact hg'
          · have ne : b9 ≠ v7 := fun e => by
              have := hg0.at
              rw [← e, hb9] at this; cases this
            have := Grow.sub hg0
            have hn := this.isNone hb9
            rwa [upd_ne _ _ ne] at hn
        · rintro ⟨p, s, w⟩ ⟨hg, hws⟩
          simp only [List.take_length] at hg
          simp only at hws
          have hat := hg.at
          obtain ⟨q1, q2, q3, q4⟩ := hg.one
          refine qb_of (x := .bool false) (by simp) ?_
          rw [cb_bool, br_false]
          refine qb_of (x := .agg [.int .i64 x.kind, .int .i64 0, .sl 3 false (x.forms.map fm), p]) (by show q_load s true 4 (.ptr v7 0) = _; rw [q_load_ptr hat]; rfl) ?_
          have e6w : w v6 = some (.cells [.int .i64 0, .int .i64 0, .sl 0 true [], .sl 0 true []]) := hws _ _ e6
          have e6' := hg.other ne67 e6w
          refine e_store_ptr e6' (by show (true && (true && (true && (p.cellOK && true)))) = true; rw [q4]; rfl) rfl rfl (by simp) ?_
          have hs : MkK (upd w v6 (.cells [.int .i64 x.kind, .int .i64 0, .sl 3 false (x.forms.map fm), p])) v7 x.kind 0 x.forms (x.kids.map fun y => y.mv h k') p (upd s v6 (.cells [.int .i64 x.kind, .int .i64 0, .sl 3 false (x.forms.map fm), p])) := by
            have := Grow.store hg (.cells [.int .i64 x.kind, .int .i64 0, .sl 3 false (x.forms.map fm), p]) (c := v6) (by rw [upd_ne _ _ ne67]; exact e6w)
            rw [upd_comm _ _ _ (Ne.symm ne67)] at this
            exact this
          refine qb_of (x := .agg [.int .i64 x.kind, .int .i64 0, .sl 3 false (x.forms.map fm), p]) (by rw [q_load_ptr (upd_same _ _ _)]; rfl) ?_
          have hfin := hs.freeze (x := x.mv h k) m1 m2 m3 (by rw [m4, hk'])
          refine Just.conv (Conv.trans hfin (Conv.sub fun c o hc => ?_))
          have n6 : c ≠ v6 := fun e => by rw [e, o6] at hc; cases hc
          have n7 : c ≠ v7 := fun e => by rw [e, o7] at hc; cases hc
          rw [upd_ne _ _ n7, upd_ne _ _ n6]
          exact hws _ _ (h3.sub c o hc)
      refine cbr_dec (fun h5 => ?_) (fun h5 => ?_)
      · refine qb_of (x := .int .i64 ((k + 1 : Nat) : Int)) (by simp; rw [wrap64 (by omega) (by omega)]) ?_
        exact kids (k + 1) (by rw [if_pos h5])
      · exact kids k (by rw [if_neg h5])
    refine qb_of (pfa0 _) ?_
    refine qb_of (pl0 _ _) ?_
    refine qb_of (pfa2 _) ?_
    refine qb_of (pl2 _ _) ?_
    refine ⟨?_, ?_⟩
    · refine callK_just (h_impl_cloneForms x.forms (by omega) _) ?_
      refine ⟨pl0 _ _, ?_⟩
      refine qb_of (x := .agg [.int .i64 x.kind, .int .i64 0, .sl 3 false (x.forms.map fm), .sl 0 true []]) rfl ?_
      refine h1.alloc fun v7 w2 h2 => ?_
      refine ⟨pl2 _ _, pl0 _ _, ?_⟩
      refine h2.store2 (box4 _ _ _ _ rfl) rfl fun w3 h3 => ?_
      exact fin v7 w3 h3
    · refine h1.alloc fun v7 w2 h2 => ?_
      refine ⟨pl2 _ _, pl0 _ _, ?_⟩
      refine callK_just (h_impl_cloneForms x.forms (by omega) _) ?_
      refine ⟨pl0 _ _, ?_⟩
      refine qb_of (x := .agg [.int .i64 x.kind, .int .i64 0, .sl 3 false (x.forms.map fm), .sl 0 true []]) rfl ?_
      refine h2.store2 (box4 _ _ _ _ rfl) rfl fun w3 h3 => ?_
      exact fin v7 w3 h3
end Go.H.Tryz
/- Contracts: the program's Proves and CutProof. -/
set_option linter.unusedVariables false
set_option linter.unusedSimpArgs false
namespace Go.H.Tryz
open Go Go.H

theorem longForms (n : Nat) (h : n ≤ 4096) (st : St) : HCalls prog n_impl_longLists [.sl 1 true [.int .i64 n]] st (Just (.bool false) st) := by
  have := h_impl_longLists (n : Int) [] (by simp) st
  rw [show ((((n : Int) :: []).any fun y => decide (y > 4096))) = false by simp; omega] at this
  exact this
/-- What is caught of a call that ends well, and sets nothing. -/
theorem callK_caught_same {g : FuncId} {caps : List PV} {st : St} {K Kp : PV → St → Prop} (hc : ∀ s, HCalls prog g caps s (Just (.tup []) s))
    (hk : K (.agg [.int .i64 0, .int .i64 0]) st) : callK prog n_impl_caught [.fn (.func g) [] caps] st K Kp := by
  refine callK_of (h_impl_caught g caps st (fun c p s => c = 0 ∧ p = 0 ∧ s = st) (fun b hb => (hc _).mono fun r s h => ?_)) (fun p s h => ?_) (fun p s h => ?_)
  · obtain ⟨rfl, rfl⟩ := h
    exact ⟨st, hb, rfl, .inl ⟨rfl, rfl, rfl, rfl⟩⟩
  · obtain ⟨c, p', h, rfl, rfl, rfl⟩ := h
    cases h
    exact hk
  · obtain ⟨c, p', h, _⟩ := h
    cases h
/-- What a law says of a proof before it lets it prove something. -/
structure PrOK (G : List Fm) (p : Pf) (f : Fm) : Prop where
  prv : Prv G p f
  ctx : ∀ h ∈ G, h.ok = true ∧ h.size ≤ 150
  few : G.length ≤ 12
  fok : p.fok = true
  pok : pfOK p = true
theorem h_impl_Proves (G : List Fm) (p : Pf) (f : Fm) (h : PrOK G p f) (st : St) : HCalls prog n_impl_Proves [fms G.reverse, pf p] st (Just (.tup [fm f, .int .i64 0, .int .i64 0]) st) := by
  obtain ⟨hp, hG, hGl, hpf, hpo⟩ := h
  obtain ⟨pc, ps, ph⟩ := pfOK_facts hpo
  apply c_impl_Proves
  unfold b_impl_Proves
  refine e_box_ref (by rfl) ?_
  refine e_box_ref (pf_isJunk _) ?_
  refine (Held.start st).alloc fun v4 w1 h1 => ?_
  have hl0 : ∀ s : St, q_load s false 1 (.ref (fms G.reverse).cells) = some (fms G.reverse) := fun s => rfl
  refine qb_of (hl0 _) ?_
  refine qb_of (x := .int .i64 (G.length : Int)) (by simp [fms]) ?_
  refine qb_of (x := .sl 1 true [.int .i64 (G.length : Int)]) rfl ?_
  refine callK_just (longForms G.length (by omega) _) ?_
  rw [cb_bool, br_false]
  refine hJ_of fun J hJ => ?_
  refine qb_of (hl0 _) ?_
  refine callK_just (h_impl_hypsOK G.reverse (fun x hx => hG x (by simpa using hx)) (by simpa using hGl) _) ?_
  refine qb_of (x := .bool false) rfl ?_
  rw [cb_bool, br_false]
  refine qb_of (lpf _ _) ?_
  refine callK_just (h_impl_ProofOK p hpf _) ?_
  rw [hpo]
  refine qb_of (x := .bool false) rfl ?_
  refine hJ _ _ ?_
  show cb (.bool false) _
  rw [cb_bool, br_false]
  refine qb_of (x := .agg [.int .i64 0, .int .i64 0, .sl 0 true []]) rfl ?_
  refine h1.alloc fun v7 w2 h2 => ?_
  refine h2.store2 (box3 _ _ _ rfl) rfl fun w3 h3 => ?_
  have h4 := h3.again (y := fm f)
  refine callK_caught_set (v := v7) (o := .cells (fm f).cells) (by have := h3.got _ (List.mem_cons_self ..); rw [this]; simp) (fun b hb => ?_) ?_
  · apply c_impl_Proves_1
    unfold b_impl_Proves_1
    refine qb_of (hl0 _) ?_
    refine qb_of (lpf _ _) ?_
    refine callK_just (h_impl_proves p G f hp (by omega) 0 (by omega) (by omega) _) ?_
    have e7 := h3.got _ (List.mem_cons_self ..)
    have ne : v7 ≠ b := fun e => by simp only at e7; rw [e, hb] at e7; cases e7
    refine e_store_ptr (vs := (PV.agg [.int .i64 0, .int .i64 0, .sl 0 true []]).cells) (by rw [upd_ne _ _ ne]; exact e7) (fm_cellOK f) (fm_ncells f) (fm_isJunk f) (by simp [PV.cells]) ?_
    rw [show setRange (PV.agg [.int .i64 0, .int .i64 0, .sl 0 true []]).cells 0 (fm f).cells = (fm f).cells from fm_set f _ _ _]
    exact retR_same ⟨rfl, rfl⟩
  refine h4.alloc fun v8 w5 h5 => ?_
  refine h5.store2 (n := 2) ⟨_, rfl, rfl, rfl⟩ rfl fun w6 h6 => ?_
  have e8 := h6.got _ (List.mem_cons_self ..)
  refine qb_of (x := .ptr v8 0) rfl ?_
  refine qb_of (x := .int .i64 0) (by rw [q_load_ptr e8]; rfl) ?_
  refine qb_of (x := .bool false) rfl ?_
  rw [cb_bool, br_false]
  refine qb_of (h6.ldf (f := f) (by simp)) ?_
  refine callK_just (h_impl_cloneForm f _) ?_
  refine h6.store (Box.fm f) rfl fun w7 h7 => ?_
  refine qb_of (h7.top (Box.fm f)) ?_
  exact Just.ret h7.sub
/-- A hypothesis, as a literal writes it. -/
theorem conv_hyp (s : St) (n : Nat) : Conv [.agg [.int .i64 1, .int .i64 (n : Int), .sl 0 true [], .sl 0 true []]] s [pf (.hyp n)] s := conv_pf s 1 (n : Int) 0 0 true true [] [] (.hyp n) ⟨rfl, rfl, rfl, rfl⟩ (.inr rfl) (.inr rfl)
theorem h_impl_Proof_lifted_1 (n k b : Nat) (hn : n ≤ 1000000) (hb : b ≤ 1000000) (st : St) : HCalls prog n_impl_Proof_lifted_1 [.int .i64 n, .int .i64 k, .ref [.int .i64 b]] st (Just (pf (.hyp (if k ≤ n then n + b else n))) st) := by
  apply c_impl_Proof_lifted_1
  unfold b_impl_Proof_lifted_1
  refine (Held.start st).alloc fun v5 w1 h1 => ?_
  refine qb_of (x := .bool (decide (k ≤ n))) (by simp) ?_
  refine hJ_of fun J hJ => ?_
  have fin : ∀ c : Nat, c = (if k ≤ n then n + b else n) → J [.int .i64 (c : Int)] w1 := fun c hc => by
    subst hc
    refine hJ _ _ ?_
    refine qb_of (x := .agg [.int .i64 1, .int .i64 ((if k ≤ n then n + b else n : Nat) : Int), .sl 0 true [], .sl 0 true []]) rfl ?_
    refine h1.store (box4 _ _ _ _ rfl) rfl fun w2 h2 => ?_
    refine qb_of (h2.top (box4 _ _ _ _ rfl)) ?_
    exact Just.conv (Conv.trans (conv_hyp w2 _) (Conv.sub h2.sub))
  refine cbr_dec (fun h => ?_) (fun h => ?_)
  · refine qb_of (x := .int .i64 (b : Int)) rfl ?_
    refine qb_of (x := .int .i64 ((n + b : Nat) : Int)) (by simp; rw [wrap64 (by omega) (by omega)]) ?_
    exact fin _ (by rw [if_pos h])
  · exact fin _ (by rw [if_neg h])
theorem h_impl_Proof_lifted (x : Pf) (hx : Pf.le 1000000 x) (hs : x.size ≤ 10000) (b : Nat) (hb : b ≤ 1000000) (st : St) : HCalls prog n_impl_Proof_lifted [pf x, .int .i64 b] st (Just (pf (x.lift 0 b)) st) := by
  apply c_impl_Proof_lifted
  unfold b_impl_Proof_lifted
  refine e_box_ref (pf_isJunk _) ?_
  refine e_box_ref (by rfl) ?_
  refine (Held.start st).alloc fun v4 w1 h1 => ?_
  refine qb_of (lpf _ _) ?_
  have := h_impl_Proof_moved n_impl_Proof_lifted_1 [.ref [.int .i64 b]] (fun n k => .hyp (if k ≤ n then n + b else n)) 1000000 (fun n k s hn _ => by simpa using h_impl_Proof_lifted_1 n k b hn hb s) x hx 0 (by omega) w1
  rw [mv_lift] at this
  refine callK_just this ?_
  refine h1.store (Box.pf _) rfl fun w2 h2 => ?_
  refine qb_of (h2.top (Box.pf _)) ?_
  exact Just.ret h2.sub
theorem h_impl_CutProof_2 (m : Pf) (hm : Pf.le 1000000 m) (hs : m.size ≤ 10000) (n k : Nat) (hn : n ≤ 1000000) (hk : k ≤ 100000) (st : St) :
    HCalls prog n_impl_CutProof_2 [.int .i64 n, .int .i64 k, .ref (pf m).cells] st (Just (pf (if n = k then m.lift 0 k else if k < n then .hyp (n - 1) else .hyp n)) st) := by
  apply c_impl_CutProof_2
  unfold b_impl_CutProof_2
  refine (Held.start st).alloc fun v5 w1 h1 => ?_
  refine hJ_of fun J hJ => ?_
  have fin : ∀ c : Nat, n ≠ k → c = (if k < n then n - 1 else n) → J [.int .i64 (c : Int)] w1 := fun c hne hc => by
    refine hJ _ _ ?_
    refine qb_of (x := .agg [.int .i64 1, .int .i64 (c : Int), .sl 0 true [], .sl 0 true []]) rfl ?_
    refine h1.store (box4 _ _ _ _ rfl) rfl fun w2 h2 => ?_
    refine qb_of (h2.top (box4 _ _ _ _ rfl)) ?_
    have e : (if n = k then m.lift 0 k else if k < n then .hyp (n - 1) else .hyp n) = Pf.hyp c := by
      rw [if_neg hne, hc]
      split <;> rfl
    rw [e]
    exact Just.conv (Conv.trans (conv_hyp w2 _) (Conv.sub h2.sub))
  refine qb_of (x := .bool (decide (n = k))) (by simp; omega) ?_
  refine cbr_dec (fun h => ?_) (fun h => ?_)
  · refine qb_of (lpf _ _) ?_
    refine callK_just (h_impl_Proof_lifted m hm hs k (by omega) _) ?_
    refine h1.store (Box.pf _) rfl fun w2 h2 => ?_
    refine qb_of (h2.top (Box.pf _)) ?_
    rw [if_pos h]
    exact Just.ret h2.sub
  · refine qb_of (x := .bool (decide (k < n))) (by simp) ?_
    refine cbr_dec (fun h' => ?_) (fun h' => ?_)
    · refine qb_of (x := .int .i64 ((n - 1 : Nat) : Int)) (by simp; rw [wrap64 (by omega) (by omega)]; omega) ?_
      exact fin _ h (by rw [if_pos h'])
    · exact fin _ h (by rw [if_neg h'])
theorem h_impl_CutProof (G : List Fm) (p q : Pf) (f g : Fm) (h1 : PrOK G p f) (h2 : PrOK (f :: G) q g) (st : St) : HCalls prog n_impl_CutProof [fms G.reverse, pf p, pf q] st (Just (cutR (p.cut q 0)) st) := by
  obtain ⟨hp, hG, hGl, hpf, hpo⟩ := h1
  obtain ⟨hq, hG2, hGl2, hqf, hqo⟩ := h2
  obtain ⟨pc, ps, ph⟩ := pfOK_facts hpo
  obtain ⟨qc, qs, qh⟩ := pfOK_facts hqo
  apply c_impl_CutProof
  unfold b_impl_CutProof
  refine e_box_ref (by rfl) ?_
  refine e_box_ref (pf_isJunk _) ?_
  refine e_box_ref (pf_isJunk _) ?_
  refine (Held.start st).alloc fun v6 w1 h1 => ?_
  have hl0 : ∀ s : St, q_load s false 1 (.ref (fms G.reverse).cells) = some (fms G.reverse) := fun s => rfl
  refine qb_of (hl0 _) ?_
  refine qb_of (x := .int .i64 (G.length : Int)) (by simp [fms]) ?_
  refine qb_of (x := .sl 1 true [.int .i64 (G.length : Int)]) rfl ?_
  refine callK_just (longForms G.length (by omega) _) ?_
  rw [cb_bool, br_false]
  refine hJ_of fun J hJ => ?_
  refine qb_of (hl0 _) ?_
  refine callK_just (h_impl_hypsOK G.reverse (fun x hx => hG x (by simpa using hx)) (by simpa using hGl) _) ?_
  refine qb_of (x := .bool false) rfl ?_
  rw [cb_bool, br_false]
  refine qb_of (lpf _ _) ?_
  refine callK_just (h_impl_ProofOK p hpf _) ?_
  rw [hpo]
  refine qb_of (x := .bool false) rfl ?_
  rw [cb_bool, br_false]
  refine qb_of (lpf _ _) ?_
  refine callK_just (h_impl_ProofOK q hqf _) ?_
  rw [hqo]
  refine qb_of (x := .bool false) rfl ?_
  refine hJ _ _ ?_
  show cb (.bool false) _
  rw [cb_bool, br_false]
  refine callK_caught_same (fun s => ?_) ?_
  · apply c_impl_CutProof_1
    unfold b_impl_CutProof_1
    refine qb_of (hl0 _) ?_
    refine qb_of (hl0 _) ?_
    refine qb_of (lpf _ _) ?_
    refine qb_of (lpf _ _) ?_
    refine callK_just (h_slices_Clip_forms G.reverse false _) ?_
    refine ⟨lpf _ _, lpf _ _, hl0 _, ?_⟩
    refine callK_just (h_impl_proves p G f hp (by omega) 0 (by omega) (by omega) _) ?_
    refine ⟨lpf _ _, ?_⟩
    refine qb_of (lit_f1 f) ?_
    refine append_full (elems_sl _ _ _ _) (by simp) (by simp; omega) fun p2 s2 hg2 => ?_
    refine ⟨lpf _ _, ?_⟩
    refine callK_conv (us' := [fms (f :: G).reverse, pf q, .int .i64 0]) (st' := s) (Conv.cons (by simpa [fms] using hg2.freeze) (Conv.sub hg2.sub)) ?_
    refine callK_just (h_impl_proves q (f :: G) g hq (by simp; omega) 0 (by omega) (by omega) _) ?_
    exact retR_same ⟨rfl, rfl⟩
  refine h1.alloc fun v8 w2 h2 => ?_
  refine h2.store2 (n := 2) ⟨_, rfl, rfl, rfl⟩ rfl fun w3 h3 => ?_
  have e8 := h3.got _ (List.mem_cons_self ..)
  refine qb_of (x := .ptr v8 0) rfl ?_
  refine qb_of (x := .int .i64 0) (by rw [q_load_ptr e8]; rfl) ?_
  refine qb_of (x := .bool false) rfl ?_
  rw [cb_bool, br_false]
  refine qb_of (lpf _ _) ?_
  have hmv := h_impl_Proof_moved n_impl_CutProof_2 [.ref (pf p).cells] (fun n k => if n = k then p.lift 0 k else if k < n then .hyp (n - 1) else .hyp n) 1000000 (fun n k s hn hk => by simpa using h_impl_CutProof_2 p (Pf.le_mono (by omega) (Pf.le_hok ph)) (by omega) n k hn hk s) q (Pf.le_mono (by omega) (Pf.le_hok qh)) 0 (by omega) w3
  rw [mv_cut] at hmv
  refine callK_just hmv ?_
  refine h3.alloc fun v9 w4 h4 => ?_
  refine h4.store2 (Box.pf _) rfl fun w5 h5 => ?_
  refine qb_of (h5.top (Box.pf _)) ?_
  refine callK_just (h_impl_ProofOK _ (cut_fok hpf q 0 hqf) _) ?_
  refine qb_of (x := .bool (!pfOK (p.cut q 0))) rfl ?_
  rw [cb_bool]
  unfold cutR
  refine br_of (fun h => ?_) (fun h => ?_)
  · have h' : pfOK (p.cut q 0) = false := by simpa using h
    refine qb_of (x := zeroP) rfl ?_
    refine h5.store zeroP_box rfl fun w6 h6 => ?_
    refine qb_of (h6.top zeroP_box) ?_
    rw [if_neg (by rw [h']; decide)]
    exact Just.ret h6.sub
  · have h' : pfOK (p.cut q 0) = true := by simpa using h
    refine qb_of (h5.top (Box.pf _)) ?_
    refine h5.store (Box.pf _) rfl fun w6 h6 => ?_
    refine qb_of (h6.top (Box.pf _)) ?_
    rw [if_pos h']
    exact Just.ret h6.sub
end Go.H.Tryz
/- Contracts: the program's terms of proofs. -/
set_option linter.unusedVariables false
set_option linter.unusedSimpArgs false
namespace Go.H.Tryz
open Go Go.H

theorem h_impl_constant_raw (w : List UInt8) (st : St) : HCalls prog n_impl_constant [.str w, .sl 0 true []] st (Just (.agg [.int .i64 6, .int .i64 0, .str w, .sl 0 true []]) st) := by
  apply c_impl_constant
  unfold b_impl_constant
  refine (Held.start st).alloc fun v4 w1 h1 => ?_
  refine qb_of (x := .agg [.int .i64 6, .int .i64 0, .str w, .sl 0 true []]) rfl ?_
  refine h1.store (box4 _ _ _ _ rfl) rfl fun w2 h2 => ?_
  refine qb_of (h2.top (box4 _ _ _ _ rfl)) ?_
  exact Just.ret h2.sub
/-- A constant being made: its row of arguments grows. -/
def MkT (w : St) (v : Nat) (nm : List UInt8) (ks : List Tr) (p : PV) (s : St) : Prop := Grow (upd w v (.cells [.int .i64 6, .int .i64 0, .str nm, p])) 4 (ks.map tree) p s
theorem MkT.at {w s : St} {v : Nat} {nm : List UInt8} {ks : List Tr} {p : PV} (h : MkT w v nm ks p s) : s v = some (.cells [.int .i64 6, .int .i64 0, .str nm, p]) := h.sub _ _ (upd_same _ _ _)
theorem MkT.row {w s : St} {v : Nat} {nm : List UInt8} {ks : List Tr} {p : PV} (h : MkT w v nm ks p s) : q_load s false 1 (.ptr v 3) = some p := by
  obtain ⟨o1, o2, o3, o4⟩ := h.one
  rw [q_load_ptr h.at]
  show takeV false 1 [p] = _
  unfold takeV
  cases p <;> first | rfl | (simp [PV.cellOK] at o4)
theorem MkT.more {w s : St} {v : Nat} {nm : List UInt8} {ks : List Tr} {p : PV} {x : Tr} {K : St → Prop} (h : MkT w v nm ks p s) (hl : ks.length ≤ 1000) (hk : ∀ p' s', MkT w v nm (ks ++ [x]) p' s' → K s') :
    e_append s 4 56 p (.sl 4 true [tree x]) fun r st => qb (q_fa 3 (.ptr v 0)) fun a => e_store st 1 a r K := by
  refine Grow.append h (elems_sl _ _ _ _) (by simp; omega) fun p' s' hg => ?_
  have hv : s' v = some (.cells [.int .i64 6, .int .i64 0, .str nm, p]) := hg.sub _ _ (upd_same _ _ _)
  obtain ⟨o1, o2, o3, o4⟩ := hg.one
  refine qb_of (x := .ptr v 3) rfl ?_
  refine e_store_ptr hv (by rw [o1]; simp [o4]) o2 o3 (by simp) ?_
  refine hk p' _ ?_
  have hs := hg.store (.cells [.int .i64 6, .int .i64 0, .str nm, p']) (upd_same _ _ _)
  rw [upd_upd] at hs
  have e : setRange [.int .i64 6, .int .i64 0, .str nm, p] 3 p'.cells = [.int .i64 6, .int .i64 0, .str nm, p'] := by rw [o1]; rfl
  rw [e]
  unfold MkT
  simpa using hs
theorem MkT.other {w s : St} {v c : Nat} {nm : List UInt8} {ks : List Tr} {p : PV} {o : HObj} (h : MkT w v nm ks p s) (hc : c ≠ v) (ho : w c = some o) : s c = some o := Grow.sub h _ _ (by rw [upd_ne _ _ hc]; exact ho)
theorem MkT.ne {w s : St} {v b : Nat} {nm : List UInt8} {ks : List Tr} {p : PV} (h : MkT w v nm ks p s) (hb : s b = none) : b ≠ v := fun e => by
  have := h.at
  rw [← e, hb] at this; cases this
theorem MkT.none {w s : St} {v b : Nat} {nm : List UInt8} {ks : List Tr} {p : PV} (h : MkT w v nm ks p s) (hb : s b = Option.none) : w b = Option.none := by
  have hn := (Grow.sub h).isNone hb
  rwa [upd_ne _ _ (h.ne hb)] at hn
theorem MkT.beside {w s : St} {v b : Nat} {nm : List UInt8} {ks : List Tr} {p : PV} (h : MkT w v nm ks p s) (o : HObj) (hb : s b = Option.none) : MkT (upd w b o) v nm ks p (upd s b o) := by
  have := Grow.beside h o hb
  rw [upd_comm _ _ _ (Ne.symm (h.ne hb))] at this
  exact this
/-- Another block is written. -/
theorem MkT.store {w s : St} {v c : Nat} {nm : List UInt8} {ks : List Tr} {p : PV} (h : MkT w v nm ks p s) (o : HObj) {o0 : HObj} (hc : c ≠ v) (hw : w c = some o0) : MkT (upd w c o) v nm ks p (upd s c o) := by
  have := Grow.store h o (c := c) (by rw [upd_ne _ _ hc]; exact hw)
  rw [upd_comm _ _ _ (Ne.symm hc)] at this
  exact this
theorem MkT.freeze {w s : St} {v : Nat} {nm : List UInt8} {ks : List Tr} {p : PV} (h : MkT w v nm ks p s) :
    Conv [.agg [.int .i64 6, .int .i64 0, .str nm, p]] s [tree (.const nm ks)] (upd w v (.cells [.int .i64 6, .int .i64 0, .str nm, p])) := by
  rw [tree_eq]
  obtain ⟨o1, o2, o3, o4⟩ := h.one
  exact Conv.agg (Conv.cons (Conv.sub (Grow.sub h)) (Conv.cons (Conv.sub (Grow.sub h)) (Conv.cons (Conv.sub (Grow.sub h)) (Grow.freeze h)))) rfl (by show (true && (true && (true && (p.cellOK && true)))) = true; rw [o4]; rfl)
/-- The name of a proof's rule; the terms of its kids, as its term holds them. -/
def ruleW : Pf → List UInt8
  | .hyp _ => [] | .andI .. => wAndI | .fst .. => wFst | .snd .. => wSnd | .funI .. => wFunI | .use .. => wUse | .botE .. => wBotE
def kidT (x y : Pf) : Tr := if x.kind = 5 then .lam (pfT y) else pfT y
theorem pfT_node {x : Pf} (hk : x.kind ≠ 1) : pfT x = .const (ruleW x) (x.forms.map fmT ++ x.kids.map (kidT x)) := by
  cases x <;> first | exact absurd rfl hk | rfl
theorem h_impl_proofTerm (x : Pf) (hf : x.fok = true) (st : St) : HCalls prog n_impl_proofTerm [pf x] st (Just (tree (pfT x)) st) := by
  induction x using Pf.ind generalizing st with
  | _ x ih =>
  have hl := pf_lens x
  obtain ⟨hff, hfk⟩ := fok_forms hf
  apply c_impl_proofTerm
  unfold b_impl_proofTerm
  refine e_box_ref (pf_isJunk _) ?_
  refine (Held.start st).alloc fun v2 w1 h1 => ?_
  refine qb_of (pfa0 _) ?_
  refine qb_of (pl0 _ _) ?_
  refine qb_of (x := .bool (decide (x.kind = 1))) (by simp) ?_
  refine cbr_dec (fun hk => ?_) (fun hk => ?_)
  · obtain ⟨n, rfl⟩ := pf_hyp hk
    refine qb_of (pfa1 _) ?_
    refine qb_of (x := .int .i64 (n : Int)) (pl1 _ _) ?_
    refine callK_just (h_impl_variable0 (n : Int) _) ?_
    refine h1.store (Box.tree _) rfl fun w2 h2 => ?_
    refine qb_of (h2.top (Box.tree _)) ?_
    exact Just.ret h2.sub
  · refine qb_of (pfa0 _) ?_
    refine qb_of (pl0 _ _) ?_
    refine callK_just (h_impl_ruleOf x hk _) ?_
    refine qb_of (x := ruleP x) rfl ?_
    refine qb_of (x := .bool true) rfl ?_
    refine h1.alloc fun v3 w2 h2 => ?_
    refine h2.store2 (ruleP_box x) rfl fun w3 h3 => ?_
    have e3 := h3.got _ (List.mem_cons_self ..)
    refine qb_of (x := .ptr v3 2) rfl ?_
    refine qb_of (x := .str (ruleW x)) (by rw [q_load_ptr e3]; cases x <;> first | exact absurd rfl hk | rfl) ?_
    refine callK_just (h_impl_constant_raw (ruleW x) _) ?_
    refine h3.alloc fun v5 w4 h4 => ?_
    refine h4.store2 (box4 _ _ _ _ rfl) rfl fun w5 h5 => ?_
    have e5 := h5.got _ (List.mem_cons_self ..)
    have e2 := h5.zat (v2, [.int .i64 0, .int .i64 0, .str [], .sl 0 true []]) (by simp)
    have ne25 : v2 ≠ v5 := fun e => by
      have := h5.nd
      simp [e] at this
    have o2 := h5.out v2 (by simp)
    have o5 := h5.out v5 (by simp)
    have e : upd w5 v5 (.cells [.int .i64 6, .int .i64 0, .str (ruleW x), .sl 0 true []]) = w5 := by
      funext c
      unfold upd
      split
      · rename_i h; rw [h]; exact e5.symm
      · rfl
    have start : MkT w5 v5 (ruleW x) [] (.sl 0 true []) w5 := by
      have : MkT w5 v5 (ruleW x) [] (.sl 0 true []) (upd w5 v5 (.cells [.int .i64 6, .int .i64 0, .str (ruleW x), .sl 0 true []])) := Grow.nil _ _ _
      rw [e] at this
      exact this
    refine qb_of (pfa2 _) ?_
    refine qb_of (pl2 _ _) ?_
    refine qb_of (x := .int .i64 x.forms.length) (by simp) ?_
    refine loop_idx (β := PV × St × St) x.forms (fun _ i => [.int .i64 (i : Int)]) (fun z => z.2.1) (fun z i rest => MkT z.2.2 v5 (ruleW x) ((x.forms.take i).map fmT) z.1 z.2.1 ∧ Sub w5 z.2.2) ?_ ?_ (.sl 0 true [], w5, w5) ⟨start, Sub.refl _⟩
    · rintro i y rest ⟨p, s, w⟩ hi hy ⟨hg0, hws⟩ kk
      simp only at hg0 hws
      refine qb_of (x := .bool true) (by simp [hi]) ?_
      rw [cb_bool, br_true]
      refine qb_of (ia_fms .i64 hy) ?_
      refine qb_of (lfm _ _) ?_
      intro b7 hb7
      have hb7 : s b7 = none := hb7
      have hg1 := hg0.beside (.cells (fm y).cells) hb7
      refine e_store_ptr (upd_same _ _ _) (fm_cellOK y) (fm_ncells y) (fm_isJunk y) (by simp) ?_
      rw [upd_upd, fm_set]
      refine qb_of (x := .ptr v5 3) rfl ?_
      refine qb_of hg1.row ?_
      refine qb_of (load_fm (upd_same _ _ _)) ?_
      refine callK_just (h_impl_formTerm y (hff y (List.mem_of_getElem? hy)) _) ?_
      refine ⟨hg1.row, ?_⟩
      refine qb_of (x := .sl 4 true [tree (fmT y)]) (by simp) ?_
      refine hg1.more (by simp; omega) fun p' s' hg' => ?_
      refine qb_of (qinc (by omega)) ?_
      refine kk (p', s', upd w b7 (.cells (fm y).cells)) ⟨?_, hws.put (hws.isNone (hg0.none hb7))⟩
      rw [List.take_add_one, hy, List.map_append]
      exact hg'
    · rintro ⟨p, s, w⟩ ⟨hg0, hws⟩
      simp only [List.take_length] at hg0
      simp only at hws
      refine qb_of (x := .bool false) (by simp) ?_
      rw [cb_bool, br_false]
      refine qb_of (pfa3 _) ?_
      refine qb_of (pl3 _ _) ?_
      refine qb_of (x := .int .i64 x.kids.length) (by simp) ?_
      refine loop_idx (β := PV × St × St) x.kids (fun _ i => [.int .i64 (i : Int)]) (fun z => z.2.1) (fun z i rest => MkT z.2.2 v5 (ruleW x) (x.forms.map fmT ++ (x.kids.take i).map (kidT x)) z.1 z.2.1 ∧ Sub w5 z.2.2) ?_ ?_ (p, s, w) ⟨by simpa using hg0, hws⟩
      · rintro i y rest ⟨p, s, w⟩ hi hy ⟨hg0, hws⟩ kk
        simp only at hg0 hws
        refine qb_of (x := .bool true) (by simp [hi]) ?_
        rw [cb_bool, br_true]
        refine qb_of (ia_pfs .i64 hy) ?_
        refine qb_of (lpf _ _) ?_
        intro b9 hb9
        have hb9 : s b9 = none := hb9
        have hg1 := hg0.beside (.cells (pf y).cells) hb9
        refine e_store_ptr (upd_same _ _ _) (pf_cellOK y) (pf_ncells y) (pf_isJunk y) (by simp) ?_
        rw [upd_upd, show setRange [.int .i64 0, .int .i64 0, .sl 0 true [], .sl 0 true []] 0 (pf y).cells = (pf y).cells by rw [pf_cells]; rfl]
        refine qb_of (load_pf (upd_same _ _ _)) ?_
        refine callK_just (ih y (List.mem_of_getElem? hy) (hfk y (List.mem_of_getElem? hy)) _) ?_
        intro b10 hb10
        have hn10 := hg1.none hb10
        have hg2 := hg1.beside (.cells (tree (pfT y)).cells) hb10
        refine e_store_ptr (upd_same _ _ _) (tree_cellOK _) (tree_ncells _) (tree_isJunk _) (by simp) ?_
        rw [upd_upd, show setRange [.int .i64 0, .int .i64 0, .str [], .sl 0 true []] 0 (tree (pfT y)).cells = (tree (pfT y)).cells by rw [tree_cells]; rfl]
        refine qb_of (pfa0 _) ?_
        refine qb_of (pl0 _ _) ?_
        refine qb_of (x := .bool (decide (x.kind = 5))) (by simp) ?_
        refine hJ_of fun J hJ => ?_
        have hws1 : Sub w5 (upd w b9 (.cells (pf y).cells)) := hws.put (hws.isNone (hg0.none hb9))
        have ne10 := hg1.ne hb10
        have main : ∀ (s2 : St), MkT (upd (upd w b9 (.cells (pf y).cells)) b10 (.cells (tree (kidT x y)).cells)) v5 (ruleW x) (x.forms.map fmT ++ (x.kids.take i).map (kidT x)) p s2 → J [] s2 := fun s2 hg3 => by
          refine hJ _ _ ?_
          refine qb_of (x := .ptr v5 3) rfl ?_
          refine qb_of hg3.row ?_
          have h10 : s2 b10 = some (.cells (tree (kidT x y)).cells) := hg3.other ne10 (upd_same _ _ _)
          refine qb_of (x := tree (kidT x y)) (by rw [q_load_ptr h10]; simp) ?_
          refine qb_of (x := .sl 4 true [tree (kidT x y)]) (by simp) ?_
          refine hg3.more (by simp; omega) fun p' s' hg' => ?_
          refine qb_of (qinc (by omega)) ?_
          refine kk (p', s', upd (upd w b9 (.cells (pf y).cells)) b10 (.cells (tree (kidT x y)).cells)) ⟨?_, hws1.put (hws1.isNone hn10)⟩
          rw [List.take_add_one, hy, List.map_append, ← List.append_assoc]
          exact hg'
        refine cbr_dec (fun h5 => ?_) (fun h5 => ?_)
        · refine qb_of (x := tree (pfT y)) (by rw [q_load_ptr (upd_same _ _ _)]; simp) ?_
          refine callK_just (h_impl_lam (pfT y) _) ?_
          refine e_store_ptr (upd_same _ _ _) (tree_cellOK _) (tree_ncells _) (tree_isJunk _) (by simp) ?_
          rw [show setRange (tree (pfT y)).cells 0 (tree (Tr.lam (pfT y))).cells = (tree (Tr.lam (pfT y))).cells by rw [tree_cells, tree_cells]; rfl]
          have hkt : kidT x y = .lam (pfT y) := by unfold kidT; rw [if_pos h5]
          have hg3 := hg2.store (.cells (tree (Tr.lam (pfT y))).cells) ne10 (upd_same _ _ _)
          rw [upd_upd] at hg3
          rw [← hkt] at hg3 ⊢
          exact main _ hg3
        · have hkt : kidT x y = pfT y := by unfold kidT; rw [if_neg h5]
          rw [← hkt] at hg2 ⊢
          exact main _ hg2
      · rintro ⟨p, s, w⟩ ⟨hg, hws⟩
        simp only [List.take_length] at hg
        simp only at hws
        have hat := hg.at
        obtain ⟨q1, q2, q3, q4⟩ := hg.one
        refine qb_of (x := .bool false) (by simp) ?_
        rw [cb_bool, br_false]
        refine qb_of (x := .agg [.int .i64 6, .int .i64 0, .str (ruleW x), p]) (by show q_load s true 4 (.ptr v5 0) = _; rw [q_load_ptr hat]; rfl) ?_
        have e2w : w v2 = some (.cells [.int .i64 0, .int .i64 0, .str [], .sl 0 true []]) := hws _ _ e2
        have e2' := hg.other ne25 e2w
        refine e_store_ptr e2' (by show (true && (true && (true && (p.cellOK && true)))) = true; rw [q4]; rfl) rfl rfl (by simp) ?_
        have hs := hg.store (.cells [.int .i64 6, .int .i64 0, .str (ruleW x), p]) ne25 e2w
        refine qb_of (x := .agg [.int .i64 6, .int .i64 0, .str (ruleW x), p]) (by rw [q_load_ptr (upd_same _ _ _)]; rfl) ?_
        have hfin := hs.freeze
        rw [← pfT_node hk] at hfin
        refine Just.conv (Conv.trans hfin (Conv.sub fun c o hc => ?_))
        have n2 : c ≠ v2 := fun e => by rw [e, o2] at hc; cases hc
        have n5 : c ≠ v5 := fun e => by rw [e, o5] at hc; cases hc
        rw [upd_ne _ _ n5, upd_ne _ _ n2]
        exact hws _ _ (h5.sub c o hc)
theorem h_impl_EncodeProof (p : Pf) (hf : p.fok = true) (ho : pfOK p = true) (st : St) :
    HCalls prog n_impl_EncodeProof [pf p] st (Just (if 150 < (pfT p).size then .tup [tree noTree, .int .i64 11] else .tup [tree (pfT p), .int .i64 0]) st) := by
  obtain ⟨pc, ps, ph⟩ := pfOK_facts ho
  have hok := Pf.ok_of hf ph
  have hsz := pfT_size p
  have hb := pfT_big hok
  apply c_impl_EncodeProof
  unfold b_impl_EncodeProof
  refine e_box_ref (pf_isJunk _) ?_
  refine (Held.start st).alloc fun v2 w1 h1 => ?_
  refine qb_of (lpf _ _) ?_
  refine callK_just (h_impl_ProofOK p hf _) ?_
  rw [ho]
  have he := h_impl_encoded n_impl_EncodeProof_1 [.ref (pf p).cells] (pfT p) (by omega) w1 (fun s hsub => by
    apply c_impl_EncodeProof_1
    unfold b_impl_EncodeProof_1
    refine (Held.start s).alloc fun v1 w2 h2 => ?_
    refine qb_of (lpf _ _) ?_
    refine callK_just (h_impl_proofTerm p hf _) ?_
    refine h2.store (Box.tree _) rfl fun w3 h3 => ?_
    refine qb_of (h3.top (Box.tree _)) ?_
    exact Just.ret h3.sub)
  rw [hb] at he
  refine callK_just he ?_
  by_cases h : 150 < (pfT p).size
  · rw [if_pos h, if_pos (by rw [decide_eq_true h])]
    refine qb_of (x := tree noTree) rfl ?_
    refine qb_of (x := .int .i64 11) rfl ?_
    refine h1.store (Box.tree _) rfl fun w3 h3 => ?_
    refine qb_of (h3.top (Box.tree _)) ?_
    exact Just.ret h3.sub
  · rw [if_neg h, if_neg (by rw [decide_eq_false h]; decide)]
    refine qb_of (x := tree (pfT p)) rfl ?_
    refine qb_of (x := .int .i64 0) rfl ?_
    refine h1.store (Box.tree _) rfl fun w3 h3 => ?_
    refine qb_of (h3.top (Box.tree _)) ?_
    exact Just.ret h3.sub
end Go.H.Tryz
/- Contracts: the law FnCut. -/
set_option linter.unusedVariables false
set_option linter.unusedSimpArgs false
namespace Go.H.Tryz
open Go Go.H

/-- A block is made beside what is held. -/
theorem _root_.Go.H.Held.put_at {st w : St} {L : List (Nat × PV)} {P : List (Nat × List PV)} {z : List PV} {b : Nat} (h : Held st w L P) (hb : w b = none) : Held st (upd w b (.cells z)) L (P ++ [(b, z)]) := by
  obtain ⟨v, hv, h'⟩ := h.alloc (z := z) (K := fun p w' => ∃ v, p = .ptr v 0 ∧ Held st w' L (P ++ [(v, z)])) (fun v w' h' => ⟨v, rfl, h'⟩) b hb
  cases hv
  exact h'
theorem encoded_cases (p : Pf) : ∃ t c, (if 150 < (pfT p).size then PV.tup [tree noTree, .int .i64 11] else .tup [tree (pfT p), .int .i64 0]) = .tup [tree t, .int .i64 c] ∧ (c = 11 ∨ (c = 0 ∧ t = pfT p ∧ (pfT p).size ≤ 150)) := by
  by_cases h : 150 < (pfT p).size
  · exact ⟨_, _, by rw [if_pos h], .inl rfl⟩
  · exact ⟨_, _, by rw [if_neg h], .inr ⟨rfl, rfl, by omega⟩⟩
theorem h_laws_FnCut (x0 : List UInt8) (hb : x0.length ≤ 1048576) (st : St) : HCalls prog n_laws_FnCut [bytesP x0] st (Just (.bool true) st) := by
  apply c_laws_FnCut
  unfold b_laws_FnCut
  refine qb_of (x := .int .i64 (x0.length : Int)) (by simp [bytesP]) ?_
  refine qb_of (x := .bool false) (by simp; omega) ?_
  rw [cb_bool, br_false]
  refine callK_gives (h_spec_CutOf x0 (by omega) st) fun p0 hp0 => ?_
  obtain ⟨G, p, q, f, g, rfl, hp, hq, hpf, hqf, hfo, hGl, hG⟩ := hp0
  refine qb_of (x := fms G.reverse) rfl ?_
  refine qb_of (x := pf p) rfl ?_
  refine qb_of (x := pf q) rfl ?_
  refine (Held.start st).alloc fun v4 w1 h1 => ?_
  refine h1.alloc fun v5 w2 h2 => ?_
  refine h2.store (Box.pf p) rfl fun w3 h3 => ?_
  refine h3.store (Box.pf q) rfl fun w4 h4 => ?_
  refine qb_of (h4.ldp (p := p) (by simp)) ?_
  refine callK_just (h_spec_ProofOK p hpf _) ?_
  refine qb_of (x := .bool (!pfOK p)) rfl ?_
  rw [cb_bool]
  refine br_of (fun _ => Just.bool rfl h4.sub) (fun hpo => ?_)
  refine qb_of (h4.ldp (p := q) (by simp)) ?_
  refine callK_just (h_spec_ProofOK q hqf _) ?_
  refine qb_of (x := .bool (!pfOK q)) rfl ?_
  rw [cb_bool]
  refine br_of (fun _ => Just.bool rfl h4.sub) (fun hqo => ?_)
  have hpo : pfOK p = true := by simpa using hpo
  have hqo : pfOK q = true := by simpa using hqo
  obtain ⟨pc, ps, ph⟩ := pfOK_facts hpo
  obtain ⟨qc, qs, qh⟩ := pfOK_facts hqo
  have hG' : ∀ h ∈ G, h.ok = true ∧ h.size ≤ 150 := fun h hh => ⟨(hG h hh).1, by have := (hG h hh).2; omega⟩
  have hfs : f.size ≤ 150 := hp.size (fun h hh => (hG' h hh).2) pc
  have P1 : PrOK G p f := ⟨hp, hG', by omega, hpf, hpo⟩
  have P2 : PrOK (f :: G) q g := ⟨hq, by
    intro h hh
    rcases List.mem_cons.1 hh with rfl | hh
    · exact ⟨hfo, hfs⟩
    · exact hG' h hh, by simp; omega, hqf, hqo⟩
  refine qb_of (h4.ldp (p := p) (by simp)) ?_
  refine callK_just (h_impl_Proves G p f P1 _) ?_
  refine qb_of (x := fm f) rfl ?_
  refine qb_of (x := .int .i64 0) rfl ?_
  refine qb_of (x := .int .i64 0) rfl ?_
  refine h4.new (Box.fm f) rfl fun v6 w5 h5 => ?_
  refine hJ_of fun J hJ => ?_
  have main : ∀ (v9 : Nat) (w : St), Held st w [(v9, fm g), (v6, fm f), (v5, pf q), (v4, pf p)] [] → J [.ptr v9 0, .int .i64 0] w := fun v9 w h6 => by
    refine hJ _ _ ?_
    refine qb_of (h6.ldp (p := p) (by simp)) ?_
    refine qb_of (h6.ldp (p := q) (by simp)) ?_
    have hi := h_impl_CutProof G p q f g P1 P2
    have hs := h_spec_CutProof G p q f g hp hq (fun h hh => (hG h hh).1) (by
      unfold hypsOKT
      rw [Bool.and_eq_true, decide_eq_true_eq]
      refine ⟨by simp; omega, ?_⟩
      simp only [List.all_eq_true, List.mem_reverse]
      intro h hh
      have := hG h hh
      simp; omega) hpf hqf hpo hqo
    have hrf := cut_fok hpf q 0 hqf
    unfold cutR at hi hs
    cases hro : pfOK (p.cut q 0) with
    | false =>
      rw [hro] at hi hs
      simp only [Bool.false_eq_true, if_false] at hi hs
      refine callK_just (hi _) ?_
      refine qb_of (x := zeroP) rfl ?_
      refine qb_of (x := .int .i64 11) rfl ?_
      refine h6.new zeroP_box rfl fun v12 w6 h7 => ?_
      refine qb_of (h7.ldp (p := p) (by simp)) ?_
      refine qb_of (h7.ldp (p := q) (by simp)) ?_
      refine callK_just (hs _) ?_
      refine qb_of (x := zeroP) rfl ?_
      refine qb_of (x := .int .i64 11) rfl ?_
      refine h7.new zeroP_box rfl fun v14 w7 h8 => ?_
      refine qb_of (x := .bool false) rfl ?_
      rw [cb_bool, br_false]
      refine qb_of (h8.load zeroP_box (v := v12) (by simp)) ?_
      refine qb_of (h8.top zeroP_box) ?_
      refine callK_just (h_laws_sameProof_zero _) ?_
      refine qb_of (x := .bool false) rfl ?_
      rw [cb_bool, br_false]
      refine qb_of (x := .bool false) rfl ?_
      rw [cb_bool, br_false]
      refine qb_of (x := .bool false) rfl ?_
      rw [cb_bool, br_false]
      refine callK_just (h_laws_full 11 _) ?_
      refine cbr_t rfl ?_
      exact Just.bool rfl h8.sub
    | true =>
      rw [hro] at hi hs
      simp only [if_true] at hi hs
      generalize hr : p.cut q 0 = r at hi hs hro hrf
      refine callK_just (hi _) ?_
      refine qb_of (x := pf r) rfl ?_
      refine qb_of (x := .int .i64 0) rfl ?_
      refine h6.new (Box.pf r) rfl fun v12 w6 h7 => ?_
      refine qb_of (h7.ldp (p := p) (by simp)) ?_
      refine qb_of (h7.ldp (p := q) (by simp)) ?_
      refine callK_just (hs _) ?_
      refine qb_of (x := pf r) rfl ?_
      refine qb_of (x := .int .i64 0) rfl ?_
      refine h7.new (Box.pf r) rfl fun v14 w7 h8 => ?_
      refine qb_of (x := .bool false) rfl ?_
      rw [cb_bool, br_false]
      refine qb_of (h8.load (Box.pf r) (v := v12) (by simp)) ?_
      refine qb_of (h8.top (Box.pf r)) ?_
      refine callK_just (h_laws_sameProof r _) ?_
      refine qb_of (x := .bool false) rfl ?_
      rw [cb_bool, br_false]
      refine qb_of (x := .bool false) rfl ?_
      rw [cb_bool, br_false]
      refine qb_of (x := .bool false) rfl ?_
      rw [cb_bool, br_false]
      refine callK_just (h_laws_full 0 _) ?_
      refine cbr_f rfl ?_
      have hrp : Prv G r g := by
        have := hq.cut [] G rfl hp
        rw [← hr]; exact this
      have P3 : PrOK G r g := ⟨hrp, hG', by omega, hrf, hro⟩
      refine qb_of (h8.ldp (p := r) (v := v12) (by simp)) ?_
      refine callK_just (h_impl_Proves G r g P3 _) ?_
      refine qb_of (x := fm g) rfl ?_
      refine qb_of (x := .int .i64 0) rfl ?_
      refine qb_of (x := .int .i64 0) rfl ?_
      refine h8.new (Box.fm g) rfl fun v16 w8 h9 => ?_
      refine qb_of (x := .bool false) rfl ?_
      rw [cb_bool, br_false]
      refine qb_of (x := .bool false) rfl ?_
      rw [cb_bool, br_false]
      refine qb_of (h9.ldf (f := g) (v := v9) (by simp)) ?_
      refine qb_of (h9.top (Box.fm g)) ?_
      refine callK_just (h_laws_sameForm g g _) ?_
      refine qb_of (x := .bool false) (by simp) ?_
      rw [cb_bool, br_false]
      refine qb_of (h9.ldp (p := p) (v := v4) (by simp)) ?_
      have ep := h_impl_EncodeProof p hpf hpo w8
      obtain ⟨tp, cp, e1, hcp⟩ := encoded_cases p
      rw [e1] at ep
      refine callK_just ep ?_
      refine qb_of (x := tree tp) rfl ?_
      refine qb_of (x := .int .i64 cp) rfl ?_
      refine h9.news rfl fun v19 w9 h10 => ?_
      refine qb_of (h10.ldp (p := q) (v := v5) (by simp)) ?_
      have eq' := h_impl_EncodeProof q hqf hqo w9
      obtain ⟨tq, cq, e2, hcq⟩ := encoded_cases q
      rw [e2] at eq'
      refine callK_just eq' ?_
      refine qb_of (x := tree tq) rfl ?_
      refine qb_of (x := .int .i64 cq) rfl ?_
      refine h10.news rfl fun v21 w10 h11 => ?_
      refine qb_of (h11.ldp (p := r) (v := v12) (by simp)) ?_
      have er := h_impl_EncodeProof r hrf hro w10
      obtain ⟨tr, cr, e3, hcr⟩ := encoded_cases r
      rw [e3] at er
      refine callK_just er ?_
      refine qb_of (x := tree tr) rfl ?_
      refine qb_of (x := .int .i64 cr) rfl ?_
      refine h11.news rfl fun v23 w11 h12 => ?_
      refine callK_just (h_laws_full cp _) ?_
      rcases hcp with rfl | ⟨rfl, rfl, hps⟩
      · refine cbr_t rfl ?_
        exact Just.bool rfl h12.sub
      refine cbr_f rfl ?_
      refine callK_just (h_laws_full cq _) ?_
      rcases hcq with rfl | ⟨rfl, rfl, hqs⟩
      · refine cbr_t rfl ?_
        exact Just.bool rfl h12.sub
      refine cbr_f rfl ?_
      refine callK_just (h_laws_full cr _) ?_
      rcases hcr with rfl | ⟨rfl, rfl, hrs⟩
      · refine cbr_t rfl ?_
        exact Just.bool rfl h12.sub
      refine cbr_f rfl ?_
      refine qb_of (h12.ld (t := pfT p) (v := v19) (by simp)) ?_
      refine qb_of (x := .agg [.int .i64 9, .int .i64 0, .str wPf, .sl 0 true []]) rfl ?_
      refine qb_of (h12.ld (t := pfT q) (v := v21) (by simp)) ?_
      refine callK_conv (us' := [tree (pfT p), tree pfB, tree (pfT q)]) (st' := w11) (Conv.cons (Conv.refl _ _) (Conv.cons (conv_tree w11 9 0 wPf 0 true [] (.inr rfl)) (Conv.refl _ _))) ?_
      have hsub := h_impl_Subst (pfT p) pfB (pfT q) w11
      rcases substT_pf (Pf.ok_of hpf ph) (Pf.ok_of hqf qh) hps hqs with hsb | hsb
      · rw [hsb] at hsub
        rw [hr] at hsub
        refine callK_just hsub ?_
        refine qb_of (x := tree (pfT r)) rfl ?_
        refine qb_of (x := .int .i64 0) rfl ?_
        refine h12.news rfl fun v25 w12 h13 => ?_
        refine callK_just (h_laws_full 0 _) ?_
        refine cbr_f rfl ?_
        refine qb_of (x := .bool true) rfl ?_
        rw [cb_bool, br_true]
        refine qb_of (h13.ld (t := pfT r) (v := v25) (by simp)) ?_
        refine qb_of (h13.ld (t := pfT r) (v := v23) (by simp)) ?_
        refine callK_just (h_laws_same _ _ _) ?_
        exact Just.bool (by simp) h13.sub
      · rw [hsb] at hsub
        refine callK_just hsub ?_
        refine qb_of (x := tree noTree) rfl ?_
        refine qb_of (x := .int .i64 11) rfl ?_
        refine h12.news rfl fun v25 w12 h13 => ?_
        refine callK_just (h_laws_full 11 _) ?_
        refine cbr_t rfl ?_
        exact Just.bool rfl h13.sub
  have fin : ∀ (v9 : Nat) (w : St), Held st w [(v6, fm f), (v5, pf q), (v4, pf p)] [(v9, [.int .i64 0, .int .i64 0, .sl 0 true []])] → e_store w 3 (.ptr v9 0) (fm g) fun s => J [.ptr v9 0, .int .i64 0] s := fun v9 w h6 =>
    h6.store (Box.fm g) rfl fun w' h7 => main v9 w' h7
  have prov : ∀ (w s : St) (P : List (Nat × List PV)) (r : PV) (K Kp : PV → St → Prop), Grow w 3 (G.reverse.map fm ++ [fm f]) r s → K (.tup [fm g, .int .i64 0, .int .i64 0]) w → callK prog n_impl_Proves [r, pf q] s K Kp := fun w s P r K Kp hg hK => by
    refine callK_conv (us' := [fms (f :: G).reverse, pf q]) (st' := w) (Conv.cons (by simpa [fms] using hg.freeze) (Conv.sub hg.sub)) ?_
    exact callK_just (h_impl_Proves (f :: G) q g P2 _) hK
  have l5 : ∀ {w s : St} {P : List (Nat × List PV)}, Held st w [(v6, fm f), (v5, pf q), (v4, pf p)] P → Sub w s → q_load s true 4 (.ptr v5 0) = some (pf q) ∧ q_load s true 3 (.ptr v6 0) = some (fm f) := fun h hs => ⟨(h.grow hs).ldp (by simp), (h.grow hs).ldf (by simp)⟩
  have one : ∀ {w s : St} {r : PV} {K : PV → St → Prop}, Grow w 3 [] r s → (∀ p' s', Grow w 3 (G.reverse.map fm) p' s' → K p' s') → e_append s 3 40 r (fms G.reverse) K := fun hg hK => by
    refine hg.append (ys := G.reverse.map fm) (elems_sl _ _ _ _) (by simp; omega) fun p' s' hg' => hK p' s' (by simpa using hg')
  have two : ∀ {w s : St} {r : PV} {K : PV → St → Prop}, Grow w 3 (G.reverse.map fm) r s → (∀ p' s', Grow w 3 (G.reverse.map fm ++ [fm f]) p' s' → K p' s') → e_append s 3 40 r (.sl 3 true [fm f]) K := fun hg hK => by
    refine hg.append (ys := [fm f]) (elems_sl _ _ _ _) (by simp; omega) fun p' s' hg' => hK p' s' hg'
  refine qb_of (x := .sl 3 true []) rfl ?_
  refine qb_of (h5.top (Box.fm f)) ?_
  refine qb_of (lit_f1 f) ?_
  refine qb_of (h5.ldp (p := q) (by simp)) ?_
  refine ⟨?_, ?_⟩
  · refine one (Grow.nil _ _ _) fun p1 s1 g1 => ?_
    refine ⟨(l5 h5 g1.sub).1, (l5 h5 g1.sub).2, ?_, ?_⟩
    · refine two g1 fun p2 s2 g2 => ?_
      refine ⟨(l5 h5 g2.sub).1, ?_, ?_⟩
      · refine prov _ _ [] _ _ _ g2 ?_
        refine qb_of (x := fm g) rfl ?_
        refine qb_of (x := .int .i64 0) rfl ?_
        refine qb_of (x := .int .i64 0) rfl ?_
        refine h5.alloc fun v9 w6 h6 => ?_
        refine ⟨(l5 h6 (Sub.refl _)).1, (l5 h6 (Sub.refl _)).2, ?_⟩
        exact fin v9 w6 h6
      · intro v9 hv9
        have g3 := g2.beside (.cells [.int .i64 0, .int .i64 0, .sl 0 true []]) hv9
        have h6 := h5.put_at (z := [.int .i64 0, .int .i64 0, .sl 0 true []]) (g2.sub.isNone hv9)
        refine ⟨(l5 h6 g3.sub).1, (l5 h6 g3.sub).2, ?_⟩
        refine prov _ _ [] _ _ _ g3 ?_
        refine qb_of (x := fm g) rfl ?_
        refine qb_of (x := .int .i64 0) rfl ?_
        refine qb_of (x := .int .i64 0) rfl ?_
        exact fin v9 _ h6
    · intro v9 hv9
      have g3 := g1.beside (.cells [.int .i64 0, .int .i64 0, .sl 0 true []]) hv9
      have h6 := h5.put_at (z := [.int .i64 0, .int .i64 0, .sl 0 true []]) (g1.sub.isNone hv9)
      refine ⟨(l5 h6 g3.sub).1, (l5 h6 g3.sub).2, ?_⟩
      refine two g3 fun p2 s2 g4 => ?_
      refine ⟨(l5 h6 g4.sub).1, ?_⟩
      refine prov _ _ [] _ _ _ g4 ?_
      refine qb_of (x := fm g) rfl ?_
      refine qb_of (x := .int .i64 0) rfl ?_
      refine qb_of (x := .int .i64 0) rfl ?_
      exact fin v9 _ h6
  · intro v9 hv9
    have h6 := h5.put_at (z := [.int .i64 0, .int .i64 0, .sl 0 true []]) hv9
    refine ⟨(l5 h6 (Sub.refl _)).1, (l5 h6 (Sub.refl _)).2, ?_⟩
    refine one (Grow.nil _ _ _) fun p1 s1 g1 => ?_
    refine ⟨(l5 h6 g1.sub).1, (l5 h6 g1.sub).2, ?_⟩
    refine two g1 fun p2 s2 g2 => ?_
    refine ⟨(l5 h6 g2.sub).1, ?_⟩
    refine prov _ _ [] _ _ _ g2 ?_
    refine qb_of (x := fm g) rfl ?_
    refine qb_of (x := .int .i64 0) rfl ?_
    refine qb_of (x := .int .i64 0) rfl ?_
    exact fin v9 _ h6
end Go.H.Tryz
