/- Part of a proof that the program answers as the reference does: ZFC120, ZFC121, ZFC122, ZFC123, ZFC124, ZFC125, ZFC126, ZFC127, ZFC128, ZFC129. -/
import Derived.Test.YtakcoedklmoboaaGreatDoorHM
import Derived.Test.YtakcoedklmoboaaGreatDoorHNB
/- Contracts: the reference's proofs: their form. -/
set_option linter.unusedVariables false
set_option linter.unusedSimpArgs false
namespace Go.H.Tryz
open Go Go.H

/-- What is left of a number of nodes. -/
def fmN : Fm → Int → Int
  | .atom _, l => l - 1
  | .bot, l => l - 1
  | .and a b, l => if 0 ≤ l - 1 then (if 0 ≤ fmN a (l - 1) then fmN b (fmN a (l - 1)) else fmN a (l - 1)) else l - 1
  | .imp a b, l => if 0 ≤ l - 1 then (if 0 ≤ fmN a (l - 1) then fmN b (fmN a (l - 1)) else fmN a (l - 1)) else l - 1
theorem fmN_le : ∀ (f : Fm) (l : Int), fmN f l < l := by
  intro f
  induction f with
  | atom n => intro l; unfold fmN; omega
  | bot => intro l; unfold fmN; omega
  | and a b ia ib => intro l; have := ia (l - 1); have := ib (fmN a (l - 1)); unfold fmN; split <;> (try split) <;> omega
  | imp a b ia ib => intro l; have := ia (l - 1); have := ib (fmN a (l - 1)); unfold fmN; split <;> (try split) <;> omega
theorem h_spec_l08FormCount (f : Fm) : ∀ (l : Int), -1000 ≤ l → l ≤ 1000 → ∀ (st : St), HCalls prog n_spec_l08FormCount [fm f, .int .i64 l] st (Just (.int .i64 (fmN f l)) st) := by
  induction f with
  | atom n =>
    intro l h0 h1 st
    apply c_spec_l08FormCount
    unfold b_spec_l08FormCount
    refine e_box_ref (fm_isJunk _) ?_
    refine qb_of (qdec (by omega)) ?_
    repeat' (first
      | exact Just.int rfl (Sub.refl _)
      | refine cbr_t rfl ?_
      | refine cbr_f rfl ?_
      | refine qb_of (lfm _ _) ?_
      | refine qb_of (lpf _ _) ?_
      | refine qb_of (ltr _ _) ?_
      | refine qb_of (qinc (by omega)) ?_
      | refine qb_of rfl ?_
      | (refine hFix_step ?_; try simp only [List.getD_cons_zero, List.getD_cons_succ])
      | refine hJ_step fun J hJ => ?_
      | (apply_assumption; try simp only [List.getD_cons_zero, List.getD_cons_succ])
      | refine cbr_dec (fun _ => ?_) (fun _ => ?_))
  | bot =>
    intro l h0 h1 st
    apply c_spec_l08FormCount
    unfold b_spec_l08FormCount
    refine e_box_ref (fm_isJunk _) ?_
    refine qb_of (qdec (by omega)) ?_
    repeat' (first
      | exact Just.int rfl (Sub.refl _)
      | refine cbr_t rfl ?_
      | refine cbr_f rfl ?_
      | refine qb_of (lfm _ _) ?_
      | refine qb_of (lpf _ _) ?_
      | refine qb_of (ltr _ _) ?_
      | refine qb_of (qinc (by omega)) ?_
      | refine qb_of rfl ?_
      | (refine hFix_step ?_; try simp only [List.getD_cons_zero, List.getD_cons_succ])
      | refine hJ_step fun J hJ => ?_
      | (apply_assumption; try simp only [List.getD_cons_zero, List.getD_cons_succ])
      | refine cbr_dec (fun _ => ?_) (fun _ => ?_))
  | and a b ia ib =>
    intro l h0 h1 st
    have na := fmN_le a (l - 1)
    apply c_spec_l08FormCount
    unfold b_spec_l08FormCount
    refine e_box_ref (fm_isJunk _) ?_
    refine qb_of (qdec (by omega)) ?_
    repeat' (first
      | refine callK_just (ia _ (by omega) (by omega) _) ?_
      | refine callK_just (ib _ (by omega) (by omega) _) ?_
      | exact Just.int (by simp only [fmN]; split <;> (try split) <;> first | rfl | (exfalso; omega)) (Sub.refl _)
      | refine cbr_t rfl ?_
      | refine cbr_f rfl ?_
      | refine qb_of (lfm _ _) ?_
      | refine qb_of (lpf _ _) ?_
      | refine qb_of (ltr _ _) ?_
      | refine qb_of (qinc (by omega)) ?_
      | refine qb_of rfl ?_
      | (refine hFix_step ?_; try simp only [List.getD_cons_zero, List.getD_cons_succ])
      | refine hJ_step fun J hJ => ?_
      | (apply_assumption; try simp only [List.getD_cons_zero, List.getD_cons_succ])
      | refine cbr_dec (fun _ => ?_) (fun _ => ?_))
  | imp a b ia ib =>
    intro l h0 h1 st
    have na := fmN_le a (l - 1)
    apply c_spec_l08FormCount
    unfold b_spec_l08FormCount
    refine e_box_ref (fm_isJunk _) ?_
    refine qb_of (qdec (by omega)) ?_
    repeat' (first
      | refine callK_just (ia _ (by omega) (by omega) _) ?_
      | refine callK_just (ib _ (by omega) (by omega) _) ?_
      | exact Just.int (by simp only [fmN]; split <;> (try split) <;> first | rfl | (exfalso; omega)) (Sub.refl _)
      | refine cbr_t rfl ?_
      | refine cbr_f rfl ?_
      | refine qb_of (lfm _ _) ?_
      | refine qb_of (lpf _ _) ?_
      | refine qb_of (ltr _ _) ?_
      | refine qb_of (qinc (by omega)) ?_
      | refine qb_of rfl ?_
      | (refine hFix_step ?_; try simp only [List.getD_cons_zero, List.getD_cons_succ])
      | refine hJ_step fun J hJ => ?_
      | (apply_assumption; try simp only [List.getD_cons_zero, List.getD_cons_succ])
      | refine cbr_dec (fun _ => ?_) (fun _ => ?_))
/-- One behind the other, while something is left. -/
def chn : List (Int → Int) → Int → Int
  | [], l => l
  | f :: r, l => if 0 ≤ l then chn r (f l) else l
def pfN : Pf → Int → Int
  | .hyp _, l => l - 1
  | .andI a b p q, l => chn [fmN a, fmN b, pfN p, pfN q] (l - 1)
  | .fst a b p, l => chn [fmN a, fmN b, pfN p] (l - 1)
  | .snd a b p, l => chn [fmN a, fmN b, pfN p] (l - 1)
  | .funI a b p, l => chn [fmN a, fmN b, pfN p] (l - 1)
  | .use a b p q, l => chn [fmN a, fmN b, pfN p, pfN q] (l - 1)
  | .botE a p, l => chn [fmN a, pfN p] (l - 1)
/-- It takes so many nodes. -/
def Takes (f : Int → Int) (n : Nat) : Prop := ∀ l : Int, ((n : Int) ≤ l → f l = l - n) ∧ (l < n → f l < 0 ∨ f l < l ∧ l < 0) ∧ f l < l
theorem chn_neg : ∀ (fs : List (Int → Int)) (l : Int), l < 0 → chn fs l = l
  | [], l, _ => rfl
  | f :: r, l, h => by unfold chn; rw [if_neg (by omega)]
theorem chn_takes : ∀ (fs : List ((Int → Int) × Nat)), (∀ x ∈ fs, Takes x.1 x.2) → ∀ l : Int, (((fs.map (·.2)).sum : Nat) ≤ l → chn (fs.map (·.1)) l = l - ((fs.map (·.2)).sum : Nat)) ∧ (l < ((fs.map (·.2)).sum : Nat) → chn (fs.map (·.1)) l < 0) ∧ chn (fs.map (·.1)) l ≤ l
  | [], _, l => by simp [chn]
  | x :: r, h, l => by
    have hx := h x (by simp) l
    have hr := chn_takes r (fun y hy => h y (by simp [hy])) (x.1 l)
    simp only [List.map_cons, List.sum_cons, Int.natCast_add] at hr ⊢
    generalize ((r.map (·.2)).sum : Nat) = N at hr ⊢
    by_cases h0 : 0 ≤ l
    · unfold chn
      rw [if_pos h0]
      refine ⟨fun hl => ?_, fun hl => ?_, by have := hr.2.2; have := hx.2.2; omega⟩
      · have e1 := hx.1 (by omega)
        rw [hr.1 (by omega), e1]
        omega
      · by_cases hn : (x.2 : Int) ≤ l
        · have e1 := hx.1 hn
          exact hr.2.1 (by omega)
        · have e2 := hx.2.1 (by omega)
          have e3 : x.1 l < 0 := by omega
          rw [chn_neg _ _ e3]
          exact e3
    · have e : chn (x.1 :: r.map (·.1)) l = l := chn_neg _ _ (by omega)
      rw [e]
      exact ⟨fun hl => by omega, fun _ => by omega, by omega⟩
theorem fmN_takes (f : Fm) : Takes (fmN f) f.size := by
  have chn2 : ∀ (a b : Fm) (l : Int), (if 0 ≤ l - 1 then (if 0 ≤ fmN a (l - 1) then fmN b (fmN a (l - 1)) else fmN a (l - 1)) else l - 1) = chn [fmN a, fmN b] (l - 1) := fun a b l => by simp only [chn]
  induction f with
  | atom n => intro l; unfold fmN Fm.size; omega
  | bot => intro l; unfold fmN Fm.size; omega
  | and a b ia ib =>
    intro l
    have := chn_takes [(fmN a, a.size), (fmN b, b.size)] (by simp only [List.forall_mem_cons]; exact ⟨ia, ib, by simp⟩) (l - 1)
    simp only [List.map_cons, List.map_nil, List.sum_cons, List.sum_nil] at this
    unfold fmN Fm.size
    rw [chn2]
    omega
  | imp a b ia ib =>
    intro l
    have := chn_takes [(fmN a, a.size), (fmN b, b.size)] (by simp only [List.forall_mem_cons]; exact ⟨ia, ib, by simp⟩) (l - 1)
    simp only [List.map_cons, List.map_nil, List.sum_cons, List.sum_nil] at this
    unfold fmN Fm.size
    rw [chn2]
    omega
theorem pfN_takes (x : Pf) : Takes (pfN x) x.count := by
  induction x with
  | hyp n => intro l; unfold pfN Pf.count; omega
  | andI a b p q ip iq =>
    intro l
    have := chn_takes [(fmN a, a.size), (fmN b, b.size), (pfN p, p.count), (pfN q, q.count)] (by simp only [List.forall_mem_cons]; exact ⟨fmN_takes a, fmN_takes b, ip, iq, by simp⟩) (l - 1)
    simp only [List.map_cons, List.map_nil, List.sum_cons, List.sum_nil] at this
    unfold pfN Pf.count
    omega
  | fst a b p ip =>
    intro l
    have := chn_takes [(fmN a, a.size), (fmN b, b.size), (pfN p, p.count)] (by simp only [List.forall_mem_cons]; exact ⟨fmN_takes a, fmN_takes b, ip, by simp⟩) (l - 1)
    simp only [List.map_cons, List.map_nil, List.sum_cons, List.sum_nil] at this
    unfold pfN Pf.count
    omega
  | snd a b p ip =>
    intro l
    have := chn_takes [(fmN a, a.size), (fmN b, b.size), (pfN p, p.count)] (by simp only [List.forall_mem_cons]; exact ⟨fmN_takes a, fmN_takes b, ip, by simp⟩) (l - 1)
    simp only [List.map_cons, List.map_nil, List.sum_cons, List.sum_nil] at this
    unfold pfN Pf.count
    omega
  | funI a b p ip =>
    intro l
    have := chn_takes [(fmN a, a.size), (fmN b, b.size), (pfN p, p.count)] (by simp only [List.forall_mem_cons]; exact ⟨fmN_takes a, fmN_takes b, ip, by simp⟩) (l - 1)
    simp only [List.map_cons, List.map_nil, List.sum_cons, List.sum_nil] at this
    unfold pfN Pf.count
    omega
  | use a b p q ip iq =>
    intro l
    have := chn_takes [(fmN a, a.size), (fmN b, b.size), (pfN p, p.count), (pfN q, q.count)] (by simp only [List.forall_mem_cons]; exact ⟨fmN_takes a, fmN_takes b, ip, iq, by simp⟩) (l - 1)
    simp only [List.map_cons, List.map_nil, List.sum_cons, List.sum_nil] at this
    unfold pfN Pf.count
    omega
  | botE a p ip =>
    intro l
    have := chn_takes [(fmN a, a.size), (pfN p, p.count)] (by simp only [List.forall_mem_cons]; exact ⟨fmN_takes a, ip, by simp⟩) (l - 1)
    simp only [List.map_cons, List.map_nil, List.sum_cons, List.sum_nil] at this
    unfold pfN Pf.count
    omega
theorem pfN_chn' (x : Pf) (l : Int) : pfN x l = chn (x.forms.map fmN ++ x.kids.map pfN) (l - 1) := by
  cases x with
  | hyp n => rfl
  | _ => rfl
theorem chn_app : ∀ (fs gs : List (Int → Int)) (l : Int), chn (fs ++ gs) l = chn gs (chn fs l)
  | [], gs, l => rfl
  | f :: r, gs, l => by
    show (if 0 ≤ l then chn (r ++ gs) (f l) else l) = chn gs (if 0 ≤ l then chn r (f l) else l)
    by_cases h : 0 ≤ l
    · rw [if_pos h, if_pos h]; exact chn_app r gs (f l)
    · rw [if_neg h, if_neg h]; exact (chn_neg gs l (by omega)).symm
theorem chn_low : ∀ (fs : List (Int → Int)), (∀ f ∈ fs, ∀ l : Int, 0 ≤ l → -1 ≤ f l) → ∀ l : Int, -1 ≤ l → -1 ≤ chn fs l
  | [], _, l, h => h
  | f :: r, hf, l, h => by
    unfold chn
    split
    · exact chn_low r (fun g hg => hf g (by simp [hg])) _ (hf f (by simp) l (by omega))
    · exact h
theorem fmN_low (f : Fm) : ∀ l : Int, 0 ≤ l → -1 ≤ fmN f l := by
  induction f with
  | atom n => intro l h; unfold fmN; omega
  | bot => intro l h; unfold fmN; omega
  | and a b ia ib => intro l h; have h1 := ia (l - 1); have h2 := ib (fmN a (l - 1)); unfold fmN; split <;> (try split) <;> omega
  | imp a b ia ib => intro l h; have h1 := ia (l - 1); have h2 := ib (fmN a (l - 1)); unfold fmN; split <;> (try split) <;> omega
theorem pfN_low (x : Pf) : ∀ l : Int, 0 ≤ l → -1 ≤ pfN x l := by
  induction x using Pf.ind with
  | _ x ih =>
    intro l h
    rw [pfN_chn']
    refine chn_low _ (fun f hf => ?_) _ (by omega)
    rw [List.mem_append] at hf
    rcases hf with hf | hf
    · obtain ⟨g, _, rfl⟩ := List.mem_map.1 hf; exact fmN_low g
    · obtain ⟨g, hg, rfl⟩ := List.mem_map.1 hf; exact ih g hg
theorem pf_lens (x : Pf) : x.forms.length ≤ 2 ∧ x.kids.length ≤ 2 := by cases x <;> simp [Pf.forms, Pf.kids]
theorem pfa2 (p : Pf) : q_fa 2 (.ref (pf p).cells) = some (.ref ((pf p).cells.drop 2)) := by simp [q_fa]
theorem pfa3 (p : Pf) : q_fa 3 (.ref (pf p).cells) = some (.ref ((pf p).cells.drop 3)) := by simp [q_fa]
theorem pfa0 (p : Pf) : q_fa 0 (.ref (pf p).cells) = some (.ref (pf p).cells) := by simp [q_fa]
theorem pfa1 (p : Pf) : q_fa 1 (.ref (pf p).cells) = some (.ref ((pf p).cells.drop 1)) := by simp [q_fa]
theorem pl0 (p : Pf) (s : St) : q_load s false 1 (.ref (pf p).cells) = some (.int .i64 p.kind) := by simp
theorem pl1 (p : Pf) (s : St) : q_load s false 1 (.ref ((pf p).cells.drop 1)) = some (.int .i64 p.num) := by simp
theorem pl2 (p : Pf) (s : St) : q_load s false 1 (.ref ((pf p).cells.drop 2)) = some (.sl 3 false (p.forms.map fm)) := by simp
theorem pl3 (p : Pf) (s : St) : q_load s false 1 (.ref ((pf p).cells.drop 3)) = some (.sl 4 false (p.kids.map pf)) := by simp
theorem h_spec_l08Count (x : Pf) : ∀ (l : Int), 0 ≤ l → l ≤ 1000 → ∀ (st : St), HCalls prog n_spec_l08Count [pf x, .int .i64 l] st (Just (.int .i64 (pfN x l)) st) := by
  induction x using Pf.ind with
  | _ x ih =>
  intro l h0 h1 st
  have hl := pf_lens x
  apply c_spec_l08Count
  unfold b_spec_l08Count
  refine e_box_ref (pf_isJunk _) ?_
  refine qb_of (qdec (by omega)) ?_
  refine hJ_of fun J hJ => ?_
  -- the kids
  have kids : ∀ c : Int, -1 ≤ c → c ≤ 1000 → chn (x.kids.map pfN) c = pfN x l → J [.int .i64 c] st := fun c c0 c1 hc => by
    refine hJ _ _ ?_
    refine loop_idx (β := Int) x.kids (fun c i => [.int .i64 c, .int .i64 (i : Int)]) (fun _ => st) (fun c i rest => -1 ≤ c ∧ c ≤ 1000 ∧ chn (rest.map pfN) c = pfN x l) ?_ ?_ c ⟨c0, c1, hc⟩
    · rintro i y rest c hi hy ⟨c0, c1, hc⟩ kk
      refine hJ_of fun J2 hJ2 => ?_
      refine qb_of (pfa3 _) ?_
      refine qb_of (pl3 _ _) ?_
      refine qb_of (x := .int .i64 x.kids.length) (by simp) ?_
      refine qb_of (x := .bool true) (by simp [hi]) ?_
      rw [cb_bool, br_true]
      refine qb_of (x := .bool (decide (0 ≤ c))) (by simp) ?_
      refine hJ2 _ _ ?_
      show cb (.bool (decide (0 ≤ c))) _
      refine cbr_dec (fun hc0 => ?_) (fun hc0 => ?_)
      · refine qb_of (pfa3 _) ?_
        refine qb_of (pl3 _ _) ?_
        refine qb_of (ia_pfs .i64 hy) ?_
        refine qb_of (lpf _ _) ?_
        refine callK_just (ih y (List.mem_of_getElem? hy) c hc0 c1 _) ?_
        refine qb_of (x := .int .i64 ((i + 1 : Nat) : Int)) (by simp; rw [wrap64 (by omega) (by omega)]) ?_
        have := (pfN_takes y c).2.2
        have hge := pfN_low y c hc0
        rw [List.map_cons] at hc
        unfold chn at hc
        rw [if_pos hc0] at hc
        exact kk (pfN y c) ⟨hge, by omega, hc⟩
      · rw [chn_neg _ _ (by omega)] at hc
        exact Just.int hc (Sub.refl _)
    · rintro c ⟨c0, c1, hc⟩
      refine hJ_of fun J2 hJ2 => ?_
      refine qb_of (pfa3 _) ?_
      refine qb_of (pl3 _ _) ?_
      refine qb_of (x := .int .i64 x.kids.length) (by simp) ?_
      refine qb_of (x := .bool false) (by simp) ?_
      rw [cb_bool, br_false]
      refine hJ2 _ _ ?_
      show cb (.bool false) _
      rw [cb_bool, br_false]
      exact Just.int hc (Sub.refl _)
  refine loop_idx (β := Int) x.forms (fun c i => [.int .i64 c, .int .i64 (i : Int)]) (fun _ => st) (fun c i rest => -1 ≤ c ∧ c ≤ 1000 ∧ chn (rest.map fmN ++ x.kids.map pfN) c = pfN x l) ?_ ?_ (l - 1) ⟨by omega, by omega, (pfN_chn' x l).symm⟩
  · rintro i y rest c hi hy ⟨c0, c1, hc⟩ kk
    refine hJ_of fun J2 hJ2 => ?_
    refine qb_of (pfa2 _) ?_
    refine qb_of (pl2 _ _) ?_
    refine qb_of (x := .int .i64 x.forms.length) (by simp) ?_
    refine qb_of (x := .bool true) (by simp [hi]) ?_
    rw [cb_bool, br_true]
    refine qb_of (x := .bool (decide (0 ≤ c))) (by simp) ?_
    refine hJ2 _ _ ?_
    show cb (.bool (decide (0 ≤ c))) _
    refine cbr_dec (fun hc0 => ?_) (fun hc0 => ?_)
    · refine qb_of (pfa2 _) ?_
      refine qb_of (pl2 _ _) ?_
      refine qb_of (ia_fms .i64 hy) ?_
      refine qb_of (lfm _ _) ?_
      refine callK_just (h_spec_l08FormCount y c (by omega) c1 _) ?_
      refine qb_of (x := .int .i64 ((i + 1 : Nat) : Int)) (by simp; rw [wrap64 (by omega) (by omega)]) ?_
      have := fmN_le y c
      have hge := fmN_low y c hc0
      rw [List.map_cons, List.cons_append] at hc
      unfold chn at hc
      rw [if_pos hc0] at hc
      exact kk (fmN y c) ⟨hge, by omega, hc⟩
    · rw [chn_app] at hc
      rw [chn_neg (List.map fmN (y :: rest)) _ (by omega)] at hc
      exact kids c c0 c1 hc
  · rintro c ⟨c0, c1, hc⟩
    refine hJ_of fun J2 hJ2 => ?_
    refine qb_of (pfa2 _) ?_
    refine qb_of (pl2 _ _) ?_
    refine qb_of (x := .int .i64 x.forms.length) (by simp) ?_
    refine qb_of (x := .bool false) (by simp) ?_
    rw [cb_bool, br_false]
    refine hJ2 _ _ ?_
    show cb (.bool false) _
    rw [cb_bool, br_false]
    exact kids c c0 c1 hc
theorem h_spec_l08Form (f : Fm) (hf : f.ok = true) (st : St) : HCalls prog n_spec_l08Form [fm f] st (Just (.bool true) st) := by
  induction f generalizing st with
  | atom n =>
    simp only [Fm.ok, decide_eq_true_eq] at hf
    apply c_spec_l08Form
    unfold b_spec_l08Form
    refine e_box_ref (fm_isJunk _) ?_
    repeat' (first
      | exact Just.bool rfl (Sub.refl _)
      | refine qb_of (x := .bool false) (by simp [Fm.num]; omega) ?_
      | refine cbr_t rfl ?_
      | refine cbr_f rfl ?_
      | refine qb_of (lfm _ _) ?_
      | refine qb_of (lpf _ _) ?_
      | refine qb_of (ltr _ _) ?_
      | refine qb_of (qinc (by omega)) ?_
      | refine qb_of rfl ?_
      | (refine hFix_step ?_; try simp only [List.getD_cons_zero, List.getD_cons_succ])
      | refine hJ_step fun J hJ => ?_
      | (apply_assumption; try simp only [List.getD_cons_zero, List.getD_cons_succ])
      | refine cbr_dec (fun _ => ?_) (fun _ => ?_))
  | bot =>
    apply c_spec_l08Form
    unfold b_spec_l08Form
    refine e_box_ref (fm_isJunk _) ?_
    repeat' (first
      | exact Just.bool rfl (Sub.refl _)
      | refine cbr_t rfl ?_
      | refine cbr_f rfl ?_
      | refine qb_of (lfm _ _) ?_
      | refine qb_of (lpf _ _) ?_
      | refine qb_of (ltr _ _) ?_
      | refine qb_of (qinc (by omega)) ?_
      | refine qb_of rfl ?_
      | (refine hFix_step ?_; try simp only [List.getD_cons_zero, List.getD_cons_succ])
      | refine hJ_step fun J hJ => ?_
      | (apply_assumption; try simp only [List.getD_cons_zero, List.getD_cons_succ])
      | refine cbr_dec (fun _ => ?_) (fun _ => ?_))
  | and a b ia ib =>
    simp only [Fm.ok, Bool.and_eq_true] at hf
    have ia := ia hf.1
    have ib := ib hf.2
    apply c_spec_l08Form
    unfold b_spec_l08Form
    refine e_box_ref (fm_isJunk _) ?_
    repeat' (first
      | exact Just.bool rfl (Sub.refl _)
      | refine callK_just (ia _) ?_
      | refine callK_just (ib _) ?_
      | refine cbr_t rfl ?_
      | refine cbr_f rfl ?_
      | refine qb_of (lfm _ _) ?_
      | refine qb_of (lpf _ _) ?_
      | refine qb_of (ltr _ _) ?_
      | refine qb_of (qinc (by omega)) ?_
      | refine qb_of rfl ?_
      | (refine hFix_step ?_; try simp only [List.getD_cons_zero, List.getD_cons_succ])
      | refine hJ_step fun J hJ => ?_
      | (apply_assumption; try simp only [List.getD_cons_zero, List.getD_cons_succ])
      | refine cbr_dec (fun _ => ?_) (fun _ => ?_))
  | imp a b ia ib =>
    simp only [Fm.ok, Bool.and_eq_true] at hf
    have ia := ia hf.1
    have ib := ib hf.2
    apply c_spec_l08Form
    unfold b_spec_l08Form
    refine e_box_ref (fm_isJunk _) ?_
    repeat' (first
      | exact Just.bool rfl (Sub.refl _)
      | refine callK_just (ia _) ?_
      | refine callK_just (ib _) ?_
      | refine cbr_t rfl ?_
      | refine cbr_f rfl ?_
      | refine qb_of (lfm _ _) ?_
      | refine qb_of (lpf _ _) ?_
      | refine qb_of (ltr _ _) ?_
      | refine qb_of (qinc (by omega)) ?_
      | refine qb_of rfl ?_
      | (refine hFix_step ?_; try simp only [List.getD_cons_zero, List.getD_cons_succ])
      | refine hJ_step fun J hJ => ?_
      | (apply_assumption; try simp only [List.getD_cons_zero, List.getD_cons_succ])
      | refine cbr_dec (fun _ => ?_) (fun _ => ?_))
theorem h_spec_l08Shape (p : Pf) (st : St) : HCalls prog n_spec_l08Shape [.int .i64 p.kind] st (Just (.tup [.int .i64 p.forms.length, .int .i64 p.kids.length]) st) := by
  apply c_spec_l08Shape
  unfold b_spec_l08Shape
  cases p
  all_goals
    repeat' (first
      | exact Just.same rfl (Sub.refl _)
      | refine cbr_t rfl ?_
      | refine cbr_f rfl ?_
      | refine qb_of (lfm _ _) ?_
      | refine qb_of (lpf _ _) ?_
      | refine qb_of (ltr _ _) ?_
      | refine qb_of (qinc (by omega)) ?_
      | refine qb_of rfl ?_
      | (refine hFix_step ?_; try simp only [List.getD_cons_zero, List.getD_cons_succ])
      | refine hJ_step fun J hJ => ?_
      | (apply_assumption; try simp only [List.getD_cons_zero, List.getD_cons_succ])
      | refine cbr_dec (fun _ => ?_) (fun _ => ?_))
end Go.H.Tryz
/- Contracts: the reference's proofs: right ones. -/
set_option linter.unusedVariables false
set_option linter.unusedSimpArgs false
namespace Go.H.Tryz
open Go Go.H

theorem hok_eq (p : Pf) : p.hok = (decide (p.num ≤ 100) && p.kids.all Pf.hok) := by
  cases p with
  | hyp n => simp only [Pf.hok, Pf.num, Pf.kids, List.all_nil, Bool.and_true]; congr 1; exact propext ⟨fun h => by omega, fun h => by omega⟩
  | _ => simp [Pf.hok, Pf.num, Pf.kids]
theorem fok_forms {p : Pf} (h : p.fok = true) : (∀ f ∈ p.forms, f.ok = true) ∧ ∀ x ∈ p.kids, x.fok = true := by
  cases p <;> simp_all [Pf.fok, Pf.forms, Pf.kids]
theorem num_pos (p : Pf) : 0 ≤ p.num ∧ (p.kind ≠ 1 → p.num = 0) := by
  cases p <;> simp [Pf.num, Pf.kind]
theorem h_spec_l08Proof (x : Pf) (hx : x.fok = true) (st : St) : HCalls prog n_spec_l08Proof [pf x] st (Just (.bool x.hok) st) := by
  induction x using Pf.ind generalizing st with
  | _ x ih =>
  have hl := pf_lens x
  obtain ⟨hff, hfk⟩ := fok_forms hx
  obtain ⟨n0, n1⟩ := num_pos x
  have he := hok_eq x
  apply c_spec_l08Proof
  unfold b_spec_l08Proof
  refine e_box_ref (pf_isJunk _) ?_
  refine qb_of (pfa0 _) ?_
  refine qb_of (pl0 _ _) ?_
  refine callK_just (h_spec_l08Shape x _) ?_
  refine qb_of (x := .int .i64 x.forms.length) rfl ?_
  refine qb_of (x := .int .i64 x.kids.length) rfl ?_
  refine qb_of (x := .bool false) (by simp) ?_
  rw [cb_bool, br_false]
  refine qb_of (pfa2 _) ?_
  refine qb_of (pl2 _ _) ?_
  refine qb_of (x := .int .i64 x.forms.length) (by simp) ?_
  refine qb_of (x := .bool false) (by simp) ?_
  rw [cb_bool, br_false]
  refine qb_of (pfa3 _) ?_
  refine qb_of (pl3 _ _) ?_
  refine qb_of (x := .int .i64 x.kids.length) (by simp) ?_
  refine qb_of (x := .bool false) (by simp) ?_
  rw [cb_bool, br_false]
  refine qb_of (pfa1 _) ?_
  refine qb_of (pl1 _ _) ?_
  refine qb_of (x := .bool false) (by simp; omega) ?_
  rw [cb_bool, br_false]
  refine qb_of (pfa1 _) ?_
  refine qb_of (pl1 _ _) ?_
  refine qb_of (x := .bool (decide (100 < x.num))) (by simp) ?_
  refine cbr_dec (fun h => Just.bool (by rw [he, decide_eq_false (by omega)]; rfl) (Sub.refl _)) (fun h => ?_)
  rw [decide_eq_true (by omega), Bool.true_and] at he
  refine qb_of (pfa0 _) ?_
  refine qb_of (pl0 _ _) ?_
  refine qb_of (x := .bool (decide (x.kind ≠ 1))) (by simp) ?_
  refine cbr_dec (fun hk => ?_) (fun hk => ?_)
  · refine qb_of (pfa1 _) ?_
    refine qb_of (pl1 _ _) ?_
    refine qb_of (x := .bool false) (by simp [n1 hk]) ?_
    rw [cb_bool, br_false]
    refine loop_idx (β := Unit) x.forms (fun _ i => [.int .i64 (i : Int)]) (fun _ => st) (fun _ i rest => True) ?_ ?_ () trivial
    · rintro i y rest c hi hy _ kk
      refine qb_of (x := .bool true) (by simp [hi]) ?_
      rw [cb_bool, br_true]
      refine qb_of (pfa2 _) ?_
      refine qb_of (pl2 _ _) ?_
      refine qb_of (ia_fms .i64 hy) ?_
      refine qb_of (lfm _ _) ?_
      refine callK_just (h_spec_l08Form y (hff y (List.mem_of_getElem? hy)) _) ?_
      refine qb_of (x := .bool false) rfl ?_
      rw [cb_bool, br_false]
      refine qb_of (x := .int .i64 ((i + 1 : Nat) : Int)) (by simp; rw [wrap64 (by omega) (by omega)]) ?_
      exact kk () trivial
    · rintro _ _
      refine qb_of (x := .bool false) (by simp) ?_
      rw [cb_bool, br_false]
      refine loop_idx (β := Unit) x.kids (fun _ i => [.int .i64 (i : Int)]) (fun _ => st) (fun _ i rest => rest.all Pf.hok = x.hok) ?_ ?_ () he.symm
      · rintro i y rest c hi hy hq kk
        have hm := List.mem_of_getElem? hy
        refine qb_of (x := .bool true) (by simp [hi]) ?_
        rw [cb_bool, br_true]
        refine qb_of (pfa3 _) ?_
        refine qb_of (pl3 _ _) ?_
        refine qb_of (ia_pfs .i64 hy) ?_
        refine qb_of (lpf _ _) ?_
        refine callK_just (ih y hm (hfk y hm) _) ?_
        refine qb_of (x := .bool (!y.hok)) rfl ?_
        rw [List.all_cons] at hq
        rw [cb_bool]
        refine br_of (fun h => ?_) (fun h => ?_)
        · have h' : y.hok = false := by simpa using h
          rw [h', Bool.false_and] at hq
          exact Just.bool hq (Sub.refl _)
        · have h' : y.hok = true := by simpa using h
          rw [h', Bool.true_and] at hq
          refine qb_of (x := .int .i64 ((i + 1 : Nat) : Int)) (by simp; rw [wrap64 (by omega) (by omega)]) ?_
          exact kk () hq
      · rintro _ hq
        refine qb_of (x := .bool false) (by simp) ?_
        rw [cb_bool, br_false]
        exact Just.bool (by simpa using hq) (Sub.refl _)
  · refine loop_idx (β := Unit) x.forms (fun _ i => [.int .i64 (i : Int)]) (fun _ => st) (fun _ i rest => True) ?_ ?_ () trivial
    · rintro i y rest c hi hy _ kk
      refine qb_of (x := .bool true) (by simp [hi]) ?_
      rw [cb_bool, br_true]
      refine qb_of (pfa2 _) ?_
      refine qb_of (pl2 _ _) ?_
      refine qb_of (ia_fms .i64 hy) ?_
      refine qb_of (lfm _ _) ?_
      refine callK_just (h_spec_l08Form y (hff y (List.mem_of_getElem? hy)) _) ?_
      refine qb_of (x := .bool false) rfl ?_
      rw [cb_bool, br_false]
      refine qb_of (x := .int .i64 ((i + 1 : Nat) : Int)) (by simp; rw [wrap64 (by omega) (by omega)]) ?_
      exact kk () trivial
    · rintro _ _
      refine qb_of (x := .bool false) (by simp) ?_
      rw [cb_bool, br_false]
      refine loop_idx (β := Unit) x.kids (fun _ i => [.int .i64 (i : Int)]) (fun _ => st) (fun _ i rest => rest.all Pf.hok = x.hok) ?_ ?_ () he.symm
      · rintro i y rest c hi hy hq kk
        have hm := List.mem_of_getElem? hy
        refine qb_of (x := .bool true) (by simp [hi]) ?_
        rw [cb_bool, br_true]
        refine qb_of (pfa3 _) ?_
        refine qb_of (pl3 _ _) ?_
        refine qb_of (ia_pfs .i64 hy) ?_
        refine qb_of (lpf _ _) ?_
        refine callK_just (ih y hm (hfk y hm) _) ?_
        refine qb_of (x := .bool (!y.hok)) rfl ?_
        rw [List.all_cons] at hq
        rw [cb_bool]
        refine br_of (fun h => ?_) (fun h => ?_)
        · have h' : y.hok = false := by simpa using h
          rw [h', Bool.false_and] at hq
          exact Just.bool hq (Sub.refl _)
        · have h' : y.hok = true := by simpa using h
          rw [h', Bool.true_and] at hq
          refine qb_of (x := .int .i64 ((i + 1 : Nat) : Int)) (by simp; rw [wrap64 (by omega) (by omega)]) ?_
          exact kk () hq
      · rintro _ hq
        refine qb_of (x := .bool false) (by simp) ?_
        rw [cb_bool, br_false]
        exact Just.bool (by simpa using hq) (Sub.refl _)
/-- A right proof. -/
def pfOK (x : Pf) : Bool := decide (x.count ≤ 150) && x.hok
theorem h_spec_ProofOK (x : Pf) (hx : x.fok = true) (st : St) : HCalls prog n_spec_ProofOK [pf x] st (Just (.bool (pfOK x)) st) := by
  apply c_spec_ProofOK
  unfold b_spec_ProofOK
  refine e_box_ref (pf_isJunk _) ?_
  refine qb_of (lpf _ _) ?_
  refine callK_just (h_spec_l08Count x 150 (by omega) (by omega) _) ?_
  have ht := pfN_takes x 150
  refine qb_of (x := .bool (decide (0 ≤ pfN x 150))) (by simp) ?_
  refine cbr_dec (fun h => ?_) (fun h => ?_)
  · refine qb_of (lpf _ _) ?_
    refine callK_just (h_spec_l08Proof x hx _) ?_
    refine Just.bool ?_ (Sub.refl _)
    unfold pfOK
    rw [decide_eq_true (by omega)]; rfl
  · refine Just.bool ?_ (Sub.refl _)
    unfold pfOK
    rw [decide_eq_false (by omega)]; rfl
end Go.H.Tryz
/- Contracts: the reference's proofs: copies, sizes, rows of forms. -/
set_option linter.unusedVariables false
set_option linter.unusedSimpArgs false
namespace Go.H.Tryz
open Go Go.H

theorem h_spec_l08Copy (f : Fm) (st : St) : HCalls prog n_spec_l08Copy [fm f] st (Just (fm f) st) := by
  induction f using Fm.ind generalizing st with
  | _ f ih =>
  have hl := fm_kids_le f
  apply c_spec_l08Copy
  unfold b_spec_l08Copy
  refine e_box_ref (fm_isJunk _) ?_
  refine (Held.start st).alloc fun v2 w1 h1 => ?_
  refine qb_of (x := .sl 3 true []) rfl ?_
  refine hJ_cv fun J hJ => ?_
  refine loop_idx (β := PV × St) f.kids (fun z i => [z.1, .int .i64 (i : Int)]) (fun z => z.2) (fun z i rest => Grow w1 3 ((f.kids.take i).map fm) z.1 z.2) ?_ ?_ (.sl 3 true [], w1) (Grow.nil _ _ _)
  · rintro i x rest ⟨p, s⟩ hi hx hg kk
    simp only at hg
    refine qb_of (fa2 _) ?_
    refine qb_of (x := .sl 3 false (f.kids.map fm)) (by simp) ?_
    refine qb_of (x := .int .i64 f.kids.length) (by simp) ?_
    refine qb_of (x := .bool true) (by simp [hi]) ?_
    rw [cb_bool, br_true]
    refine qb_of (fa2 _) ?_
    refine qb_of (x := .sl 3 false (f.kids.map fm)) (by simp) ?_
    refine qb_of (ia_fms .i64 hx) ?_
    refine qb_of (lfm _ _) ?_
    refine callK_just (ih x (List.mem_of_getElem? hx) _) ?_
    refine qb_of (x := .sl 3 true [fm x]) (by simp) ?_
    refine hg.append (elems_sl _ _ _ _) (by simp; omega) fun p' s' hg' => ?_
    refine qb_of (x := .int .i64 ((i + 1 : Nat) : Int)) (by simp; rw [wrap64 (by omega) (by omega)]) ?_
    refine kk (p', s') ?_
    rw [List.take_add_one, hx]
    simpa using hg'
  · rintro ⟨p, s⟩ hg
    simp only [List.take_length] at hg
    refine qb_of (fa2 _) ?_
    refine qb_of (x := .sl 3 false (f.kids.map fm)) (by simp) ?_
    refine qb_of (x := .int .i64 f.kids.length) (by simp) ?_
    refine qb_of (x := .bool false) (by simp) ?_
    rw [cb_bool, br_false]
    refine hJ [p] s [.sl 3 false (f.kids.map fm)] w1 hg.freeze ?_
    refine qb_of (x := .ref (fm f).cells) (by simp [q_fa]) ?_
    refine qb_of (x := .int .i64 f.kind) (by simp) ?_
    refine qb_of (fa1 _) ?_
    refine qb_of (x := .int .i64 f.num) (by simp) ?_
    refine qb_of (x := fm f) (by rw [fm_eq]; rfl) ?_
    refine h1.store (Box.fm f) rfl fun w2 h2 => ?_
    refine qb_of (h2.top (Box.fm f)) ?_
    exact Just.ret h2.sub
def sizeSum (ps : List Pf) : Nat := (ps.map Pf.size).sum
theorem size_sum (x : Pf) : x.size = 1 + sizeSum x.kids := by cases x <;> simp [Pf.size, sizeSum, Pf.kids] <;> omega
theorem sizeSum_le {ps : List Pf} {y : Pf} (h : y ∈ ps) : y.size ≤ sizeSum ps := by
  induction ps with
  | nil => cases h
  | cons z r ih =>
    simp only [sizeSum, List.map_cons, List.sum_cons] at ih ⊢
    rcases List.mem_cons.1 h with rfl | h
    · omega
    · have := ih h; omega
theorem h_spec_l08Size (x : Pf) (hs : x.size ≤ 1000000) (st : St) : HCalls prog n_spec_l08Size [pf x] st (Just (.int .i64 x.size) st) := by
  induction x using Pf.ind generalizing st with
  | _ x ih =>
  have hl := pf_lens x
  have he := size_sum x
  apply c_spec_l08Size
  unfold b_spec_l08Size
  refine e_box_ref (pf_isJunk _) ?_
  refine loop_idx (β := Nat) x.kids (fun c i => [.int .i64 (c : Int), .int .i64 (i : Int)]) (fun _ => st) (fun c i rest => c + sizeSum rest = x.size) ?_ ?_ 1 he.symm
  · rintro i y rest c hi hy hq kk
    have hm := List.mem_of_getElem? hy
    have hys := sizeSum_le hm
    have hq' : c + (y.size + sizeSum rest) = x.size := by rw [← hq]; simp [sizeSum]
    refine qb_of (pfa3 _) ?_
    refine qb_of (pl3 _ _) ?_
    refine qb_of (x := .int .i64 x.kids.length) (by simp) ?_
    refine qb_of (x := .bool true) (by simp [hi]) ?_
    rw [cb_bool, br_true]
    refine qb_of (pfa3 _) ?_
    refine qb_of (pl3 _ _) ?_
    refine qb_of (ia_pfs .i64 hy) ?_
    refine qb_of (lpf _ _) ?_
    refine callK_just (ih y hm (by omega) _) ?_
    refine qb_of (x := .int .i64 ((c + y.size : Nat) : Int)) (by simp; rw [wrap64 (by omega) (by omega)]) ?_
    refine qb_of (x := .int .i64 ((i + 1 : Nat) : Int)) (by simp; rw [wrap64 (by omega) (by omega)]) ?_
    exact kk (c + y.size) (by omega)
  · rintro c hq
    refine qb_of (pfa3 _) ?_
    refine qb_of (pl3 _ _) ?_
    refine qb_of (x := .int .i64 x.kids.length) (by simp) ?_
    refine qb_of (x := .bool false) (by simp) ?_
    rw [cb_bool, br_false]
    exact Just.int (by rw [← hq]; simp [sizeSum]) (Sub.refl _)
theorem h_spec_l08More (fs : List Fm) (f : Fm) (hl : fs.length ≤ 1000000) (st : St) : HCalls prog n_spec_l08More [fms fs, fm f] st (Just (fms (fs ++ [f])) st) := by
  apply c_spec_l08More
  unfold b_spec_l08More
  refine e_box_ref (fm_isJunk _) ?_
  refine qb_of (x := .sl 3 true []) rfl ?_
  refine qb_of (lfm _ _) ?_
  refine qb_of (x := .sl 3 true [fm f]) (by simp) ?_
  refine (Grow.nil _ 3 3).append (ys := fs.map fm) (elems_sl _ _ _ _) (by simp; omega) fun p1 s1 hg1 => ?_
  refine ⟨lfm _ _, ?_⟩
  refine hg1.append (elems_sl _ _ _ _) (by simp; omega) fun p2 s2 hg2 => ?_
  exact Just.conv (by simpa [fms] using hg2.freeze)
theorem h_spec_FormOK (f : Fm) (hf : f.ok = true) (st : St) : HCalls prog n_spec_FormOK [fm f] st (Just (.bool (decide (f.size ≤ 150))) st) := by
  apply c_spec_FormOK
  unfold b_spec_FormOK
  refine e_box_ref (fm_isJunk _) ?_
  refine qb_of (lfm _ _) ?_
  refine callK_just (h_spec_l08FormCount f 150 (by omega) (by omega) _) ?_
  have ht := fmN_takes f 150
  refine qb_of (x := .bool (decide (0 ≤ fmN f 150))) (by simp) ?_
  refine cbr_dec (fun h => ?_) (fun h => ?_)
  · refine qb_of (lfm _ _) ?_
    refine callK_just (h_spec_l08Form f hf _) ?_
    exact Just.bool (by rw [decide_eq_true (by omega)]) (Sub.refl _)
  · exact Just.bool (by rw [decide_eq_false (by omega)]) (Sub.refl _)
/-- Few right forms. -/
def hypsOKT (fs : List Fm) : Bool := decide (fs.length ≤ 12) && fs.all fun f => decide (f.size ≤ 150)
theorem h_spec_l08Hyps (fs : List Fm) (hf : ∀ f ∈ fs, f.ok = true) (st : St) : HCalls prog n_spec_l08Hyps [fms fs] st (Just (.bool (hypsOKT fs)) st) := by
  apply c_spec_l08Hyps
  unfold b_spec_l08Hyps
  refine qb_of (x := .int .i64 fs.length) (by simp [fms]) ?_
  refine qb_of (x := .bool (decide (12 < (fs.length : Int)))) (by simp) ?_
  refine cbr_dec (fun h => Just.bool (by unfold hypsOKT; rw [decide_eq_false (by omega)]; rfl) (Sub.refl _)) (fun h => ?_)
  have he : hypsOKT fs = fs.all fun f => decide (f.size ≤ 150) := by unfold hypsOKT; rw [decide_eq_true (by omega), Bool.true_and]
  refine loop_idx (β := Unit) fs (fun _ i => [.int .i64 (i : Int)]) (fun _ => st) (fun _ i rest => (rest.all fun f => decide (f.size ≤ 150)) = hypsOKT fs) ?_ ?_ () he.symm
  · rintro i y rest c hi hy hq kk
    refine qb_of (x := .int .i64 fs.length) (by simp [fms]) ?_
    refine qb_of (x := .bool true) (by simp [hi]) ?_
    rw [cb_bool, br_true]
    refine qb_of (ia_fms .i64 hy) ?_
    refine qb_of (lfm _ _) ?_
    refine callK_just (h_spec_FormOK y (hf y (List.mem_of_getElem? hy)) _) ?_
    refine qb_of (x := .bool (!decide (y.size ≤ 150))) rfl ?_
    rw [List.all_cons] at hq
    rw [cb_bool]
    refine br_of (fun h => ?_) (fun h => ?_)
    · have h' : decide (y.size ≤ 150) = false := by simpa using h
      rw [h', Bool.false_and] at hq
      exact Just.bool hq (Sub.refl _)
    · have h' : decide (y.size ≤ 150) = true := by simpa using h
      rw [h', Bool.true_and] at hq
      refine qb_of (x := .int .i64 ((i + 1 : Nat) : Int)) (by simp; rw [wrap64 (by omega) (by omega)]) ?_
      exact kk () hq
  · rintro _ hq
    refine qb_of (x := .int .i64 fs.length) (by simp [fms]) ?_
    refine qb_of (x := .bool false) (by simp) ?_
    rw [cb_bool, br_false]
    exact Just.bool (by simpa using hq) (Sub.refl _)
end Go.H.Tryz
/- Contracts: the reference's proofs: moved, cut. -/
set_option linter.unusedVariables false
set_option linter.unusedSimpArgs false
namespace Go.H.Tryz
open Go Go.H

theorem lift_kind' (x : Pf) (k b : Nat) : (x.lift k b).kind = x.kind := by cases x <;> rfl
theorem lift_forms (x : Pf) (k b : Nat) : (x.lift k b).forms = x.forms := by cases x <;> rfl
theorem lift_num (x : Pf) (k b : Nat) : (x.lift k b).num = if x.kind = 1 ∧ (k : Int) ≤ x.num then x.num + b else x.num := by
  cases x with
  | hyp n =>
    simp only [Pf.lift, Pf.num, Pf.kind]
    by_cases h : k ≤ n
    · rw [if_pos h, if_pos ⟨trivial, by omega⟩]; omega
    · rw [if_neg h, if_neg (fun h' => h (by omega))]
  | _ => simp [Pf.lift, Pf.num, Pf.kind]
theorem lift_kidsP (x : Pf) (k b : Nat) : (x.lift k b).kids = x.kids.map fun y => y.lift (if x.kind = 5 then k + 1 else k) b := by
  cases x <;> simp [Pf.lift, Pf.kids, Pf.kind]
theorem pf_of (x : Pf) (k n : Int) (fs : List Fm) (ks : List Pf) (h1 : x.kind = k) (h2 : x.num = n) (h3 : x.forms = fs) (h4 : x.kids = ks) : pf x = .agg [.int .i64 k, .int .i64 n, .sl 3 false (fs.map fm), .sl 4 false (ks.map pf)] := by
  subst h1 h2 h3 h4; exact pf_eq x
/-- A proof being made: its row of forms grows. -/
def MkF (w : St) (v : Nat) (k n : Int) (fs : List Fm) (p : PV) (s : St) : Prop := Grow (upd w v (.cells [.int .i64 k, .int .i64 n, p, .sl 0 true []])) 3 (fs.map fm) p s
/-- Its row of kids grows. -/
def MkK (w : St) (v : Nat) (k n : Int) (fs : List Fm) (ks : List Pf) (p : PV) (s : St) : Prop := Grow (upd w v (.cells [.int .i64 k, .int .i64 n, .sl 3 false (fs.map fm), p])) 4 (ks.map pf) p s
theorem MkF.start (w : St) (v : Nat) (k n : Int) : MkF w v k n [] (.sl 0 true []) (upd w v (.cells [.int .i64 k, .int .i64 n, .sl 0 true [], .sl 0 true []])) := Grow.nil _ _ _
theorem MkF.at {w s : St} {v : Nat} {k n : Int} {fs : List Fm} {p : PV} (h : MkF w v k n fs p s) : s v = some (.cells [.int .i64 k, .int .i64 n, p, .sl 0 true []]) := h.sub _ _ (upd_same _ _ _)
theorem MkK.at {w s : St} {v : Nat} {k n : Int} {fs : List Fm} {ks : List Pf} {p : PV} (h : MkK w v k n fs ks p s) : s v = some (.cells [.int .i64 k, .int .i64 n, .sl 3 false (fs.map fm), p]) := h.sub _ _ (upd_same _ _ _)
theorem MkF.more {w s : St} {v : Nat} {k n : Int} {fs : List Fm} {p : PV} {f : Fm} {K : St → Prop} (h : MkF w v k n fs p s) (hl : fs.length ≤ 1000) (hk : ∀ p' s', MkF w v k n (fs ++ [f]) p' s' → K s') :
    e_append s 3 40 p (.sl 3 true [fm f]) fun r st => qb (q_fa 2 (.ptr v 0)) fun a => e_store st 1 a r K := by
  refine Grow.append h (elems_sl _ _ _ _) (by simp; omega) fun p' s' hg => ?_
  have hv : s' v = some (.cells [.int .i64 k, .int .i64 n, p, .sl 0 true []]) := hg.sub _ _ (upd_same _ _ _)
  obtain ⟨o1, o2, o3, o4⟩ := hg.one
  refine qb_of (x := .ptr v 2) rfl ?_
  refine e_store_ptr hv (by rw [o1]; simp [o4]) o2 o3 (by simp) ?_
  refine hk p' _ ?_
  have hs := hg.store (.cells [.int .i64 k, .int .i64 n, p', .sl 0 true []]) (upd_same _ _ _)
  rw [upd_upd] at hs
  have e : setRange [.int .i64 k, .int .i64 n, p, .sl 0 true []] 2 p'.cells = [.int .i64 k, .int .i64 n, p', .sl 0 true []] := by rw [o1]; rfl
  rw [e]
  unfold MkF
  simpa using hs
theorem MkK.more {w s : St} {v : Nat} {k n : Int} {fs : List Fm} {ks : List Pf} {p : PV} {x : Pf} {K : St → Prop} (h : MkK w v k n fs ks p s) (hl : ks.length ≤ 1000) (hk : ∀ p' s', MkK w v k n fs (ks ++ [x]) p' s' → K s') :
    e_append s 4 64 p (.sl 4 true [pf x]) fun r st => qb (q_fa 3 (.ptr v 0)) fun a => e_store st 1 a r K := by
  refine Grow.append h (elems_sl _ _ _ _) (by simp; omega) fun p' s' hg => ?_
  have hv : s' v = some (.cells [.int .i64 k, .int .i64 n, .sl 3 false (fs.map fm), p]) := hg.sub _ _ (upd_same _ _ _)
  obtain ⟨o1, o2, o3, o4⟩ := hg.one
  refine qb_of (x := .ptr v 3) rfl ?_
  refine e_store_ptr hv (by rw [o1]; simp [o4]) o2 o3 (by simp) ?_
  refine hk p' _ ?_
  have hs := hg.store (.cells [.int .i64 k, .int .i64 n, .sl 3 false (fs.map fm), p']) (upd_same _ _ _)
  rw [upd_upd] at hs
  have e : setRange [.int .i64 k, .int .i64 n, .sl 3 false (fs.map fm), p] 3 p'.cells = [.int .i64 k, .int .i64 n, .sl 3 false (fs.map fm), p'] := by rw [o1]; rfl
  rw [e]
  unfold MkK
  simpa using hs
/-- The forms are done: the row of kids begins. -/
theorem MkF.done {w s : St} {v : Nat} {k n : Int} {fs : List Fm} {p : PV} {ls : List PV} (h : MkF w v k n fs p s) : ∃ s', Conv ls s ls s' ∧ MkK w v k n fs [] (.sl 0 true []) s' := by
  have := Grow.cell (ls := ls) (pre := [.int .i64 k, .int .i64 n]) (post := [.sl 0 true []]) h (upd_same _ _ _)
  rw [upd_upd] at this
  exact ⟨_, this, Grow.nil _ _ _⟩
theorem MkK.other {w s : St} {v c : Nat} {k n : Int} {fs : List Fm} {ks : List Pf} {p : PV} {o : HObj} (h : MkK w v k n fs ks p s) (hc : c ≠ v) (ho : w c = some o) : s c = some o := Grow.sub h _ _ (by rw [upd_ne _ _ hc]; exact ho)
/-- It is made. -/
theorem MkK.freeze {w s : St} {v : Nat} {k n : Int} {fs : List Fm} {ks : List Pf} {p : PV} {x : Pf} (h : MkK w v k n fs ks p s) (h1 : x.kind = k) (h2 : x.num = n) (h3 : x.forms = fs) (h4 : x.kids = ks) :
    Conv [.agg [.int .i64 k, .int .i64 n, .sl 3 false (fs.map fm), p]] s [pf x] (upd w v (.cells [.int .i64 k, .int .i64 n, .sl 3 false (fs.map fm), p])) := by
  rw [pf_of x k n fs ks h1 h2 h3 h4]
  obtain ⟨o1, o2, o3, o4⟩ := h.one
  exact Conv.agg (Conv.cons (Conv.sub (Grow.sub h)) (Conv.cons (Conv.sub (Grow.sub h)) (Conv.cons (Conv.sub (Grow.sub h)) (Grow.freeze h)))) rfl (by show (true && (true && (true && (p.cellOK && true)))) = true; rw [o4]; rfl)
theorem h_spec_l08Move (x : Pf) (hx : Pf.le 1000000 x) : ∀ (k b : Nat), k + x.size ≤ 1000000 → b ≤ 1000000 → ∀ (st : St), HCalls prog n_spec_l08Move [pf x, .int .i64 k, .int .i64 b] st (Just (pf (x.lift k b)) st) := by
  induction x using Pf.ind with
  | _ x ih =>
  intro k b hk hb st
  have hl := pf_lens x
  have hnum := Pf.le_num hx
  have hn0 := num_pos x
  have hsz := size_sum x
  apply c_spec_l08Move
  unfold b_spec_l08Move
  refine e_box_ref (pf_isJunk _) ?_
  refine (Held.start st).alloc fun v6 w1 h1 => ?_
  refine qb_of (pfa0 _) ?_
  refine qb_of (pl0 _ _) ?_
  refine qb_of (pfa1 _) ?_
  refine qb_of (pl1 _ _) ?_
  refine qb_of (x := .agg [.int .i64 x.kind, .int .i64 x.num, .sl 0 true [], .sl 0 true []]) rfl ?_
  refine h1.alloc fun v7 w2 h2 => ?_
  refine h2.store2 (box4 _ _ _ _ rfl) rfl fun w3 h3 => ?_
  have e7 := h3.got _ (List.mem_cons_self ..)
  have e6 := h3.zat (v6, [.int .i64 0, .int .i64 0, .sl 0 true [], .sl 0 true []]) (by simp)
  have ne67 : v6 ≠ v7 := fun e => by
    have := h3.nd
    simp [e] at this
  have o6 := h3.out v6 (by simp)
  have o7 := h3.out v7 (by simp)
  refine hJ_of fun J hJ => ?_
  have main : ∀ c : Bool, c = decide (x.kind = 1 ∧ (k : Int) ≤ x.num) → J [.bool c] w3 := fun c hc => by
    refine hJ _ _ ?_
    refine hJ_of fun J1 hJ1 => ?_
    show cb (.bool c) _
    have rest : J1 [] (upd w3 v7 (.cells [.int .i64 x.kind, .int .i64 (x.lift k b).num, .sl 0 true [], .sl 0 true []])) := by
      refine hJ1 _ _ ?_
      refine loop_idx (β := PV × St) x.forms (fun _ i => [.int .i64 (i : Int)]) (fun z => z.2) (fun z i rest => MkF w3 v7 x.kind (x.lift k b).num (x.forms.take i) z.1 z.2) ?_ ?_ (.sl 0 true [], _) (MkF.start _ _ _ _)
      · rintro i y rest ⟨p, s⟩ hi hy hg kk
        simp only at hg
        have hat := hg.at
        refine qb_of (pfa2 _) ?_
        refine qb_of (pl2 _ _) ?_
        refine qb_of (x := .int .i64 x.forms.length) (by simp) ?_
        refine qb_of (x := .bool true) (by simp [hi]) ?_
        rw [cb_bool, br_true]
        refine qb_of (x := .ptr v7 2) rfl ?_
        have hlo : q_load s false 1 (.ptr v7 2) = some p := by
          obtain ⟨o1, o2, o3, o4⟩ := hg.one
          rw [q_load_ptr hat]
          show takeV false 1 [p, .sl 0 true []] = _
          unfold takeV
          cases p <;> first | rfl | (simp [PV.cellOK] at o4)
        refine qb_of hlo ?_
        refine qb_of (pfa2 _) ?_
        refine qb_of (pl2 _ _) ?_
        refine qb_of (ia_fms .i64 hy) ?_
        refine qb_of (lfm _ _) ?_
        refine callK_just (h_spec_l08Copy y _) ?_
        refine ⟨hlo, ?_⟩
        refine qb_of (x := .sl 3 true [fm y]) (by simp) ?_
        refine hg.more (by simp; omega) fun p' s' hg' => ?_
        refine qb_of (x := .int .i64 ((i + 1 : Nat) : Int)) (by simp; rw [wrap64 (by omega) (by omega)]) ?_
        refine kk (p', s') ?_
        rw [List.take_add_one, hy]
        exact hg'
      · rintro ⟨p, s⟩ hg
        simp only [List.take_length] at hg
        refine qb_of (pfa2 _) ?_
        refine qb_of (pl2 _ _) ?_
        refine qb_of (x := .int .i64 x.forms.length) (by simp) ?_
        refine qb_of (x := .bool false) (by simp) ?_
        rw [cb_bool, br_false]
        refine qb_of (pfa0 _) ?_
        refine qb_of (pl0 _ _) ?_
        refine qb_of (x := .bool (decide (x.kind = 5))) (by simp) ?_
        refine hJ_cv fun J2 hJ2 => ?_
        have kids : ∀ k' : Nat, k' = (if x.kind = 5 then k + 1 else k) → J2 [.int .i64 (k' : Int)] s := fun k' hk' => by
          have hk1 : k' ≤ k + 1 := by rw [hk']; split <;> omega
          obtain ⟨s', hcv, hmk⟩ := hg.done (ls := [.int .i64 (k' : Int)])
          refine hJ2 _ s _ s' hcv ?_
          refine loop_idx (β := PV × St) x.kids (fun _ i => [.int .i64 (i : Int)]) (fun z => z.2) (fun z i rest => MkK w3 v7 x.kind (x.lift k b).num x.forms ((x.kids.take i).map fun y => y.lift k' b) z.1 z.2) ?_ ?_ (.sl 0 true [], s') hmk
          · rintro i y rest ⟨p, s⟩ hi hy hg kk
            simp only at hg
            have hat := hg.at
            have hm := List.mem_of_getElem? hy
            have hys := sizeSum_le hm
            refine qb_of (pfa3 _) ?_
            refine qb_of (pl3 _ _) ?_
            refine qb_of (x := .int .i64 x.kids.length) (by simp) ?_
            refine qb_of (x := .bool true) (by simp [hi]) ?_
            rw [cb_bool, br_true]
            refine qb_of (x := .ptr v7 3) rfl ?_
            have hlo : q_load s false 1 (.ptr v7 3) = some p := by
              obtain ⟨o1, o2, o3, o4⟩ := hg.one
              rw [q_load_ptr hat]
              show takeV false 1 [p] = _
              unfold takeV
              cases p <;> first | rfl | (simp [PV.cellOK] at o4)
            refine qb_of hlo ?_
            refine qb_of (pfa3 _) ?_
            refine qb_of (pl3 _ _) ?_
            refine qb_of (ia_pfs .i64 hy) ?_
            refine qb_of (lpf _ _) ?_
            refine callK_just (ih y hm (Pf.le_kids hx y hm) k' b (by omega) hb _) ?_
            refine ⟨hlo, ?_⟩
            refine qb_of (x := .sl 4 true [pf (y.lift k' b)]) (by simp) ?_
            refine hg.more (by simp; omega) fun p' s' hg' => ?_
            refine qb_of (x := .int .i64 ((i + 1 : Nat) : Int)) (by simp; rw [wrap64 (by omega) (by omega)]) ?_
            refine kk (p', s') ?_
            rw [List.take_add_one, hy, List.map_append]
            exact hg'
          · rintro ⟨p, s⟩ hg
            simp only [List.take_length] at hg
            have hat := hg.at
            obtain ⟨q1, q2, q3, q4⟩ := hg.one
            refine qb_of (pfa3 _) ?_
            refine qb_of (pl3 _ _) ?_
            refine qb_of (x := .int .i64 x.kids.length) (by simp) ?_
            refine qb_of (x := .bool false) (by simp) ?_
            rw [cb_bool, br_false]
            refine qb_of (x := .agg [.int .i64 x.kind, .int .i64 (x.lift k b).num, .sl 3 false (x.forms.map fm), p]) (by rw [q_load_ptr hat]; rfl) ?_
            have e6' := hg.other ne67 e6
            refine e_store_ptr e6' (by show (true && (true && (true && (p.cellOK && true)))) = true; rw [q4]; rfl) rfl rfl (by simp) ?_
            have hs : MkK (upd w3 v6 (.cells [.int .i64 x.kind, .int .i64 (x.lift k b).num, .sl 3 false (x.forms.map fm), p])) v7 x.kind (x.lift k b).num x.forms (x.kids.map fun y => y.lift k' b) p (upd s v6 (.cells [.int .i64 x.kind, .int .i64 (x.lift k b).num, .sl 3 false (x.forms.map fm), p])) := by
              have := Grow.store hg (.cells [.int .i64 x.kind, .int .i64 (x.lift k b).num, .sl 3 false (x.forms.map fm), p]) (c := v6) (by rw [upd_ne _ _ ne67]; exact e6)
              rw [upd_comm _ _ _ (Ne.symm ne67)] at this
              exact this
            refine qb_of (x := .agg [.int .i64 x.kind, .int .i64 (x.lift k b).num, .sl 3 false (x.forms.map fm), p]) (by rw [q_load_ptr (upd_same _ _ _)]; rfl) ?_
            have hfin := hs.freeze (x := x.lift k b) (lift_kind' x k b) rfl (lift_forms x k b) (by rw [lift_kidsP, hk'])
            refine Just.conv (Conv.trans hfin (Conv.sub fun c o hc => ?_))
            have n6 : c ≠ v6 := fun e => by rw [e, o6] at hc; cases hc
            have n7 : c ≠ v7 := fun e => by rw [e, o7] at hc; cases hc
            rw [upd_ne _ _ n7, upd_ne _ _ n6]
            exact h3.sub c o hc
        refine cbr_dec (fun h5 => ?_) (fun h5 => ?_)
        · refine qb_of (x := .int .i64 ((k + 1 : Nat) : Int)) (by simp; rw [wrap64 (by omega) (by omega)]) ?_
          exact kids (k + 1) (by rw [if_pos h5])
        · exact kids k (by rw [if_neg h5])
    refine br_of (fun ht => ?_) (fun ht => ?_)
    · rw [ht] at hc
      have hc := of_decide_eq_true hc.symm
      have hnn : (x.lift k b).num = x.num + b := by rw [lift_num, if_pos hc]
      refine qb_of (x := .ptr v7 1) rfl ?_
      refine qb_of (x := .int .i64 x.num) (by rw [q_load_ptr e7]; rfl) ?_
      refine qb_of (x := .int .i64 (x.num + b)) (by simp; rw [wrap64 (by omega) (by omega)]) ?_
      refine qb_of (x := .ptr v7 1) rfl ?_
      refine e_store_ptr e7 rfl rfl rfl (by simp [PV.cells]) ?_
      rw [hnn] at rest
      exact rest
    · rw [ht] at hc
      have hc := of_decide_eq_false hc.symm
      have hnn : (x.lift k b).num = x.num := by rw [lift_num, if_neg hc]
      rw [hnn] at rest
      have e : upd w3 v7 (.cells [.int .i64 x.kind, .int .i64 x.num, .sl 0 true [], .sl 0 true []]) = w3 := by
        funext c
        unfold upd
        split
        · rename_i h; rw [h]; exact e7.symm
        · rfl
      rw [e] at rest
      exact rest
  refine qb_of (pfa0 _) ?_
  refine qb_of (pl0 _ _) ?_
  refine qb_of (x := .bool (decide (x.kind = 1))) (by simp) ?_
  refine cbr_dec (fun h => ?_) (fun h => ?_)
  · refine qb_of (pfa1 _) ?_
    refine qb_of (pl1 _ _) ?_
    refine qb_of (x := .bool (decide ((k : Int) ≤ x.num))) (by simp) ?_
    refine main _ ?_
    congr 1
    exact propext ⟨fun h2 => ⟨h, h2⟩, fun h2 => h2.2⟩
  · exact main false (decide_eq_false (fun h2 => h h2.1)).symm
end Go.H.Tryz
/- Contracts: the reference's proofs: a proof put for a hypothesis. -/
set_option linter.unusedVariables false
set_option linter.unusedSimpArgs false
namespace Go.H.Tryz
open Go Go.H

theorem pf_hyp {x : Pf} (h : x.kind = 1) : ∃ n : Nat, x = .hyp n := by cases x <;> simp [Pf.kind] at h ⊢
theorem cut_node {m x : Pf} (h : x.kind ≠ 1) (k : Nat) : (m.cut x k).kind = x.kind ∧ (m.cut x k).num = 0 ∧ (m.cut x k).forms = x.forms ∧ (m.cut x k).kids = x.kids.map fun y => m.cut y (if x.kind = 5 then k + 1 else k) := by
  cases x <;> simp_all [Pf.cut, Pf.kind, Pf.num, Pf.forms, Pf.kids]
theorem h_spec_l08Cut (m : Pf) (hm0 : Pf.le 1000000 m) (hms : m.size ≤ 1000) (x : Pf) (hx : Pf.le 1000000 x) : ∀ (k : Nat), k + x.size ≤ 100000 → ∀ (st : St), HCalls prog n_spec_l08Cut [pf m, pf x, .int .i64 k] st (Just (pf (m.cut x k)) st) := by
  induction x using Pf.ind with
  | _ x ih =>
  intro k hk st
  have hl := pf_lens x
  have hsz := size_sum x
  apply c_spec_l08Cut
  unfold b_spec_l08Cut
  refine e_box_ref (pf_isJunk _) ?_
  refine e_box_ref (pf_isJunk _) ?_
  refine (Held.start st).alloc fun v6 w1 h01 => ?_
  refine qb_of (pfa0 _) ?_
  refine qb_of (pl0 _ _) ?_
  refine qb_of (x := .bool (decide (x.kind = 1))) (by simp) ?_
  refine cbr_dec (fun h1 => ?_) (fun h1 => ?_)
  · obtain ⟨n, rfl⟩ := pf_hyp h1
    have hn : n ≤ 1000000 := hx
    refine qb_of (pfa1 _) ?_
    refine qb_of (x := .int .i64 (n : Int)) (pl1 _ _) ?_
    refine qb_of (x := .bool (decide ((n : Int) = k))) (by simp) ?_
    refine cbr_dec (fun h => ?_) (fun h => ?_)
    · refine qb_of (lpf _ _) ?_
      refine callK_just (h_spec_l08Move m hm0 0 k (by omega) (by omega) _) ?_
      refine h01.store (Box.pf _) rfl fun w2 h2 => ?_
      refine qb_of (h2.top (Box.pf _)) ?_
      have e : m.cut (.hyp n) k = m.lift 0 k := by unfold Pf.cut; rw [if_pos (by omega)]
      rw [e]
      exact Just.ret h2.sub
    · refine qb_of (pfa1 _) ?_
      refine qb_of (x := .int .i64 (n : Int)) (pl1 _ _) ?_
      refine qb_of (x := .bool (decide ((k : Int) < n))) (by simp) ?_
      refine cbr_dec (fun h' => ?_) (fun h' => ?_)
      · refine qb_of (pfa1 _) ?_
        refine qb_of (x := .int .i64 (n : Int)) (pl1 _ _) ?_
        refine qb_of (qdec (by omega)) ?_
        refine qb_of (x := .agg [.int .i64 1, .int .i64 ((n : Int) - 1), .sl 0 true [], .sl 0 true []]) rfl ?_
        refine h01.store (box4 _ _ _ _ rfl) rfl fun w2 h2 => ?_
        refine qb_of (h2.top (box4 _ _ _ _ rfl)) ?_
        have e : m.cut (.hyp n) k = .hyp (n - 1) := by unfold Pf.cut; rw [if_neg (by omega), if_pos (by omega)]
        rw [e]
        exact Just.conv (Conv.trans (conv_pf w2 1 ((n : Int) - 1) 0 0 true true [] [] (.hyp (n - 1)) ⟨rfl, by simp only [Pf.num]; omega, rfl, rfl⟩ (.inr rfl) (.inr rfl)) (Conv.sub h2.sub))
      · refine qb_of (pfa1 _) ?_
        refine qb_of (x := .int .i64 (n : Int)) (pl1 _ _) ?_
        refine qb_of (x := .agg [.int .i64 1, .int .i64 (n : Int), .sl 0 true [], .sl 0 true []]) rfl ?_
        refine h01.store (box4 _ _ _ _ rfl) rfl fun w2 h2 => ?_
        refine qb_of (h2.top (box4 _ _ _ _ rfl)) ?_
        have e : m.cut (.hyp n) k = .hyp n := by unfold Pf.cut; rw [if_neg (by omega), if_neg (by omega)]
        rw [e]
        exact Just.conv (Conv.trans (conv_pf w2 1 (n : Int) 0 0 true true [] [] (.hyp n) ⟨rfl, rfl, rfl, rfl⟩ (.inr rfl) (.inr rfl)) (Conv.sub h2.sub))
  · refine qb_of (pfa0 _) ?_
    refine qb_of (pl0 _ _) ?_
    refine qb_of (x := .agg [.int .i64 x.kind, .int .i64 0, .sl 0 true [], .sl 0 true []]) rfl ?_
    refine h01.alloc fun v7 w2 h2 => ?_
    refine h2.store2 (box4 _ _ _ _ rfl) rfl fun w3 h3 => ?_
    have e7 := h3.got _ (List.mem_cons_self ..)
    have e6 := h3.zat (v6, [.int .i64 0, .int .i64 0, .sl 0 true [], .sl 0 true []]) (by simp)
    have ne67 : v6 ≠ v7 := fun e => by
      have := h3.nd
      simp [e] at this
    have o6 := h3.out v6 (by simp)
    have o7 := h3.out v7 (by simp)
    have e : upd w3 v7 (.cells [.int .i64 x.kind, .int .i64 0, .sl 0 true [], .sl 0 true []]) = w3 := by
      funext c
      unfold upd
      split
      · rename_i h; rw [h]; exact e7.symm
      · rfl
    have start := MkF.start w3 v7 x.kind 0
    rw [e] at start
    refine loop_idx (β := PV × St) x.forms (fun _ i => [.int .i64 (i : Int)]) (fun z => z.2) (fun z i rest => MkF w3 v7 x.kind 0 (x.forms.take i) z.1 z.2) ?_ ?_ (.sl 0 true [], w3) start
    · rintro i y rest ⟨p, s⟩ hi hy hg kk
      simp only at hg
      have hat := hg.at
      refine qb_of (pfa2 _) ?_
      refine qb_of (pl2 _ _) ?_
      refine qb_of (x := .int .i64 x.forms.length) (by simp) ?_
      refine qb_of (x := .bool true) (by simp [hi]) ?_
      rw [cb_bool, br_true]
      refine qb_of (x := .ptr v7 2) rfl ?_
      have hlo : q_load s false 1 (.ptr v7 2) = some p := by
        obtain ⟨o1, o2, o3, o4⟩ := hg.one
        rw [q_load_ptr hat]
        show takeV false 1 [p, .sl 0 true []] = _
        unfold takeV
        cases p <;> first | rfl | (simp [PV.cellOK] at o4)
      refine qb_of hlo ?_
      refine qb_of (pfa2 _) ?_
      refine qb_of (pl2 _ _) ?_
      refine qb_of (ia_fms .i64 hy) ?_
      refine qb_of (lfm _ _) ?_
      refine callK_just (h_spec_l08Copy y _) ?_
      refine ⟨hlo, ?_⟩
      refine qb_of (x := .sl 3 true [fm y]) (by simp) ?_
      refine hg.more (by simp; omega) fun p' s' hg' => ?_
      refine qb_of (x := .int .i64 ((i + 1 : Nat) : Int)) (by simp; rw [wrap64 (by omega) (by omega)]) ?_
      refine kk (p', s') ?_
      rw [List.take_add_one, hy]
      exact hg'
    · rintro ⟨p, s⟩ hg
      simp only [List.take_length] at hg
      refine qb_of (pfa2 _) ?_
      refine qb_of (pl2 _ _) ?_
      refine qb_of (x := .int .i64 x.forms.length) (by simp) ?_
      refine qb_of (x := .bool false) (by simp) ?_
      rw [cb_bool, br_false]
      refine qb_of (pfa0 _) ?_
      refine qb_of (pl0 _ _) ?_
      refine qb_of (x := .bool (decide (x.kind = 5))) (by simp) ?_
      refine hJ_cv fun J2 hJ2 => ?_
      have kids : ∀ k' : Nat, k' = (if x.kind = 5 then k + 1 else k) → J2 [.int .i64 (k' : Int)] s := fun k' hk' => by
        have hk1 : k' ≤ k + 1 := by rw [hk']; split <;> omega
        obtain ⟨s', hcv, hmk⟩ := hg.done (ls := [.int .i64 (k' : Int)])
        refine hJ2 _ s _ s' hcv ?_
        refine loop_idx (β := PV × St) x.kids (fun _ i => [.int .i64 (i : Int)]) (fun z => z.2) (fun z i rest => MkK w3 v7 x.kind 0 x.forms ((x.kids.take i).map fun y => m.cut y k') z.1 z.2) ?_ ?_ (.sl 0 true [], s') hmk
        · rintro i y rest ⟨p, s⟩ hi hy hg kk
          simp only at hg
          have hat := hg.at
          have hm := List.mem_of_getElem? hy
          have hys := sizeSum_le hm
          refine qb_of (pfa3 _) ?_
          refine qb_of (pl3 _ _) ?_
          refine qb_of (x := .int .i64 x.kids.length) (by simp) ?_
          refine qb_of (x := .bool true) (by simp [hi]) ?_
          rw [cb_bool, br_true]
          refine qb_of (x := .ptr v7 3) rfl ?_
          have hlo : q_load s false 1 (.ptr v7 3) = some p := by
            obtain ⟨o1, o2, o3, o4⟩ := hg.one
            rw [q_load_ptr hat]
            show takeV false 1 [p] = _
            unfold takeV
            cases p <;> first | rfl | (simp [PV.cellOK] at o4)
          refine qb_of hlo ?_
          refine qb_of (lpf _ _) ?_
          refine qb_of (pfa3 _) ?_
          refine qb_of (pl3 _ _) ?_
          refine qb_of (ia_pfs .i64 hy) ?_
          refine qb_of (lpf _ _) ?_
          refine callK_just (ih y hm (Pf.le_kids hx y hm) k' (by omega) _) ?_
          refine ⟨hlo, ?_⟩
          refine qb_of (x := .sl 4 true [pf (m.cut y k')]) (by simp) ?_
          refine hg.more (by simp; omega) fun p' s' hg' => ?_
          refine qb_of (x := .int .i64 ((i + 1 : Nat) : Int)) (by simp; rw [wrap64 (by omega) (by omega)]) ?_
          refine kk (p', s') ?_
          rw [List.take_add_one, hy, List.map_append]
          exact hg'
        · rintro ⟨p, s⟩ hg
          simp only [List.take_length] at hg
          have hat := hg.at
          obtain ⟨q1, q2, q3, q4⟩ := hg.one
          refine qb_of (pfa3 _) ?_
          refine qb_of (pl3 _ _) ?_
          refine qb_of (x := .int .i64 x.kids.length) (by simp) ?_
          refine qb_of (x := .bool false) (by simp) ?_
          rw [cb_bool, br_false]
          refine qb_of (x := .agg [.int .i64 x.kind, .int .i64 0, .sl 3 false (x.forms.map fm), p]) (by rw [q_load_ptr hat]; rfl) ?_
          have e6' := hg.other ne67 e6
          refine e_store_ptr e6' (by show (true && (true && (true && (p.cellOK && true)))) = true; rw [q4]; rfl) rfl rfl (by simp) ?_
          have hs : MkK (upd w3 v6 (.cells [.int .i64 x.kind, .int .i64 0, .sl 3 false (x.forms.map fm), p])) v7 x.kind 0 x.forms (x.kids.map fun y => m.cut y k') p (upd s v6 (.cells [.int .i64 x.kind, .int .i64 0, .sl 3 false (x.forms.map fm), p])) := by
            have := Grow.store hg (.cells [.int .i64 x.kind, .int .i64 0, .sl 3 false (x.forms.map fm), p]) (c := v6) (by rw [upd_ne _ _ ne67]; exact e6)
            rw [upd_comm _ _ _ (Ne.symm ne67)] at this
            exact this
          refine qb_of (x := .agg [.int .i64 x.kind, .int .i64 0, .sl 3 false (x.forms.map fm), p]) (by rw [q_load_ptr (upd_same _ _ _)]; rfl) ?_
          have hfin := hs.freeze (x := m.cut x k) (cut_node h1 k).1 (cut_node h1 k).2.1 (cut_node h1 k).2.2.1 (by rw [(cut_node h1 k).2.2.2, hk'])
          refine Just.conv (Conv.trans hfin (Conv.sub fun c o hc => ?_))
          have n6 : c ≠ v6 := fun e => by rw [e, o6] at hc; cases hc
          have n7 : c ≠ v7 := fun e => by rw [e, o7] at hc; cases hc
          rw [upd_ne _ _ n7, upd_ne _ _ n6]
          exact h3.sub c o hc
      refine cbr_dec (fun h5 => ?_) (fun h5 => ?_)
      · refine qb_of (x := .int .i64 ((k + 1 : Nat) : Int)) (by simp; rw [wrap64 (by omega) (by omega)]) ?_
        exact kids (k + 1) (by rw [if_pos h5])
      · exact kids k (by rw [if_neg h5])
end Go.H.Tryz
/- Contracts: the reference's proofs: what they prove. -/
set_option linter.unusedVariables false
set_option linter.unusedSimpArgs false
namespace Go.H.Tryz
open Go Go.H

theorem h_spec_l08Same (f g : Fm) (st : St) : HCalls prog n_spec_l08Same [fm f, fm g] st (Just (.bool (decide (f = g))) st) := by
  induction f using Fm.ind generalizing g st with
  | _ f ih =>
  apply c_spec_l08Same
  unfold b_spec_l08Same
  generalize hv : decide (f = g) = v
  refine e_box_ref (fm_isJunk _) ?_
  refine e_box_ref (fm_isJunk _) ?_
  have hfk := fm_kids_le f
  have no : ¬ (f.kind = g.kind ∧ f.num = g.num ∧ f.kids = g.kids) → false = v := fun h => by rw [← hv, decide_eq_false (fun e => h (by rw [e]; exact ⟨rfl, rfl, rfl⟩))]
  refine qb_of (x := .ref (fm f).cells) (by simp [q_fa]) ?_
  refine qb_of (x := .int .i64 f.kind) (by simp) ?_
  refine qb_of (x := .ref (fm g).cells) (by simp [q_fa]) ?_
  refine qb_of (x := .int .i64 g.kind) (by simp) ?_
  refine qb_of (x := .bool (decide (f.kind ≠ g.kind))) (by simp) ?_
  refine br_dec (fun h1 => Just.bool (no fun h => h1 h.1) (Sub.refl _)) (fun h1 => ?_)
  refine qb_of (x := .ref ((fm f).cells.drop 1)) (by simp [q_fa]) ?_
  refine qb_of (x := .int .i64 f.num) (by simp) ?_
  refine qb_of (x := .ref ((fm g).cells.drop 1)) (by simp [q_fa]) ?_
  refine qb_of (x := .int .i64 g.num) (by simp) ?_
  refine qb_of (x := .bool (decide (f.num ≠ g.num))) (by simp) ?_
  refine br_dec (fun h2 => Just.bool (no fun h => h2 h.2.1) (Sub.refl _)) (fun h2 => ?_)
  have k2 : ∀ h : Fm, q_fa 2 (.ref (fm h).cells) = some (.ref ((fm h).cells.drop 2)) := fun h => by simp [q_fa]
  have l2 : ∀ (h : Fm) (s : St), q_load s false 1 (.ref ((fm h).cells.drop 2)) = some (.sl 3 false (h.kids.map fm)) := fun h s => by simp
  refine qb_of (k2 f) ?_
  refine qb_of (l2 f _) ?_
  refine qb_of (x := .int .i64 f.kids.length) (by simp) ?_
  refine qb_of (k2 g) ?_
  refine qb_of (l2 g _) ?_
  refine qb_of (x := .int .i64 g.kids.length) (by simp) ?_
  refine qb_of (x := .bool (decide (f.kids.length ≠ g.kids.length))) (by simp; omega) ?_
  refine br_dec (fun h3 => Just.bool (no fun h => h3 (by rw [h.2.2])) (Sub.refl _)) (fun h3 => ?_)
  refine loop_idx (β := Unit) f.kids (fun _ i => [.int .i64 (i : Int)]) (fun _ => st) (fun _ i rest => (f.kids = g.kids ↔ rest = g.kids.drop i)) ?_ ?_ () (by simp)
  · intro i x rest _ hi hx hq kk
    obtain ⟨y, hy⟩ : ∃ y, g.kids[i]? = some y := ⟨g.kids[i]'(by omega), List.getElem?_eq_getElem _⟩
    refine qb_of (k2 f) ?_
    refine qb_of (l2 f _) ?_
    refine qb_of (x := .int .i64 f.kids.length) (by simp) ?_
    refine qb_of (x := .bool true) (by simp [hi]) ?_
    rw [cb_bool, br_true]
    refine qb_of (k2 f) ?_
    refine qb_of (l2 f _) ?_
    refine qb_of (ia_fms .i64 hx) ?_
    refine qb_of (x := fm x) (by simp) ?_
    refine qb_of (k2 g) ?_
    refine qb_of (l2 g _) ?_
    refine qb_of (ia_fms .i64 hy) ?_
    refine qb_of (x := fm y) (by simp) ?_
    refine callK_just (ih x (List.mem_of_getElem? hx) y _) ?_
    refine qb_of (x := .bool (decide (x ≠ y))) (by simp) ?_
    rw [drop_some hy, List.cons.injEq] at hq
    refine br_dec (fun h => Just.bool (no fun hh => h (hq.1 hh.2.2).1) (Sub.refl _)) (fun h => ?_)
    refine qb_of (x := .int .i64 ((i + 1 : Nat) : Int)) (by simp; rw [wrap64 (by omega) (by omega)]) ?_
    exact kk () (by rw [hq]; simp only [Decidable.not_not] at h; simp [h])
  · intro _ hq
    refine qb_of (k2 f) ?_
    refine qb_of (l2 f _) ?_
    refine qb_of (x := .int .i64 f.kids.length) (by simp) ?_
    refine qb_of (x := .bool false) (by simp) ?_
    rw [cb_bool, br_false]
    refine Just.bool ?_ (Sub.refl _)
    simp only [Decidable.not_not] at h1 h2 h3
    rw [← hv, decide_eq_true (Fm.ext_of h1 h2 (hq.2 ?_))]
    rw [List.drop_of_length_le (by omega)]
/-- Proofs of what is wanted, one by one. -/
def Prvs (G : List Fm) : List Pf → List Fm → Prop
  | [], [] => True
  | p :: ps, f :: fs => Prv G p f ∧ Prvs G ps fs
  | _, _ => False
theorem Prvs.get {G : List Fm} : ∀ {ps : List Pf} {fs : List Fm}, Prvs G ps fs → ps.length = fs.length ∧ ∀ (i : Nat) (p : Pf), ps[i]? = some p → ∃ f, fs[i]? = some f ∧ Prv G p f
  | [], [], _ => ⟨rfl, by simp⟩
  | p :: ps, f :: fs, ⟨h1, h2⟩ => by
    obtain ⟨e, h⟩ := Prvs.get h2
    refine ⟨by simp [e], fun i q hq => ?_⟩
    cases i with
    | zero => simp at hq; subst hq; exact ⟨f, rfl, h1⟩
    | succ i => simp at hq; exact h i q hq
  | [], _ :: _, h => h.elim
  | _ :: _, [], h => h.elim
theorem h_spec_l08Proves (x : Pf) : ∀ (G : List Fm) (f : Fm), Prv G x f → G.length + x.size ≤ 100000 → ∀ (at_ : Int), 0 ≤ at_ → at_ + x.size ≤ 1000000 → ∀ (st : St), HCalls prog n_spec_l08Proves [fms G.reverse, pf x, .int .i64 at_] st (Just (.tup [fm f, .int .i64 0, .int .i64 0]) st) := by
  induction x using Pf.ind with
  | _ x ih =>
  intro G f hp hG at_ ha0 ha st
  have hl := pf_lens x
  have hsz := size_sum x
  apply c_spec_l08Proves
  unfold b_spec_l08Proves
  refine e_box_ref (pf_isJunk _) ?_
  refine (Held.start st).alloc fun v6 w1 h1 => ?_
  refine qb_of (x := .agg [.int .i64 0, .int .i64 0, .sl 0 true []]) rfl ?_
  refine h1.alloc fun v9 w2 h2 => ?_
  refine h2.store2 (box3 _ _ _ rfl) rfl fun w3 h3 => ?_
  refine qb_of (pfa0 _) ?_
  refine qb_of (pl0 _ _) ?_
  refine qb_of (x := .bool (decide (x.kind = 1))) (by simp) ?_
  refine cbr_dec (fun hk => ?_) (fun hk => ?_)
  · obtain ⟨n, rfl⟩ := pf_hyp hk
    cases hp with
    | hyp hn =>
      have hlt := (List.getElem?_eq_some_iff.1 hn).1
      refine qb_of (pfa1 _) ?_
      refine qb_of (x := .int .i64 (n : Int)) (pl1 _ _) ?_
      refine qb_of (x := .int .i64 (G.length : Int)) (by simp [fms]) ?_
      refine qb_of (x := .bool false) (by simp; omega) ?_
      rw [cb_bool, br_false]
      refine qb_of (x := .int .i64 (G.length : Int)) (by simp [fms]) ?_
      refine qb_of (qdec (by omega)) ?_
      refine qb_of (pfa1 _) ?_
      refine qb_of (x := .int .i64 (n : Int)) (pl1 _ _) ?_
      refine qb_of (x := .int .i64 ((G.length - 1 - n : Nat) : Int)) (by simp; rw [wrap64 (by omega) (by omega)]; omega) ?_
      refine qb_of (ia_fms .i64 (f := f) (by rw [List.getElem?_reverse (by omega), show G.length - 1 - (G.length - 1 - n) = n by omega]; exact hn)) ?_
      refine qb_of (lfm _ _) ?_
      refine h3.store (Box.fm f) rfl fun w4 h4 => ?_
      refine qb_of (h4.top (Box.fm f)) ?_
      exact Just.ret h4.sub
  · -- the first form
    obtain ⟨a, fs, hfs⟩ : ∃ a fs, x.forms = a :: fs := by cases x <;> simp [Pf.kind, Pf.forms] at hk ⊢
    refine qb_of (pfa2 _) ?_
    refine qb_of (x := .sl 3 false ((a :: fs).map fm)) (by rw [← hfs]; exact pl2 _ _) ?_
    refine qb_of (x := .ref (fm a).cells) rfl ?_
    refine qb_of (lfm _ _) ?_
    refine h3.alloc fun v10 w4 h4 => ?_
    refine h4.store2 (Box.fm a) rfl fun w5 h5 => ?_
    refine qb_of (x := .agg [.int .i64 4, .int .i64 0, .sl 0 true []]) rfl ?_
    refine h5.alloc fun v11 w6 h6 => ?_
    refine h6.store2 (box3 _ _ _ rfl) rfl fun w7 h7 => ?_
    refine qb_of (pfa2 _) ?_
    refine qb_of (x := .sl 3 false ((a :: fs).map fm)) (by rw [← hfs]; exact pl2 _ _) ?_
    refine qb_of (x := .int .i64 ((fs.length + 1 : Nat) : Int)) (by simp) ?_
    refine qb_of (x := .bool (decide (fs ≠ []))) (by
      cases fs with
      | nil => rfl
      | cons b r => simp; omega) ?_
    refine hJ_cv fun J hJ => ?_
    have main : ∀ (b : Fm) (s : St) (w8 : St), (match fs with | b' :: _ => b = b' | [] => b = .bot) → Held st w8 [(v11, fm b), (v10, fm a), (v9, .agg [.int .i64 0, .int .i64 0, .sl 0 true []])] [(v6, z3f)] → Conv [] s [] w8 → J [] s := fun b s w8 hb h8 hcv => by
      refine hJ [] s [] w8 hcv ?_
      refine qb_of (x := .sl 3 true []) rfl ?_
      refine qb_of (x := .agg [.int .i64 0, .int .i64 0, .sl 0 true []]) rfl ?_
      refine h8.alloc fun v13 w9 h9 => ?_
      refine h9.store2 (box3 _ _ _ rfl) rfl fun w10 h10 => ?_
      refine qb_of (pfa0 _) ?_
      refine qb_of (pl0 _ _) ?_
      refine hJ_of fun J1 hJ1 => ?_
      have e13 := h10.got _ (List.mem_cons_self ..)
      -- what comes behind
      have main2 : ∀ (G' ws : List Fm), Prvs G' x.kids ws → G'.length ≤ G.length + 1 → ws.length ≤ 2 → J1 [fms G'.reverse, .sl 3 true (ws.map fm)] (upd w10 v13 (.cells (fm f).cells)) := fun G' ws hpr hG' hws => by
        have h11 := h10.again (y := fm f)
        generalize upd w10 v13 (.cells (fm f).cells) = w at h11
        obtain ⟨hlen, hget⟩ := hpr.get
        refine hJ1 _ _ ?_
        refine qb_of (x := .int .i64 (at_ + 1)) (by simp; rw [wrap64 (by omega) (by omega)]) ?_
        refine hJ_of fun J2 hJ2 => ?_
        refine loop_idx (β := Int × St) x.kids (fun z i => [.int .i64 z.1, .int .i64 (i : Int)]) (fun z => z.2) (fun z i rest => 0 ≤ z.1 ∧ z.1 + sizeSum rest = at_ + x.size ∧ Sub w z.2) ?_ ?_ (at_ + 1, w) ⟨by simp only; omega, by simp only; omega, Sub.refl w⟩
        · rintro i y rest ⟨c, s⟩ hi hy ⟨hc0, hc, hs⟩ kk
          simp only at hc0 hc hs
          have hm := List.mem_of_getElem? hy
          have hys := sizeSum_le hm
          obtain ⟨g, hg, hpg⟩ := hget i y hy
          have hc' : c + (y.size + sizeSum rest : Nat) = at_ + x.size := by rw [← hc]; simp [sizeSum]
          refine qb_of (pfa3 _) ?_
          refine qb_of (pl3 _ _) ?_
          refine qb_of (x := .int .i64 x.kids.length) (by simp) ?_
          refine qb_of (x := .bool true) (by simp [hi]) ?_
          rw [cb_bool, br_true]
          refine qb_of (pfa3 _) ?_
          refine qb_of (pl3 _ _) ?_
          refine qb_of (ia_pfs .i64 hy) ?_
          refine qb_of (lpf _ _) ?_
          refine callK_just (ih y hm G' g hpg (by omega) c hc0 (by omega) _) ?_
          refine qb_of (x := fm g) rfl ?_
          refine qb_of (x := .int .i64 0) rfl ?_
          refine qb_of (x := .int .i64 0) rfl ?_
          refine (Held.start s).new (Box.fm g) rfl fun v16 s2 k2 => ?_
          refine qb_of (x := .bool false) rfl ?_
          rw [cb_bool, br_false]
          refine qb_of (k2.top (Box.fm g)) ?_
          refine qb_of (x := .ref (fm g).cells) (by
            obtain ⟨hi', hgi⟩ := List.getElem?_eq_some_iff.1 hg
            show q_ia 3 (.sl 3 true (ws.map fm)) (.int .i64 (i : Int)) = _
            simp [q_ia, hi', hgi]) ?_
          refine qb_of (lfm _ _) ?_
          refine callK_just (h_spec_l08Same g g _) ?_
          refine qb_of (x := .bool false) (by simp) ?_
          rw [cb_bool, br_false]
          refine qb_of (pfa3 _) ?_
          refine qb_of (pl3 _ _) ?_
          refine qb_of (ia_pfs .i64 hy) ?_
          refine qb_of (lpf _ _) ?_
          refine callK_just (h_spec_l08Size y (by omega) _) ?_
          refine qb_of (x := .int .i64 (c + y.size)) (by simp; rw [wrap64 (by omega) (by omega)]) ?_
          refine qb_of (x := .int .i64 ((i + 1 : Nat) : Int)) (by simp; rw [wrap64 (by omega) (by omega)]) ?_
          exact kk (c + y.size, s2) ⟨by simp only; omega, by simp only; omega, hs.trans k2.sub⟩
        · rintro ⟨c, s⟩ ⟨hc0, hc, hs⟩
          simp only at hs
          have hs' := h11.grow hs
          refine qb_of (pfa3 _) ?_
          refine qb_of (pl3 _ _) ?_
          refine qb_of (x := .int .i64 x.kids.length) (by simp) ?_
          refine qb_of (x := .bool false) (by simp) ?_
          rw [cb_bool, br_false]
          refine hJ2 _ _ ?_
          refine qb_of (hs'.ldf (f := f) (by simp)) ?_
          refine hs'.store (Box.fm f) rfl fun s2 k2 => ?_
          refine qb_of (k2.top (Box.fm f)) ?_
          exact Just.ret k2.sub
      have st13 : ∀ (g : Fm) (K : St → Prop), K (upd w10 v13 (.cells (fm g).cells)) → e_store w10 3 (.ptr v13 0) (fm g) K := fun g K hK => by
        refine e_store_ptr e13 (fm_cellOK g) (fm_ncells g) (fm_isJunk g) (by simp [PV.cells]) ?_
        rw [show setRange (PV.agg [.int .i64 0, .int .i64 0, .sl 0 true []]).cells 0 (fm g).cells = (fm g).cells from fm_set g _ _ _]
        exact hK
      have l10 : q_load w10 true 3 (.ptr v10 0) = some (fm a) := h10.ldf (by simp)
      have l11 : q_load w10 true 3 (.ptr v11 0) = some (fm b) := h10.ldf (by simp)
      have one : ∀ g : Fm, q_lit 3 1 0 [] [(0, fm g)] = some (.sl 3 true ([g].map fm)) := fun g => by simp
      have two : ∀ g h : Fm, q_lit 3 2 0 [] [(0, fm g), (1, fm h)] = some (.sl 3 true ([g, h].map fm)) := fun g h => by simp
      cases hp with
      | hyp hn => exact absurd rfl hk
      | @andI _ a' b' p q hp hq =>
        have ea : a' = a ∧ [b'] = fs := by simpa [Pf.forms] using hfs
        obtain ⟨rfl, rfl⟩ := ea
        simp only at hb
        subst hb
        refine qb_of (x := .bool true) rfl ?_
        rw [cb_bool, br_true]
        refine qb_of l10 ?_
        refine qb_of l11 ?_
        refine qb_of (two _ _) ?_
        refine qb_of l10 ?_
        refine qb_of l11 ?_
        refine callK_just (h_spec_l08Two 2 _ _ (.inl rfl) _) ?_
        refine st13 _ _ ?_
        exact main2 G [_, _] (show Prvs G [p, q] [_, _] from ⟨hp, hq, trivial⟩) (by omega) (by simp)
      | @fst _ _ b' p hp =>
        have ea : f = a ∧ [b'] = fs := by simpa [Pf.forms] using hfs
        obtain ⟨rfl, rfl⟩ := ea
        simp only at hb
        subst hb
        refine qb_of (x := .bool false) rfl ?_
        rw [cb_bool, br_false]
        refine qb_of (x := .bool true) rfl ?_
        rw [cb_bool, br_true]
        refine qb_of l10 ?_
        refine qb_of l11 ?_
        refine callK_just (h_spec_l08Two 2 _ _ (.inl rfl) _) ?_
        refine qb_of (one _) ?_
        refine qb_of l10 ?_
        refine st13 _ _ ?_
        exact main2 G [_] (show Prvs G [p] [_] from ⟨hp, trivial⟩) (by omega) (by simp)
      | @snd _ a' _ p hp =>
        have ea : a' = a ∧ [f] = fs := by simpa [Pf.forms] using hfs
        obtain ⟨rfl, rfl⟩ := ea
        simp only at hb
        subst hb
        refine qb_of (x := .bool false) rfl ?_
        rw [cb_bool, br_false]
        refine qb_of (x := .bool false) rfl ?_
        rw [cb_bool, br_false]
        refine qb_of (x := .bool true) rfl ?_
        rw [cb_bool, br_true]
        refine qb_of l10 ?_
        refine qb_of l11 ?_
        refine callK_just (h_spec_l08Two 2 _ _ (.inl rfl) _) ?_
        refine qb_of (one _) ?_
        refine qb_of l11 ?_
        refine st13 _ _ ?_
        exact main2 G [_] (show Prvs G [p] [_] from ⟨hp, trivial⟩) (by omega) (by simp)
      | @funI _ a' b' p hp =>
        have ea : a' = a ∧ [b'] = fs := by simpa [Pf.forms] using hfs
        obtain ⟨rfl, rfl⟩ := ea
        simp only at hb
        subst hb
        refine qb_of (x := .bool false) rfl ?_
        rw [cb_bool, br_false]
        refine qb_of (x := .bool false) rfl ?_
        rw [cb_bool, br_false]
        refine qb_of (x := .bool false) rfl ?_
        rw [cb_bool, br_false]
        refine qb_of (x := .bool true) rfl ?_
        rw [cb_bool, br_true]
        refine qb_of l11 ?_
        refine qb_of (one _) ?_
        refine qb_of l10 ?_
        refine callK_just (h_spec_l08More G.reverse _ (by simp; omega) _) ?_
        refine qb_of l10 ?_
        refine qb_of l11 ?_
        refine callK_just (h_spec_l08Two 3 _ _ (.inr rfl) _) ?_
        refine st13 _ _ ?_
        have := main2 (_ :: G) [_] (show Prvs (_ :: G) [p] [_] from ⟨hp, trivial⟩) (by simp) (by simp)
        rw [List.reverse_cons] at this
        exact this
      | @use _ a' _ p q hp hq =>
        have ea : a' = a ∧ [f] = fs := by simpa [Pf.forms] using hfs
        obtain ⟨rfl, rfl⟩ := ea
        simp only at hb
        subst hb
        refine qb_of (x := .bool false) rfl ?_
        rw [cb_bool, br_false]
        refine qb_of (x := .bool false) rfl ?_
        rw [cb_bool, br_false]
        refine qb_of (x := .bool false) rfl ?_
        rw [cb_bool, br_false]
        refine qb_of (x := .bool false) rfl ?_
        rw [cb_bool, br_false]
        refine qb_of (x := .bool true) rfl ?_
        rw [cb_bool, br_true]
        refine qb_of l10 ?_
        refine qb_of l11 ?_
        refine qb_of l10 ?_
        refine callK_just (h_spec_l08Two 3 _ _ (.inr rfl) _) ?_
        refine ⟨l10, ?_⟩
        refine qb_of (two _ _) ?_
        refine qb_of l11 ?_
        refine st13 _ _ ?_
        exact main2 G [_, _] (show Prvs G [p, q] [_, _] from ⟨hp, hq, trivial⟩) (by omega) (by simp)
      | @botE _ _ p hp =>
        have ea : f = a ∧ [] = fs := by simpa [Pf.forms] using hfs
        obtain ⟨rfl, rfl⟩ := ea
        simp only at hb
        subst hb
        refine qb_of (x := .bool false) rfl ?_
        rw [cb_bool, br_false]
        refine qb_of (x := .bool false) rfl ?_
        rw [cb_bool, br_false]
        refine qb_of (x := .bool false) rfl ?_
        rw [cb_bool, br_false]
        refine qb_of (x := .bool false) rfl ?_
        rw [cb_bool, br_false]
        refine qb_of (x := .bool false) rfl ?_
        rw [cb_bool, br_false]
        refine qb_of l11 ?_
        refine qb_of (one _) ?_
        refine qb_of l10 ?_
        refine st13 _ _ ?_
        exact main2 G [_] (show Prvs G [p] [_] from ⟨hp, trivial⟩) (by omega) (by simp)
    have e11 := h7.got _ (List.mem_cons_self ..)
    cases fs with
    | nil =>
      rw [cb_bool]
      show br false _ _
      rw [br_false]
      refine main .bot w7 _ rfl (h7.again (y := fm .bot)) ?_
      exact Conv.cellTo (pre := [.int .i64 4, .int .i64 0]) (post := []) e11 fun C us hu => rx_empty hu (fun h => by cases h)
    | cons b r =>
      rw [cb_bool]
      show br true _ _
      rw [br_true]
      refine qb_of (pfa2 _) ?_
      refine qb_of (x := .sl 3 false ((a :: b :: r).map fm)) (by rw [← hfs]; exact pl2 _ _) ?_
      refine qb_of (x := .ref (fm b).cells) rfl ?_
      refine qb_of (lfm _ _) ?_
      refine e_store_ptr e11 (fm_cellOK b) (fm_ncells b) (fm_isJunk b) (by simp [PV.cells]) ?_
      rw [show setRange (PV.agg [.int .i64 4, .int .i64 0, .sl 0 true []]).cells 0 (fm b).cells = (fm b).cells from fm_set b _ _ _]
      exact main b _ _ rfl (h7.again (y := fm b)) (Conv.sub (Sub.refl _))
end Go.H.Tryz
/- Contracts: the reference's CutProof. -/
set_option linter.unusedVariables false
set_option linter.unusedSimpArgs false
namespace Go.H.Tryz
open Go Go.H

/-- No proof. -/
def zeroP : PV := .agg [.int .i64 0, .int .i64 0, .sl 0 true [], .sl 0 true []]
theorem zeroP_box : Box 4 zeroP := ⟨_, rfl, rfl, rfl⟩
/-- What comes of a cut: the proof, or nothing where it is too big. -/
def cutR (r : Pf) : PV := if pfOK r = true then .tup [pf r, .int .i64 0] else .tup [zeroP, .int .i64 11]
theorem pf_count_size (p : Pf) : p.size ≤ p.count := by
  induction p with
  | hyp n => exact Nat.le_refl _
  | _ => simp only [Pf.size, Pf.count] at *; omega
theorem pfOK_facts {p : Pf} (h : pfOK p = true) : p.count ≤ 150 ∧ p.size ≤ 150 ∧ p.hok = true := by
  unfold pfOK at h
  rw [Bool.and_eq_true, decide_eq_true_eq] at h
  have := pf_count_size p
  exact ⟨h.1, by omega, h.2⟩
theorem lift_fok (x : Pf) : ∀ (k b : Nat), (x.lift k b).fok = x.fok := by
  induction x with
  | hyp n => intro k b; rfl
  | andI a b p q i1 i2 => intro k b; simp only [Pf.lift, Pf.fok, i1, i2]
  | fst a b p i1 => intro k b; simp only [Pf.lift, Pf.fok, i1]
  | snd a b p i1 => intro k b; simp only [Pf.lift, Pf.fok, i1]
  | funI a b p i1 => intro k b; simp only [Pf.lift, Pf.fok, i1]
  | use a b p q i1 i2 => intro k b; simp only [Pf.lift, Pf.fok, i1, i2]
  | botE a p i1 => intro k b; simp only [Pf.lift, Pf.fok, i1]
theorem cut_fok {m : Pf} (hm : m.fok = true) : ∀ (x : Pf) (k : Nat), x.fok = true → (m.cut x k).fok = true := by
  intro x
  induction x with
  | hyp n =>
    intro k _
    unfold Pf.cut
    split
    · rw [lift_fok]; exact hm
    · split <;> rfl
  | andI a b p q i1 i2 => intro k h; simp only [Pf.cut, Pf.fok, Bool.and_eq_true] at h ⊢; exact ⟨⟨h.1.1, i1 k h.1.2⟩, i2 k h.2⟩
  | fst a b p i1 => intro k h; simp only [Pf.cut, Pf.fok, Bool.and_eq_true] at h ⊢; exact ⟨h.1, i1 k h.2⟩
  | snd a b p i1 => intro k h; simp only [Pf.cut, Pf.fok, Bool.and_eq_true] at h ⊢; exact ⟨h.1, i1 k h.2⟩
  | funI a b p i1 => intro k h; simp only [Pf.cut, Pf.fok, Bool.and_eq_true] at h ⊢; exact ⟨h.1, i1 (k + 1) h.2⟩
  | use a b p q i1 i2 => intro k h; simp only [Pf.cut, Pf.fok, Bool.and_eq_true] at h ⊢; exact ⟨⟨h.1.1, i1 k h.1.2⟩, i2 k h.2⟩
  | botE a p i1 => intro k h; simp only [Pf.cut, Pf.fok, Bool.and_eq_true] at h ⊢; exact ⟨h.1, i1 k h.2⟩
theorem h_spec_CutProof (G : List Fm) (p q : Pf) (f g : Fm) (hp : Prv G p f) (hq : Prv (f :: G) q g) (hG : ∀ x ∈ G, x.ok = true) (hGs : hypsOKT G.reverse = true) (hpf : p.fok = true) (hqf : q.fok = true) (hpo : pfOK p = true) (hqo : pfOK q = true) (st : St) :
    HCalls prog n_spec_CutProof [fms G.reverse, pf p, pf q] st (Just (cutR (p.cut q 0)) st) := by
  obtain ⟨pc, ps, ph⟩ := pfOK_facts hpo
  obtain ⟨qc, qs, qh⟩ := pfOK_facts hqo
  have hGl : G.length ≤ 12 := by
    unfold hypsOKT at hGs
    rw [Bool.and_eq_true, decide_eq_true_eq] at hGs
    simpa using hGs.1
  apply c_spec_CutProof
  unfold b_spec_CutProof
  refine e_box_ref (pf_isJunk _) ?_
  refine e_box_ref (pf_isJunk _) ?_
  refine (Held.start st).alloc fun v6 w1 h1 => ?_
  refine qb_of (x := .int .i64 (G.length : Int)) (by simp [fms]) ?_
  refine qb_of (x := .bool false) (by simp; omega) ?_
  rw [cb_bool, br_false]
  refine hJ_of fun J hJ => ?_
  refine callK_just (h_spec_l08Hyps G.reverse (fun x hx => hG x (by simpa using hx)) _) ?_
  rw [hGs]
  refine qb_of (x := .bool false) rfl ?_
  rw [cb_bool, br_false]
  refine qb_of (lpf _ _) ?_
  refine callK_just (h_spec_ProofOK p hpf _) ?_
  rw [hpo]
  refine qb_of (x := .bool false) rfl ?_
  rw [cb_bool, br_false]
  refine qb_of (lpf _ _) ?_
  refine callK_just (h_spec_ProofOK q hqf _) ?_
  rw [hqo]
  refine qb_of (x := .bool false) rfl ?_
  refine hJ _ _ ?_
  show cb (.bool false) _
  rw [cb_bool, br_false]
  refine qb_of (lpf _ _) ?_
  refine callK_just (h_spec_l08Proves p G f hp (by omega) 0 (by omega) (by omega) _) ?_
  refine qb_of (x := fm f) rfl ?_
  refine qb_of (x := .int .i64 0) rfl ?_
  refine qb_of (x := .int .i64 0) rfl ?_
  refine h1.alloc fun v8 w2 h2 => ?_
  refine h2.store2 (Box.fm f) rfl fun w3 h3 => ?_
  refine qb_of (x := .bool false) rfl ?_
  rw [cb_bool, br_false]
  refine qb_of (h3.top (Box.fm f)) ?_
  refine qb_of (lpf _ _) ?_
  refine callK_just (h_spec_l08More G.reverse f (by simp; omega) _) ?_
  refine ⟨lpf _ _, ?_⟩
  have hq' := h_spec_l08Proves q (f :: G) g hq (by simp; omega) 0 (by omega) (by omega) w3
  rw [List.reverse_cons] at hq'
  refine callK_just hq' ?_
  refine qb_of (x := fm g) rfl ?_
  refine qb_of (x := .int .i64 0) rfl ?_
  refine qb_of (x := .int .i64 0) rfl ?_
  refine qb_of (x := .bool false) rfl ?_
  rw [cb_bool, br_false]
  refine qb_of (lpf _ _) ?_
  refine qb_of (lpf _ _) ?_
  refine callK_just (h_spec_l08Cut p (Pf.le_mono (by omega) (Pf.le_hok ph)) (by omega) q (Pf.le_mono (by omega) (Pf.le_hok qh)) 0 (by omega) _) ?_
  refine h3.alloc fun v11 w4 h4 => ?_
  refine h4.store2 (Box.pf _) rfl fun w5 h5 => ?_
  refine qb_of (h5.top (Box.pf _)) ?_
  refine callK_just (h_spec_ProofOK _ (cut_fok hpf q 0 hqf) _) ?_
  refine qb_of (x := .bool (!pfOK (p.cut q 0))) rfl ?_
  rw [cb_bool]
  unfold cutR
  refine br_of (fun h => ?_) (fun h => ?_)
  · have h' : pfOK (p.cut q 0) = false := by simpa using h
    refine qb_of (x := zeroP) rfl ?_
    refine h5.store zeroP_box rfl fun w6 h6 => ?_
    refine qb_of (h6.top zeroP_box) ?_
    rw [if_neg (by rw [h']; decide)]
    exact Just.ret h6.sub
  · have h' : pfOK (p.cut q 0) = true := by simpa using h
    refine qb_of (h5.top (Box.pf _)) ?_
    refine h5.store (Box.pf _) rfl fun w6 h6 => ?_
    refine qb_of (h6.top (Box.pf _)) ?_
    rw [if_pos h']
    exact Just.ret h6.sub
end Go.H.Tryz
/- Contracts: drawn hypotheses and proofs. -/
set_option linter.unusedVariables false
set_option linter.unusedSimpArgs false
namespace Go.H.Tryz
open Go Go.H

theorem Src.at_ {bs : List UInt8} {M : Int} {b : Nat} {s s' : St} (h : Src bs M b s) (e : s' b = s b) : Src bs M b s' := by
  obtain ⟨a, c, h1, h2⟩ := h.is
  exact ⟨a, c, by rw [e]; exact h1, h2⟩
/-- Drawn hypotheses. -/
def AHyps (p : PV) : Prop := ∃ fs : List Fm, p = fms fs ∧ fs.length ≤ 3 ∧ ∀ f ∈ fs, f.ok = true ∧ f.size ≤ 7
theorem h_spec_l00Src_hyps (bs : List UInt8) (hl : bs.length ≤ 1000000000) (b : Nat) (M : Int) (hM0 : 0 ≤ M) (hM : M ≤ 100000) (st : St) (hs : Src bs M b st) : HCalls prog n_spec_l00Src_hyps [.ptr b 0] st (Drew bs (M + 100) b AHyps st) := by
  apply c_spec_l00Src_hyps
  unfold b_spec_l00Src_hyps
  refine qb_of (x := .sl 3 true []) rfl ?_
  refine callK_drew (h_spec_l00Src_next bs hl M (by omega) 4 (by omega) b st hs) (fun p o hp hs1 => ?_)
  obtain ⟨k', rfl, k0, k1⟩ := hp
  obtain ⟨k, hk, rfl⟩ : ∃ k : Nat, k ≤ 3 ∧ k' = (k : Int) := ⟨k'.toNat, by omega, by omega⟩
  refine hFix_rec (σ := List Fm × PV × St × HObj) (fun z => k - z.1.length) (fun z => [z.2.1, .int .i64 ((k - z.1.length : Nat) : Int)]) (fun z => z.2.2.1)
    (fun z => z.1.length ≤ k ∧ (∀ f ∈ z.1, f.ok = true ∧ f.size ≤ 7) ∧ Grow (upd st b z.2.2.2) 3 (z.1.map fm) z.2.1 z.2.2.1 ∧ Src bs (M + 1 + 32 * z.1.length) b (upd st b z.2.2.2)) ?_ ([], .sl 3 true [], upd st b o, o) ⟨by simp, by simp, Grow.nil _ _ _, by simpa using hs1⟩
  rintro ⟨fs, p, s, o2⟩ ⟨hj, hfs, hg, hsrc⟩ ih
  simp only at hj hfs hg hsrc ih ⊢
  have hsb : s b = (upd st b o2) b := by rw [upd_same]; exact hg.sub _ _ (upd_same _ _ _)
  have hsrc' := Src.at_ hsrc hsb
  refine qb_of (x := .bool (decide (fs.length < k))) (by
    show q_bin .gtr (.int .i64 ((k - fs.length : Nat) : Int)) (.int .i64 0) = _
    rw [q_bin_int, q_gtr]
    congr 2
    simp only [decide_eq_decide]
    omega) ?_
  refine cbr_dec (fun hpos => ?_) (fun hpos => ?_)
  · refine callK_drew (h_spec_l00Src_next bs hl _ (by omega) 3 (by omega) b s hsrc') (fun p1 o3 hp1 hs3 => ?_)
    obtain ⟨d', rfl, d0, d1⟩ := hp1
    obtain ⟨d, hd, rfl⟩ : ∃ d : Nat, d ≤ 2 ∧ d' = (d : Int) := ⟨d'.toNat, by omega, by omega⟩
    have hcd : fmC d ≤ 30 ∧ fmS d ≤ 7 := by
      have : d = 0 ∨ d = 1 ∨ d = 2 := by omega
      rcases this with rfl | rfl | rfl <;> decide
    refine callK_drew (h_spec_l00Src_form bs hl d _ (by omega) (by omega) b _ hs3) (fun p2 o4 hp2 hs4 => ?_)
    obtain ⟨f, rfl, hf, hfz⟩ := hp2
    rw [upd_upd] at hs4 ⊢
    refine qb_of (x := .sl 3 true [fm f]) (by simp) ?_
    have hg4 := hg.store o4 (upd_same _ _ _)
    rw [upd_upd] at hg4
    refine hg4.append (elems_sl _ _ _ _) (by simp; omega) fun p5 s5 hg5 => ?_
    refine qb_of (x := .int .i64 ((k - (fs.length + 1) : Nat) : Int)) (by
      show q_bin .sub (.int .i64 ((k - fs.length : Nat) : Int)) (.int .i64 1) = _
      rw [qdec (by omega)]
      congr 2
      omega) ?_
    have := ih (fs ++ [f], p5, s5, o4) (by simp only [List.length_append, List.length_cons, List.length_nil]; omega) ⟨by simp; omega, by
      intro x hx
      rcases List.mem_append.1 hx with hx | hx
      · exact hfs x hx
      · rw [List.mem_singleton.1 hx]; exact ⟨hf, by omega⟩, by simpa using hg5, by
      refine (Src.at_ hs4 (by rw [upd_same, upd_same])).mono ?_
      simp only [List.length_append, List.length_cons, List.length_nil]
      omega⟩
    simpa using this
  · refine retR_via (hg.freeze) ?_
    refine retR_sub (Sub.refl _) ⟨_, o2, rfl, ⟨fs, rfl, by omega, hfs⟩, rfl, hsrc.mono (by omega)⟩
end Go.H.Tryz
/- Contracts: drawn proofs. -/
set_option linter.unusedVariables false
set_option linter.unusedSimpArgs false
namespace Go.H.Tryz
open Go Go.H

/-- How many draws a proof takes at most. -/
def prC : Nat → Int
  | 0 => 60
  | n + 1 => 60 + 2 * prC n
theorem prC_pos : ∀ n, 60 ≤ prC n
  | 0 => by decide
  | n + 1 => by have := prC_pos n; unfold prC; omega
/-- A drawn proof, and what it proves. -/
def APrf (G : List Fm) (p : PV) : Prop := ∃ (x : Pf) (f : Fm), p = .tup [pf x, fm f] ∧ Prv G x f ∧ x.fok = true ∧ f.ok = true
abbrev z4p : List PV := [.int .i64 0, .int .i64 0, .sl 0 true [], .sl 0 true []]
theorem lit_p1 (a : Pf) : q_lit 4 1 0 [] [(0, pf a)] = some (.sl 4 true [pf a]) := by simp
theorem lit_p2 (a b : Pf) : q_lit 4 2 0 [] [(0, pf a), (1, pf b)] = some (.sl 4 true [pf a, pf b]) := by simp
theorem lit_f1 (a : Fm) : q_lit 3 1 0 [] [(0, fm a)] = some (.sl 3 true [fm a]) := by simp
/-- The end of a draw of a proof: both are stored and handed back. -/
theorem prf_end {bs : List UInt8} {M M' : Int} {b : Nat} {st w : St} {L : List (Nat × PV)} {v6 v7 : Nat} {y : PV} {x : Pf} {f : Fm} {G : List Fm} (h : HS bs M b st w L [(v6, z4p), (v7, z3f)]) (hy : Box 4 y) (hc : ∀ s, Conv [y] s [pf x] s) (hm : M ≤ M') (hp : Prv G x f) (hx : x.fok = true) (hf : f.ok = true) :
    e_store w 4 (.ptr v6 0) y fun st1 => e_store st1 3 (.ptr v7 0) (fm f) fun st2 => qb (q_load st2 true 4 (.ptr v6 0)) fun r => qb (q_load st2 true 3 (.ptr v7 0)) fun r1 => retR (Drew bs M' b (APrf G) st) (.tup [r, r1]) st2 := by
  refine h.store hy rfl fun w1 h1 => ?_
  refine h1.store (Box.fm f) rfl fun w2 h2 => ?_
  refine qb_of (h2.load hy (by simp)) ?_
  refine qb_of (h2.ldf (f := f) (by simp)) ?_
  refine retR_via (Conv.tup (Conv.cons (hc w2) (Conv.sub (Sub.refl _)))) ?_
  exact (h2.mono hm).fin ⟨x, f, rfl, hp, hx, hf⟩
theorem prf_end2 {bs : List UInt8} {M M' : Int} {b : Nat} {st w : St} {L : List (Nat × PV)} {v6 v7 : Nat} {y : PV} {x : Pf} {f : Fm} {G : List Fm} (h : HS bs M b st w ((v6, y) :: L) [(v7, z3f)]) (hy : Box 4 y) (hc : ∀ s, Conv [y] s [pf x] s) (hm : M ≤ M') (hp : Prv G x f) (hx : x.fok = true) (hf : f.ok = true) :
    e_store w 3 (.ptr v7 0) (fm f) fun st2 => qb (q_load st2 true 4 (.ptr v6 0)) fun r => qb (q_load st2 true 3 (.ptr v7 0)) fun r1 => retR (Drew bs M' b (APrf G) st) (.tup [r, r1]) st2 := by
  refine h.store (Box.fm f) rfl fun w2 h2 => ?_
  refine qb_of (h2.load hy (by simp)) ?_
  refine qb_of (h2.ldf (f := f) (by simp)) ?_
  refine retR_via (Conv.tup (Conv.cons (hc w2) (Conv.sub (Sub.refl _)))) ?_
  exact (h2.mono hm).fin ⟨x, f, rfl, hp, hx, hf⟩
theorem fld0 {bs : List UInt8} {M : Int} {b : Nat} {st w : St} {L : List (Nat × PV)} {P : List (Nat × List PV)} {v : Nat} {f : Fm} (h : HS bs M b st w L P) (hv : (v, fm f) ∈ L) : q_load w false 1 (.ptr v 0) = some (.int .i64 f.kind) := by
  rw [q_load_ptr (h.got _ hv), List.drop_zero]; exact fm_f0 f 1
theorem fld2 {bs : List UInt8} {M : Int} {b : Nat} {st w : St} {L : List (Nat × PV)} {P : List (Nat × List PV)} {v : Nat} {f : Fm} (h : HS bs M b st w L P) (hv : (v, fm f) ∈ L) : q_load w false 1 (.ptr v 2) = some (.sl 3 false (f.kids.map fm)) := by
  rw [q_load_ptr (h.got _ hv)]; exact fm_f2 f 1
def meas (deep : Int) (G : List Fm) : Int := if deep ≤ 0 then (if G = [] then 1 else 0) else 2 * deep + 1
set_option maxHeartbeats 1000000 in
theorem h_spec_l00Src_proof (bs : List UInt8) (hl : bs.length ≤ 1000000000) (b : Nat) : ∀ (n : Nat) (G : List Fm) (deep : Int), meas deep G ≤ n → -100 ≤ deep - n → deep ≤ 100 → G.length + n ≤ 100 → (∀ g ∈ G, g.ok = true) → ∀ (M : Int), 0 ≤ M → M + prC n ≤ 1000000 → ∀ (st : St), Src bs M b st →
    HCalls prog n_spec_l00Src_proof [.ptr b 0, fms G.reverse, .int .i64 deep] st (Drew bs (M + prC n) b (APrf G) st) := by
  intro n
  induction n using Nat.strongRecOn with
  | _ n IH =>
  intro G deep hme hd0 hd1 hGl hGok M hM0 hM st hs
  have hpc := prC_pos n
  apply c_spec_l00Src_proof
  unfold b_spec_l00Src_proof
  refine (HS.start hs).alloc fun v6 w1 h1 => ?_
  refine h1.alloc fun v7 w2 h2 => ?_
  have h2 : HS bs M b st w2 [] [(v6, z4p), (v7, z3f)] := h2
  refine hJ_of fun J hJ => ?_
  have main : ∀ c : Bool, c = decide (deep ≤ 0 ∧ G ≠ []) → J [.bool c] w2 := fun c hc => by
    refine hJ _ _ ?_
    show cb (.bool c) _
    rw [cb_bool]
    refine br_of (fun ht => ?_) (fun hfa => ?_)
    · -- a hypothesis
      rw [ht] at hc
      obtain ⟨hd, hG⟩ := of_decide_eq_true hc.symm
      have hpos : 0 < G.length := List.length_pos_iff.2 hG
      refine qb_of (x := .int .i64 (G.length : Int)) (by simp [fms]) ?_
      refine h2.drew (h_spec_l00Src_next bs hl M (by omega) G.length (by omega) b w2 h2.src) fun p w3 hp h3 => ?_
      obtain ⟨k', rfl, k0, k1⟩ := hp
      obtain ⟨k, hk, rfl⟩ : ∃ k : Nat, k < G.length ∧ k' = (k : Int) := ⟨k'.toNat, by omega, by omega⟩
      refine qb_of (x := .agg [.int .i64 1, .int .i64 (k : Int), .sl 0 true [], .sl 0 true []]) rfl ?_
      refine qb_of (x := .int .i64 (G.length : Int)) (by simp [fms]) ?_
      refine qb_of (qdec (by omega)) ?_
      refine qb_of (x := .int .i64 ((G.length - 1 - k : Nat) : Int)) (by simp; rw [wrap64 (by omega) (by omega)]; omega) ?_
      have hget : G.reverse[G.length - 1 - k]? = some G[k] := by
        rw [List.getElem?_reverse (by omega), show G.length - 1 - (G.length - 1 - k) = k by omega, List.getElem?_eq_getElem hk]
      refine qb_of (ia_fms .i64 hget) ?_
      refine qb_of (lfm _ _) ?_
      refine h3.store (box4 _ _ _ _ rfl) rfl fun w4 h4 => ?_
      refine ⟨lfm _ _, ?_⟩
      refine h4.store (Box.fm _) rfl fun w5 h5 => ?_
      refine qb_of (h5.load (y := .agg [.int .i64 1, .int .i64 (k : Int), .sl 0 true [], .sl 0 true []]) (box4 _ _ _ _ rfl) (by simp)) ?_
      refine qb_of (h5.top (Box.fm _)) ?_
      refine retR_via (Conv.tup (Conv.cons (conv_pf w5 1 (k : Int) 0 0 true true [] [] (.hyp k) ⟨rfl, rfl, rfl, rfl⟩ (.inr rfl) (.inr rfl)) (Conv.sub (Sub.refl _)))) ?_
      exact (h5.mono (by omega)).fin ⟨.hyp k, G[k], rfl, .hyp (List.getElem?_eq_getElem hk), rfl, hGok _ (List.getElem_mem hk)⟩
    · rw [hfa] at hc
      have hno := of_decide_eq_false hc.symm
      have hcase : 0 < deep ∨ (deep ≤ 0 ∧ G = []) := by
        by_cases h : deep ≤ 0
        · exact .inr ⟨h, Classical.byContradiction fun hG => hno ⟨h, hG⟩⟩
        · exact .inl (by omega)
      obtain ⟨n, rfl⟩ : ∃ m, n = m + 1 := by
        refine ⟨n - 1, ?_⟩
        unfold meas at hme
        rcases hcase with h | ⟨h, hG⟩
        · rw [if_neg (by omega)] at hme; omega
        · rw [if_pos h, if_pos hG] at hme; omega
      have hpc' : prC (n + 1) = 60 + 2 * prC n := rfl
      have hpn := prC_pos n
      refine qb_of (x := .bool (decide (0 < deep))) (by simp) ?_
      refine hJ_of fun J1 hJ1 => ?_
      have body : ∀ (ch : Int) (w : St), 0 ≤ ch → ch < 5 → (deep ≤ 0 → ch = 3) → HS bs (M + 1) b st w [] [(v6, z4p), (v7, z3f)] → J1 [.int .i64 ch] w := fun ch w c0 c1 c3 hw => by
        have rec1 : ∀ (deep' : Int) (M' : Int) (w : St), (deep' = deep - 1 ∨ deep' = deep - 2) → 0 < deep → 0 ≤ M' → M' + prC n ≤ 1000000 → Src bs M' b w → HCalls prog n_spec_l00Src_proof [.ptr b 0, fms G.reverse, .int .i64 deep'] w (Drew bs (M' + prC n) b (APrf G) w) := fun deep' M' w hd' hpos m0 m1 hs' => by
          refine IH n (by omega) G deep' ?_ (by omega) (by omega) (by omega) hGok M' m0 m1 w hs'
          unfold meas at hme ⊢
          rw [if_neg (by omega)] at hme
          split
          · split <;> omega
          · omega
        refine hJ1 _ _ ?_
        have e2 : q_bin .sub (.int .i64 deep) (.int .i64 2) = some (.int .i64 (deep - 2)) := by rw [q_bin_int, q_sub, wrap64 (by omega) (by omega)]
        refine qb_of (x := .bool (decide (ch = 0))) (by simp) ?_
        refine cbr_dec (fun h0 => ?_) (fun h0 => ?_)
        · have hpos : 0 < deep := by
            by_cases h : deep ≤ 0
            · have := c3 h; omega
            · omega
          refine qb_of (qdec (by omega)) ?_
          refine hw.drew (rec1 (deep - 1) (M + 1) w (.inl rfl) hpos (by omega) (by omega) hw.src) fun p w3 hp h3 => ?_
          obtain ⟨x, f, rfl, hpx, hfx, hff⟩ := hp
          refine qb_of (x := pf x) rfl ?_
          refine qb_of (x := fm f) rfl ?_
          refine h3.pair rfl rfl fun v10 v11 w4 h4 => ?_
          refine qb_of e2 ?_
          refine h4.drew (rec1 (deep - 2) (M + 1 + prC n) w4 (.inr rfl) hpos (by omega) (by omega) h4.src) fun p w5 hp h5 => ?_
          obtain ⟨y, g, rfl, hpy, hfy, hfg⟩ := hp
          refine qb_of (x := pf y) rfl ?_
          refine qb_of (x := fm g) rfl ?_
          refine h5.pair rfl rfl fun v12 v13 w6 h6 => ?_
          have q11 := h6.ldf (v := v11) (f := f) (by simp)
          have q13 := h6.ldf (v := v13) (f := g) (by simp)
          have q10 := h6.ldp (v := v10) (p := x) (by simp)
          have q12 := h6.ldp (v := v12) (p := y) (by simp)
          refine qb_of q11 ?_
          refine qb_of q13 ?_
          refine qb_of (lit_f2 f g) ?_
          refine qb_of q10 ?_
          refine qb_of q12 ?_
          refine qb_of (lit_p2 x y) ?_
          refine qb_of (x := .agg [.int .i64 2, .int .i64 0, .sl 3 true [fm f, fm g], .sl 4 true [pf x, pf y]]) rfl ?_
          refine qb_of q11 ?_
          refine qb_of q13 ?_
          refine callK_just (h_spec_l08Two 2 f g (.inl rfl) _) ?_
          refine ⟨q12, q10, q13, q11, ?_⟩
          exact prf_end h6 (box4 _ _ _ _ rfl) (fun s => conv_pf s 2 0 3 4 true true [f, g] [x, y] (.andI f g x y) ⟨rfl, rfl, rfl, rfl⟩ (.inl rfl) (.inl rfl)) (by omega) (.andI hpx hpy) (by simp [Pf.fok, hff, hfg, hfx, hfy]) (by simp [twoF, Fm.ok, hff, hfg])
        · refine qb_of (x := .bool (decide (ch = 1))) (by simp) ?_
          refine cbr_dec (fun h1c => ?_) (fun h1c => ?_)
          · have hpos : 0 < deep := by
              by_cases h : deep ≤ 0
              · have := c3 h; omega
              · omega
            refine qb_of (qdec (by omega)) ?_
            refine hw.drew (rec1 (deep - 1) (M + 1) w (.inl rfl) hpos (by omega) (by omega) hw.src) fun p w3 hp h3 => ?_
            obtain ⟨x, f, rfl, hpx, hfx, hff⟩ := hp
            refine qb_of (x := pf x) rfl ?_
            refine qb_of (x := fm f) rfl ?_
            refine h3.pair rfl rfl fun v14 v15 w4 h4 => ?_
            refine qb_of (x := .ptr v15 0) rfl ?_
            refine qb_of (fld0 h4 (f := f) (by simp)) ?_
            refine qb_of (x := .bool (decide (f.kind = 2))) (by simp) ?_
            refine cbr_dec (fun hk2 => ?_) (fun hk2 => ?_)
            · obtain ⟨a, c, rfl⟩ : ∃ a c, f = .and a c := by cases f <;> simp [Fm.kind] at hk2 ⊢
              simp only [Fm.ok, Bool.and_eq_true] at hff
              refine h4.drew (h_spec_l00Src_next bs hl _ (by omega) 2 (by omega) b w4 h4.src) fun p w5 hp h5 => ?_
              obtain ⟨k, rfl, k0, k1⟩ := hp
              have f2 := fld2 h5 (v := v15) (f := .and a c) (by simp)
              refine qb_of (x := .int .i64 (3 + k)) (by simp; rw [wrap64 (by omega) (by omega)]) ?_
              refine qb_of (x := .ptr v15 2) rfl ?_
              refine qb_of f2 ?_
              refine qb_of (x := .ref (fm a).cells) rfl ?_
              refine qb_of (lfm _ _) ?_
              refine qb_of (x := .ptr v15 2) rfl ?_
              refine qb_of f2 ?_
              refine qb_of (x := .ref (fm c).cells) rfl ?_
              refine qb_of (lfm _ _) ?_
              refine qb_of (lit_f2 a c) ?_
              refine qb_of (h5.ldp (p := x) (by simp)) ?_
              refine qb_of (lit_p1 x) ?_
              refine qb_of (x := .agg [.int .i64 (3 + k), .int .i64 0, .sl 3 true [fm a, fm c], .sl 4 true [pf x]]) rfl ?_
              refine qb_of (x := .ptr v15 2) rfl ?_
              refine qb_of f2 ?_
              have hkk : k = 0 ∨ k = 1 := by omega
              rcases hkk with rfl | rfl
              · refine qb_of (x := .ref (fm a).cells) rfl ?_
                refine qb_of (lfm _ _) ?_
                refine h5.store (box4 _ _ _ _ rfl) rfl fun w6 h6 => ?_
                refine ⟨lfm _ _, fld2 h6 (f := .and a c) (by simp), ?_⟩
                exact prf_end2 h6 (box4 _ _ _ _ rfl) (fun s => conv_pf s 3 0 3 4 true true [a, c] [x] (.fst a c x) ⟨rfl, rfl, rfl, rfl⟩ (.inl rfl) (.inl rfl)) (by omega) (.fst hpx) (by simp [Pf.fok, hff, hfx]) hff.1
              · refine qb_of (x := .ref (fm c).cells) rfl ?_
                refine qb_of (lfm _ _) ?_
                refine h5.store (box4 _ _ _ _ rfl) rfl fun w6 h6 => ?_
                refine ⟨lfm _ _, fld2 h6 (f := .and a c) (by simp), ?_⟩
                exact prf_end2 h6 (box4 _ _ _ _ rfl) (fun s => conv_pf s 4 0 3 4 true true [a, c] [x] (.snd a c x) ⟨rfl, rfl, rfl, rfl⟩ (.inl rfl) (.inl rfl)) (by omega) (.snd hpx) (by simp [Pf.fok, hff, hfx]) hff.2
            · refine qb_of (x := .ptr v15 0) rfl ?_
              refine qb_of (fld0 h4 (f := f) (by simp)) ?_
              refine qb_of (x := .bool (decide (f.kind = 4))) (by simp) ?_
              refine cbr_dec (fun hk4 => ?_) (fun hk4 => ?_)
              · obtain rfl : f = .bot := by cases f <;> simp [Fm.kind] at hk4 ⊢
                refine h4.drew (h_spec_l00Src_form bs hl 1 _ (by omega) (by have : fmC 1 = 9 := rfl; omega) b w4 h4.src) fun p w5 hp h5 => ?_
                obtain ⟨g, rfl, hg, hgs⟩ := hp
                refine h5.alloc fun v17 w6 h6 => ?_
                refine h6.store3 (Box.fm g) rfl fun w7 h7 => ?_
                refine qb_of (h7.ldf (f := g) (by simp)) ?_
                refine qb_of (lit_f1 g) ?_
                refine qb_of (h7.ldp (p := x) (by simp)) ?_
                refine qb_of (lit_p1 x) ?_
                refine qb_of (x := .agg [.int .i64 7, .int .i64 0, .sl 3 true [fm g], .sl 4 true [pf x]]) rfl ?_
                refine qb_of (h7.ldf (f := g) (by simp)) ?_
                refine h7.store (box4 _ _ _ _ rfl) rfl fun w8 h8 => ?_
                refine ⟨h8.ldf (by simp), ?_⟩
                have h9 : fmC 1 = 9 := rfl
                exact prf_end2 h8 (box4 _ _ _ _ rfl) (fun s => conv_pf s 7 0 3 4 true true [g] [x] (.botE g x) ⟨rfl, rfl, rfl, rfl⟩ (.inl rfl) (.inl rfl)) (by omega) (.botE hpx) (by simp [Pf.fok, hg, hfx]) hg
              · refine qb_of (h4.ldp (p := x) (by simp)) ?_
                refine qb_of (h4.ldf (f := f) (by simp)) ?_
                refine h4.store (Box.pf x) rfl fun w8 h8 => ?_
                refine ⟨h8.ldf (by simp), ?_⟩
                exact prf_end2 h8 (Box.pf x) (fun s => Conv.sub (Sub.refl _)) (by omega) hpx hfx hff
          · refine qb_of (x := .bool (decide (ch = 2))) (by simp) ?_
            refine cbr_dec (fun h2c => ?_) (fun h2c => ?_)
            · have hpos : 0 < deep := by
                by_cases h : deep ≤ 0
                · have := c3 h; omega
                · omega
              refine qb_of (qdec (by omega)) ?_
              refine hw.drew (rec1 (deep - 1) (M + 1) w (.inl rfl) hpos (by omega) (by omega) hw.src) fun p w3 hp h3 => ?_
              obtain ⟨x, f, rfl, hpx, hfx, hff⟩ := hp
              refine qb_of (x := pf x) rfl ?_
              refine qb_of (x := fm f) rfl ?_
              refine h3.pair rfl rfl fun v18 v19 w4 h4 => ?_
              refine qb_of e2 ?_
              refine h4.drew (rec1 (deep - 2) (M + 1 + prC n) w4 (.inr rfl) hpos (by omega) (by omega) h4.src) fun p w5 hp h5 => ?_
              obtain ⟨y, g, rfl, hpy, hfy, hfg⟩ := hp
              refine qb_of (x := pf y) rfl ?_
              refine qb_of (x := fm g) rfl ?_
              refine h5.pair rfl rfl fun v20 v21 w6 h6 => ?_
              have q19 := h6.ldf (v := v19) (f := f) (by simp)
              have q21 := h6.ldf (v := v21) (f := g) (by simp)
              have q18 := h6.ldp (v := v18) (p := x) (by simp)
              have q20 := h6.ldp (v := v20) (p := y) (by simp)
              refine hJ_of fun J2 hJ2 => ?_
              have other : J2 [.bool false] w6 := by
                refine hJ2 _ _ ?_
                refine cbr_f rfl ?_
                refine qb_of q18 ?_
                refine qb_of q19 ?_
                refine h6.store (Box.pf x) rfl fun w8 h8 => ?_
                refine ⟨h8.ldf (by simp), ?_⟩
                exact prf_end2 h8 (Box.pf x) (fun s => Conv.sub (Sub.refl _)) (by omega) hpx hfx hff
              refine qb_of (x := .ptr v19 0) rfl ?_
              refine qb_of (fld0 h6 (f := f) (by simp)) ?_
              refine qb_of (x := .bool (decide (f.kind = 3))) (by simp) ?_
              refine cbr_dec (fun hk3 => ?_) (fun hk3 => ?_)
              · obtain ⟨a, c, rfl⟩ : ∃ a c, f = .imp a c := by cases f <;> simp [Fm.kind] at hk3 ⊢
                simp only [Fm.ok, Bool.and_eq_true] at hff
                have f2 := fld2 h6 (v := v19) (f := .imp a c) (by simp)
                refine qb_of (x := .ptr v19 2) rfl ?_
                refine qb_of f2 ?_
                refine qb_of (x := .ref (fm a).cells) rfl ?_
                refine qb_of (lfm _ _) ?_
                refine qb_of q21 ?_
                refine callK_just (h_spec_l08Same a g _) ?_
                by_cases hag : a = g
                · subst hag
                  rw [decide_eq_true rfl]
                  refine hJ2 _ _ ?_
                  refine cbr_t rfl ?_
                  refine qb_of q21 ?_
                  refine qb_of (x := .ptr v19 2) rfl ?_
                  refine qb_of f2 ?_
                  refine qb_of (x := .ref (fm c).cells) rfl ?_
                  refine qb_of (lfm _ _) ?_
                  refine qb_of (lit_f2 a c) ?_
                  refine qb_of q18 ?_
                  refine qb_of q20 ?_
                  refine qb_of (lit_p2 x y) ?_
                  refine qb_of (x := .agg [.int .i64 6, .int .i64 0, .sl 3 true [fm a, fm c], .sl 4 true [pf x, pf y]]) rfl ?_
                  refine qb_of (x := .ptr v19 2) rfl ?_
                  refine qb_of f2 ?_
                  refine qb_of (x := .ref (fm c).cells) rfl ?_
                  refine qb_of (lfm _ _) ?_
                  refine h6.store (box4 _ _ _ _ rfl) rfl fun w8 h8 => ?_
                  refine ⟨lfm _ _, fld2 h8 (f := .imp a c) (by simp), ?_⟩
                  exact prf_end2 h8 (box4 _ _ _ _ rfl) (fun s => conv_pf s 6 0 3 4 true true [a, c] [x, y] (.use a c x y) ⟨rfl, rfl, rfl, rfl⟩ (.inl rfl) (.inl rfl)) (by omega) (.use hpx hpy) (by simp [Pf.fok, hff, hfx, hfy]) hff.2
                · rw [decide_eq_false hag]
                  exact other
              · exact other
            · refine hw.drew (h_spec_l00Src_next bs hl _ (by omega) 2 (by omega) b w hw.src) fun p w3 hp h3 => ?_
              obtain ⟨k', rfl, k0, k1⟩ := hp
              obtain ⟨k, hk, rfl⟩ : ∃ k : Nat, k < 2 ∧ k' = (k : Int) := ⟨k'.toNat, by omega, by omega⟩
              have hfk : fmC k ≤ 9 := by
                have h9 : fmC 1 = 9 := rfl
                have h0 : fmC 0 ≤ 9 := by decide
                rcases (show k = 0 ∨ k = 1 by omega) with rfl | rfl <;> omega
              have hfk0 : 0 ≤ fmC k := by
                rcases (show k = 0 ∨ k = 1 by omega) with rfl | rfl <;> decide
              refine h3.drew (h_spec_l00Src_form bs hl k _ (by omega) (by omega) b w3 h3.src) fun p w4 hp h4 => ?_
              obtain ⟨d, rfl, hd, hds⟩ := hp
              refine h4.alloc fun v22 w5 h5 => ?_
              refine h5.store3 (Box.fm d) rfl fun w6 h6 => ?_
              refine qb_of (h6.ldf (f := d) (by simp)) ?_
              refine callK_just (h_spec_l08More G.reverse d (by simp; omega) _) ?_
              refine qb_of (qdec (by omega)) ?_
              have hrev : fms (G.reverse ++ [d]) = fms (d :: G).reverse := by rw [List.reverse_cons]
              rw [hrev]
              refine h6.drew (IH n (by omega) (d :: G) (deep - 1) ?_ (by omega) (by omega) (by simp; omega) ?_ _ ?_ ?_ w6 h6.src) fun p w7 hp h7 => ?_
              · unfold meas at hme ⊢
                split
                · rw [if_neg (by simp)]; omega
                · rw [if_neg (by omega)] at hme; omega
              · intro g hg
                rcases List.mem_cons.1 hg with rfl | hg
                · exact hd
                · exact hGok g hg
              · omega
              · omega
              obtain ⟨x, f, rfl, hpx, hfx, hff⟩ := hp
              refine qb_of (x := pf x) rfl ?_
              refine qb_of (x := fm f) rfl ?_
              refine h7.pair rfl rfl fun v23 v24 w8 h8 => ?_
              have q22 := h8.ldf (v := v22) (f := d) (by simp)
              have q24 := h8.ldf (v := v24) (f := f) (by simp)
              have q23 := h8.ldp (v := v23) (p := x) (by simp)
              refine qb_of q22 ?_
              refine qb_of q24 ?_
              refine qb_of (lit_f2 d f) ?_
              refine qb_of q23 ?_
              refine qb_of (lit_p1 x) ?_
              refine qb_of (x := .agg [.int .i64 5, .int .i64 0, .sl 3 true [fm d, fm f], .sl 4 true [pf x]]) rfl ?_
              refine qb_of q22 ?_
              refine qb_of q24 ?_
              refine callK_just (h_spec_l08Two 3 d f (.inr rfl) _) ?_
              refine ⟨q23, q24, q22, ?_⟩
              exact prf_end h8 (box4 _ _ _ _ rfl) (fun s => conv_pf s 5 0 3 4 true true [d, f] [x] (.funI d f x) ⟨rfl, rfl, rfl, rfl⟩ (.inl rfl) (.inl rfl)) (by omega) (.funI hpx) (by simp [Pf.fok, hd, hff, hfx]) (by simp [twoF, Fm.ok, hd, hff])
      refine cbr_dec (fun hpos => ?_) (fun hpos => ?_)
      · refine h2.drew (h_spec_l00Src_next bs hl M (by omega) 5 (by omega) b w2 h2.src) fun p w3 hp h3 => ?_
        obtain ⟨k', rfl, k0, k1⟩ := hp
        exact body k' w3 k0 (by omega) (fun h => by omega) h3
      · exact body 3 w2 (by omega) (by omega) (fun _ => rfl) (h2.mono (by omega))
  refine qb_of (x := .bool (decide (deep ≤ 0))) (by simp) ?_
  refine cbr_dec (fun h => ?_) (fun h => ?_)
  · refine qb_of (x := .int .i64 (G.length : Int)) (by simp [fms]) ?_
    refine qb_of (x := .bool (decide (0 < (G.length : Int)))) (by simp) ?_
    refine main _ ?_
    congr 1
    refine propext ⟨fun h2 => ⟨h, fun e => by rw [e] at h2; simp at h2⟩, fun h2 => ?_⟩
    have := List.length_pos_iff.2 h2.2
    omega
  · exact main false (decide_eq_false (fun h2 => h h2.1)).symm
end Go.H.Tryz
/- Contracts: the proofs of a cut, drawn. -/
set_option linter.unusedVariables false
set_option linter.unusedSimpArgs false
namespace Go.H.Tryz
open Go Go.H

/-- The two proofs of a cut: the second stands with what the first proves as a further hypothesis. -/
def CutHave (p : PV) : Prop := ∃ (G : List Fm) (x y : Pf) (f g : Fm), p = .tup [fms G.reverse, pf x, pf y] ∧ Prv G x f ∧ Prv (f :: G) y g ∧ x.fok = true ∧ y.fok = true ∧ f.ok = true ∧ G.length ≤ 3 ∧ ∀ h ∈ G, h.ok = true ∧ h.size ≤ 7
/-- A value is handed back, the memory is as it was. -/
def Gives (st : St) (Q : PV → Prop) : Res → St → Prop := fun r s => s = st ∧ ∃ p, r = .ret p ∧ Q p
theorem callK_gives {P : Program} {g : FuncId} {us : List PV} {st : St} {Q : PV → Prop} {K Kp : PV → St → Prop} (hc : HCalls P g us st (Gives st Q)) (hk : ∀ p, Q p → K p st) : callK P g us st K Kp := by
  refine callK_of hc (fun p s h => ?_) (fun p s h => ?_)
  · obtain ⟨rfl, q, h, hq⟩ := h
    cases h
    exact hk _ hq
  · obtain ⟨_, _, h, _⟩ := h
    cases h
set_option maxHeartbeats 1000000 in
theorem h_spec_CutOf (bs : List UInt8) (hl : bs.length ≤ 1000000000) (st : St) : HCalls prog n_spec_CutOf [bytesP bs] st (Gives st CutHave) := by
  apply c_spec_CutOf
  unfold b_spec_CutOf
  refine (Held.start st).alloc fun v3 w1 h1 => ?_
  refine h1.alloc fun v4 w2 h2 => ?_
  refine HS.begun h2 (h_spec_l00Source bs hl w2) fun b w3 hb h3 => ?_
  refine h3.drew (h_spec_l00Src_hyps bs hl b 0 (by omega) (by omega) w3 h3.src) fun p w4 hp h4 => ?_
  obtain ⟨fs, rfl, hfl, hfs⟩ := hp
  obtain ⟨G, rfl⟩ : ∃ G : List Fm, fs = G.reverse := ⟨fs.reverse, by simp⟩
  simp only [List.length_reverse, List.mem_reverse] at hfl hfs
  refine h4.drew (h_spec_l00Src_next bs hl _ (by omega) 4 (by decide) b w4 h4.src) fun p w5 hp h5 => ?_
  obtain ⟨d, rfl, d0, d1⟩ := hp
  have hpr : prC 8 = 30660 := by decide
  have hme : ∀ G : List Fm, meas d G ≤ 8 := fun G => by
    unfold meas
    split
    · split <;> omega
    · omega
  refine h5.drew (h_spec_l00Src_proof bs hl b 8 G d (hme G) (by omega) (by omega) (by omega) (fun g hg => (hfs g hg).1) _ (by omega) (by omega) w5 h5.src) fun p w6 hp h6 => ?_
  obtain ⟨x, f, rfl, hpx, hfx, hff⟩ := hp
  refine qb_of (x := pf x) rfl ?_
  refine qb_of (x := fm f) rfl ?_
  refine h6.pair rfl rfl fun v7 v8 w7 h7 => ?_
  refine qb_of (h7.ldf (f := f) (by simp)) ?_
  refine callK_just (h_spec_l08More G.reverse f (by simp; omega) _) ?_
  refine h7.drew (h_spec_l00Src_next bs hl _ (by omega) 4 (by decide) b w7 h7.src) fun p w8 hp h8 => ?_
  obtain ⟨d, rfl, d0, d1⟩ := hp
  have hme : ∀ G : List Fm, meas d G ≤ 8 := fun G => by
    unfold meas
    split
    · split <;> omega
    · omega
  have hrev : fms (G.reverse ++ [f]) = fms (f :: G).reverse := by rw [List.reverse_cons]
  rw [hrev]
  refine h8.drew (h_spec_l00Src_proof bs hl b 8 (f :: G) d (hme _) (by omega) (by omega) (by simp; omega) ?_ _ (by omega) (by omega) w8 h8.src) fun p w9 hp h9 => ?_
  · intro g hg
    rcases List.mem_cons.1 hg with rfl | hg
    · exact hff
    · exact (hfs g hg).1
  obtain ⟨y, g, rfl, hpy, hfy, hfg⟩ := hp
  refine qb_of (x := pf y) rfl ?_
  refine qb_of (x := fm g) rfl ?_
  refine h9.pair rfl rfl fun v9 v10 w10 h10 => ?_
  refine qb_of (h10.ldp (p := x) (by simp)) ?_
  refine qb_of (h10.ldp (p := y) (by simp)) ?_
  refine h10.store (Box.pf x) rfl fun w11 h11 => ?_
  refine ⟨h11.ldp (p := y) (by simp), ?_⟩
  refine h11.store (Box.pf y) rfl fun w12 h12 => ?_
  refine qb_of (h12.ldp (p := x) (by simp)) ?_
  refine qb_of (h12.ldp (p := y) (by simp)) ?_
  exact retR_sub (h12.sub hb) ⟨rfl, _, rfl, G, x, y, f, g, rfl, hpx, hpy, hfx, hfy, hff, hfl, hfs⟩
end Go.H.Tryz
