/- Part of a proof that the program answers as the reference does: ZHC120, ZHC121, ZHC122, ZHC123, ZHC124, ZHC125, ZHC126, ZHC127, ZHC128, ZHC129. -/
import Derived.Test.YtmjpemdbkenebaaGreatDoorHM
import Derived.Test.YtmjpemdbkenebaaGreatDoorHNB
set_option linter.unusedVariables false
set_option linter.unusedSimpArgs false
namespace Go.H.Tryz
open Go Go.H

def fmN : Fm → Int → Int
 | .atom _, l => l - 1
 | .bot, l => l - 1
 | .and a b, l => if 0 ≤ l - 1 then (if 0 ≤ fmN a (l - 1) then fmN b (fmN a (l - 1)) else fmN a (l - 1)) else l - 1
 | .imp a b, l => if 0 ≤ l - 1 then (if 0 ≤ fmN a (l - 1) then fmN b (fmN a (l - 1)) else fmN a (l - 1)) else l - 1
theorem fmN_le : ∀ (f : Fm) (l : Int), fmN f l < l := by
 intro f
 induction f with
 | atom n => intro l; unfold fmN; omega
 | bot => intro l; unfold fmN; omega
 | and a b ia ib => intro l; have := ia (l - 1); have := ib (fmN a (l - 1)); unfold fmN; split <;> (try split) <;> omega
 | imp a b ia ib => intro l; have := ia (l - 1); have := ib (fmN a (l - 1)); unfold fmN; split <;> (try split) <;> omega
theorem zqco (f : Fm) : ∀ (l : Int), -1000 ≤ l → l ≤ 1000 → ∀ (st : St), zq5 prog n_spec_l08FormCount [fm f, .int .i64 l] st (Just (.int .i64 (fmN f l)) st) := by
 induction f with
 | atom n =>
   intro l h0 h1 st
   apply zq2q
   unfold zq23
   refine zq9 (zqm _) ?_
   refine zq3 (qdec (by omega)) ?_
   repeat' (first
    | exact Just.int rfl (Sub.refl _)
    | refine cbr_t rfl ?_
    | refine zqis rfl ?_
    | refine zq3 (lfm _ _) ?_
    | refine zq3 (lpf _ _) ?_
    | refine zq3 (ltr _ _) ?_
    | refine zq3 (qinc (by omega)) ?_
    | refine zq3 rfl ?_
    | (refine zq3y ?_; try simp only [List.getD_cons_zero, List.getD_cons_succ])
    | refine zqaj fun J hJ => ?_
    | (apply_assumption; try simp only [List.getD_cons_zero, List.getD_cons_succ])
    | refine zq1t (fun _ => ?_) (fun _ => ?_))
 | bot =>
   intro l h0 h1 st
   apply zq2q
   unfold zq23
   refine zq9 (zqm _) ?_
   refine zq3 (qdec (by omega)) ?_
   repeat' (first
    | exact Just.int rfl (Sub.refl _)
    | refine cbr_t rfl ?_
    | refine zqis rfl ?_
    | refine zq3 (lfm _ _) ?_
    | refine zq3 (lpf _ _) ?_
    | refine zq3 (ltr _ _) ?_
    | refine zq3 (qinc (by omega)) ?_
    | refine zq3 rfl ?_
    | (refine zq3y ?_; try simp only [List.getD_cons_zero, List.getD_cons_succ])
    | refine zqaj fun J hJ => ?_
    | (apply_assumption; try simp only [List.getD_cons_zero, List.getD_cons_succ])
    | refine zq1t (fun _ => ?_) (fun _ => ?_))
 | and a b ia ib =>
   intro l h0 h1 st
   have na := fmN_le a (l - 1)
   apply zq2q
   unfold zq23
   refine zq9 (zqm _) ?_
   refine zq3 (qdec (by omega)) ?_
   repeat' (first
    | refine zq1 (ia _ (by omega) (by omega) _) ?_
    | refine zq1 (ib _ (by omega) (by omega) _) ?_
    | exact Just.int (by simp only [fmN]; split <;> (try split) <;> first | rfl | (exfalso; omega)) (Sub.refl _)
    | refine cbr_t rfl ?_
    | refine zqis rfl ?_
    | refine zq3 (lfm _ _) ?_
    | refine zq3 (lpf _ _) ?_
    | refine zq3 (ltr _ _) ?_
    | refine zq3 (qinc (by omega)) ?_
    | refine zq3 rfl ?_
    | (refine zq3y ?_; try simp only [List.getD_cons_zero, List.getD_cons_succ])
    | refine zqaj fun J hJ => ?_
    | (apply_assumption; try simp only [List.getD_cons_zero, List.getD_cons_succ])
    | refine zq1t (fun _ => ?_) (fun _ => ?_))
 | imp a b ia ib =>
   intro l h0 h1 st
   have na := fmN_le a (l - 1)
   apply zq2q
   unfold zq23
   refine zq9 (zqm _) ?_
   refine zq3 (qdec (by omega)) ?_
   repeat' (first
    | refine zq1 (ia _ (by omega) (by omega) _) ?_
    | refine zq1 (ib _ (by omega) (by omega) _) ?_
    | exact Just.int (by simp only [fmN]; split <;> (try split) <;> first | rfl | (exfalso; omega)) (Sub.refl _)
    | refine cbr_t rfl ?_
    | refine zqis rfl ?_
    | refine zq3 (lfm _ _) ?_
    | refine zq3 (lpf _ _) ?_
    | refine zq3 (ltr _ _) ?_
    | refine zq3 (qinc (by omega)) ?_
    | refine zq3 rfl ?_
    | (refine zq3y ?_; try simp only [List.getD_cons_zero, List.getD_cons_succ])
    | refine zqaj fun J hJ => ?_
    | (apply_assumption; try simp only [List.getD_cons_zero, List.getD_cons_succ])
    | refine zq1t (fun _ => ?_) (fun _ => ?_))
def chn : List (Int → Int) → Int → Int
 | [], l => l
 | f :: r, l => if 0 ≤ l then chn r (f l) else l
def pfN : Pf → Int → Int
 | .hyp _, l => l - 1
 | .andI a b p q, l => chn [fmN a, fmN b, pfN p, pfN q] (l - 1)
 | .fst a b p, l => chn [fmN a, fmN b, pfN p] (l - 1)
 | .snd a b p, l => chn [fmN a, fmN b, pfN p] (l - 1)
 | .funI a b p, l => chn [fmN a, fmN b, pfN p] (l - 1)
 | .use a b p q, l => chn [fmN a, fmN b, pfN p, pfN q] (l - 1)
 | .botE a p, l => chn [fmN a, pfN p] (l - 1)
def Takes (f : Int → Int) (n : Nat) : Prop := ∀ l : Int, ((n : Int) ≤ l → f l = l - n) ∧ (l < n → f l < 0 ∨ f l < l ∧ l < 0) ∧ f l < l
theorem chn_neg : ∀ (fs : List (Int → Int)) (l : Int), l < 0 → chn fs l = l
 | [], l, _ => rfl
 | f :: r, l, h => by unfold chn; rw [if_neg (by omega)]
theorem zq58 : ∀ (fs : List ((Int → Int) × Nat)), (∀ x ∈ fs, Takes x.1 x.2) → ∀ l : Int, (((fs.map (·.2)).sum : Nat) ≤ l → chn (fs.map (·.1)) l = l - ((fs.map (·.2)).sum : Nat)) ∧ (l < ((fs.map (·.2)).sum : Nat) → chn (fs.map (·.1)) l < 0) ∧ chn (fs.map (·.1)) l ≤ l
 | [], _, l => by simp [chn]
 | x :: r, h, l => by
   have hx := h x (by simp) l
   have hr := zq58 r (fun y hy => h y (by simp [hy])) (x.1 l)
   simp only [List.map_cons, List.sum_cons, Int.natCast_add] at hr ⊢
   generalize ((r.map (·.2)).sum : Nat) = N at hr ⊢
   by_cases h0 : 0 ≤ l
   ·unfold chn
    rw [if_pos h0]
    refine ⟨fun hl => ?_, fun hl => ?_, by have := hr.2.2; have := hx.2.2; omega⟩
    ·have e1 := hx.1 (by omega)
     rw [hr.1 (by omega), e1]
     omega
    ·by_cases hn : (x.2 : Int) ≤ l
     ·have e1 := hx.1 hn
      exact hr.2.1 (by omega)
     ·have e2 := hx.2.1 (by omega)
      have e3 : x.1 l < 0 := by omega
      rw [chn_neg _ _ e3]
      exact e3
   ·have e : chn (x.1 :: r.map (·.1)) l = l := chn_neg _ _ (by omega)
    rw [e]
    exact ⟨fun hl => by omega, fun _ => by omega, by omega⟩
theorem zq3z (f : Fm) : Takes (fmN f) f.size := by
 have chn2 : ∀ (a b : Fm) (l : Int), (if 0 ≤ l - 1 then (if 0 ≤ fmN a (l - 1) then fmN b (fmN a (l - 1)) else fmN a (l - 1)) else l - 1) = chn [fmN a, fmN b] (l - 1) := fun a b l => by simp only [chn]
 induction f with
 | atom n => intro l; unfold fmN Fm.size; omega
 | bot => intro l; unfold fmN Fm.size; omega
 | and a b ia ib =>
   intro l
   have := zq58 [(fmN a, a.size), (fmN b, b.size)] (by simp only [List.forall_mem_cons]; exact ⟨ia, ib, by simp⟩) (l - 1)
   simp only [List.map_cons, List.map_nil, List.sum_cons, List.sum_nil] at this
   unfold fmN Fm.size
   rw [chn2]
   omega
 | imp a b ia ib =>
   intro l
   have := zq58 [(fmN a, a.size), (fmN b, b.size)] (by simp only [List.forall_mem_cons]; exact ⟨ia, ib, by simp⟩) (l - 1)
   simp only [List.map_cons, List.map_nil, List.sum_cons, List.sum_nil] at this
   unfold fmN Fm.size
   rw [chn2]
   omega
theorem pfN_takes (x : Pf) : Takes (pfN x) x.count := by
 induction x with
 | hyp n => intro l; unfold pfN Pf.count; omega
 | andI a b p q ip iq =>
   intro l
   have := zq58 [(fmN a, a.size), (fmN b, b.size), (pfN p, p.count), (pfN q, q.count)] (by simp only [List.forall_mem_cons]; exact ⟨zq3z a, zq3z b, ip, iq, by simp⟩) (l - 1)
   simp only [List.map_cons, List.map_nil, List.sum_cons, List.sum_nil] at this
   unfold pfN Pf.count
   omega
 | fst a b p ip =>
   intro l
   have := zq58 [(fmN a, a.size), (fmN b, b.size), (pfN p, p.count)] (by simp only [List.forall_mem_cons]; exact ⟨zq3z a, zq3z b, ip, by simp⟩) (l - 1)
   simp only [List.map_cons, List.map_nil, List.sum_cons, List.sum_nil] at this
   unfold pfN Pf.count
   omega
 | snd a b p ip =>
   intro l
   have := zq58 [(fmN a, a.size), (fmN b, b.size), (pfN p, p.count)] (by simp only [List.forall_mem_cons]; exact ⟨zq3z a, zq3z b, ip, by simp⟩) (l - 1)
   simp only [List.map_cons, List.map_nil, List.sum_cons, List.sum_nil] at this
   unfold pfN Pf.count
   omega
 | funI a b p ip =>
   intro l
   have := zq58 [(fmN a, a.size), (fmN b, b.size), (pfN p, p.count)] (by simp only [List.forall_mem_cons]; exact ⟨zq3z a, zq3z b, ip, by simp⟩) (l - 1)
   simp only [List.map_cons, List.map_nil, List.sum_cons, List.sum_nil] at this
   unfold pfN Pf.count
   omega
 | use a b p q ip iq =>
   intro l
   have := zq58 [(fmN a, a.size), (fmN b, b.size), (pfN p, p.count), (pfN q, q.count)] (by simp only [List.forall_mem_cons]; exact ⟨zq3z a, zq3z b, ip, iq, by simp⟩) (l - 1)
   simp only [List.map_cons, List.map_nil, List.sum_cons, List.sum_nil] at this
   unfold pfN Pf.count
   omega
 | botE a p ip =>
   intro l
   have := zq58 [(fmN a, a.size), (pfN p, p.count)] (by simp only [List.forall_mem_cons]; exact ⟨zq3z a, ip, by simp⟩) (l - 1)
   simp only [List.map_cons, List.map_nil, List.sum_cons, List.sum_nil] at this
   unfold pfN Pf.count
   omega
theorem pfN_chn' (x : Pf) (l : Int) : pfN x l = chn (x.forms.map fmN ++ x.kids.map pfN) (l - 1) := by
 cases x with
 | hyp n => rfl
 | _ => rfl
theorem chn_app : ∀ (fs gs : List (Int → Int)) (l : Int), chn (fs ++ gs) l = chn gs (chn fs l)
 | [], gs, l => rfl
 | f :: r, gs, l => by
   show (if 0 ≤ l then chn (r ++ gs) (f l) else l) = chn gs (if 0 ≤ l then chn r (f l) else l)
   by_cases h : 0 ≤ l
   ·rw [if_pos h, if_pos h]; exact chn_app r gs (f l)
   ·rw [if_neg h, if_neg h]; exact (chn_neg gs l (by omega)).symm
theorem chn_low : ∀ (fs : List (Int → Int)), (∀ f ∈ fs, ∀ l : Int, 0 ≤ l → -1 ≤ f l) → ∀ l : Int, -1 ≤ l → -1 ≤ chn fs l
 | [], _, l, h => h
 | f :: r, hf, l, h => by
   unfold chn
   split
   ·exact chn_low r (fun g hg => hf g (by simp [hg])) _ (hf f (by simp) l (by omega))
   ·exact h
theorem fmN_low (f : Fm) : ∀ l : Int, 0 ≤ l → -1 ≤ fmN f l := by
 induction f with
 | atom n => intro l h; unfold fmN; omega
 | bot => intro l h; unfold fmN; omega
 | and a b ia ib => intro l h; have h1 := ia (l - 1); have h2 := ib (fmN a (l - 1)); unfold fmN; split <;> (try split) <;> omega
 | imp a b ia ib => intro l h; have h1 := ia (l - 1); have h2 := ib (fmN a (l - 1)); unfold fmN; split <;> (try split) <;> omega
theorem pfN_low (x : Pf) : ∀ l : Int, 0 ≤ l → -1 ≤ pfN x l := by
 induction x using Pf.ind with
 | _ x ih =>
   intro l h
   rw [pfN_chn']
   refine chn_low _ (fun f hf => ?_) _ (by omega)
   rw [List.mem_append] at hf
   rcases hf with hf | hf
   ·obtain ⟨g, _, rfl⟩ := List.mem_map.1 hf; exact fmN_low g
   ·obtain ⟨g, hg, rfl⟩ := List.mem_map.1 hf; exact ih g hg
theorem zqhd (x : Pf) : x.forms.length ≤ 2 ∧ x.kids.length ≤ 2 := by cases x <;> simp [Pf.forms, Pf.kids]
theorem pfa2 (p : Pf) : q_fa 2 (.ref (pf p).cells) = some (.ref ((pf p).cells.drop 2)) := by simp [q_fa]
theorem pfa3 (p : Pf) : q_fa 3 (.ref (pf p).cells) = some (.ref ((pf p).cells.drop 3)) := by simp [q_fa]
theorem pfa0 (p : Pf) : q_fa 0 (.ref (pf p).cells) = some (.ref (pf p).cells) := by simp [q_fa]
theorem pfa1 (p : Pf) : q_fa 1 (.ref (pf p).cells) = some (.ref ((pf p).cells.drop 1)) := by simp [q_fa]
theorem pl0 (p : Pf) (s : St) : zq0 s false 1 (.ref (pf p).cells) = some (.int .i64 p.kind) := by simp
theorem pl1 (p : Pf) (s : St) : zq0 s false 1 (.ref ((pf p).cells.drop 1)) = some (.int .i64 p.num) := by simp
theorem pl2 (p : Pf) (s : St) : zq0 s false 1 (.ref ((pf p).cells.drop 2)) = some (.sl 3 false (p.forms.map fm)) := by simp
theorem pl3 (p : Pf) (s : St) : zq0 s false 1 (.ref ((pf p).cells.drop 3)) = some (.sl 4 false (p.kids.map pf)) := by simp
theorem zqiw (x : Pf) : ∀ (l : Int), 0 ≤ l → l ≤ 1000 → ∀ (st : St), zq5 prog n_spec_l08Count [pf x, .int .i64 l] st (Just (.int .i64 (pfN x l)) st) := by
 induction x using Pf.ind with
 | _ x ih =>
 intro l h0 h1 st
 have hl := zqhd x
 apply zqje
 unfold zqap
 refine zq9 (zq31 _) ?_
 refine zq3 (qdec (by omega)) ?_
 refine zq52 fun J hJ => ?_
 -- the kids
 have kids : ∀ c : Int, -1 ≤ c → c ≤ 1000 → chn (x.kids.map pfN) c = pfN x l → J [.int .i64 c] st := fun c c0 c1 hc => by
  refine hJ _ _ ?_
  refine zqz (β := Int) x.kids (fun c i => [.int .i64 c, .int .i64 (i : Int)]) (fun _ => st) (fun c i rest => -1 ≤ c ∧ c ≤ 1000 ∧ chn (rest.map pfN) c = pfN x l) ?_ ?_ c ⟨c0, c1, hc⟩
  ·rintro i y rest c hi hy ⟨c0, c1, hc⟩ kk
   refine zq52 fun J2 hJ2 => ?_
   refine zq3 (pfa3 _) ?_
   refine zq3 (pl3 _ _) ?_
   refine zq3 (x := .int .i64 x.kids.length) (by simp) ?_
   refine zq3 (x := .bool true) (by simp [hi]) ?_
   rw [zqa, zqk]
   refine zq3 (x := .bool (decide (0 ≤ c))) (by simp) ?_
   refine hJ2 _ _ ?_
   show cb (.bool (decide (0 ≤ c))) _
   refine zq1t (fun hc0 => ?_) (fun hc0 => ?_)
   ·refine zq3 (pfa3 _) ?_
    refine zq3 (pl3 _ _) ?_
    refine zq3 (zqlt .i64 hy) ?_
    refine zq3 (lpf _ _) ?_
    refine zq1 (ih y (List.mem_of_getElem? hy) c hc0 c1 _) ?_
    refine zq3 (x := .int .i64 ((i + 1 : Nat) : Int)) (by simp; rw [zqs (by omega) (by omega)]) ?_
    have := (pfN_takes y c).2.2
    have hge := pfN_low y c hc0
    rw [List.map_cons] at hc
    unfold chn at hc
    rw [if_pos hc0] at hc
    exact kk (pfN y c) ⟨hge, by omega, hc⟩
   ·rw [chn_neg _ _ (by omega)] at hc
    exact Just.int hc (Sub.refl _)
  ·rintro c ⟨c0, c1, hc⟩
   refine zq52 fun J2 hJ2 => ?_
   refine zq3 (pfa3 _) ?_
   refine zq3 (pl3 _ _) ?_
   refine zq3 (x := .int .i64 x.kids.length) (by simp) ?_
   refine zq3 (x := .bool false) (by simp) ?_
   rw [zqa, zqd]
   refine hJ2 _ _ ?_
   show cb (.bool false) _
   rw [zqa, zqd]
   exact Just.int hc (Sub.refl _)
 refine zqz (β := Int) x.forms (fun c i => [.int .i64 c, .int .i64 (i : Int)]) (fun _ => st) (fun c i rest => -1 ≤ c ∧ c ≤ 1000 ∧ chn (rest.map fmN ++ x.kids.map pfN) c = pfN x l) ?_ ?_ (l - 1) ⟨by omega, by omega, (pfN_chn' x l).symm⟩
 ·rintro i y rest c hi hy ⟨c0, c1, hc⟩ kk
  refine zq52 fun J2 hJ2 => ?_
  refine zq3 (pfa2 _) ?_
  refine zq3 (pl2 _ _) ?_
  refine zq3 (x := .int .i64 x.forms.length) (by simp) ?_
  refine zq3 (x := .bool true) (by simp [hi]) ?_
  rw [zqa, zqk]
  refine zq3 (x := .bool (decide (0 ≤ c))) (by simp) ?_
  refine hJ2 _ _ ?_
  show cb (.bool (decide (0 ≤ c))) _
  refine zq1t (fun hc0 => ?_) (fun hc0 => ?_)
  ·refine zq3 (pfa2 _) ?_
   refine zq3 (pl2 _ _) ?_
   refine zq3 (zq81 .i64 hy) ?_
   refine zq3 (lfm _ _) ?_
   refine zq1 (zqco y c (by omega) c1 _) ?_
   refine zq3 (x := .int .i64 ((i + 1 : Nat) : Int)) (by simp; rw [zqs (by omega) (by omega)]) ?_
   have := fmN_le y c
   have hge := fmN_low y c hc0
   rw [List.map_cons, List.cons_append] at hc
   unfold chn at hc
   rw [if_pos hc0] at hc
   exact kk (fmN y c) ⟨hge, by omega, hc⟩
  ·rw [chn_app] at hc
   rw [chn_neg (List.map fmN (y :: rest)) _ (by omega)] at hc
   exact kids c c0 c1 hc
 ·rintro c ⟨c0, c1, hc⟩
  refine zq52 fun J2 hJ2 => ?_
  refine zq3 (pfa2 _) ?_
  refine zq3 (pl2 _ _) ?_
  refine zq3 (x := .int .i64 x.forms.length) (by simp) ?_
  refine zq3 (x := .bool false) (by simp) ?_
  rw [zqa, zqd]
  refine hJ2 _ _ ?_
  show cb (.bool false) _
  rw [zqa, zqd]
  exact kids c c0 c1 hc
theorem zqcp (f : Fm) (hf : f.ok = true) (st : St) : zq5 prog n_spec_l08Form [fm f] st (Just (.bool true) st) := by
 induction f generalizing st with
 | atom n =>
   simp only [Fm.ok, decide_eq_true_eq] at hf
   apply zq59
   unfold zq40
   refine zq9 (zqm _) ?_
   repeat' (first
    | exact Just.bool rfl (Sub.refl _)
    | refine zq3 (x := .bool false) (by simp [Fm.num]; omega) ?_
    | refine cbr_t rfl ?_
    | refine zqis rfl ?_
    | refine zq3 (lfm _ _) ?_
    | refine zq3 (lpf _ _) ?_
    | refine zq3 (ltr _ _) ?_
    | refine zq3 (qinc (by omega)) ?_
    | refine zq3 rfl ?_
    | (refine zq3y ?_; try simp only [List.getD_cons_zero, List.getD_cons_succ])
    | refine zqaj fun J hJ => ?_
    | (apply_assumption; try simp only [List.getD_cons_zero, List.getD_cons_succ])
    | refine zq1t (fun _ => ?_) (fun _ => ?_))
 | bot =>
   apply zq59
   unfold zq40
   refine zq9 (zqm _) ?_
   repeat' (first
    | exact Just.bool rfl (Sub.refl _)
    | refine cbr_t rfl ?_
    | refine zqis rfl ?_
    | refine zq3 (lfm _ _) ?_
    | refine zq3 (lpf _ _) ?_
    | refine zq3 (ltr _ _) ?_
    | refine zq3 (qinc (by omega)) ?_
    | refine zq3 rfl ?_
    | (refine zq3y ?_; try simp only [List.getD_cons_zero, List.getD_cons_succ])
    | refine zqaj fun J hJ => ?_
    | (apply_assumption; try simp only [List.getD_cons_zero, List.getD_cons_succ])
    | refine zq1t (fun _ => ?_) (fun _ => ?_))
 | and a b ia ib =>
   simp only [Fm.ok, Bool.and_eq_true] at hf
   have ia := ia hf.1
   have ib := ib hf.2
   apply zq59
   unfold zq40
   refine zq9 (zqm _) ?_
   repeat' (first
    | exact Just.bool rfl (Sub.refl _)
    | refine zq1 (ia _) ?_
    | refine zq1 (ib _) ?_
    | refine cbr_t rfl ?_
    | refine zqis rfl ?_
    | refine zq3 (lfm _ _) ?_
    | refine zq3 (lpf _ _) ?_
    | refine zq3 (ltr _ _) ?_
    | refine zq3 (qinc (by omega)) ?_
    | refine zq3 rfl ?_
    | (refine zq3y ?_; try simp only [List.getD_cons_zero, List.getD_cons_succ])
    | refine zqaj fun J hJ => ?_
    | (apply_assumption; try simp only [List.getD_cons_zero, List.getD_cons_succ])
    | refine zq1t (fun _ => ?_) (fun _ => ?_))
 | imp a b ia ib =>
   simp only [Fm.ok, Bool.and_eq_true] at hf
   have ia := ia hf.1
   have ib := ib hf.2
   apply zq59
   unfold zq40
   refine zq9 (zqm _) ?_
   repeat' (first
    | exact Just.bool rfl (Sub.refl _)
    | refine zq1 (ia _) ?_
    | refine zq1 (ib _) ?_
    | refine cbr_t rfl ?_
    | refine zqis rfl ?_
    | refine zq3 (lfm _ _) ?_
    | refine zq3 (lpf _ _) ?_
    | refine zq3 (ltr _ _) ?_
    | refine zq3 (qinc (by omega)) ?_
    | refine zq3 rfl ?_
    | (refine zq3y ?_; try simp only [List.getD_cons_zero, List.getD_cons_succ])
    | refine zqaj fun J hJ => ?_
    | (apply_assumption; try simp only [List.getD_cons_zero, List.getD_cons_succ])
    | refine zq1t (fun _ => ?_) (fun _ => ?_))
theorem zqiu (p : Pf) (st : St) : zq5 prog n_spec_l08Shape [.int .i64 p.kind] st (Just (.tup [.int .i64 p.forms.length, .int .i64 p.kids.length]) st) := by
 apply zqjc
 unfold zqan
 cases p
 all_goals
  repeat' (first
   | exact Just.same rfl (Sub.refl _)
   | refine cbr_t rfl ?_
   | refine zqis rfl ?_
   | refine zq3 (lfm _ _) ?_
   | refine zq3 (lpf _ _) ?_
   | refine zq3 (ltr _ _) ?_
   | refine zq3 (qinc (by omega)) ?_
   | refine zq3 rfl ?_
   | (refine zq3y ?_; try simp only [List.getD_cons_zero, List.getD_cons_succ])
   | refine zqaj fun J hJ => ?_
   | (apply_assumption; try simp only [List.getD_cons_zero, List.getD_cons_succ])
   | refine zq1t (fun _ => ?_) (fun _ => ?_))
end Go.H.Tryz
set_option linter.unusedVariables false
set_option linter.unusedSimpArgs false
namespace Go.H.Tryz
open Go Go.H

theorem hok_eq (p : Pf) : p.hok = (decide (p.num ≤ 100) && p.kids.all Pf.hok) := by
 cases p with
 | hyp n => simp only [Pf.hok, Pf.num, Pf.kids, List.all_nil, Bool.and_true]; congr 1; exact propext ⟨fun h => by omega, fun h => by omega⟩
 | _ => simp [Pf.hok, Pf.num, Pf.kids]
theorem zqd3 {p : Pf} (h : p.fok = true) : (∀ f ∈ p.forms, f.ok = true) ∧ ∀ x ∈ p.kids, x.fok = true := by
 cases p <;> simp_all [Pf.fok, Pf.forms, Pf.kids]
theorem num_pos (p : Pf) : 0 ≤ p.num ∧ (p.kind ≠ 1 → p.num = 0) := by
 cases p <;> simp [Pf.num, Pf.kind]
theorem zqiv (x : Pf) (hx : x.fok = true) (st : St) : zq5 prog n_spec_l08Proof [pf x] st (Just (.bool x.hok) st) := by
 induction x using Pf.ind generalizing st with
 | _ x ih =>
 have hl := zqhd x
 obtain ⟨hff, hfk⟩ := zqd3 hx
 obtain ⟨n0, n1⟩ := num_pos x
 have he := hok_eq x
 apply zqjd
 unfold zqao
 refine zq9 (zq31 _) ?_
 refine zq3 (pfa0 _) ?_
 refine zq3 (pl0 _ _) ?_
 refine zq1 (zqiu x _) ?_
 refine zq3 (x := .int .i64 x.forms.length) rfl ?_
 refine zq3 (x := .int .i64 x.kids.length) rfl ?_
 refine zq3 (x := .bool false) (by simp) ?_
 rw [zqa, zqd]
 refine zq3 (pfa2 _) ?_
 refine zq3 (pl2 _ _) ?_
 refine zq3 (x := .int .i64 x.forms.length) (by simp) ?_
 refine zq3 (x := .bool false) (by simp) ?_
 rw [zqa, zqd]
 refine zq3 (pfa3 _) ?_
 refine zq3 (pl3 _ _) ?_
 refine zq3 (x := .int .i64 x.kids.length) (by simp) ?_
 refine zq3 (x := .bool false) (by simp) ?_
 rw [zqa, zqd]
 refine zq3 (pfa1 _) ?_
 refine zq3 (pl1 _ _) ?_
 refine zq3 (x := .bool false) (by simp; omega) ?_
 rw [zqa, zqd]
 refine zq3 (pfa1 _) ?_
 refine zq3 (pl1 _ _) ?_
 refine zq3 (x := .bool (decide (100 < x.num))) (by simp) ?_
 refine zq1t (fun h => Just.bool (by rw [he, decide_eq_false (by omega)]; rfl) (Sub.refl _)) (fun h => ?_)
 rw [decide_eq_true (by omega), Bool.true_and] at he
 refine zq3 (pfa0 _) ?_
 refine zq3 (pl0 _ _) ?_
 refine zq3 (x := .bool (decide (x.kind ≠ 1))) (by simp) ?_
 refine zq1t (fun hk => ?_) (fun hk => ?_)
 ·refine zq3 (pfa1 _) ?_
  refine zq3 (pl1 _ _) ?_
  refine zq3 (x := .bool false) (by simp [n1 hk]) ?_
  rw [zqa, zqd]
  refine zqz (β := Unit) x.forms (fun _ i => [.int .i64 (i : Int)]) (fun _ => st) (fun _ i rest => True) ?_ ?_ () trivial
  ·rintro i y rest c hi hy _ kk
   refine zq3 (x := .bool true) (by simp [hi]) ?_
   rw [zqa, zqk]
   refine zq3 (pfa2 _) ?_
   refine zq3 (pl2 _ _) ?_
   refine zq3 (zq81 .i64 hy) ?_
   refine zq3 (lfm _ _) ?_
   refine zq1 (zqcp y (hff y (List.mem_of_getElem? hy)) _) ?_
   refine zq3 (x := .bool false) rfl ?_
   rw [zqa, zqd]
   refine zq3 (x := .int .i64 ((i + 1 : Nat) : Int)) (by simp; rw [zqs (by omega) (by omega)]) ?_
   exact kk () trivial
  ·rintro _ _
   refine zq3 (x := .bool false) (by simp) ?_
   rw [zqa, zqd]
   refine zqz (β := Unit) x.kids (fun _ i => [.int .i64 (i : Int)]) (fun _ => st) (fun _ i rest => rest.all Pf.hok = x.hok) ?_ ?_ () he.symm
   ·rintro i y rest c hi hy hq kk
    have hm := List.mem_of_getElem? hy
    refine zq3 (x := .bool true) (by simp [hi]) ?_
    rw [zqa, zqk]
    refine zq3 (pfa3 _) ?_
    refine zq3 (pl3 _ _) ?_
    refine zq3 (zqlt .i64 hy) ?_
    refine zq3 (lpf _ _) ?_
    refine zq1 (ih y hm (hfk y hm) _) ?_
    refine zq3 (x := .bool (!y.hok)) rfl ?_
    rw [List.all_cons] at hq
    rw [zqa]
    refine zq50 (fun h => ?_) (fun h => ?_)
    ·have h' : y.hok = false := by simpa using h
     rw [h', Bool.false_and] at hq
     exact Just.bool hq (Sub.refl _)
    ·have h' : y.hok = true := by simpa using h
     rw [h', Bool.true_and] at hq
     refine zq3 (x := .int .i64 ((i + 1 : Nat) : Int)) (by simp; rw [zqs (by omega) (by omega)]) ?_
     exact kk () hq
   ·rintro _ hq
    refine zq3 (x := .bool false) (by simp) ?_
    rw [zqa, zqd]
    exact Just.bool (by simpa using hq) (Sub.refl _)
 ·refine zqz (β := Unit) x.forms (fun _ i => [.int .i64 (i : Int)]) (fun _ => st) (fun _ i rest => True) ?_ ?_ () trivial
  ·rintro i y rest c hi hy _ kk
   refine zq3 (x := .bool true) (by simp [hi]) ?_
   rw [zqa, zqk]
   refine zq3 (pfa2 _) ?_
   refine zq3 (pl2 _ _) ?_
   refine zq3 (zq81 .i64 hy) ?_
   refine zq3 (lfm _ _) ?_
   refine zq1 (zqcp y (hff y (List.mem_of_getElem? hy)) _) ?_
   refine zq3 (x := .bool false) rfl ?_
   rw [zqa, zqd]
   refine zq3 (x := .int .i64 ((i + 1 : Nat) : Int)) (by simp; rw [zqs (by omega) (by omega)]) ?_
   exact kk () trivial
  ·rintro _ _
   refine zq3 (x := .bool false) (by simp) ?_
   rw [zqa, zqd]
   refine zqz (β := Unit) x.kids (fun _ i => [.int .i64 (i : Int)]) (fun _ => st) (fun _ i rest => rest.all Pf.hok = x.hok) ?_ ?_ () he.symm
   ·rintro i y rest c hi hy hq kk
    have hm := List.mem_of_getElem? hy
    refine zq3 (x := .bool true) (by simp [hi]) ?_
    rw [zqa, zqk]
    refine zq3 (pfa3 _) ?_
    refine zq3 (pl3 _ _) ?_
    refine zq3 (zqlt .i64 hy) ?_
    refine zq3 (lpf _ _) ?_
    refine zq1 (ih y hm (hfk y hm) _) ?_
    refine zq3 (x := .bool (!y.hok)) rfl ?_
    rw [List.all_cons] at hq
    rw [zqa]
    refine zq50 (fun h => ?_) (fun h => ?_)
    ·have h' : y.hok = false := by simpa using h
     rw [h', Bool.false_and] at hq
     exact Just.bool hq (Sub.refl _)
    ·have h' : y.hok = true := by simpa using h
     rw [h', Bool.true_and] at hq
     refine zq3 (x := .int .i64 ((i + 1 : Nat) : Int)) (by simp; rw [zqs (by omega) (by omega)]) ?_
     exact kk () hq
   ·rintro _ hq
    refine zq3 (x := .bool false) (by simp) ?_
    rw [zqa, zqd]
    exact Just.bool (by simpa using hq) (Sub.refl _)
def pfOK (x : Pf) : Bool := decide (x.count ≤ 150) && x.hok
theorem zqm0 (x : Pf) (hx : x.fok = true) (st : St) : zq5 prog n_spec_ProofOK [pf x] st (Just (.bool (pfOK x)) st) := by
 apply zqme
 unfold zqdq
 refine zq9 (zq31 _) ?_
 refine zq3 (lpf _ _) ?_
 refine zq1 (zqiw x 150 (by omega) (by omega) _) ?_
 have ht := pfN_takes x 150
 refine zq3 (x := .bool (decide (0 ≤ pfN x 150))) (by simp) ?_
 refine zq1t (fun h => ?_) (fun h => ?_)
 ·refine zq3 (lpf _ _) ?_
  refine zq1 (zqiv x hx _) ?_
  refine Just.bool ?_ (Sub.refl _)
  unfold pfOK
  rw [decide_eq_true (by omega)]; rfl
 ·refine Just.bool ?_ (Sub.refl _)
  unfold pfOK
  rw [decide_eq_false (by omega)]; rfl
end Go.H.Tryz
set_option linter.unusedVariables false
set_option linter.unusedSimpArgs false
namespace Go.H.Tryz
open Go Go.H

def zq8r (ps : List Pf) : Nat := (ps.map Pf.size).sum
theorem zqh7 (x : Pf) : x.size = 1 + zq8r x.kids := by cases x <;> simp [Pf.size, zq8r, Pf.kids] <;> omega
theorem zqc8 {ps : List Pf} {y : Pf} (h : y ∈ ps) : y.size ≤ zq8r ps := by
 induction ps with
 | nil => cases h
 | cons z r ih =>
   simp only [zq8r, List.map_cons, List.sum_cons] at ih ⊢
   rcases List.mem_cons.1 h with rfl | h
   ·omega
   ·have := ih h; omega
theorem zqly (fs : List Fm) (f : Fm) (hl : fs.length ≤ 1000000) (st : St) : zq5 prog n_spec_l08More [fms fs, fm f] st (Just (fms (fs ++ [f])) st) := by
 apply zqmc
 unfold zqdo
 refine zq9 (zqm _) ?_
 refine zq3 (x := .sl 3 true []) rfl ?_
 refine zq3 (lfm _ _) ?_
 refine zq3 (x := .sl 3 true [fm f]) (by simp) ?_
 refine (Grow.nil _ 3 3).append (ys := fs.map fm) (zq2n _ _ _ _) (by simp; omega) fun p1 s1 hg1 => ?_
 refine ⟨lfm _ _, ?_⟩
 refine hg1.append (zq2n _ _ _ _) (by simp; omega) fun p2 s2 hg2 => ?_
 exact Just.conv (by simpa [fms] using hg2.freeze)
end Go.H.Tryz
set_option linter.unusedVariables false
set_option linter.unusedSimpArgs false
namespace Go.H.Tryz
open Go Go.H

theorem pf_of (x : Pf) (k n : Int) (fs : List Fm) (ks : List Pf) (h1 : x.kind = k) (h2 : x.num = n) (h3 : x.forms = fs) (h4 : x.kids = ks) : pf x = .agg [.int .i64 k, .int .i64 n, .sl 3 false (fs.map fm), .sl 4 false (ks.map pf)] := by
 subst h1 h2 h3 h4; exact pf_eq x
def MkF (w : St) (v : Nat) (k n : Int) (fs : List Fm) (p : PV) (s : St) : Prop := Grow (upd w v (.cells [.int .i64 k, .int .i64 n, p, .sl 0 true []])) 3 (fs.map fm) p s
def MkK (w : St) (v : Nat) (k n : Int) (fs : List Fm) (ks : List Pf) (p : PV) (s : St) : Prop := Grow (upd w v (.cells [.int .i64 k, .int .i64 n, .sl 3 false (fs.map fm), p])) 4 (ks.map pf) p s
theorem MkF.start (w : St) (v : Nat) (k n : Int) : MkF w v k n [] (.sl 0 true []) (upd w v (.cells [.int .i64 k, .int .i64 n, .sl 0 true [], .sl 0 true []])) := Grow.nil _ _ _
theorem MkF.at {w s : St} {v : Nat} {k n : Int} {fs : List Fm} {p : PV} (h : MkF w v k n fs p s) : s v = some (.cells [.int .i64 k, .int .i64 n, p, .sl 0 true []]) := h.sub _ _ (zq2 _ _ _)
theorem MkK.at {w s : St} {v : Nat} {k n : Int} {fs : List Fm} {ks : List Pf} {p : PV} (h : MkK w v k n fs ks p s) : s v = some (.cells [.int .i64 k, .int .i64 n, .sl 3 false (fs.map fm), p]) := h.sub _ _ (zq2 _ _ _)
theorem MkF.more {w s : St} {v : Nat} {k n : Int} {fs : List Fm} {p : PV} {f : Fm} {K : St → Prop} (h : MkF w v k n fs p s) (hl : fs.length ≤ 1000) (hk : ∀ p' s', MkF w v k n (fs ++ [f]) p' s' → K s') :
  zqo s 3 40 p (.sl 3 true [fm f]) fun r st => qb (q_fa 2 (.ptr v 0)) fun a => zq4 st 1 a r K := by
 refine Grow.append h (zq2n _ _ _ _) (by simp; omega) fun p' s' hg => ?_
 have hv : s' v = some (.cells [.int .i64 k, .int .i64 n, p, .sl 0 true []]) := hg.sub _ _ (zq2 _ _ _)
 obtain ⟨o1, o2, o3, o4⟩ := hg.one
 refine zq3 (x := .ptr v 2) rfl ?_
 refine zq13 hv (by rw [o1]; simp [o4]) o2 o3 (by simp) ?_
 refine hk p' _ ?_
 have hs := hg.store (.cells [.int .i64 k, .int .i64 n, p', .sl 0 true []]) (zq2 _ _ _)
 rw [zq10] at hs
 have e : zqg [.int .i64 k, .int .i64 n, p, .sl 0 true []] 2 p'.cells = [.int .i64 k, .int .i64 n, p', .sl 0 true []] := by rw [o1]; rfl
 rw [e]
 unfold MkF
 simpa using hs
theorem MkK.more {w s : St} {v : Nat} {k n : Int} {fs : List Fm} {ks : List Pf} {p : PV} {x : Pf} {K : St → Prop} (h : MkK w v k n fs ks p s) (hl : ks.length ≤ 1000) (hk : ∀ p' s', MkK w v k n fs (ks ++ [x]) p' s' → K s') :
  zqo s 4 64 p (.sl 4 true [pf x]) fun r st => qb (q_fa 3 (.ptr v 0)) fun a => zq4 st 1 a r K := by
 refine Grow.append h (zq2n _ _ _ _) (by simp; omega) fun p' s' hg => ?_
 have hv : s' v = some (.cells [.int .i64 k, .int .i64 n, .sl 3 false (fs.map fm), p]) := hg.sub _ _ (zq2 _ _ _)
 obtain ⟨o1, o2, o3, o4⟩ := hg.one
 refine zq3 (x := .ptr v 3) rfl ?_
 refine zq13 hv (by rw [o1]; simp [o4]) o2 o3 (by simp) ?_
 refine hk p' _ ?_
 have hs := hg.store (.cells [.int .i64 k, .int .i64 n, .sl 3 false (fs.map fm), p']) (zq2 _ _ _)
 rw [zq10] at hs
 have e : zqg [.int .i64 k, .int .i64 n, .sl 3 false (fs.map fm), p] 3 p'.cells = [.int .i64 k, .int .i64 n, .sl 3 false (fs.map fm), p'] := by rw [o1]; rfl
 rw [e]
 unfold MkK
 simpa using hs
theorem MkF.done {w s : St} {v : Nat} {k n : Int} {fs : List Fm} {p : PV} {ls : List PV} (h : MkF w v k n fs p s) : ∃ s', Conv ls s ls s' ∧ MkK w v k n fs [] (.sl 0 true []) s' := by
 have := Grow.cell (ls := ls) (pre := [.int .i64 k, .int .i64 n]) (post := [.sl 0 true []]) h (zq2 _ _ _)
 rw [zq10] at this
 exact ⟨_, this, Grow.nil _ _ _⟩
theorem MkK.other {w s : St} {v c : Nat} {k n : Int} {fs : List Fm} {ks : List Pf} {p : PV} {o : HObj} (h : MkK w v k n fs ks p s) (hc : c ≠ v) (ho : w c = some o) : s c = some o := Grow.sub h _ _ (by rw [zq7 _ _ hc]; exact ho)
theorem MkK.freeze {w s : St} {v : Nat} {k n : Int} {fs : List Fm} {ks : List Pf} {p : PV} {x : Pf} (h : MkK w v k n fs ks p s) (h1 : x.kind = k) (h2 : x.num = n) (h3 : x.forms = fs) (h4 : x.kids = ks) :
  Conv [.agg [.int .i64 k, .int .i64 n, .sl 3 false (fs.map fm), p]] s [pf x] (upd w v (.cells [.int .i64 k, .int .i64 n, .sl 3 false (fs.map fm), p])) := by
 rw [pf_of x k n fs ks h1 h2 h3 h4]
 obtain ⟨o1, o2, o3, o4⟩ := h.one
 exact Conv.agg (Conv.cons (Conv.sub (Grow.sub h)) (Conv.cons (Conv.sub (Grow.sub h)) (Conv.cons (Conv.sub (Grow.sub h)) (Grow.freeze h)))) rfl (by show (true && (true && (true && (p.cellOK && true)))) = true; rw [o4]; rfl)
end Go.H.Tryz
set_option linter.unusedVariables false
set_option linter.unusedSimpArgs false
namespace Go.H.Tryz
open Go Go.H

theorem pf_hyp {x : Pf} (h : x.kind = 1) : ∃ n : Nat, x = .hyp n := by cases x <;> simp [Pf.kind] at h ⊢
end Go.H.Tryz
set_option linter.unusedVariables false
set_option linter.unusedSimpArgs false
namespace Go.H.Tryz
open Go Go.H

theorem zqlx (f g : Fm) (st : St) : zq5 prog n_spec_l08Same [fm f, fm g] st (Just (.bool (decide (f = g))) st) := by
 induction f using Fm.ind generalizing g st with
 | _ f ih =>
 apply zqmb
 unfold zqdn
 generalize hv : decide (f = g) = v
 refine zq9 (zqm _) ?_
 refine zq9 (zqm _) ?_
 have hfk := zqd5 f
 have no : ¬ (f.kind = g.kind ∧ f.num = g.num ∧ f.kids = g.kids) → false = v := fun h => by rw [← hv, decide_eq_false (fun e => h (by rw [e]; exact ⟨rfl, rfl, rfl⟩))]
 refine zq3 (x := .ref (fm f).cells) (by simp [q_fa]) ?_
 refine zq3 (x := .int .i64 f.kind) (by simp) ?_
 refine zq3 (x := .ref (fm g).cells) (by simp [q_fa]) ?_
 refine zq3 (x := .int .i64 g.kind) (by simp) ?_
 refine zq3 (x := .bool (decide (f.kind ≠ g.kind))) (by simp) ?_
 refine zql (fun h1 => Just.bool (no fun h => h1 h.1) (Sub.refl _)) (fun h1 => ?_)
 refine zq3 (x := .ref ((fm f).cells.drop 1)) (by simp [q_fa]) ?_
 refine zq3 (x := .int .i64 f.num) (by simp) ?_
 refine zq3 (x := .ref ((fm g).cells.drop 1)) (by simp [q_fa]) ?_
 refine zq3 (x := .int .i64 g.num) (by simp) ?_
 refine zq3 (x := .bool (decide (f.num ≠ g.num))) (by simp) ?_
 refine zql (fun h2 => Just.bool (no fun h => h2 h.2.1) (Sub.refl _)) (fun h2 => ?_)
 have k2 : ∀ h : Fm, q_fa 2 (.ref (fm h).cells) = some (.ref ((fm h).cells.drop 2)) := fun h => by simp [q_fa]
 have l2 : ∀ (h : Fm) (s : St), zq0 s false 1 (.ref ((fm h).cells.drop 2)) = some (.sl 3 false (h.kids.map fm)) := fun h s => by simp
 refine zq3 (k2 f) ?_
 refine zq3 (l2 f _) ?_
 refine zq3 (x := .int .i64 f.kids.length) (by simp) ?_
 refine zq3 (k2 g) ?_
 refine zq3 (l2 g _) ?_
 refine zq3 (x := .int .i64 g.kids.length) (by simp) ?_
 refine zq3 (x := .bool (decide (f.kids.length ≠ g.kids.length))) (by simp; omega) ?_
 refine zql (fun h3 => Just.bool (no fun h => h3 (by rw [h.2.2])) (Sub.refl _)) (fun h3 => ?_)
 refine zqz (β := Unit) f.kids (fun _ i => [.int .i64 (i : Int)]) (fun _ => st) (fun _ i rest => (f.kids = g.kids ↔ rest = g.kids.drop i)) ?_ ?_ () (by simp)
 ·intro i x rest _ hi hx hq kk
  obtain ⟨y, hy⟩ : ∃ y, g.kids[i]? = some y := ⟨g.kids[i]'(by omega), List.getElem?_eq_getElem _⟩
  refine zq3 (k2 f) ?_
  refine zq3 (l2 f _) ?_
  refine zq3 (x := .int .i64 f.kids.length) (by simp) ?_
  refine zq3 (x := .bool true) (by simp [hi]) ?_
  rw [zqa, zqk]
  refine zq3 (k2 f) ?_
  refine zq3 (l2 f _) ?_
  refine zq3 (zq81 .i64 hx) ?_
  refine zq3 (x := fm x) (by simp) ?_
  refine zq3 (k2 g) ?_
  refine zq3 (l2 g _) ?_
  refine zq3 (zq81 .i64 hy) ?_
  refine zq3 (x := fm y) (by simp) ?_
  refine zq1 (ih x (List.mem_of_getElem? hx) y _) ?_
  refine zq3 (x := .bool (decide (x ≠ y))) (by simp) ?_
  rw [zqd8 hy, List.cons.injEq] at hq
  refine zql (fun h => Just.bool (no fun hh => h (hq.1 hh.2.2).1) (Sub.refl _)) (fun h => ?_)
  refine zq3 (x := .int .i64 ((i + 1 : Nat) : Int)) (by simp; rw [zqs (by omega) (by omega)]) ?_
  exact kk () (by rw [hq]; simp only [Decidable.not_not] at h; simp [h])
 ·intro _ hq
  refine zq3 (k2 f) ?_
  refine zq3 (l2 f _) ?_
  refine zq3 (x := .int .i64 f.kids.length) (by simp) ?_
  refine zq3 (x := .bool false) (by simp) ?_
  rw [zqa, zqd]
  refine Just.bool ?_ (Sub.refl _)
  simp only [Decidable.not_not] at h1 h2 h3
  rw [← hv, decide_eq_true (Fm.ext_of h1 h2 (hq.2 ?_))]
  rw [List.drop_of_length_le (by omega)]
def Prvs (G : List Fm) : List Pf → List Fm → Prop
 | [], [] => True
 | p :: ps, f :: fs => Prv G p f ∧ Prvs G ps fs
 | _, _ => False
theorem Prvs.get {G : List Fm} : ∀ {ps : List Pf} {fs : List Fm}, Prvs G ps fs → ps.length = fs.length ∧ ∀ (i : Nat) (p : Pf), ps[i]? = some p → ∃ f, fs[i]? = some f ∧ Prv G p f
 | [], [], _ => ⟨rfl, by simp⟩
 | p :: ps, f :: fs, ⟨h1, h2⟩ => by
   obtain ⟨e, h⟩ := Prvs.get h2
   refine ⟨by simp [e], fun i q hq => ?_⟩
   cases i with
   | zero => simp at hq; subst hq; exact ⟨f, rfl, h1⟩
   | succ i => simp at hq; exact h i q hq
 | [], _ :: _, h => h.elim
 | _ :: _, [], h => h.elim
end Go.H.Tryz
set_option linter.unusedVariables false
set_option linter.unusedSimpArgs false
namespace Go.H.Tryz
open Go Go.H

theorem zqff (p : Pf) : p.size ≤ p.count := by
 induction p with
 | hyp n => exact Nat.le_refl _
 | _ => simp only [Pf.size, Pf.count] at *; omega
theorem zqhe {p : Pf} (h : pfOK p = true) : p.count ≤ 150 ∧ p.size ≤ 150 ∧ p.hok = true := by
 unfold pfOK at h
 rw [Bool.and_eq_true, decide_eq_true_eq] at h
 have := zqff p
 exact ⟨h.1, by omega, h.2⟩
end Go.H.Tryz
set_option linter.unusedVariables false
set_option linter.unusedSimpArgs false
namespace Go.H.Tryz
open Go Go.H

theorem Src.at_ {bs : List UInt8} {M : Int} {b : Nat} {s s' : St} (h : Src bs M b s) (e : s' b = s b) : Src bs M b s' := by
 obtain ⟨a, c, h1, h2⟩ := h.is
 exact ⟨a, c, by rw [e]; exact h1, h2⟩
def AHyps (p : PV) : Prop := ∃ fs : List Fm, p = fms fs ∧ fs.length ≤ 3 ∧ ∀ f ∈ fs, f.ok = true ∧ f.size ≤ 7
theorem zqeb (bs : List UInt8) (hl : bs.length ≤ 1000000000) (b : Nat) (M : Int) (hM0 : 0 ≤ M) (hM : M ≤ 100000) (st : St) (hs : Src bs M b st) : zq5 prog n_spec_l00Src_hyps [.ptr b 0] st (Drew bs (M + 100) b AHyps st) := by
 apply zqep
 unfold zq7c
 refine zq3 (x := .sl 3 true []) rfl ?_
 refine zq78 (zqv bs hl M (by omega) 4 (by omega) b st hs) (fun p o hp hs1 => ?_)
 obtain ⟨k', rfl, k0, k1⟩ := hp
 obtain ⟨k, hk, rfl⟩ : ∃ k : Nat, k ≤ 3 ∧ k' = (k : Int) := ⟨k'.toNat, by omega, by omega⟩
 refine zq6o (σ := List Fm × PV × St × HObj) (fun z => k - z.1.length) (fun z => [z.2.1, .int .i64 ((k - z.1.length : Nat) : Int)]) (fun z => z.2.2.1)
  (fun z => z.1.length ≤ k ∧ (∀ f ∈ z.1, f.ok = true ∧ f.size ≤ 7) ∧ Grow (upd st b z.2.2.2) 3 (z.1.map fm) z.2.1 z.2.2.1 ∧ Src bs (M + 1 + 32 * z.1.length) b (upd st b z.2.2.2)) ?_ ([], .sl 3 true [], upd st b o, o) ⟨by simp, by simp, Grow.nil _ _ _, by simpa using hs1⟩
 rintro ⟨fs, p, s, o2⟩ ⟨hj, hfs, hg, hsrc⟩ ih
 simp only at hj hfs hg hsrc ih ⊢
 have hsb : s b = (upd st b o2) b := by rw [zq2]; exact hg.sub _ _ (zq2 _ _ _)
 have hsrc' := Src.at_ hsrc hsb
 refine zq3 (x := .bool (decide (fs.length < k))) (by
  show zqc .gtr (.int .i64 ((k - fs.length : Nat) : Int)) (.int .i64 0) = _
  rw [zq7z, q_gtr]
  congr 2
  simp only [decide_eq_decide]
  omega) ?_
 refine zq1t (fun hpos => ?_) (fun hpos => ?_)
 ·refine zq78 (zqv bs hl _ (by omega) 3 (by omega) b s hsrc') (fun p1 o3 hp1 hs3 => ?_)
  obtain ⟨d', rfl, d0, d1⟩ := hp1
  obtain ⟨d, hd, rfl⟩ : ∃ d : Nat, d ≤ 2 ∧ d' = (d : Int) := ⟨d'.toNat, by omega, by omega⟩
  have hcd : fmC d ≤ 30 ∧ fmS d ≤ 7 := by
   have : d = 0 ∨ d = 1 ∨ d = 2 := by omega
   rcases this with rfl | rfl | rfl <;> decide
  refine zq78 (zq4d bs hl d _ (by omega) (by omega) b _ hs3) (fun p2 o4 hp2 hs4 => ?_)
  obtain ⟨f, rfl, hf, hfz⟩ := hp2
  rw [zq10] at hs4 ⊢
  refine zq3 (x := .sl 3 true [fm f]) (by simp) ?_
  have hg4 := hg.store o4 (zq2 _ _ _)
  rw [zq10] at hg4
  refine hg4.append (zq2n _ _ _ _) (by simp; omega) fun p5 s5 hg5 => ?_
  refine zq3 (x := .int .i64 ((k - (fs.length + 1) : Nat) : Int)) (by
   show zqc .sub (.int .i64 ((k - fs.length : Nat) : Int)) (.int .i64 1) = _
   rw [qdec (by omega)]
   congr 2
   omega) ?_
  have := ih (fs ++ [f], p5, s5, o4) (by simp only [List.length_append, List.length_cons, List.length_nil]; omega) ⟨by simp; omega, by
   intro x hx
   rcases List.mem_append.1 hx with hx | hx
   ·exact hfs x hx
   ·rw [List.mem_singleton.1 hx]; exact ⟨hf, by omega⟩, by simpa using hg5, by
   refine (Src.at_ hs4 (by rw [zq2, zq2])).mono ?_
   simp only [List.length_append, List.length_cons, List.length_nil]
   omega⟩
  simpa using this
 ·refine zqbh (hg.freeze) ?_
  refine zq1h (Sub.refl _) ⟨_, o2, rfl, ⟨fs, rfl, by omega, hfs⟩, rfl, hsrc.mono (by omega)⟩
end Go.H.Tryz
set_option linter.unusedVariables false
set_option linter.unusedSimpArgs false
namespace Go.H.Tryz
open Go Go.H

def prC : Nat → Int
 | 0 => 60
 | n + 1 => 60 + 2 * prC n
theorem prC_pos : ∀ n, 60 ≤ prC n
 | 0 => by decide
 | n + 1 => by have := prC_pos n; unfold prC; omega
def APrf (G : List Fm) (p : PV) : Prop := ∃ (x : Pf) (f : Fm), p = .tup [pf x, fm f] ∧ Prv G x f ∧ x.fok = true ∧ f.ok = true
abbrev z4p : List PV := [.int .i64 0, .int .i64 0, .sl 0 true [], .sl 0 true []]
theorem lit_p1 (a : Pf) : zq24 4 1 0 [] [(0, pf a)] = some (.sl 4 true [pf a]) := by simp
theorem lit_p2 (a b : Pf) : zq24 4 2 0 [] [(0, pf a), (1, pf b)] = some (.sl 4 true [pf a, pf b]) := by simp
theorem lit_f1 (a : Fm) : zq24 3 1 0 [] [(0, fm a)] = some (.sl 3 true [fm a]) := by simp
theorem prf_end {bs : List UInt8} {M M' : Int} {b : Nat} {st w : St} {L : List (Nat × PV)} {v6 v7 : Nat} {y : PV} {x : Pf} {f : Fm} {G : List Fm} (h : HS bs M b st w L [(v6, z4p), (v7, z3f)]) (hy : Box 4 y) (hc : ∀ s, Conv [y] s [pf x] s) (hm : M ≤ M') (hp : Prv G x f) (hx : x.fok = true) (hf : f.ok = true) :
  zq4 w 4 (.ptr v6 0) y fun st1 => zq4 st1 3 (.ptr v7 0) (fm f) fun st2 => qb (zq0 st2 true 4 (.ptr v6 0)) fun r => qb (zq0 st2 true 3 (.ptr v7 0)) fun r1 => retR (Drew bs M' b (APrf G) st) (.tup [r, r1]) st2 := by
 refine h.store hy rfl fun w1 h1 => ?_
 refine h1.store (Box.fm f) rfl fun w2 h2 => ?_
 refine zq3 (h2.load hy (by simp)) ?_
 refine zq3 (h2.ldf (f := f) (by simp)) ?_
 refine zqbh (Conv.tup (Conv.cons (hc w2) (Conv.sub (Sub.refl _)))) ?_
 exact (h2.mono hm).fin ⟨x, f, rfl, hp, hx, hf⟩
theorem zqe7 {bs : List UInt8} {M M' : Int} {b : Nat} {st w : St} {L : List (Nat × PV)} {v6 v7 : Nat} {y : PV} {x : Pf} {f : Fm} {G : List Fm} (h : HS bs M b st w ((v6, y) :: L) [(v7, z3f)]) (hy : Box 4 y) (hc : ∀ s, Conv [y] s [pf x] s) (hm : M ≤ M') (hp : Prv G x f) (hx : x.fok = true) (hf : f.ok = true) :
  zq4 w 3 (.ptr v7 0) (fm f) fun st2 => qb (zq0 st2 true 4 (.ptr v6 0)) fun r => qb (zq0 st2 true 3 (.ptr v7 0)) fun r1 => retR (Drew bs M' b (APrf G) st) (.tup [r, r1]) st2 := by
 refine h.store (Box.fm f) rfl fun w2 h2 => ?_
 refine zq3 (h2.load hy (by simp)) ?_
 refine zq3 (h2.ldf (f := f) (by simp)) ?_
 refine zqbh (Conv.tup (Conv.cons (hc w2) (Conv.sub (Sub.refl _)))) ?_
 exact (h2.mono hm).fin ⟨x, f, rfl, hp, hx, hf⟩
theorem fld0 {bs : List UInt8} {M : Int} {b : Nat} {st w : St} {L : List (Nat × PV)} {P : List (Nat × List PV)} {v : Nat} {f : Fm} (h : HS bs M b st w L P) (hv : (v, fm f) ∈ L) : zq0 w false 1 (.ptr v 0) = some (.int .i64 f.kind) := by
 rw [zqp (h.got _ hv), List.drop_zero]; exact fm_f0 f 1
theorem fld2 {bs : List UInt8} {M : Int} {b : Nat} {st w : St} {L : List (Nat × PV)} {P : List (Nat × List PV)} {v : Nat} {f : Fm} (h : HS bs M b st w L P) (hv : (v, fm f) ∈ L) : zq0 w false 1 (.ptr v 2) = some (.sl 3 false (f.kids.map fm)) := by
 rw [zqp (h.got _ hv)]; exact fm_f2 f 1
def meas (deep : Int) (G : List Fm) : Int := if deep ≤ 0 then (if G = [] then 1 else 0) else 2 * deep + 1
set_option maxHeartbeats 1000000 in
theorem zqcq (bs : List UInt8) (hl : bs.length ≤ 1000000000) (b : Nat) : ∀ (n : Nat) (G : List Fm) (deep : Int), meas deep G ≤ n → -100 ≤ deep - n → deep ≤ 100 → G.length + n ≤ 100 → (∀ g ∈ G, g.ok = true) → ∀ (M : Int), 0 ≤ M → M + prC n ≤ 1000000 → ∀ (st : St), Src bs M b st →
  zq5 prog n_spec_l00Src_proof [.ptr b 0, fms G.reverse, .int .i64 deep] st (Drew bs (M + prC n) b (APrf G) st) := by
 intro n
 induction n using Nat.strongRecOn with
 | _ n IH =>
 intro G deep hme hd0 hd1 hGl hGok M hM0 hM st hs
 have hpc := prC_pos n
 apply zqdc
 unfold zq6a
 refine (HS.start hs).alloc fun v6 w1 h1 => ?_
 refine h1.alloc fun v7 w2 h2 => ?_
 have h2 : HS bs M b st w2 [] [(v6, z4p), (v7, z3f)] := h2
 refine zq52 fun J hJ => ?_
 have main : ∀ c : Bool, c = decide (deep ≤ 0 ∧ G ≠ []) → J [.bool c] w2 := fun c hc => by
  refine hJ _ _ ?_
  show cb (.bool c) _
  rw [zqa]
  refine zq50 (fun ht => ?_) (fun hfa => ?_)
  ·-- a hypothesis
   rw [ht] at hc
   obtain ⟨hd, hG⟩ := of_decide_eq_true hc.symm
   have hpos : 0 < G.length := List.length_pos_iff.2 hG
   refine zq3 (x := .int .i64 (G.length : Int)) (by simp [fms]) ?_
   refine h2.drew (zqv bs hl M (by omega) G.length (by omega) b w2 h2.src) fun p w3 hp h3 => ?_
   obtain ⟨k', rfl, k0, k1⟩ := hp
   obtain ⟨k, hk, rfl⟩ : ∃ k : Nat, k < G.length ∧ k' = (k : Int) := ⟨k'.toNat, by omega, by omega⟩
   refine zq3 (x := .agg [.int .i64 1, .int .i64 (k : Int), .sl 0 true [], .sl 0 true []]) rfl ?_
   refine zq3 (x := .int .i64 (G.length : Int)) (by simp [fms]) ?_
   refine zq3 (qdec (by omega)) ?_
   refine zq3 (x := .int .i64 ((G.length - 1 - k : Nat) : Int)) (by simp; rw [zqs (by omega) (by omega)]; omega) ?_
   have hget : G.reverse[G.length - 1 - k]? = some G[k] := by
    rw [List.getElem?_reverse (by omega), show G.length - 1 - (G.length - 1 - k) = k by omega, List.getElem?_eq_getElem hk]
   refine zq3 (zq81 .i64 hget) ?_
   refine zq3 (lfm _ _) ?_
   refine h3.store (box4 _ _ _ _ rfl) rfl fun w4 h4 => ?_
   refine ⟨lfm _ _, ?_⟩
   refine h4.store (Box.fm _) rfl fun w5 h5 => ?_
   refine zq3 (h5.load (y := .agg [.int .i64 1, .int .i64 (k : Int), .sl 0 true [], .sl 0 true []]) (box4 _ _ _ _ rfl) (by simp)) ?_
   refine zq3 (h5.top (Box.fm _)) ?_
   refine zqbh (Conv.tup (Conv.cons (zqfp w5 1 (k : Int) 0 0 true true [] [] (.hyp k) ⟨rfl, rfl, rfl, rfl⟩ (.inr rfl) (.inr rfl)) (Conv.sub (Sub.refl _)))) ?_
   exact (h5.mono (by omega)).fin ⟨.hyp k, G[k], rfl, .hyp (List.getElem?_eq_getElem hk), rfl, hGok _ (List.getElem_mem hk)⟩
  ·rw [hfa] at hc
   have hno := of_decide_eq_false hc.symm
   have hcase : 0 < deep ∨ (deep ≤ 0 ∧ G = []) := by
    by_cases h : deep ≤ 0
    ·exact .inr ⟨h, Classical.byContradiction fun hG => hno ⟨h, hG⟩⟩
    ·exact .inl (by omega)
   obtain ⟨n, rfl⟩ : ∃ m, n = m + 1 := by
    refine ⟨n - 1, ?_⟩
    unfold meas at hme
    rcases hcase with h | ⟨h, hG⟩
    ·rw [if_neg (by omega)] at hme; omega
    ·rw [if_pos h, if_pos hG] at hme; omega
   have hpc' : prC (n + 1) = 60 + 2 * prC n := rfl
   have hpn := prC_pos n
   refine zq3 (x := .bool (decide (0 < deep))) (by simp) ?_
   refine zq52 fun J1 hJ1 => ?_
   have body : ∀ (ch : Int) (w : St), 0 ≤ ch → ch < 5 → (deep ≤ 0 → ch = 3) → HS bs (M + 1) b st w [] [(v6, z4p), (v7, z3f)] → J1 [.int .i64 ch] w := fun ch w c0 c1 c3 hw => by
    have rec1 : ∀ (deep' : Int) (M' : Int) (w : St), (deep' = deep - 1 ∨ deep' = deep - 2) → 0 < deep → 0 ≤ M' → M' + prC n ≤ 1000000 → Src bs M' b w → zq5 prog n_spec_l00Src_proof [.ptr b 0, fms G.reverse, .int .i64 deep'] w (Drew bs (M' + prC n) b (APrf G) w) := fun deep' M' w hd' hpos m0 m1 hs' => by
     refine IH n (by omega) G deep' ?_ (by omega) (by omega) (by omega) hGok M' m0 m1 w hs'
     unfold meas at hme ⊢
     rw [if_neg (by omega)] at hme
     split
     ·split <;> omega
     ·omega
    refine hJ1 _ _ ?_
    have e2 : zqc .sub (.int .i64 deep) (.int .i64 2) = some (.int .i64 (deep - 2)) := by rw [zq7z, q_sub, zqs (by omega) (by omega)]
    refine zq3 (x := .bool (decide (ch = 0))) (by simp) ?_
    refine zq1t (fun h0 => ?_) (fun h0 => ?_)
    ·have hpos : 0 < deep := by
      by_cases h : deep ≤ 0
      ·have := c3 h; omega
      ·omega
     refine zq3 (qdec (by omega)) ?_
     refine hw.drew (rec1 (deep - 1) (M + 1) w (.inl rfl) hpos (by omega) (by omega) hw.src) fun p w3 hp h3 => ?_
     obtain ⟨x, f, rfl, hpx, hfx, hff⟩ := hp
     refine zq3 (x := pf x) rfl ?_
     refine zq3 (x := fm f) rfl ?_
     refine h3.pair rfl rfl fun v10 v11 w4 h4 => ?_
     refine zq3 e2 ?_
     refine h4.drew (rec1 (deep - 2) (M + 1 + prC n) w4 (.inr rfl) hpos (by omega) (by omega) h4.src) fun p w5 hp h5 => ?_
     obtain ⟨y, g, rfl, hpy, hfy, hfg⟩ := hp
     refine zq3 (x := pf y) rfl ?_
     refine zq3 (x := fm g) rfl ?_
     refine h5.pair rfl rfl fun v12 v13 w6 h6 => ?_
     have q11 := h6.ldf (v := v11) (f := f) (by simp)
     have q13 := h6.ldf (v := v13) (f := g) (by simp)
     have q10 := h6.ldp (v := v10) (p := x) (by simp)
     have q12 := h6.ldp (v := v12) (p := y) (by simp)
     refine zq3 q11 ?_
     refine zq3 q13 ?_
     refine zq3 (lit_f2 f g) ?_
     refine zq3 q10 ?_
     refine zq3 q12 ?_
     refine zq3 (lit_p2 x y) ?_
     refine zq3 (x := .agg [.int .i64 2, .int .i64 0, .sl 3 true [fm f, fm g], .sl 4 true [pf x, pf y]]) rfl ?_
     refine zq3 q11 ?_
     refine zq3 q13 ?_
     refine zq1 (zq8x 2 f g (.inl rfl) _) ?_
     refine ⟨q12, q10, q13, q11, ?_⟩
     exact prf_end h6 (box4 _ _ _ _ rfl) (fun s => zqfp s 2 0 3 4 true true [f, g] [x, y] (.andI f g x y) ⟨rfl, rfl, rfl, rfl⟩ (.inl rfl) (.inl rfl)) (by omega) (.andI hpx hpy) (by simp [Pf.fok, hff, hfg, hfx, hfy]) (by simp [twoF, Fm.ok, hff, hfg])
    ·refine zq3 (x := .bool (decide (ch = 1))) (by simp) ?_
     refine zq1t (fun h1c => ?_) (fun h1c => ?_)
     ·have hpos : 0 < deep := by
       by_cases h : deep ≤ 0
       ·have := c3 h; omega
       ·omega
      refine zq3 (qdec (by omega)) ?_
      refine hw.drew (rec1 (deep - 1) (M + 1) w (.inl rfl) hpos (by omega) (by omega) hw.src) fun p w3 hp h3 => ?_
      obtain ⟨x, f, rfl, hpx, hfx, hff⟩ := hp
      refine zq3 (x := pf x) rfl ?_
      refine zq3 (x := fm f) rfl ?_
      refine h3.pair rfl rfl fun v14 v15 w4 h4 => ?_
      refine zq3 (x := .ptr v15 0) rfl ?_
      refine zq3 (fld0 h4 (f := f) (by simp)) ?_
      refine zq3 (x := .bool (decide (f.kind = 2))) (by simp) ?_
      refine zq1t (fun hk2 => ?_) (fun hk2 => ?_)
      ·obtain ⟨a, c, rfl⟩ : ∃ a c, f = .and a c := by cases f <;> simp [Fm.kind] at hk2 ⊢
       simp only [Fm.ok, Bool.and_eq_true] at hff
       refine h4.drew (zqv bs hl _ (by omega) 2 (by omega) b w4 h4.src) fun p w5 hp h5 => ?_
       obtain ⟨k, rfl, k0, k1⟩ := hp
       have f2 := fld2 h5 (v := v15) (f := .and a c) (by simp)
       refine zq3 (x := .int .i64 (3 + k)) (by simp; rw [zqs (by omega) (by omega)]) ?_
       refine zq3 (x := .ptr v15 2) rfl ?_
       refine zq3 f2 ?_
       refine zq3 (x := .ref (fm a).cells) rfl ?_
       refine zq3 (lfm _ _) ?_
       refine zq3 (x := .ptr v15 2) rfl ?_
       refine zq3 f2 ?_
       refine zq3 (x := .ref (fm c).cells) rfl ?_
       refine zq3 (lfm _ _) ?_
       refine zq3 (lit_f2 a c) ?_
       refine zq3 (h5.ldp (p := x) (by simp)) ?_
       refine zq3 (lit_p1 x) ?_
       refine zq3 (x := .agg [.int .i64 (3 + k), .int .i64 0, .sl 3 true [fm a, fm c], .sl 4 true [pf x]]) rfl ?_
       refine zq3 (x := .ptr v15 2) rfl ?_
       refine zq3 f2 ?_
       have hkk : k = 0 ∨ k = 1 := by omega
       rcases hkk with rfl | rfl
       ·refine zq3 (x := .ref (fm a).cells) rfl ?_
        refine zq3 (lfm _ _) ?_
        refine h5.store (box4 _ _ _ _ rfl) rfl fun w6 h6 => ?_
        refine ⟨lfm _ _, fld2 h6 (f := .and a c) (by simp), ?_⟩
        exact zqe7 h6 (box4 _ _ _ _ rfl) (fun s => zqfp s 3 0 3 4 true true [a, c] [x] (.fst a c x) ⟨rfl, rfl, rfl, rfl⟩ (.inl rfl) (.inl rfl)) (by omega) (.fst hpx) (by simp [Pf.fok, hff, hfx]) hff.1
       ·refine zq3 (x := .ref (fm c).cells) rfl ?_
        refine zq3 (lfm _ _) ?_
        refine h5.store (box4 _ _ _ _ rfl) rfl fun w6 h6 => ?_
        refine ⟨lfm _ _, fld2 h6 (f := .and a c) (by simp), ?_⟩
        exact zqe7 h6 (box4 _ _ _ _ rfl) (fun s => zqfp s 4 0 3 4 true true [a, c] [x] (.snd a c x) ⟨rfl, rfl, rfl, rfl⟩ (.inl rfl) (.inl rfl)) (by omega) (.snd hpx) (by simp [Pf.fok, hff, hfx]) hff.2
      ·refine zq3 (x := .ptr v15 0) rfl ?_
       refine zq3 (fld0 h4 (f := f) (by simp)) ?_
       refine zq3 (x := .bool (decide (f.kind = 4))) (by simp) ?_
       refine zq1t (fun hk4 => ?_) (fun hk4 => ?_)
       ·obtain rfl : f = .bot := by cases f <;> simp [Fm.kind] at hk4 ⊢
        refine h4.drew (zq4d bs hl 1 _ (by omega) (by have : fmC 1 = 9 := rfl; omega) b w4 h4.src) fun p w5 hp h5 => ?_
        obtain ⟨g, rfl, hg, hgs⟩ := hp
        refine h5.alloc fun v17 w6 h6 => ?_
        refine h6.store3 (Box.fm g) rfl fun w7 h7 => ?_
        refine zq3 (h7.ldf (f := g) (by simp)) ?_
        refine zq3 (lit_f1 g) ?_
        refine zq3 (h7.ldp (p := x) (by simp)) ?_
        refine zq3 (lit_p1 x) ?_
        refine zq3 (x := .agg [.int .i64 7, .int .i64 0, .sl 3 true [fm g], .sl 4 true [pf x]]) rfl ?_
        refine zq3 (h7.ldf (f := g) (by simp)) ?_
        refine h7.store (box4 _ _ _ _ rfl) rfl fun w8 h8 => ?_
        refine ⟨h8.ldf (by simp), ?_⟩
        have h9 : fmC 1 = 9 := rfl
        exact zqe7 h8 (box4 _ _ _ _ rfl) (fun s => zqfp s 7 0 3 4 true true [g] [x] (.botE g x) ⟨rfl, rfl, rfl, rfl⟩ (.inl rfl) (.inl rfl)) (by omega) (.botE hpx) (by simp [Pf.fok, hg, hfx]) hg
       ·refine zq3 (h4.ldp (p := x) (by simp)) ?_
        refine zq3 (h4.ldf (f := f) (by simp)) ?_
        refine h4.store (Box.pf x) rfl fun w8 h8 => ?_
        refine ⟨h8.ldf (by simp), ?_⟩
        exact zqe7 h8 (Box.pf x) (fun s => Conv.sub (Sub.refl _)) (by omega) hpx hfx hff
     ·refine zq3 (x := .bool (decide (ch = 2))) (by simp) ?_
      refine zq1t (fun h2c => ?_) (fun h2c => ?_)
      ·have hpos : 0 < deep := by
        by_cases h : deep ≤ 0
        ·have := c3 h; omega
        ·omega
       refine zq3 (qdec (by omega)) ?_
       refine hw.drew (rec1 (deep - 1) (M + 1) w (.inl rfl) hpos (by omega) (by omega) hw.src) fun p w3 hp h3 => ?_
       obtain ⟨x, f, rfl, hpx, hfx, hff⟩ := hp
       refine zq3 (x := pf x) rfl ?_
       refine zq3 (x := fm f) rfl ?_
       refine h3.pair rfl rfl fun v18 v19 w4 h4 => ?_
       refine zq3 e2 ?_
       refine h4.drew (rec1 (deep - 2) (M + 1 + prC n) w4 (.inr rfl) hpos (by omega) (by omega) h4.src) fun p w5 hp h5 => ?_
       obtain ⟨y, g, rfl, hpy, hfy, hfg⟩ := hp
       refine zq3 (x := pf y) rfl ?_
       refine zq3 (x := fm g) rfl ?_
       refine h5.pair rfl rfl fun v20 v21 w6 h6 => ?_
       have q19 := h6.ldf (v := v19) (f := f) (by simp)
       have q21 := h6.ldf (v := v21) (f := g) (by simp)
       have q18 := h6.ldp (v := v18) (p := x) (by simp)
       have q20 := h6.ldp (v := v20) (p := y) (by simp)
       refine zq52 fun J2 hJ2 => ?_
       have other : J2 [.bool false] w6 := by
        refine hJ2 _ _ ?_
        refine zqis rfl ?_
        refine zq3 q18 ?_
        refine zq3 q19 ?_
        refine h6.store (Box.pf x) rfl fun w8 h8 => ?_
        refine ⟨h8.ldf (by simp), ?_⟩
        exact zqe7 h8 (Box.pf x) (fun s => Conv.sub (Sub.refl _)) (by omega) hpx hfx hff
       refine zq3 (x := .ptr v19 0) rfl ?_
       refine zq3 (fld0 h6 (f := f) (by simp)) ?_
       refine zq3 (x := .bool (decide (f.kind = 3))) (by simp) ?_
       refine zq1t (fun hk3 => ?_) (fun hk3 => ?_)
       ·obtain ⟨a, c, rfl⟩ : ∃ a c, f = .imp a c := by cases f <;> simp [Fm.kind] at hk3 ⊢
        simp only [Fm.ok, Bool.and_eq_true] at hff
        have f2 := fld2 h6 (v := v19) (f := .imp a c) (by simp)
        refine zq3 (x := .ptr v19 2) rfl ?_
        refine zq3 f2 ?_
        refine zq3 (x := .ref (fm a).cells) rfl ?_
        refine zq3 (lfm _ _) ?_
        refine zq3 q21 ?_
        refine zq1 (zqlx a g _) ?_
        by_cases hag : a = g
        ·subst hag
         rw [decide_eq_true rfl]
         refine hJ2 _ _ ?_
         refine cbr_t rfl ?_
         refine zq3 q21 ?_
         refine zq3 (x := .ptr v19 2) rfl ?_
         refine zq3 f2 ?_
         refine zq3 (x := .ref (fm c).cells) rfl ?_
         refine zq3 (lfm _ _) ?_
         refine zq3 (lit_f2 a c) ?_
         refine zq3 q18 ?_
         refine zq3 q20 ?_
         refine zq3 (lit_p2 x y) ?_
         refine zq3 (x := .agg [.int .i64 6, .int .i64 0, .sl 3 true [fm a, fm c], .sl 4 true [pf x, pf y]]) rfl ?_
         refine zq3 (x := .ptr v19 2) rfl ?_
         refine zq3 f2 ?_
         refine zq3 (x := .ref (fm c).cells) rfl ?_
         refine zq3 (lfm _ _) ?_
         refine h6.store (box4 _ _ _ _ rfl) rfl fun w8 h8 => ?_
         refine ⟨lfm _ _, fld2 h8 (f := .imp a c) (by simp), ?_⟩
         exact zqe7 h8 (box4 _ _ _ _ rfl) (fun s => zqfp s 6 0 3 4 true true [a, c] [x, y] (.use a c x y) ⟨rfl, rfl, rfl, rfl⟩ (.inl rfl) (.inl rfl)) (by omega) (.use hpx hpy) (by simp [Pf.fok, hff, hfx, hfy]) hff.2
        ·rw [decide_eq_false hag]
         exact other
       ·exact other
      ·refine hw.drew (zqv bs hl _ (by omega) 2 (by omega) b w hw.src) fun p w3 hp h3 => ?_
       obtain ⟨k', rfl, k0, k1⟩ := hp
       obtain ⟨k, hk, rfl⟩ : ∃ k : Nat, k < 2 ∧ k' = (k : Int) := ⟨k'.toNat, by omega, by omega⟩
       have hfk : fmC k ≤ 9 := by
        have h9 : fmC 1 = 9 := rfl
        have h0 : fmC 0 ≤ 9 := by decide
        rcases (show k = 0 ∨ k = 1 by omega) with rfl | rfl <;> omega
       have hfk0 : 0 ≤ fmC k := by
        rcases (show k = 0 ∨ k = 1 by omega) with rfl | rfl <;> decide
       refine h3.drew (zq4d bs hl k _ (by omega) (by omega) b w3 h3.src) fun p w4 hp h4 => ?_
       obtain ⟨d, rfl, hd, hds⟩ := hp
       refine h4.alloc fun v22 w5 h5 => ?_
       refine h5.store3 (Box.fm d) rfl fun w6 h6 => ?_
       refine zq3 (h6.ldf (f := d) (by simp)) ?_
       refine zq1 (zqly G.reverse d (by simp; omega) _) ?_
       refine zq3 (qdec (by omega)) ?_
       have hrev : fms (G.reverse ++ [d]) = fms (d :: G).reverse := by rw [List.reverse_cons]
       rw [hrev]
       refine h6.drew (IH n (by omega) (d :: G) (deep - 1) ?_ (by omega) (by omega) (by simp; omega) ?_ _ ?_ ?_ w6 h6.src) fun p w7 hp h7 => ?_
       ·unfold meas at hme ⊢
        split
        ·rw [if_neg (by simp)]; omega
        ·rw [if_neg (by omega)] at hme; omega
       ·intro g hg
        rcases List.mem_cons.1 hg with rfl | hg
        ·exact hd
        ·exact hGok g hg
       ·omega
       ·omega
       obtain ⟨x, f, rfl, hpx, hfx, hff⟩ := hp
       refine zq3 (x := pf x) rfl ?_
       refine zq3 (x := fm f) rfl ?_
       refine h7.pair rfl rfl fun v23 v24 w8 h8 => ?_
       have q22 := h8.ldf (v := v22) (f := d) (by simp)
       have q24 := h8.ldf (v := v24) (f := f) (by simp)
       have q23 := h8.ldp (v := v23) (p := x) (by simp)
       refine zq3 q22 ?_
       refine zq3 q24 ?_
       refine zq3 (lit_f2 d f) ?_
       refine zq3 q23 ?_
       refine zq3 (lit_p1 x) ?_
       refine zq3 (x := .agg [.int .i64 5, .int .i64 0, .sl 3 true [fm d, fm f], .sl 4 true [pf x]]) rfl ?_
       refine zq3 q22 ?_
       refine zq3 q24 ?_
       refine zq1 (zq8x 3 d f (.inr rfl) _) ?_
       refine ⟨q23, q24, q22, ?_⟩
       exact prf_end h8 (box4 _ _ _ _ rfl) (fun s => zqfp s 5 0 3 4 true true [d, f] [x] (.funI d f x) ⟨rfl, rfl, rfl, rfl⟩ (.inl rfl) (.inl rfl)) (by omega) (.funI hpx) (by simp [Pf.fok, hd, hff, hfx]) (by simp [twoF, Fm.ok, hd, hff])
   refine zq1t (fun hpos => ?_) (fun hpos => ?_)
   ·refine h2.drew (zqv bs hl M (by omega) 5 (by omega) b w2 h2.src) fun p w3 hp h3 => ?_
    obtain ⟨k', rfl, k0, k1⟩ := hp
    exact body k' w3 k0 (by omega) (fun h => by omega) h3
   ·exact body 3 w2 (by omega) (by omega) (fun _ => rfl) (h2.mono (by omega))
 refine zq3 (x := .bool (decide (deep ≤ 0))) (by simp) ?_
 refine zq1t (fun h => ?_) (fun h => ?_)
 ·refine zq3 (x := .int .i64 (G.length : Int)) (by simp [fms]) ?_
  refine zq3 (x := .bool (decide (0 < (G.length : Int)))) (by simp) ?_
  refine main _ ?_
  congr 1
  refine propext ⟨fun h2 => ⟨h, fun e => by rw [e] at h2; simp at h2⟩, fun h2 => ?_⟩
  have := List.length_pos_iff.2 h2.2
  omega
 ·exact main false (decide_eq_false (fun h2 => h h2.1)).symm
end Go.H.Tryz
set_option linter.unusedVariables false
set_option linter.unusedSimpArgs false
namespace Go.H.Tryz
open Go Go.H

end Go.H.Tryz
