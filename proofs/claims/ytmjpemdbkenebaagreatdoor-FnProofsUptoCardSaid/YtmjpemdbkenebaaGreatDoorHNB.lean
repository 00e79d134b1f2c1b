/- Part of a proof that the program answers as the reference does: ZHC110, ZHC111, ZHC112, ZHC113, ZHC114. -/
import Derived.Test.YtmjpemdbkenebaaGreatDoorHY
import Derived.Test.YtmjpemdbkenebaaGreatDoorHZ
import Derived.Test.YtmjpemdbkenebaaGreatDoorHM
import Derived.Test.YtmjpemdbkenebaaGreatDoorHW
set_option linter.unusedVariables false
set_option linter.unusedSimpArgs false
namespace Go.H.Tryz
open Go Go.H

abbrev z3f : List PV := [.int .i64 0, .int .i64 0, .sl 0 true []]
theorem zqd5 (f : Fm) : f.kids.length ≤ 2 := by cases f <;> simp [Fm.kids]
theorem zqad (f g : Fm) (st : St) : zq5 prog n_laws_sameForm [fm f, fm g] st (Just (.bool (decide (f = g))) st) := by
 induction f using Fm.ind generalizing g st with
 | _ f ih =>
 apply zqjf
 unfold zqaq
 generalize hv : decide (f = g) = v
 refine zq9 (zqm _) ?_
 refine zq9 (zqm _) ?_
 have hfk := zqd5 f
 have no : ¬ (f.kind = g.kind ∧ f.num = g.num ∧ f.kids = g.kids) → false = v := fun h => by rw [← hv, decide_eq_false (fun e => h (by rw [e]; exact ⟨rfl, rfl, rfl⟩))]
 refine zq3 (x := .ref (fm f).cells) (by simp [q_fa]) ?_
 refine zq3 (x := .int .i64 f.kind) (by simp) ?_
 refine zq3 (x := .ref (fm g).cells) (by simp [q_fa]) ?_
 refine zq3 (x := .int .i64 g.kind) (by simp) ?_
 refine zq3 (x := .bool (decide (f.kind ≠ g.kind))) (by simp) ?_
 refine zql (fun h1 => Just.bool (no fun h => h1 h.1) (Sub.refl _)) (fun h1 => ?_)
 refine zq3 (x := .ref ((fm f).cells.drop 1)) (by simp [q_fa]) ?_
 refine zq3 (x := .int .i64 f.num) (by simp) ?_
 refine zq3 (x := .ref ((fm g).cells.drop 1)) (by simp [q_fa]) ?_
 refine zq3 (x := .int .i64 g.num) (by simp) ?_
 refine zq3 (x := .bool (decide (f.num ≠ g.num))) (by simp) ?_
 refine zql (fun h2 => Just.bool (no fun h => h2 h.2.1) (Sub.refl _)) (fun h2 => ?_)
 have k2 : ∀ h : Fm, q_fa 2 (.ref (fm h).cells) = some (.ref ((fm h).cells.drop 2)) := fun h => by simp [q_fa]
 have l2 : ∀ (h : Fm) (s : St), zq0 s false 1 (.ref ((fm h).cells.drop 2)) = some (.sl 3 false (h.kids.map fm)) := fun h s => by simp
 refine zq3 (k2 f) ?_
 refine zq3 (l2 f _) ?_
 refine zq3 (x := .int .i64 f.kids.length) (by simp) ?_
 refine zq3 (k2 g) ?_
 refine zq3 (l2 g _) ?_
 refine zq3 (x := .int .i64 g.kids.length) (by simp) ?_
 refine zq3 (x := .bool (decide (f.kids.length ≠ g.kids.length))) (by simp; omega) ?_
 refine zql (fun h3 => Just.bool (no fun h => h3 (by rw [h.2.2])) (Sub.refl _)) (fun h3 => ?_)
 refine zqz (β := Unit) f.kids (fun _ i => [.int .i64 (i : Int)]) (fun _ => st) (fun _ i rest => (f.kids = g.kids ↔ rest = g.kids.drop i)) ?_ ?_ () (by simp)
 ·intro i x rest _ hi hx hq kk
  obtain ⟨y, hy⟩ : ∃ y, g.kids[i]? = some y := ⟨g.kids[i]'(by omega), List.getElem?_eq_getElem _⟩
  refine zq3 (k2 f) ?_
  refine zq3 (l2 f _) ?_
  refine zq3 (x := .int .i64 f.kids.length) (by simp) ?_
  refine zq3 (x := .bool true) (by simp [hi]) ?_
  rw [zqa, zqk]
  refine zq3 (k2 f) ?_
  refine zq3 (l2 f _) ?_
  refine zq3 (zq81 .i64 hx) ?_
  refine zq3 (x := fm x) (by simp) ?_
  refine zq3 (k2 g) ?_
  refine zq3 (l2 g _) ?_
  refine zq3 (zq81 .i64 hy) ?_
  refine zq3 (x := fm y) (by simp) ?_
  refine zq1 (ih x (List.mem_of_getElem? hx) y _) ?_
  refine zq3 (x := .bool (decide (x ≠ y))) (by simp) ?_
  rw [zqd8 hy, List.cons.injEq] at hq
  refine zql (fun h => Just.bool (no fun hh => h (hq.1 hh.2.2).1) (Sub.refl _)) (fun h => ?_)
  refine zq3 (x := .int .i64 ((i + 1 : Nat) : Int)) (by simp; rw [zqs (by omega) (by omega)]) ?_
  exact kk () (by rw [hq]; simp only [Decidable.not_not] at h; simp [h])
 ·intro _ hq
  refine zq3 (k2 f) ?_
  refine zq3 (l2 f _) ?_
  refine zq3 (x := .int .i64 f.kids.length) (by simp) ?_
  refine zq3 (x := .bool false) (by simp) ?_
  rw [zqa, zqd]
  refine Just.bool ?_ (Sub.refl _)
  simp only [Decidable.not_not] at h1 h2 h3
  rw [← hv, decide_eq_true (Fm.ext_of h1 h2 (hq.2 ?_))]
  rw [List.drop_of_length_le (by omega)]
theorem two_and (st : St) (a b : Fm) : Conv [.agg [.int .i64 2, .int .i64 0, .sl 3 true [fm a, fm b]]] st [fm (.and a b)] st := zql0 st 2 0 3 true [a, b] (.and a b) ⟨rfl, rfl, rfl⟩ (.inl rfl)
theorem two_imp (st : St) (a b : Fm) : Conv [.agg [.int .i64 3, .int .i64 0, .sl 3 true [fm a, fm b]]] st [fm (.imp a b)] st := zql0 st 3 0 3 true [a, b] (.imp a b) ⟨rfl, rfl, rfl⟩ (.inl rfl)
def twoF (k : Int) (a b : Fm) : Fm := if k = 2 then .and a b else .imp a b
theorem lit_f2 (a b : Fm) : zq24 3 2 0 [] [(0, fm a), (1, fm b)] = some (.sl 3 true [fm a, fm b]) := by simp
theorem box3 (a b c : PV) (h : [a, b, c].all PV.cellOK = true) : Box 3 (.agg [a, b, c]) := ⟨_, rfl, rfl, h⟩
theorem zq8x (k : Int) (a b : Fm) (hk : k = 2 ∨ k = 3) (st : St) : zq5 prog n_spec_l08Two [.int .i64 k, fm a, fm b] st (Just (fm (twoF k a b)) st) := by
 apply c_spec_l08Two
 unfold zqfq
 refine zq9 (zqm _) ?_
 refine zq9 (zqm _) ?_
 refine (Held.start st).alloc fun v6 w1 h1 => ?_
 refine zq3 (x := fm a) (by simp) ?_
 refine zq3 (x := fm b) (by simp) ?_
 refine zq3 (lit_f2 a b) ?_
 refine zq3 (x := .agg [.int .i64 k, .int .i64 0, .sl 3 true [fm a, fm b]]) rfl ?_
 refine h1.store (box3 _ _ _ rfl) rfl fun w2 h2 => ?_
 refine zq3 (h2.top (box3 _ _ _ rfl)) ?_
 rcases hk with rfl | rfl
 ·exact Just.conv (Conv.trans (two_and w2 a b) (Conv.sub h2.sub))
 ·exact Just.conv (Conv.trans (two_imp w2 a b) (Conv.sub h2.sub))
def fmS : Nat → Nat
 | 0 => 1
 | d + 1 => 1 + 2 * fmS d
def fmC : Nat → Int
 | 0 => 3
 | d + 1 => 3 + 2 * fmC d
def AForm (d : Nat) (p : PV) : Prop := ∃ f : Fm, p = fm f ∧ f.ok = true ∧ f.size ≤ fmS d
theorem zqkr : ∀ d, 3 ≤ fmC d
 | 0 => by decide
 | d + 1 => by have := zqkr d; unfold fmC; omega
theorem fmC_ge : ∀ d : Nat, (d : Int) ≤ fmC d
 | 0 => by decide
 | d + 1 => by have := fmC_ge d; have := zqkr d; unfold fmC; omega
theorem fmS_pos : ∀ d, 1 ≤ fmS d
 | 0 => by decide
 | d + 1 => by unfold fmS; omega
theorem form_leaf (bs : List UInt8) (hl : bs.length ≤ 1000000000) {M M' : Int} {b : Nat} {st w : St} {v4 d : Nat} {p : PV} (hM : M + 1 ≤ 10000000) (h2 : HS bs (M + 1) b st w [] ([] ++ [(v4, z3f)])) (hp : ABool p) (hm : M + 1 + 1 ≤ M') (hd : 1 ≤ fmS d) :
  cb p fun b_1 => br b_1
   (qb (zqe [.int .i64 0, .int .i64 0, .sl 0 true []] [(0, 1, (.int .i64 4))]) fun v26 => zq4 w 3 (.ptr v4 0) v26 fun st_1 => qb (zq0 st_1 true 3 (.ptr v4 0)) fun r_1 => retR (Drew bs M' b (AForm d) st) r_1 st_1)
   (zqb prog n_spec_l00Src_next [.ptr b 0, .int .i64 3] w (fun v28 st_1 => qb (zqe [.int .i64 0, .int .i64 0, .sl 0 true []] [(0, 1, (.int .i64 1)), (1, 1, v28)]) fun v29 => zq4 st_1 3 (.ptr v4 0) v29 fun st_2 => qb (zq0 st_2 true 3 (.ptr v4 0)) fun r_2 => retR (Drew bs M' b (AForm d) st) r_2 st_2) (panR (Drew bs M' b (AForm d) st))) := by
 obtain ⟨c, rfl⟩ := hp
 rw [zqa]
 refine zq50 (fun _ => ?_) (fun _ => ?_)
 ·refine zq3 (x := .agg [.int .i64 4, .int .i64 0, .sl 0 true []]) rfl ?_
  refine h2.store (box3 _ _ _ rfl) rfl fun w3 h3 => ?_
  refine zq3 (h3.top (box3 _ _ _ rfl)) ?_
  refine zqbh (zql0 w3 4 0 0 true [] .bot ⟨rfl, rfl, rfl⟩ (.inr rfl)) ?_
  exact (h3.mono (by omega)).fin ⟨.bot, rfl, rfl, hd⟩
 ·refine h2.drew (zqv bs hl (M + 1) (by omega) 3 (by decide) b w h2.src) fun p w3 hp h3 => ?_
  obtain ⟨k, rfl, k0, k1⟩ := hp
  refine zq3 (x := .agg [.int .i64 1, .int .i64 k, .sl 0 true []]) rfl ?_
  refine h3.store (box3 _ _ _ rfl) rfl fun w4 h4 => ?_
  refine zq3 (h4.top (box3 _ _ _ rfl)) ?_
  refine zqbh (zql0 w4 1 k 0 true [] (.atom k.toNat) ⟨rfl, by simp only [Fm.num]; omega, rfl⟩ (.inr rfl)) ?_
  exact (h4.mono (by omega)).fin ⟨.atom k.toNat, rfl, by simp only [Fm.ok, decide_eq_true_eq]; omega, hd⟩
theorem zq4d (bs : List UInt8) (hl : bs.length ≤ 1000000000) : ∀ (d : Nat) (M : Int), 0 ≤ M → M + fmC d ≤ 1000000 → ∀ (b : Nat) (st : St), Src bs M b st → zq5 prog n_spec_l00Src_form [.ptr b 0, .int .i64 d] st (Drew bs (M + fmC d) b (AForm d) st) := by
 intro d
 induction d with
 | zero =>
   intro M hM0 hM b st hs
   have hc0 := zqkr 0
   apply zq79
   unfold zq4l
   refine (HS.start hs).alloc fun v4 w1 h1 => ?_
   refine zq52 fun J hJ => ?_
   refine zq3 (x := .bool false) (by simp) ?_
   rw [zqa, zqd]
   refine hJ _ _ ?_
   show cb (.bool false) _
   rw [zqa, zqd]
   refine h1.drew (zq3l bs hl M (by omega) 6 ⟨by decide, by decide⟩ b w1 h1.src) fun p w2 hp h2 => ?_
   exact form_leaf bs hl (by have := zqkr 0; omega) h2 hp (by have := zqkr 0; omega) (fmS_pos 0)
 | succ d ih =>
   intro M hM0 hM b st hs
   have hc0 := zqkr d
   have hcd := fmC_ge d
   have hcs : fmC (d + 1) = 3 + 2 * fmC d := rfl
   apply zq79
   unfold zq4l
   refine (HS.start hs).alloc fun v4 w1 h1 => ?_
   refine zq52 fun J hJ => ?_
   refine zq3 (x := .bool true) (by simp) ?_
   rw [zqa, zqk]
   refine h1.drew (zq3l bs hl M (by omega) 3 ⟨by decide, by decide⟩ b w1 h1.src) fun p w2 hp h2 => ?_
   obtain ⟨c, rfl⟩ := hp
   refine zq3 (x := .bool (!c)) rfl ?_
   refine hJ _ _ ?_
   show cb (.bool (!c)) _
   rw [zqa]
   refine zq50 (fun _ => ?_) (fun _ => ?_)
   ·refine h2.drew (zqv bs hl (M + 1) (by omega) 2 (by decide) b w2 h2.src) fun p w3 hp h3 => ?_
    obtain ⟨k, rfl, k0, k1⟩ := hp
    refine zq3 (x := .int .i64 (2 + k)) (by simp; rw [zqs (by omega) (by omega)]) ?_
    have e1 : zqc .sub (.int .i64 ((d + 1 : Nat) : Int)) (.int .i64 1) = some (.int .i64 (d : Int)) := by simp; rw [zqs (by omega) (by omega)]
    refine zq3 e1 ?_
    refine h3.drew (ih (M + 1 + 1) (by omega) (by omega) b w3 h3.src) fun p w4 hp h4 => ?_
    obtain ⟨f, rfl, hf, hfs⟩ := hp
    refine zq3 e1 ?_
    refine h4.drew (ih (M + 1 + 1 + fmC d) (by omega) (by omega) b w4 h4.src) fun p w5 hp h5 => ?_
    obtain ⟨g, rfl, hg, hgs⟩ := hp
    refine zq1 (zq8x (2 + k) f g (by omega) w5) ?_
    refine h5.store (Box.fm _) rfl fun w6 h6 => ?_
    refine zq3 (h6.top (Box.fm _)) ?_
    refine (h6.mono (by omega)).fin ⟨_, rfl, ?_, ?_⟩
    ·unfold twoF
     split <;> simp [Fm.ok, hf, hg]
    ·have : (twoF (2 + k) f g).size = 1 + f.size + g.size := by unfold twoF; split <;> rfl
     rw [this]
     unfold fmS
     omega
   ·refine h2.drew (zq3l bs hl (M + 1) (by omega) 6 ⟨by decide, by decide⟩ b w2 h2.src) fun p w3 hp h3 => ?_
    exact form_leaf bs hl (by omega) h3 hp (by omega) (fmS_pos (d + 1))
end Go.H.Tryz
set_option linter.unusedVariables false
set_option linter.unusedSimpArgs false
namespace Go.H.Tryz
open Go Go.H

theorem atom_slice {n : Nat} (h : n < 6) : zq17 (.str [112, 48, 112, 49, 112, 50, 112, 51, 112, 52, 112, 53]) (some (.int .i64 ((2 * n : Nat) : Int))) (some (.int .i64 ((2 * n + 2 : Nat) : Int))) none = some (.str (wAtom n)) := by
 match n, h with
 | 0, _ => rfl
 | 1, _ => rfl
 | 2, _ => rfl
 | 3, _ => rfl
 | 4, _ => rfl
 | 5, _ => rfl
theorem lit_t2 (a b : Tr) : zq24 4 2 0 [] [(0, tree a), (1, tree b)] = some (.sl 4 true [tree a, tree b]) := by simp
theorem box4 (a b c d : PV) (h : [a, b, c, d].all PV.cellOK = true) : Box 4 (.agg [a, b, c, d]) := ⟨_, rfl, rfl, h⟩
theorem zq96 (w : List UInt8) (a b : Tr) (st : St) : zq5 prog n_impl_constant [.str w, .sl 4 true [tree a, tree b]] st (Just (tree (.const w [a, b])) st) := by
 apply zq6s
 unfold zq4o
 refine (Held.start st).alloc fun v4 w1 h1 => ?_
 refine zq3 (x := .agg [.int .i64 6, .int .i64 0, .str w, .sl 4 true [tree a, tree b]]) rfl ?_
 refine h1.store (box4 _ _ _ _ rfl) rfl fun w2 h2 => ?_
 refine zq3 (h2.top (box4 _ _ _ _ rfl)) ?_
 exact Just.conv (Conv.trans (zq88 w2 6 0 w 4 true [a, b] (.inl rfl)) (Conv.sub h2.sub))
theorem fa1 (f : Fm) : q_fa 1 (.ref (fm f).cells) = some (.ref ((fm f).cells.drop 1)) := by simp [q_fa]
theorem fa2 (f : Fm) : q_fa 2 (.ref (fm f).cells) = some (.ref ((fm f).cells.drop 2)) := by simp [q_fa]
theorem zqah (f : Fm) (hf : f.ok = true) (st : St) : zq5 prog n_impl_formTerm [fm f] st (Just (tree (fmT f)) st) := by
 induction f generalizing st with
 | atom n =>
   simp only [Fm.ok, decide_eq_true_eq] at hf
   apply zq4n
   unfold zq3f
   refine zq9 (zqm _) ?_
   refine (Held.start st).alloc fun v2 w1 h1 => ?_
   refine zq3 (x := .ref (fm (.atom n)).cells) (by simp [q_fa]) ?_
   refine zq3 (x := .int .i64 1) (by simp [Fm.kind]) ?_
   refine zq3 (x := .bool true) rfl ?_
   rw [zqa, zqk]
   refine zq3 (fa1 _) ?_
   refine zq3 (x := .int .i64 (n : Int)) (by simp [Fm.num]) ?_
   have e1 : zqc .mul (.int .i64 2) (.int .i64 (n : Int)) = some (.int .i64 ((2 * n : Nat) : Int)) := by simp; rw [zqs (by omega) (by omega)]
   refine zq3 e1 ?_
   refine zq3 (fa1 _) ?_
   refine zq3 (x := .int .i64 (n : Int)) (by simp [Fm.num]) ?_
   refine zq3 e1 ?_
   refine zq3 (x := .int .i64 ((2 * n + 2 : Nat) : Int)) (by simp; rw [zqs (by omega) (by omega)]) ?_
   refine zq3 (atom_slice hf) ?_
   refine zq1 (zq5i (wAtom n) _) ?_
   refine h1.store (Box.tree _) rfl fun w2 h2 => ?_
   refine zq3 (h2.top (Box.tree _)) ?_
   exact Just.ret h2.sub
 | bot =>
   apply zq4n
   unfold zq3f
   refine zq9 (zqm _) ?_
   refine (Held.start st).alloc fun v2 w1 h1 => ?_
   refine zq3 (x := .ref (fm .bot).cells) (by simp [q_fa]) ?_
   refine zq3 (x := .int .i64 4) (by simp [Fm.kind]) ?_
   refine zq3 (x := .bool false) rfl ?_
   rw [zqa, zqd]
   refine zq3 (x := .bool true) rfl ?_
   rw [zqa, zqk]
   refine zq1 (zq5i wBot _) ?_
   refine h1.store (Box.tree _) rfl fun w2 h2 => ?_
   refine zq3 (h2.top (Box.tree _)) ?_
   exact Just.ret h2.sub
 | and a b ia ib =>
   simp only [Fm.ok, Bool.and_eq_true] at hf
   apply zq4n
   unfold zq3f
   refine zq9 (zqm _) ?_
   refine (Held.start st).alloc fun v2 w1 h1 => ?_
   refine zq3 (x := .ref (fm (.and a b)).cells) (by simp [q_fa]) ?_
   refine zq3 (x := .int .i64 2) (by simp [Fm.kind]) ?_
   refine zq3 (x := .bool false) rfl ?_
   rw [zqa, zqd]
   refine zq3 (x := .bool false) rfl ?_
   rw [zqa, zqd]
   refine zq3 (x := .bool true) rfl ?_
   rw [zqa, zqk]
   have k0 : q_ia 3 (.sl 3 false [fm a, fm b]) (.int .i64 0) = some (.ref (fm a).cells) := by rfl
   have k1 : q_ia 3 (.sl 3 false [fm a, fm b]) (.int .i64 1) = some (.ref (fm b).cells) := by rfl
   refine zq3 (fa2 _) ?_
   refine zq3 (x := .sl 3 false [fm a, fm b]) (by simp [Fm.kids]) ?_
   refine zq3 k0 ?_
   refine zq3 (x := fm a) (by simp) ?_
   refine zq3 (fa2 _) ?_
   refine zq3 (x := .sl 3 false [fm a, fm b]) (by simp [Fm.kids]) ?_
   refine zq3 k1 ?_
   refine zq3 (x := fm b) (by simp) ?_
   refine zq1 (ia hf.1 _) ?_
   refine ⟨by simp, by simp [Fm.kids], ?_⟩
   refine zq1 (ib hf.2 _) ?_
   refine zq3 (lit_t2 _ _) ?_
   refine zq1 (zq96 wAnd (fmT a) (fmT b) _) ?_
   refine h1.store (Box.tree _) rfl fun w2 h2 => ?_
   refine zq3 (h2.top (Box.tree _)) ?_
   exact Just.ret h2.sub
 | imp a b ia ib =>
   simp only [Fm.ok, Bool.and_eq_true] at hf
   apply zq4n
   unfold zq3f
   refine zq9 (zqm _) ?_
   refine (Held.start st).alloc fun v2 w1 h1 => ?_
   refine zq3 (x := .ref (fm (.imp a b)).cells) (by simp [q_fa]) ?_
   refine zq3 (x := .int .i64 3) (by simp [Fm.kind]) ?_
   refine zq3 (x := .bool false) rfl ?_
   rw [zqa, zqd]
   refine zq3 (x := .bool false) rfl ?_
   rw [zqa, zqd]
   refine zq3 (x := .bool false) rfl ?_
   rw [zqa, zqd]
   have k0 : q_ia 3 (.sl 3 false [fm a, fm b]) (.int .i64 0) = some (.ref (fm a).cells) := by rfl
   have k1 : q_ia 3 (.sl 3 false [fm a, fm b]) (.int .i64 1) = some (.ref (fm b).cells) := by rfl
   refine zq3 (fa2 _) ?_
   refine zq3 (x := .sl 3 false [fm a, fm b]) (by simp [Fm.kids]) ?_
   refine zq3 k0 ?_
   refine zq3 (x := fm a) (by simp) ?_
   refine zq3 (fa2 _) ?_
   refine zq3 (x := .sl 3 false [fm a, fm b]) (by simp [Fm.kids]) ?_
   refine zq3 k1 ?_
   refine zq3 (x := fm b) (by simp) ?_
   refine zq1 (ia hf.1 _) ?_
   refine ⟨by simp, by simp [Fm.kids], ?_⟩
   refine zq1 (ib hf.2 _) ?_
   refine zq3 (lit_t2 _ _) ?_
   refine zq1 (zq96 wImp (fmT a) (fmT b) _) ?_
   refine h1.store (Box.tree _) rfl fun w2 h2 => ?_
   refine zq3 (h2.top (Box.tree _)) ?_
   exact Just.ret h2.sub
end Go.H.Tryz
set_option linter.unusedVariables false
set_option linter.unusedSimpArgs false
namespace Go.H.Tryz
open Go Go.H

theorem zqlm (b : Nat) (o : Bool) (m : Int) (hm : 1 ≤ m ∧ m ≤ 1000) {st : St} (hb : st b = some (lk m o)) {K Kp : PV → St → Prop} (hk : K (.bool true) (upd st b (lk (m - 1) o))) : zqb prog n_impl_looker_node [.ptr b 0] st K Kp := by
 refine callK_look (zq1w b o m (by omega) hb) (fun m' hm' => ?_) (fun hm' => ?_)
 ·rw [if_pos hm.1] at hm'; cases hm'; exact hk
 ·rw [if_pos hm.1] at hm'; cases hm'
theorem zq73 (f : Fm) (hf : f.ok = true) (b : Nat) (o : Bool) (m : Int) (hm : (f.size : Int) ≤ m ∧ m ≤ 1000) (st : St) (hb : st b = some (lk m o)) :
  zq5 prog n_impl_looker_form [.ptr b 0, fm f] st (zq4x b o (some (m - f.size)) st) := by
 induction f generalizing m st with
 | atom n =>
   simp only [Fm.ok, decide_eq_true_eq] at hf
   simp only [Fm.size] at hm
   apply zq2c
   unfold zq1x
   refine zq9 (zqm _) ?_
   refine zqlm b o m (by omega) hb ?_
   refine zq3 (x := .bool false) rfl ?_
   rw [zqa, zqd]
   refine zq3 (x := .ref (fm (.atom n)).cells) (by simp [q_fa]) ?_
   refine zq3 (x := .int .i64 1) (by simp [Fm.kind]) ?_
   refine zq3 (x := .bool true) rfl ?_
   rw [zqa, zqk]
   refine zq3 (fa1 _) ?_
   refine zq3 (x := .int .i64 (n : Int)) (by simp [Fm.num]) ?_
   refine zq1 (zq9y (n : Int) 0 5 _) ?_
   rw [zqa, show (decide ((0 : Int) ≤ n) && decide ((n : Int) ≤ 5)) = true by rw [decide_eq_true (by omega), decide_eq_true (by omega)]; rfl, zqk]
   refine zq3 (fa2 _) ?_
   refine zq3 (x := .sl 3 false []) (by simp [Fm.kids]) ?_
   refine zq3 (x := .int .i64 0) rfl ?_
   refine zq3 (x := .bool true) rfl ?_
   exact zq4x.yes rfl (Sub.refl _)
 | bot =>
   simp only [Fm.size] at hm
   apply zq2c
   unfold zq1x
   refine zq9 (zqm _) ?_
   refine zqlm b o m (by omega) hb ?_
   refine zq3 (x := .bool false) rfl ?_
   rw [zqa, zqd]
   refine zq3 (x := .ref (fm .bot).cells) (by simp [q_fa]) ?_
   refine zq3 (x := .int .i64 4) (by simp [Fm.kind]) ?_
   refine zq3 (x := .bool false) rfl ?_
   rw [zqa, zqd]
   refine zq3 (x := .bool true) rfl ?_
   rw [zqa, zqk]
   refine zq3 (fa1 _) ?_
   refine zq3 (x := .int .i64 0) (by simp [Fm.num]) ?_
   refine zq3 (x := .bool true) rfl ?_
   rw [zqa, zqk]
   refine zq3 (fa2 _) ?_
   refine zq3 (x := .sl 3 false []) (by simp [Fm.kids]) ?_
   refine zq3 (x := .int .i64 0) rfl ?_
   refine zq3 (x := .bool true) rfl ?_
   exact zq4x.yes rfl (Sub.refl _)
 | and x y ix iy =>
   simp only [Fm.ok, Bool.and_eq_true] at hf
   simp only [Fm.size] at hm
   have px := x.size_pos
   have py := y.size_pos
   apply zq2c
   unfold zq1x
   refine zq9 (zqm _) ?_
   refine zqlm b o m (by omega) hb ?_
   refine zq3 (x := .bool false) rfl ?_
   rw [zqa, zqd]
   refine zq3 (x := .ref (fm (.and x y)).cells) (by simp [q_fa]) ?_
   refine zq3 (x := .int .i64 2) (by simp [Fm.kind]) ?_
   refine zq3 (x := .bool false) rfl ?_
   rw [zqa, zqd]
   refine zq3 (x := .bool false) rfl ?_
   rw [zqa, zqd]
   refine zq3 (x := .bool true) rfl ?_
   refine zq52 fun J hJ => ?_
   rw [zqa, zqk]
   refine hJ _ _ ?_
   show cb (.bool true) _
   rw [zqa, zqk]
   refine zq3 (fa1 _) ?_
   refine zq3 (x := .int .i64 0) (by simp [Fm.num]) ?_
   refine zq3 (x := .bool true) rfl ?_
   rw [zqa, zqk]
   refine zq3 (fa2 _) ?_
   refine zq3 (x := .sl 3 false [fm x, fm y]) (by simp [Fm.kids]) ?_
   refine zq3 (x := .int .i64 2) rfl ?_
   refine zq3 (x := .bool true) rfl ?_
   rw [zqa, zqk]
   refine zq3 (fa2 _) ?_
   refine zq3 (x := .sl 3 false [fm x, fm y]) (by simp [Fm.kids]) ?_
   refine zq3 (x := .ref (fm x).cells) rfl ?_
   refine zq3 (x := fm x) (by simp) ?_
   refine callK_look (ix hf.1 (m - 1) (by omega) _ (zq2 _ _ _)) (fun m' hm' => ?_) (fun hm' => by cases hm')
   cases hm'
   rw [zq10, zqa, zqk]
   refine zq3 (fa2 _) ?_
   refine zq3 (x := .sl 3 false [fm x, fm y]) (by simp [Fm.kids]) ?_
   refine zq3 (x := .ref (fm y).cells) rfl ?_
   refine zq3 (x := fm y) (by simp) ?_
   refine callK_look (iy hf.2 (m - 1 - x.size) (by omega) _ (zq2 _ _ _)) (fun m' hm' => ?_) (fun hm' => by cases hm')
   cases hm'
   rw [zq10]
   refine zq4x.yes (m := m - 1 - x.size - y.size) ?_ (Sub.refl _)
   simp only [Fm.size]; congr 1; omega
 | imp x y ix iy =>
   simp only [Fm.ok, Bool.and_eq_true] at hf
   simp only [Fm.size] at hm
   have px := x.size_pos
   have py := y.size_pos
   apply zq2c
   unfold zq1x
   refine zq9 (zqm _) ?_
   refine zqlm b o m (by omega) hb ?_
   refine zq3 (x := .bool false) rfl ?_
   rw [zqa, zqd]
   refine zq3 (x := .ref (fm (.imp x y)).cells) (by simp [q_fa]) ?_
   refine zq3 (x := .int .i64 3) (by simp [Fm.kind]) ?_
   refine zq3 (x := .bool false) rfl ?_
   rw [zqa, zqd]
   refine zq3 (x := .bool false) rfl ?_
   rw [zqa, zqd]
   refine zq3 (x := .bool false) rfl ?_
   refine zq52 fun J hJ => ?_
   rw [zqa, zqd]
   refine zq3 (x := .bool true) rfl ?_
   refine hJ _ _ ?_
   show cb (.bool true) _
   rw [zqa, zqk]
   refine zq3 (fa1 _) ?_
   refine zq3 (x := .int .i64 0) (by simp [Fm.num]) ?_
   refine zq3 (x := .bool true) rfl ?_
   rw [zqa, zqk]
   refine zq3 (fa2 _) ?_
   refine zq3 (x := .sl 3 false [fm x, fm y]) (by simp [Fm.kids]) ?_
   refine zq3 (x := .int .i64 2) rfl ?_
   refine zq3 (x := .bool true) rfl ?_
   rw [zqa, zqk]
   refine zq3 (fa2 _) ?_
   refine zq3 (x := .sl 3 false [fm x, fm y]) (by simp [Fm.kids]) ?_
   refine zq3 (x := .ref (fm x).cells) rfl ?_
   refine zq3 (x := fm x) (by simp) ?_
   refine callK_look (ix hf.1 (m - 1) (by omega) _ (zq2 _ _ _)) (fun m' hm' => ?_) (fun hm' => by cases hm')
   cases hm'
   rw [zq10, zqa, zqk]
   refine zq3 (fa2 _) ?_
   refine zq3 (x := .sl 3 false [fm x, fm y]) (by simp [Fm.kids]) ?_
   refine zq3 (x := .ref (fm y).cells) rfl ?_
   refine zq3 (x := fm y) (by simp) ?_
   refine callK_look (iy hf.2 (m - 1 - x.size) (by omega) _ (zq2 _ _ _)) (fun m' hm' => ?_) (fun hm' => by cases hm')
   cases hm'
   rw [zq10]
   refine zq4x.yes (m := m - 1 - x.size - y.size) ?_ (Sub.refl _)
   simp only [Fm.size]; congr 1; omega
theorem zqfm (f : Fm) (hf : f.ok = true) (hs : f.size ≤ 150) (st : St) : zq5 prog n_impl_FormOK [fm f] st (Just (.bool true) st) := by
 apply c_impl_FormOK
 unfold zqg8
 refine zq9 (zqm _) ?_
 refine zq3 (x := fm f) (by simp) ?_
 refine zqa1 (zq5h _) fun b hb => ?_
 refine ⟨by simp, ?_⟩
 refine callK_look (zq73 f hf b false 150 (by omega) _ (zq2 _ _ _)) (fun m' hm' => ?_) (fun hm' => by cases hm')
 exact Just.bool rfl (by rw [zq10]; exact (Sub.refl st).fresh hb)
theorem zqcw (g : FuncId) (caps : List PV) (t : Tr) (hsz : t.size ≤ 1000000000) (st : St) (hc : ∀ s, Sub st s → zq5 prog g caps s (Just (tree t) s)) :
  zq5 prog n_impl_encoded [.bool true, .fn (.func g) [] caps] st (Just (if t.big = true then .tup [tree zq8l, .int .i64 11] else .tup [tree t, .int .i64 0]) st) := by
 apply zqmh
 unfold zqdt
 refine (Held.start st).alloc fun v4 w1 h1 => ?_
 refine zq3 (x := .bool false) rfl ?_
 rw [zqa, zqd]
 rw [zqem]
 refine zq1 (by simpa using hc w1 h1.sub) ?_
 refine (h1.alloc fun v6 w2 h2 => ?_)
 refine h2.store2 (Box.tree t) rfl fun w3 h3 => ?_
 refine zq3 (h3.top (Box.tree t)) ?_
 refine zq1 (zq63 t hsz _) ?_
 rw [zqa]
 refine zq50 (fun hb => ?_) (fun hb => ?_)
 ·refine zq3 (x := .agg [.int .i64 0, .int .i64 0, .str [], .sl 0 true []]) rfl ?_
  refine h3.store (box4 _ _ _ _ rfl) rfl fun w4 h4 => ?_
  refine zq3 (h4.top (box4 _ _ _ _ rfl)) ?_
  rw [if_pos hb]
  refine Just.conv (Conv.tup (Conv.cons (Conv.trans (zq88 w4 0 0 [] 0 true [] (.inr rfl)) (Conv.sub h4.sub)) (Conv.sub h4.sub)))
 ·refine zq3 (h3.top (Box.tree t)) ?_
  refine h3.store (Box.tree t) rfl fun w4 h4 => ?_
  refine zq3 (h4.top (Box.tree t)) ?_
  rw [if_neg (by rw [hb]; decide)]
  exact Just.ret h4.sub
end Go.H.Tryz
set_option linter.unusedVariables false
set_option linter.unusedSimpArgs false
namespace Go.H.Tryz
open Go Go.H

theorem zqfj (st : St) : zq5 prog n_impl_bottom [] st (Just (fm .bot) st) := by
 apply c_impl_bottom
 unfold zqg2
 refine (Held.start st).alloc fun v0 w1 h1 => ?_
 refine zq3 (x := .agg [.int .i64 4, .int .i64 0, .sl 0 true []]) rfl ?_
 refine h1.store (box3 _ _ _ rfl) rfl fun w3 h3 => ?_
 refine zq3 (h3.top (box3 _ _ _ rfl)) ?_
 exact Just.conv (Conv.trans (zql0 w3 4 0 0 true [] .bot ⟨rfl, rfl, rfl⟩ (.inr rfl)) (Conv.sub h3.sub))
theorem zqhu (a b : Fm) (st : St) : zq5 prog n_impl_and [fm a, fm b] st (Just (fm (.and a b)) st) := by
 apply c_impl_and
 unfold b_impl_and
 refine zq9 (zqm _) ?_
 refine zq9 (zqm _) ?_
 refine (Held.start st).alloc fun v0 w1 h1 => ?_
 refine zq3 (x := fm a) (by simp) ?_
 refine zq3 (x := fm b) (by simp) ?_
 refine zq3 (lit_f2 a b) ?_
 refine zq3 (x := .agg [.int .i64 2, .int .i64 0, .sl 3 true [fm a, fm b]]) rfl ?_
 refine h1.store (box3 _ _ _ rfl) rfl fun w3 h3 => ?_
 refine zq3 (h3.top (box3 _ _ _ rfl)) ?_
 exact Just.conv (Conv.trans (two_and w3 a b) (Conv.sub h3.sub))
theorem zq83 (a b : Fm) (st : St) : zq5 prog n_impl_implies [fm a, fm b] st (Just (fm (.imp a b)) st) := by
 apply zqmg
 unfold zqds
 refine zq9 (zqm _) ?_
 refine zq9 (zqm _) ?_
 refine (Held.start st).alloc fun v0 w1 h1 => ?_
 refine zq3 (x := fm a) (by simp) ?_
 refine zq3 (x := fm b) (by simp) ?_
 refine zq3 (lit_f2 a b) ?_
 refine zq3 (x := .agg [.int .i64 3, .int .i64 0, .sl 3 true [fm a, fm b]]) rfl ?_
 refine h1.store (box3 _ _ _ rfl) rfl fun w3 h3 => ?_
 refine zq3 (h3.top (box3 _ _ _ rfl)) ?_
 exact Just.conv (Conv.trans (two_imp w3 a b) (Conv.sub h3.sub))
theorem tfa0 (t : Tr) : q_fa 0 (.ref (tree t).cells) = some (.ref (tree t).cells) := by simp [q_fa]
theorem tfa2 (t : Tr) : q_fa 2 (.ref (tree t).cells) = some (.ref ((tree t).cells.drop 2)) := by simp [q_fa]
theorem tfa3 (t : Tr) : q_fa 3 (.ref (tree t).cells) = some (.ref ((tree t).cells.drop 3)) := by simp [q_fa]
theorem tl0 (t : Tr) (s : St) : zq0 s false 1 (.ref (tree t).cells) = some (.int .i64 t.kind) := by simp
theorem tl2 (t : Tr) (s : St) : zq0 s false 1 (.ref ((tree t).cells.drop 2)) = some (.str t.name) := by simp
theorem tl3 (t : Tr) (s : St) : zq0 s false 1 (.ref ((tree t).cells.drop 3)) = some (.sl 4 false (t.kids.map tree)) := by simp
theorem atom_ne {i n : Nat} (hi : i < 6) (hn : n < 6) (h : i ≠ n) : wAtom n ≠ wAtom i := by
 have key : ∀ i < 6, ∀ n < 6, i ≠ n → wAtom n ≠ wAtom i := by decide
 exact key i hi n hn h
def RfA (st : St) (n m : Nat) (ls : List PV) (s : St) : Prop := s = st ∧ ∃ i : Nat, i ≤ n ∧ m = 6 - i ∧ ls = [.int .i64 (i : Int)]
set_option maxHeartbeats 2000000 in
theorem zqj6 (f : Fm) (hf : f.ok = true) (st : St) : zq5 prog n_impl_readForm [tree (fmT f)] st (Just (fm f) st) := by
 induction f generalizing st with
 | atom n =>
   simp only [Fm.ok, decide_eq_true_eq] at hf
   apply zq4m
   unfold zq3e
   refine zq9 (zqf _) ?_
   refine (Held.start st).alloc fun v2 w1 h1 => ?_
   refine zq52 fun J hJ => ?_
   refine zq3 (tfa0 _) ?_
   refine zq3 (tl0 _ _) ?_
   refine zq3 (x := .bool true) rfl ?_
   rw [zqa, zqk]
   refine zq3 (tfa3 _) ?_
   refine zq3 (tl3 _ _) ?_
   refine zq3 (x := .int .i64 0) rfl ?_
   refine zq3 (x := .bool true) rfl ?_
   refine hJ _ _ ?_
   refine zq52 fun J1 hJ1 => ?_
   show cb (.bool true) _
   rw [zqa, zqk]
   refine zq3 (tfa2 _) ?_
   refine zq3 (tl2 _ _) ?_
   refine zq3 (x := .bool false) (by
    show zqc .eql (.str (wAtom n)) (.str wBot) = _
    simp [wAtom, wBot]) ?_
   rw [zqa, zqd]
   refine hFix_ind (RfA w1 n) (n := 6) ?_ ⟨rfl, 0, by omega, rfl, rfl⟩
   rintro m ls s ih ⟨rfl, i, hi, rfl, rfl⟩
   refine zq3 (x := .bool true) (by simp; omega) ?_
   rw [zqa, zqk]
   refine zq3 (tfa2 _) ?_
   refine zq3 (tl2 _ _) ?_
   have e1 : zqc .mul (.int .i64 2) (.int .i64 (i : Int)) = some (.int .i64 ((2 * i : Nat) : Int)) := by simp; rw [zqs (by omega) (by omega)]
   refine zq3 e1 ?_
   refine zq3 e1 ?_
   refine zq3 (x := .int .i64 ((2 * i + 2 : Nat) : Int)) (by simp; rw [zqs (by omega) (by omega)]) ?_
   refine zq3 (atom_slice (by omega)) ?_
   by_cases hin : i = n
   ·subst hin
    refine zq3 (x := .bool true) (by
     show zqc .eql (.str (wAtom i)) (.str (wAtom i)) = _
     simp) ?_
    rw [zqa, zqk]
    refine zq3 (x := .agg [.int .i64 1, .int .i64 (i : Int), .sl 0 true []]) rfl ?_
    refine h1.store (box3 _ _ _ rfl) rfl fun w3 h3 => ?_
    refine zq3 (h3.top (box3 _ _ _ rfl)) ?_
    exact Just.conv (Conv.trans (zql0 w3 1 i 0 true [] (.atom i) ⟨rfl, rfl, rfl⟩ (.inr rfl)) (Conv.sub h3.sub))
   ·refine zq3 (x := .bool false) (by
     show zqc .eql (.str (wAtom n)) (.str (wAtom i)) = _
     simp [atom_ne (show i < 6 by omega) hf hin]) ?_
    rw [zqa, zqd]
    refine zq3 (x := .int .i64 ((i + 1 : Nat) : Int)) (by simp; rw [zqs (by omega) (by omega)]) ?_
    exact ⟨6 - (i + 1), by omega, rfl, i + 1, by omega, rfl, rfl⟩
 | bot =>
   apply zq4m
   unfold zq3e
   refine zq9 (zqf _) ?_
   refine (Held.start st).alloc fun v2 w1 h1 => ?_
   refine zq52 fun J hJ => ?_
   refine zq3 (tfa0 _) ?_
   refine zq3 (tl0 _ _) ?_
   refine zq3 (x := .bool true) rfl ?_
   rw [zqa, zqk]
   refine zq3 (tfa3 _) ?_
   refine zq3 (tl3 _ _) ?_
   refine zq3 (x := .int .i64 0) rfl ?_
   refine zq3 (x := .bool true) rfl ?_
   refine hJ _ _ ?_
   refine zq52 fun J1 hJ1 => ?_
   show cb (.bool true) _
   rw [zqa, zqk]
   refine zq3 (tfa2 _) ?_
   refine zq3 (tl2 _ _) ?_
   refine zq3 (x := .bool true) rfl ?_
   rw [zqa, zqk]
   refine zq1 (zqfj _) ?_
   refine h1.store (Box.fm _) rfl fun w3 h3 => ?_
   refine zq3 (h3.top (Box.fm _)) ?_
   exact Just.ret h3.sub
 | and a b ia ib =>
   simp only [Fm.ok, Bool.and_eq_true] at hf
   have ia := fun s => ia hf.1 s
   have ib := fun s => ib hf.2 s
   apply zq4m
   unfold zq3e
   refine zq9 (zqf _) ?_
   refine (Held.start st).alloc fun v2 w1 h1 => ?_
   refine zq52 fun J hJ => ?_
   refine zq3 (tfa0 _) ?_
   refine zq3 (tl0 _ _) ?_
   refine zq3 (x := .bool true) rfl ?_
   rw [zqa, zqk]
   refine zq3 (tfa3 _) ?_
   refine zq3 (tl3 _ _) ?_
   refine zq3 (x := .int .i64 2) rfl ?_
   refine zq3 (x := .bool false) rfl ?_
   refine hJ _ _ ?_
   refine zq52 fun J1 hJ1 => ?_
   show cb (.bool false) _
   rw [zqa, zqd]
   refine hJ1 _ _ ?_
   refine zq52 fun J2 hJ2 => ?_
   refine zq3 (tfa0 _) ?_
   refine zq3 (tl0 _ _) ?_
   refine zq3 (x := .bool false) rfl ?_
   rw [zqa, zqd]
   refine zq3 (tfa3 _) ?_
   refine zq3 (tl3 _ _) ?_
   refine zq3 (x := .int .i64 2) rfl ?_
   refine zq3 (x := .bool false) rfl ?_
   rw [zqa, zqd]
   refine zq3 (tfa2 _) ?_
   refine zq3 (tl2 _ _) ?_
   refine zq3 (x := .bool false) rfl ?_
   rw [zqa, zqd]
   refine hJ2 _ _ ?_
   show cb (.bool false) _
   rw [zqa, zqd]
   refine zq52 fun J4 hJ4 => ?_
   have fin : ∀ x y w, Held st w [(y, fm b), (x, fm a)] [(v2, z3f)] → J4 [.ptr x 0, .ptr y 0] w := fun x y w hw => by
    refine hJ4 _ _ ?_
    refine zq3 (tfa2 _) ?_
    refine zq3 (tl2 _ _) ?_
    refine zq3 (x := .bool true) rfl ?_
    rw [zqa, zqk]
    refine zq3 (hw.ldf (f := a) (by simp)) ?_
    refine zq3 (hw.ldf (f := b) (by simp)) ?_
    refine zq1 (zqhu a b _) ?_
    refine hw.store (Box.fm _) rfl fun w3 h3 => ?_
    refine zq3 (h3.top (Box.fm _)) ?_
    exact Just.ret h3.sub
   clear hJ hJ1 hJ2 hJ4
   refine zq3 (tfa3 _) ?_
   refine zq3 (tl3 _ _) ?_
   refine zq3 (x := .ref (tree (fmT a)).cells) rfl ?_
   refine zq3 (x := tree (fmT a)) (by simp) ?_
   refine zq3 (tfa3 _) ?_
   refine zq3 (tl3 _ _) ?_
   refine zq3 (x := .ref (tree (fmT b)).cells) rfl ?_
   refine zq3 (x := tree (fmT b)) (by simp) ?_
   have lta : ∀ s, zq0 s true 4 (.ref (tree (fmT a)).cells) = some (tree (fmT a)) := fun s => by simp
   have ltb : ∀ s, zq0 s true 4 (.ref (tree (fmT b)).cells) = some (tree (fmT b)) := fun s => by simp
   repeat' (first
    | exact fin _ _ _ (by assumption)
    | exact tl3 _ _
    | exact lta _
    | exact ltb _
    | refine zq1 (ia _) ?_
    | refine zq1 (ib _) ?_
    | refine Held.alloc (by assumption) fun v w h => ?_
    | refine Held.store2 (by assumption) (Box.fm _) rfl fun w h => ?_
    | refine Held.store3 (by assumption) (Box.fm _) rfl fun w h => ?_
    | refine And.intro ?_ ?_)
 | imp a b ia ib =>
   simp only [Fm.ok, Bool.and_eq_true] at hf
   have ia := fun s => ia hf.1 s
   have ib := fun s => ib hf.2 s
   apply zq4m
   unfold zq3e
   refine zq9 (zqf _) ?_
   refine (Held.start st).alloc fun v2 w1 h1 => ?_
   refine zq52 fun J hJ => ?_
   refine zq3 (tfa0 _) ?_
   refine zq3 (tl0 _ _) ?_
   refine zq3 (x := .bool true) rfl ?_
   rw [zqa, zqk]
   refine zq3 (tfa3 _) ?_
   refine zq3 (tl3 _ _) ?_
   refine zq3 (x := .int .i64 2) rfl ?_
   refine zq3 (x := .bool false) rfl ?_
   refine hJ _ _ ?_
   refine zq52 fun J1 hJ1 => ?_
   show cb (.bool false) _
   rw [zqa, zqd]
   refine hJ1 _ _ ?_
   refine zq52 fun J2 hJ2 => ?_
   refine zq3 (tfa0 _) ?_
   refine zq3 (tl0 _ _) ?_
   refine zq3 (x := .bool false) rfl ?_
   rw [zqa, zqd]
   refine zq3 (tfa3 _) ?_
   refine zq3 (tl3 _ _) ?_
   refine zq3 (x := .int .i64 2) rfl ?_
   refine zq3 (x := .bool false) rfl ?_
   rw [zqa, zqd]
   refine zq3 (tfa2 _) ?_
   refine zq3 (tl2 _ _) ?_
   refine zq3 (x := .bool true) rfl ?_
   rw [zqa, zqk]
   refine zq3 (tfa2 _) ?_
   refine zq3 (tl2 _ _) ?_
   refine zq3 (x := .bool false) rfl ?_
   refine hJ2 _ _ ?_
   show cb (.bool false) _
   rw [zqa, zqd]
   refine zq52 fun J4 hJ4 => ?_
   have fin : ∀ x y w, Held st w [(y, fm b), (x, fm a)] [(v2, z3f)] → J4 [.ptr x 0, .ptr y 0] w := fun x y w hw => by
    refine hJ4 _ _ ?_
    refine zq3 (tfa2 _) ?_
    refine zq3 (tl2 _ _) ?_
    refine zq3 (x := .bool false) rfl ?_
    rw [zqa, zqd]
    refine zq3 (hw.ldf (f := a) (by simp)) ?_
    refine zq3 (hw.ldf (f := b) (by simp)) ?_
    refine zq1 (zq83 a b _) ?_
    refine hw.store (Box.fm _) rfl fun w3 h3 => ?_
    refine zq3 (h3.top (Box.fm _)) ?_
    exact Just.ret h3.sub
   clear hJ hJ1 hJ2 hJ4
   refine zq3 (tfa3 _) ?_
   refine zq3 (tl3 _ _) ?_
   refine zq3 (x := .ref (tree (fmT a)).cells) rfl ?_
   refine zq3 (x := tree (fmT a)) (by simp) ?_
   refine zq3 (tfa3 _) ?_
   refine zq3 (tl3 _ _) ?_
   refine zq3 (x := .ref (tree (fmT b)).cells) rfl ?_
   refine zq3 (x := tree (fmT b)) (by simp) ?_
   have lta : ∀ s, zq0 s true 4 (.ref (tree (fmT a)).cells) = some (tree (fmT a)) := fun s => by simp
   have ltb : ∀ s, zq0 s true 4 (.ref (tree (fmT b)).cells) = some (tree (fmT b)) := fun s => by simp
   repeat' (first
    | exact fin _ _ _ (by assumption)
    | exact tl3 _ _
    | exact lta _
    | exact ltb _
    | refine zq1 (ia _) ?_
    | refine zq1 (ib _) ?_
    | refine Held.alloc (by assumption) fun v w h => ?_
    | refine Held.store2 (by assumption) (Box.fm _) rfl fun w h => ?_
    | refine Held.store3 (by assumption) (Box.fm _) rfl fun w h => ?_
    | refine And.intro ?_ ?_)
end Go.H.Tryz
set_option linter.unusedVariables false
set_option linter.unusedSimpArgs false
namespace Go.H.Tryz
open Go Go.H

theorem zq99 {g : FuncId} {caps : List PV} {st : St} {v : Nat} {o : HObj} {K Kp : PV → St → Prop} (hv : st v ≠ none) (hc : ∀ b, st b = none → zq5 prog g caps (upd st b (.cells [.int .i64 0, .int .i64 0])) (fun r s => r = .ret (.tup []) ∧ s = upd (upd st b (.cells [.int .i64 0, .int .i64 0])) v o))
  (hk : K (.agg [.int .i64 0, .int .i64 0]) (upd st v o)) : zqb prog n_impl_caught [.fn (.func g) [] caps] st K Kp := by
 refine zq15 (zq3q g caps st (fun c p s => c = 0 ∧ p = 0 ∧ s = upd st v o) (fun b hb => (hc b hb).mono fun r s h => ?_)) (fun p s h => ?_) (fun p s h => ?_)
 ·obtain ⟨rfl, rfl⟩ := h
  have ne : v ≠ b := fun e => hv (by rw [e]; exact hb)
  exact ⟨upd st v o, by rw [zq7 _ _ (Ne.symm ne)]; exact hb, zq4y _ _ _ (Ne.symm ne), .inl ⟨rfl, rfl, rfl, rfl⟩⟩
 ·obtain ⟨c, p', h, rfl, rfl, rfl⟩ := h
  cases h
  exact hk
 ·obtain ⟨c, p', h, _⟩ := h
  cases h
end Go.H.Tryz
