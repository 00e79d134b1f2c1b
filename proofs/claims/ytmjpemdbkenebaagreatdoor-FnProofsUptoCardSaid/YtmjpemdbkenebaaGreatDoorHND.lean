/- Part of a proof that the program answers as the reference does: ZHC130, ZHC131, ZHC132, ZHC133, ZHC134, ZHC135, ZHC136, ZHC137. -/
import Derived.Test.YtmjpemdbkenebaaGreatDoorHM
import Derived.Test.YtmjpemdbkenebaaGreatDoorHNB
import Derived.Test.YtmjpemdbkenebaaGreatDoorHNC
set_option linter.unusedVariables false
set_option linter.unusedSimpArgs false
namespace Go.H.Tryz
open Go Go.H

theorem k2p (p : Pf) : q_fa 2 (.ref (pf p).cells) = some (.ref ((pf p).cells.drop 2)) := by simp [q_fa]
theorem k3p (p : Pf) : q_fa 3 (.ref (pf p).cells) = some (.ref ((pf p).cells.drop 3)) := by simp [q_fa]
theorem l2p (p : Pf) (s : St) : zq0 s false 1 (.ref ((pf p).cells.drop 2)) = some (.sl 3 false (p.forms.map fm)) := by simp
theorem l3p (p : Pf) (s : St) : zq0 s false 1 (.ref ((pf p).cells.drop 3)) = some (.sl 4 false (p.kids.map pf)) := by simp
theorem pf_len2 (p : Pf) : p.forms.length ≤ 2 ∧ p.kids.length ≤ 2 := by cases p <;> simp [Pf.forms, Pf.kids]
theorem zqhm (p : Pf) (st : St) : zq5 prog n_laws_sameProof [pf p, pf p] st (Just (.bool true) st) := by
 induction p using Pf.ind generalizing st with
 | _ p ih =>
 apply zqi7
 unfold zq9f
 refine zq9 (zq31 _) ?_
 refine zq9 (zq31 _) ?_
 obtain ⟨hfl, hkl⟩ := pf_len2 p
 refine zq3 (x := .ref (pf p).cells) (by simp [q_fa]) ?_
 refine zq3 (x := .int .i64 p.kind) (by simp) ?_
 refine zq3 (x := .ref (pf p).cells) (by simp [q_fa]) ?_
 refine zq3 (x := .int .i64 p.kind) (by simp) ?_
 refine zq3 (x := .bool false) (by simp) ?_
 refine zqis rfl ?_
 refine zq3 (x := .ref ((pf p).cells.drop 1)) (by simp [q_fa]) ?_
 refine zq3 (x := .int .i64 p.num) (by simp) ?_
 refine zq3 (x := .ref ((pf p).cells.drop 1)) (by simp [q_fa]) ?_
 refine zq3 (x := .int .i64 p.num) (by simp) ?_
 refine zq3 (x := .bool false) (by simp) ?_
 refine zqis rfl ?_
 refine zq3 (k2p p) ?_
 refine zq3 (l2p p _) ?_
 refine zq3 (x := .int .i64 p.forms.length) (by simp) ?_
 refine zq3 (k2p p) ?_
 refine zq3 (l2p p _) ?_
 refine zq3 (x := .int .i64 p.forms.length) (by simp) ?_
 refine zq3 (x := .bool false) (by simp) ?_
 refine zqis rfl ?_
 refine zq3 (k3p p) ?_
 refine zq3 (l3p p _) ?_
 refine zq3 (x := .int .i64 p.kids.length) (by simp) ?_
 refine zq3 (k3p p) ?_
 refine zq3 (l3p p _) ?_
 refine zq3 (x := .int .i64 p.kids.length) (by simp) ?_
 refine zq3 (x := .bool false) (by simp) ?_
 refine zqis rfl ?_
 refine zqz (β := Unit) p.forms (fun _ i => [.int .i64 (i : Int)]) (fun _ => st) (fun _ _ _ => True) ?_ ?_ () trivial
 ·intro i x rest _ hi hx _ kk
  refine zq3 (k2p p) ?_
  refine zq3 (l2p p _) ?_
  refine zq3 (x := .int .i64 p.forms.length) (by simp) ?_
  refine zq3 (x := .bool true) (by simp [hi]) ?_
  refine cbr_t rfl ?_
  refine zq3 (k2p p) ?_
  refine zq3 (l2p p _) ?_
  refine zq3 (zq81 .i64 hx) ?_
  refine zq3 (lfm _ _) ?_
  refine zq3 (k2p p) ?_
  refine zq3 (l2p p _) ?_
  refine zq3 (zq81 .i64 hx) ?_
  refine zq3 (lfm _ _) ?_
  refine zq1 (zqad x x _) ?_
  refine zq3 (x := .bool false) (by simp) ?_
  refine zqis rfl ?_
  refine zq3 (qinc (by omega)) ?_
  exact kk () trivial
 ·intro _ _
  refine zq3 (k2p p) ?_
  refine zq3 (l2p p _) ?_
  refine zq3 (x := .int .i64 p.forms.length) (by simp) ?_
  refine zq3 (x := .bool false) (by simp) ?_
  refine zqis rfl ?_
  refine zqz (β := Unit) p.kids (fun _ i => [.int .i64 (i : Int)]) (fun _ => st) (fun _ _ _ => True) ?_ ?_ () trivial
  ·intro i x rest _ hi hx _ kk
   refine zq3 (k3p p) ?_
   refine zq3 (l3p p _) ?_
   refine zq3 (x := .int .i64 p.kids.length) (by simp) ?_
   refine zq3 (x := .bool true) (by simp [hi]) ?_
   refine cbr_t rfl ?_
   refine zq3 (k3p p) ?_
   refine zq3 (l3p p _) ?_
   refine zq3 (zqlt .i64 hx) ?_
   refine zq3 (lpf _ _) ?_
   refine zq3 (k3p p) ?_
   refine zq3 (l3p p _) ?_
   refine zq3 (zqlt .i64 hx) ?_
   refine zq3 (lpf _ _) ?_
   refine zq1 (ih x (List.mem_of_getElem? hx) _) ?_
   refine zq3 (x := .bool false) (by simp) ?_
   refine zqis rfl ?_
   refine zq3 (qinc (by omega)) ?_
   exact kk () trivial
  ·intro _ _
   refine zq3 (k3p p) ?_
   refine zq3 (l3p p _) ?_
   refine zq3 (x := .int .i64 p.kids.length) (by simp) ?_
   refine zq3 (x := .bool false) (by simp) ?_
   refine zqis rfl ?_
   exact Just.bool rfl (Sub.refl _)
end Go.H.Tryz
set_option linter.unusedVariables false
set_option linter.unusedSimpArgs false
namespace Go.H.Tryz
open Go Go.H

def ruleP : Pf → PV
 | .hyp _ => .agg [.int .i64 0, .int .i64 0, .str [], .nilfn, .nilfn]
 | .andI .. => .agg [.int .i64 2, .int .i64 2, .str [97, 110, 100, 73], .fn (.func n_impl_ruleOf_4) [] [], .fn (.func n_impl_ruleOf_5) [] []]
 | .fst .. => .agg [.int .i64 2, .int .i64 1, .str [102, 115, 116], .fn (.func n_impl_ruleOf_1) [] [], .fn (.func n_impl_ruleOf_2) [] []]
 | .snd .. => .agg [.int .i64 2, .int .i64 1, .str [115, 110, 100], .fn (.func n_impl_ruleOf_1) [] [], .fn (.func n_impl_ruleOf_3) [] []]
 | .funI .. => .agg [.int .i64 2, .int .i64 1, .str [102, 117, 110, 73], .fn (.func n_impl_ruleOf_6) [] [], .fn (.func n_impl_ruleOf_7) [] []]
 | .use .. => .agg [.int .i64 2, .int .i64 2, .str [117, 115, 101], .fn (.func n_impl_ruleOf_8) [] [], .fn (.func n_impl_ruleOf_3) [] []]
 | .botE .. => .agg [.int .i64 1, .int .i64 1, .str [98, 111, 116, 69], .fn (.func n_impl_ruleOf_9) [] [], .fn (.func n_impl_ruleOf_2) [] []]
theorem zq9v (p : Pf) : Box 5 (ruleP p) := by cases p <;> exact ⟨_, rfl, rfl, rfl⟩
theorem zq64 (p : Pf) (hp : p.kind ≠ 1) (st : St) : zq5 prog n_impl_ruleOf [.int .i64 p.kind] st (Just (.tup [ruleP p, .bool true]) st) := by
 apply c_impl_ruleOf
 unfold zqfu
 refine (Held.start st).alloc fun v2 w1 h1 => ?_
 have fin : ∀ y : PV, y = ruleP p → zq4 w1 5 (.ptr v2 0) y fun s => qb (zq0 s true 5 (.ptr v2 0)) fun r => retR (Just (.tup [ruleP p, .bool true]) st) (.tup [r, .bool true]) s := by
  rintro y rfl
  refine h1.store (zq9v p) rfl fun w2 h2 => ?_
  refine zq3 (h2.top (zq9v p)) ?_
  exact zq1h h2.sub ⟨rfl, rfl⟩
 cases p with
 | hyp n => exact absurd rfl hp
 | _ =>
   simp only [Pf.kind]
   repeat' (first
    | exact fin _ rfl
    | refine cbr_t rfl ?_
    | refine zqis rfl ?_
    | refine zq3 (lfm _ _) ?_
    | refine zq3 (lpf _ _) ?_
    | refine zq3 (ltr _ _) ?_
    | refine zq3 (qinc (by omega)) ?_
    | refine zq3 rfl ?_
    | (refine zq3y ?_; try simp only [List.getD_cons_zero, List.getD_cons_succ])
    | refine zqaj fun J hJ => ?_
    | (apply_assumption; try simp only [List.getD_cons_zero, List.getD_cons_succ])
    | refine zq1t (fun _ => ?_) (fun _ => ?_))
end Go.H.Tryz
set_option linter.unusedVariables false
set_option linter.unusedSimpArgs false
namespace Go.H.Tryz
open Go Go.H

def prems : Pf → List Fm
 | .hyp _ => []
 | .andI a b _ _ => [a, b]
 | .fst a b _ => [.and a b]
 | .snd a b _ => [.and a b]
 | .funI a b _ => [b]
 | .use a b _ _ => [.imp a b, a]
 | .botE _ _ => [.bot]
def concl : Pf → Fm
 | .hyp _ => .bot
 | .andI a b _ _ => .and a b
 | .fst a b _ => a
 | .snd a b _ => b
 | .funI a b _ => .imp a b
 | .use a b _ _ => b
 | .botE a _ => a
theorem Just.fms {b : Bool} {fs : List Fm} {st w : St} (h : Sub st w) : retR (Just (Go.H.fms fs) st) (.sl 3 b (fs.map fm)) w := zqbh (Conv.sl_to w 3 3 b _ (.inl rfl)) (Just.ret h)
theorem zqag (a b : Fm) (st : St) : zq5 prog n_impl_ruleOf_1 [fms [a, b]] st (Just (fms [.and a b]) st) := by
 apply zqjt
 unfold zqb4
 refine zq3 (x := .ref (fm a).cells) rfl ?_
 refine zq3 (lfm _ _) ?_
 refine zq3 (x := .ref (fm b).cells) rfl ?_
 refine zq3 (lfm _ _) ?_
 refine zq1 (zqhu a b _) ?_
 refine zq3 (lit_f1 (.and a b)) ?_
 exact Just.fms (fs := [.and a b]) (Sub.refl _)
theorem zqj1 (a b : Fm) (st : St) : zq5 prog n_impl_ruleOf_8 [fms [a, b]] st (Just (fms [.imp a b, a]) st) := by
 apply zqjm
 unfold zqax
 refine zq3 (x := .ref (fm a).cells) rfl ?_
 refine zq3 (lfm _ _) ?_
 refine zq3 (x := .ref (fm b).cells) rfl ?_
 refine zq3 (lfm _ _) ?_
 refine zq3 (x := .ref (fm a).cells) rfl ?_
 refine zq3 (lfm _ _) ?_
 refine zq1 (zq83 a b _) ?_
 refine ⟨lfm _ _, ?_⟩
 refine zq3 (lit_f2 (.imp a b) a) ?_
 exact Just.fms (fs := [.imp a b, a]) (Sub.refl _)
theorem zqj0 (fs : List Fm) (st : St) : zq5 prog n_impl_ruleOf_9 [fms fs] st (Just (fms [.bot]) st) := by
 apply zqjl
 unfold zqaw
 refine zq1 (zqfj _) ?_
 refine zq3 (lit_f1 .bot) ?_
 exact Just.fms (fs := [.bot]) (Sub.refl _)
theorem zqj3 (a b : Fm) (st : St) : zq5 prog n_impl_ruleOf_6 [fms [a, b]] st (Just (fms [b]) st) := by
 apply zqjo
 unfold zqaz
 refine zq3 (x := .sl 3 false [fm b]) (by simp [fms, zq1y, zq5d, optI]) ?_
 exact Just.fms (fs := [b]) (Sub.refl _)
theorem zqj5 (fs : List Fm) (st : St) : zq5 prog n_impl_ruleOf_4 [fms fs] st (Just (fms fs) st) := by
 apply zqjq
 unfold zqb1
 exact Just.ret (Sub.refl _)
theorem zqaf (a : Fm) (fs : List Fm) (st : St) : zq5 prog n_impl_ruleOf_2 [fms (a :: fs)] st (Just (fm a) st) := by
 apply zqjs
 unfold zqb3
 refine (Held.start st).alloc fun v2 w1 h1 => ?_
 refine zq3 (x := .ref (fm a).cells) (by simp [fms, q_ia]) ?_
 refine zq3 (lfm _ _) ?_
 refine h1.store (Box.fm a) rfl fun w2 h2 => ?_
 refine zq3 (h2.top (Box.fm a)) ?_
 exact Just.ret h2.sub
theorem zqae (a b : Fm) (st : St) : zq5 prog n_impl_ruleOf_3 [fms [a, b]] st (Just (fm b) st) := by
 apply zqjr
 unfold zqb2
 refine (Held.start st).alloc fun v2 w1 h1 => ?_
 refine zq3 (x := .ref (fm b).cells) rfl ?_
 refine zq3 (lfm _ _) ?_
 refine h1.store (Box.fm b) rfl fun w2 h2 => ?_
 refine zq3 (h2.top (Box.fm b)) ?_
 exact Just.ret h2.sub
theorem zqj4 (a b : Fm) (st : St) : zq5 prog n_impl_ruleOf_5 [fms [a, b]] st (Just (fm (.and a b)) st) := by
 apply zqjp
 unfold zqb0
 refine (Held.start st).alloc fun v2 w1 h1 => ?_
 refine zq3 (x := .ref (fm a).cells) rfl ?_
 refine zq3 (lfm _ _) ?_
 refine zq3 (x := .ref (fm b).cells) rfl ?_
 refine zq3 (lfm _ _) ?_
 refine zq1 (zqhu a b _) ?_
 refine h1.store (Box.fm _) rfl fun w2 h2 => ?_
 refine zq3 (h2.top (Box.fm _)) ?_
 exact Just.ret h2.sub
theorem zqj2 (a b : Fm) (st : St) : zq5 prog n_impl_ruleOf_7 [fms [a, b]] st (Just (fm (.imp a b)) st) := by
 apply zqjn
 unfold zqay
 refine (Held.start st).alloc fun v2 w1 h1 => ?_
 refine zq3 (x := .ref (fm a).cells) rfl ?_
 refine zq3 (lfm _ _) ?_
 refine zq3 (x := .ref (fm b).cells) rfl ?_
 refine zq3 (lfm _ _) ?_
 refine zq1 (zq83 a b _) ?_
 refine h1.store (Box.fm _) rfl fun w2 h2 => ?_
 refine zq3 (h2.top (Box.fm _)) ?_
 exact Just.ret h2.sub
def ruleF3 (p : Pf) : PV := (ruleP p).cells.getD 3 .junk
def ruleF4 (p : Pf) : PV := (ruleP p).cells.getD 4 .junk
theorem rule_prems (p : Pf) (h : p.kind ≠ 1) (st : St) {K Kp : PV → St → Prop} (hk : K (fms (prems p)) st) : zq57 prog st (ruleF3 p) [fms p.forms] K Kp := by
 cases p with
 | hyp n => exact absurd rfl h
 | andI a b x y => exact zq1 (zqj5 _ st) hk
 | fst a b x => exact zq1 (zqag a b st) hk
 | snd a b x => exact zq1 (zqag a b st) hk
 | funI a b x => exact zq1 (zqj3 a b st) hk
 | use a b x y => exact zq1 (zqj1 a b st) hk
 | botE a x => exact zq1 (zqj0 _ st) hk
theorem rule_concl (p : Pf) (h : p.kind ≠ 1) (st : St) {K Kp : PV → St → Prop} (hk : K (fm (concl p)) st) : zq57 prog st (ruleF4 p) [fms p.forms] K Kp := by
 cases p with
 | hyp n => exact absurd rfl h
 | andI a b x y => exact zq1 (zqj4 a b st) hk
 | fst a b x => exact zq1 (zqaf a [b] st) hk
 | snd a b x => exact zq1 (zqae a b st) hk
 | funI a b x => exact zq1 (zqj2 a b st) hk
 | use a b x y => exact zq1 (zqae a b st) hk
 | botE a x => exact zq1 (zqaf a [] st) hk
end Go.H.Tryz
set_option linter.unusedVariables false
set_option linter.unusedSimpArgs false
namespace Go.H.Tryz
open Go Go.H

def lookF (f : Fm) (m : Int) : Option Int := if (f.size : Int) ≤ m then some (m - f.size) else none
theorem lookF_yes {f : Fm} {m : Int} (h : (f.size : Int) ≤ m) : lookF f m = some (m - f.size) := if_pos h
theorem lookF_no {f : Fm} {m : Int} (h : ¬ (f.size : Int) ≤ m) : lookF f m = none := if_neg h
theorem zq8v {f : Fm} {m m' : Int} (h : lookF f m = some m') : (f.size : Int) ≤ m ∧ m' = m - f.size := by
 unfold lookF at h
 split at h
 ·cases h; exact ⟨‹_›, rfl⟩
 ·cases h
theorem lookF_none {f : Fm} {m : Int} (h : lookF f m = none) : ¬ (f.size : Int) ≤ m := by
 unfold lookF at h
 split at h
 ·cases h
 ·assumption
theorem zq90 (f : Fm) (hf : f.ok = true) (b : Nat) (o : Bool) (m : Int) (hm : 0 ≤ m ∧ m ≤ 1000) (st : St) (hb : st b = some (lk m o)) :
  zq5 prog n_impl_looker_form [.ptr b 0, fm f] st (zq4x b o (lookF f m) st) := by
 induction f using Fm.ind generalizing m st with
 | _ f ih =>
 by_cases hs : (f.size : Int) ≤ m
 ·rw [lookF_yes hs]; exact zq73 f hf b o m ⟨hs, hm.2⟩ st hb
 have hres := lookF_no hs
 generalize lookF f m = res at hres ⊢
 apply zq2c
 unfold zq1x
 refine zq9 (zqm _) ?_
 refine callK_look (zq1w b o m (by omega) hb) (fun m' hm' => ?_) (fun hm' m' => ?_)
 rotate_left
 ·skip
  refine zq3 (x := .bool true) rfl ?_
  rw [zqa, zqk]
  exact zq4x.no hres (Sub.refl _)
 have hm1 : 1 ≤ m := by
  by_cases h : 1 ≤ m
  ·exact h
  ·rw [if_neg h] at hm'; cases hm'
 rw [if_pos hm1] at hm'
 cases hm'
 refine zq3 (x := .bool false) rfl ?_
 rw [zqa, zqd]
 cases f with
 | atom n => simp only [Fm.size] at hs; omega
 | bot => simp only [Fm.size] at hs; omega
 | and x y =>
   simp only [Fm.ok, Bool.and_eq_true] at hf
   simp only [Fm.size] at hs
   refine zq3 (x := .ref (fm (.and x y)).cells) (by simp [q_fa]) ?_
   refine zq3 (x := .int .i64 2) (by simp [Fm.kind]) ?_
   refine zq3 (x := .bool false) rfl ?_
   rw [zqa, zqd]
   refine zq3 (x := .bool false) rfl ?_
   rw [zqa, zqd]
   refine zq3 (x := .bool true) rfl ?_
   refine zq52 fun J hJ => ?_
   rw [zqa, zqk]
   refine hJ _ _ ?_
   show cb (.bool true) _
   rw [zqa, zqk]
   refine zq3 (fa1 _) ?_
   refine zq3 (x := .int .i64 0) (by simp [Fm.num]) ?_
   refine zq3 (x := .bool true) rfl ?_
   rw [zqa, zqk]
   refine zq3 (fa2 _) ?_
   refine zq3 (x := .sl 3 false [fm x, fm y]) (by simp [Fm.kids]) ?_
   refine zq3 (x := .int .i64 2) rfl ?_
   refine zq3 (x := .bool true) rfl ?_
   rw [zqa, zqk]
   refine zq3 (fa2 _) ?_
   refine zq3 (x := .sl 3 false [fm x, fm y]) (by simp [Fm.kids]) ?_
   refine zq3 (x := .ref (fm x).cells) rfl ?_
   refine zq3 (x := fm x) (by simp) ?_
   refine callK_look (ih x (by simp [Fm.kids]) hf.1 (m - 1) (by omega) _ (zq2 _ _ _)) (fun m2 h2 => ?_) (fun h2 m2 => ?_)
   rotate_left
   ·skip
    rw [zq10, zqa, zqd]
    exact zq4x.no hres (Sub.refl _)
   obtain ⟨hx, rfl⟩ := zq8v h2
   rw [zq10, zqa, zqk]
   refine zq3 (fa2 _) ?_
   refine zq3 (x := .sl 3 false [fm x, fm y]) (by simp [Fm.kids]) ?_
   refine zq3 (x := .ref (fm y).cells) rfl ?_
   refine zq3 (x := fm y) (by simp) ?_
   refine callK_look (ih y (by simp [Fm.kids]) hf.2 (m - 1 - x.size) (by omega) _ (zq2 _ _ _)) (fun m3 h3 => ?_) (fun h3 m3 => ?_)
   rotate_left
   ·skip
    rw [zq10]
    exact zq4x.no hres (Sub.refl _)
   obtain ⟨hy, rfl⟩ := zq8v h3
   omega
 | imp x y =>
   simp only [Fm.ok, Bool.and_eq_true] at hf
   simp only [Fm.size] at hs
   refine zq3 (x := .ref (fm (.imp x y)).cells) (by simp [q_fa]) ?_
   refine zq3 (x := .int .i64 3) (by simp [Fm.kind]) ?_
   refine zq3 (x := .bool false) rfl ?_
   rw [zqa, zqd]
   refine zq3 (x := .bool false) rfl ?_
   rw [zqa, zqd]
   refine zq3 (x := .bool false) rfl ?_
   refine zq52 fun J hJ => ?_
   rw [zqa, zqd]
   refine zq3 (x := .bool true) rfl ?_
   refine hJ _ _ ?_
   show cb (.bool true) _
   rw [zqa, zqk]
   refine zq3 (fa1 _) ?_
   refine zq3 (x := .int .i64 0) (by simp [Fm.num]) ?_
   refine zq3 (x := .bool true) rfl ?_
   rw [zqa, zqk]
   refine zq3 (fa2 _) ?_
   refine zq3 (x := .sl 3 false [fm x, fm y]) (by simp [Fm.kids]) ?_
   refine zq3 (x := .int .i64 2) rfl ?_
   refine zq3 (x := .bool true) rfl ?_
   rw [zqa, zqk]
   refine zq3 (fa2 _) ?_
   refine zq3 (x := .sl 3 false [fm x, fm y]) (by simp [Fm.kids]) ?_
   refine zq3 (x := .ref (fm x).cells) rfl ?_
   refine zq3 (x := fm x) (by simp) ?_
   refine callK_look (ih x (by simp [Fm.kids]) hf.1 (m - 1) (by omega) _ (zq2 _ _ _)) (fun m2 h2 => ?_) (fun h2 m2 => ?_)
   rotate_left
   ·skip
    rw [zq10, zqa, zqd]
    exact zq4x.no hres (Sub.refl _)
   obtain ⟨hx, rfl⟩ := zq8v h2
   rw [zq10, zqa, zqk]
   refine zq3 (fa2 _) ?_
   refine zq3 (x := .sl 3 false [fm x, fm y]) (by simp [Fm.kids]) ?_
   refine zq3 (x := .ref (fm y).cells) rfl ?_
   refine zq3 (x := fm y) (by simp) ?_
   refine callK_look (ih y (by simp [Fm.kids]) hf.2 (m - 1 - x.size) (by omega) _ (zq2 _ _ _)) (fun m3 h3 => ?_) (fun h3 m3 => ?_)
   rotate_left
   ·skip
    rw [zq10]
    exact zq4x.no hres (Sub.refl _)
   obtain ⟨hy, rfl⟩ := zq8v h3
   omega
def lookP (p : Pf) (m : Int) : Option Int := if p.hok = true ∧ (p.count : Int) ≤ m then some (m - p.count) else none
theorem lookP_some {p : Pf} {m m' : Int} (h : lookP p m = some m') : p.hok = true ∧ (p.count : Int) ≤ m ∧ m' = m - p.count := by
 unfold lookP at h
 split at h
 ·cases h; exact ⟨‹_ ∧ _›.1, ‹_ ∧ _›.2, rfl⟩
 ·cases h
theorem lookP_none {p : Pf} {m : Int} (h : lookP p m = none) : ¬ (p.hok = true ∧ (p.count : Int) ≤ m) := by
 unfold lookP at h
 split at h
 ·cases h
 ·assumption
def fmSum (l : List Fm) : Nat := (l.map Fm.size).sum
def pfSum (l : List Pf) : Nat := (l.map Pf.count).sum
theorem fmSum_cons (f : Fm) (l : List Fm) : fmSum (f :: l) = f.size + fmSum l := by simp [fmSum]
theorem pfSum_cons (p : Pf) (l : List Pf) : pfSum (p :: l) = p.count + pfSum l := by simp [pfSum]
theorem count_sums (p : Pf) : p.count = 1 + fmSum p.forms + pfSum p.kids := by cases p <;> simp [Pf.count, fmSum, pfSum, Pf.forms, Pf.kids] <;> omega
theorem hok_kids {p : Pf} (h : p.kind ≠ 1) : p.hok = p.kids.all Pf.hok := by cases p <;> simp_all [Pf.hok, Pf.kids, Pf.kind]
theorem num_zero {p : Pf} (h : p.kind ≠ 1) : p.num = 0 := by cases p <;> simp_all [Pf.num, Pf.kind]
theorem zqcu (p : Pf) (hf : p.fok = true) (b : Nat) (o : Bool) (m : Int) (hm : 0 ≤ m ∧ m ≤ 1000) (st : St) (hb : st b = some (lk m o)) :
  zq5 prog n_impl_looker_proof [.ptr b 0, pf p] st (zq4x b o (lookP p m) st) := by
 induction p using Pf.ind generalizing m st with
 | _ p ih =>
 have hcs := count_sums p
 have hlp := zqhd p
 generalize hv : lookP p m = v
 apply zqdh
 unfold zq6f
 refine zq9 (zq31 _) ?_
 have no : ∀ {s : St} {m' : Int}, Sub (upd st b (lk m' o)) s → ¬ (p.hok = true ∧ (p.count : Int) ≤ m) → retR (zq4x b o v st) (.bool false) s := fun hs h => zq4x.no (by rw [← hv]; unfold lookP; rw [if_neg h]) hs
 refine callK_look (zq1w b o m (by omega) hb) (fun m' hm' => ?_) (fun hm' m' => ?_)
 rotate_left
 ·skip
  refine zq3 (x := .bool true) rfl ?_
  rw [zqa, zqk]
  refine no (Sub.refl _) (fun h => ?_)
  split at hm'
  ·cases hm'
  ·omega
 have hm1 : 1 ≤ m := by
  by_cases h : 1 ≤ m
  ·exact h
  ·rw [if_neg h] at hm'; cases hm'
 rw [if_pos hm1] at hm'
 cases hm'
 refine zq3 (x := .bool false) rfl ?_
 rw [zqa, zqd]
 refine zq3 (pfa0 _) ?_
 refine zq3 (pl0 _ _) ?_
 refine zq3 (x := .bool (decide (p.kind = 1))) (by simp) ?_
 refine zq1t (fun hk => ?_) (fun hk => ?_)
 ·obtain ⟨n, rfl⟩ := pf_hyp hk
  refine zq3 (pfa1 _) ?_
  refine zq3 (x := .int .i64 (n : Int)) (pl1 _ _) ?_
  refine zq1 (zq9y (n : Int) 0 100 _) ?_
  rw [zqa]
  refine zq50 (fun h => ?_) (fun h => ?_)
  ·rw [Bool.and_eq_true, decide_eq_true_eq, decide_eq_true_eq] at h
   refine zq3 (pfa2 _) ?_
   refine zq3 (x := .sl 3 false []) (pl2 _ _) ?_
   refine zq3 (x := .int .i64 0) rfl ?_
   refine zq3 (x := .bool true) rfl ?_
   rw [zqa, zqk]
   refine zq3 (pfa3 _) ?_
   refine zq3 (x := .sl 4 false []) (pl3 _ _) ?_
   refine zq3 (x := .int .i64 0) rfl ?_
   refine zq3 (x := .bool true) rfl ?_
   refine zq4x.yes (m := m - 1) ?_ (Sub.refl _)
   rw [← hv]; unfold lookP
   rw [if_pos ⟨by simp only [Pf.hok, decide_eq_true_eq]; omega, by simp only [Pf.count]; omega⟩]; rfl
  ·refine no (Sub.refl _) (fun h' => ?_)
   rw [Bool.and_eq_false_iff, decide_eq_false_iff_not, decide_eq_false_iff_not] at h
   have h1 := h'.1
   simp only [Pf.hok, decide_eq_true_eq] at h1
   omega
 ·refine zq3 (pfa0 _) ?_
  refine zq3 (pl0 _ _) ?_
  refine zq1 (zq64 p hk _) ?_
  refine zq3 (x := ruleP p) rfl ?_
  refine zq3 (x := .bool true) rfl ?_
  refine (Held.start _).alloc fun v5 w1 h1 => ?_
  refine h1.store (zq9v p) rfl fun w2 h2 => ?_
  have e5 := h2.got _ (List.mem_cons_self ..)
  have hbw : w2 b = some (lk (m - 1) o) := h2.sub _ _ (zq2 _ _ _)
  have nb5 : b ≠ v5 := fun e => by
   have := h2.out v5 (by simp)
   rw [← e, zq2] at this; cases this
  have sb : Sub (upd st b (lk (m - 1) o)) w2 := h2.sub
  refine zq3 (x := .bool false) rfl ?_
  rw [zqa, zqd]
  refine zq3 (pfa1 _) ?_
  refine zq3 (pl1 _ _) ?_
  refine zq3 (x := .bool false) (by rw [num_zero hk]; rfl) ?_
  rw [zqa, zqd]
  refine zq3 (pfa2 _) ?_
  refine zq3 (pl2 _ _) ?_
  refine zq3 (x := .int .i64 (p.forms.length : Int)) (by simp) ?_
  refine zq3 (x := .ptr v5 0) rfl ?_
  refine zq3 (x := .int .i64 (p.forms.length : Int)) (by rw [zqp e5]; cases p <;> first | exact absurd rfl hk | rfl) ?_
  refine zq3 (x := .bool false) (by simp) ?_
  rw [zqa, zqd]
  refine zq3 (pfa3 _) ?_
  refine zq3 (pl3 _ _) ?_
  refine zq3 (x := .int .i64 (p.kids.length : Int)) (by simp) ?_
  refine zq3 (x := .ptr v5 1) rfl ?_
  refine zq3 (x := .int .i64 (p.kids.length : Int)) (by rw [zqp e5]; cases p <;> first | exact absurd rfl hk | rfl) ?_
  refine zq3 (x := .bool false) (by simp) ?_
  rw [zqa, zqd]
  refine zq3 (pfa2 _) ?_
  refine zq3 (pl2 _ _) ?_
  refine zq3 (x := .int .i64 (p.forms.length : Int)) (by simp) ?_
  have hfs := (zqd3 hf).1
  have hks := (zqd3 hf).2
  have hkh := hok_kids hk
  refine zqz (β := Int × St) p.forms (fun _ i => [.int .i64 (i : Int)]) (fun z => z.2) (fun z i rest => 0 ≤ z.1 ∧ z.1 - fmSum rest = m - 1 - fmSum p.forms ∧ z.1 ≤ m ∧ Sub (upd st b (lk z.1 o)) z.2) ?_ ?_ (m - 1, w2) ⟨by simp only; omega, by simp only, by simp only; omega, sb⟩
  ·rintro i x rest ⟨c, s⟩ hi hx ⟨hc0, hc, hcm, hs⟩ kk
   simp only at hc0 hc hcm hs
   rw [fmSum_cons] at hc
   have hxm := List.mem_of_getElem? hx
   refine zq3 (x := .bool true) (by simp [hi]) ?_
   rw [zqa, zqk]
   refine zq3 (zq81 .i64 hx) ?_
   refine zq3 (lfm _ _) ?_
   refine (Held.start s).new (Box.fm x) rfl fun v8 s2 k2 => ?_
   refine zq3 (k2.top (Box.fm x)) ?_
   have hb2 : s2 b = some (lk c o) := k2.sub _ _ (hs _ _ (zq2 _ _ _))
   refine callK_look (zq90 x (hfs x hxm) b o c (by omega) _ hb2) (fun m2 h2 => ?_) (fun h2 m2 => ?_)
   ·obtain ⟨hx1, rfl⟩ := zq8v h2
    refine zq3 (x := .bool false) rfl ?_
    rw [zqa, zqd]
    refine zq3 (qinc (by omega)) ?_
    refine kk (c - x.size, _) ⟨by simp only; omega, by simp only; omega, by simp only; omega, ?_⟩
    have := Sub.upd (hs.trans k2.sub) b (lk (c - x.size) o)
    rw [zq10] at this
    exact this
   ·have := lookF_none h2
    refine zq3 (x := .bool true) rfl ?_
    rw [zqa, zqk]
    have hu := Sub.upd (hs.trans k2.sub) b (lk m2 o)
    rw [zq10] at hu
    exact no hu (fun h => by omega)
  ·rintro ⟨c, s⟩ ⟨hc0, hc, hcm, hs⟩
   simp only at hc0 hc hcm hs
   refine zq3 (x := .bool false) (by simp) ?_
   rw [zqa, zqd]
   refine zq3 (pfa3 _) ?_
   refine zq3 (pl3 _ _) ?_
   refine zq3 (x := .int .i64 (p.kids.length : Int)) (by simp) ?_
   rw [show fmSum [] = 0 by rfl] at hc
   refine zqz (β := Int × St) p.kids (fun _ i => [.int .i64 (i : Int)]) (fun z => z.2) (fun z i rest => (0 ≤ z.1 ∧ z.1 ≤ m) ∧ z.1 - pfSum rest = m - p.count ∧ (p.kids.all Pf.hok = rest.all Pf.hok) ∧ Sub (upd st b (lk z.1 o)) z.2) ?_ ?_ (c, s) ⟨by simp only; omega, by simp only; omega, rfl, hs⟩
   ·rintro i x rest ⟨c, s⟩ hi hx ⟨hc0, hc, hall, hs⟩ kk
    simp only at hc0 hc hs
    rw [pfSum_cons] at hc
    rw [List.all_cons] at hall
    have hxm := List.mem_of_getElem? hx
    refine zq3 (x := .bool true) (by simp [hi]) ?_
    rw [zqa, zqk]
    refine zq3 (zqlt .i64 hx) ?_
    refine zq3 (lpf _ _) ?_
    refine (Held.start s).new (Box.pf x) rfl fun v8 s2 k2 => ?_
    refine zq3 (k2.top (Box.pf x)) ?_
    have hb2 : s2 b = some (lk c o) := k2.sub _ _ (hs _ _ (zq2 _ _ _))
    have hcm : c ≤ 1000 := by omega
    refine callK_look (ih x hxm (hks x hxm) c (by omega) _ hb2) (fun m2 h2 => ?_) (fun h2 m2 => ?_)
    ·obtain ⟨hx0, hx1, rfl⟩ := lookP_some h2
     refine zq3 (x := .bool false) rfl ?_
     rw [zqa, zqd]
     refine zq3 (qinc (by omega)) ?_
     refine kk (c - x.count, _) ⟨by simp only; omega, by simp only; omega, by rw [hall, hx0, Bool.true_and], ?_⟩
     have := Sub.upd (hs.trans k2.sub) b (lk (c - x.count) o)
     rw [zq10] at this
     exact this
    ·have hn := lookP_none h2
     refine zq3 (x := .bool true) rfl ?_
     rw [zqa, zqk]
     have hu := Sub.upd (hs.trans k2.sub) b (lk m2 o)
     rw [zq10] at hu
     refine no hu (fun h => hn ⟨?_, by omega⟩)
     have h1 := h.1
     rw [hkh, hall, Bool.and_eq_true] at h1
     exact h1.1
   ·rintro ⟨c, s⟩ ⟨hc0, hc, hall, hs⟩
    simp only at hc0 hc hs
    rw [show pfSum [] = 0 by rfl] at hc
    refine zq3 (x := .bool false) (by simp) ?_
    rw [zqa, zqd]
    refine zq4x.yes (m := c) ?_ hs
    rw [← hv]; unfold lookP
    rw [if_pos ⟨by rw [hkh, hall]; rfl, by omega⟩]; congr 1; omega
theorem zqd0 (p : Pf) (hf : p.fok = true) (st : St) : zq5 prog n_impl_ProofOK [pf p] st (Just (.bool (pfOK p)) st) := by
 apply zqmo
 unfold zqe0
 refine zq9 (zq31 _) ?_
 refine zq3 (lpf _ _) ?_
 refine zqa1 (zq5h _) fun b hb => ?_
 refine ⟨lpf _ _, ?_⟩
 refine callK_look (zqcu p hf b false 150 (by omega) _ (zq2 _ _ _)) (fun m' hm' => ?_) (fun hm' m' => ?_)
 ·obtain ⟨h1, h2, _⟩ := lookP_some hm'
  refine Just.bool ?_ (by rw [zq10]; exact (Sub.refl st).fresh hb)
  unfold pfOK
  rw [h1, decide_eq_true (by omega)]; rfl
 ·have hn := lookP_none hm'
  refine Just.bool ?_ (by rw [zq10]; exact (Sub.refl st).fresh hb)
  unfold pfOK
  by_cases h : p.hok = true
  ·rw [h, decide_eq_false (fun h' => hn ⟨h, by omega⟩)]; rfl
  ·rw [Bool.not_eq_true] at h; rw [h]; simp
theorem zqm4 (f : Fm) (hf : f.ok = true) (hs : f.size ≤ 150) (st : St) : zq5 prog n_impl_badForm [fm f] st (Just (.bool false) st) := by
 apply zqml
 unfold zqdx
 refine zq9 (zqm _) ?_
 refine zq3 (lfm _ _) ?_
 refine zq1 (zqfm f hf hs _) ?_
 refine zq3 (x := .bool false) rfl ?_
 exact Just.bool rfl (Sub.refl _)
theorem zqfh (G : List Fm) (hG : ∀ f ∈ G, f.ok = true ∧ f.size ≤ 150) (hl : G.length ≤ 12) (st : St) : zq5 prog n_impl_hypsOK [fms G] st (Just (.bool true) st) := by
 have hi : zq5 prog n_slices_IndexFunc_impl_Form_impl_Form [fms G, .fn (.func n_impl_badForm) [] []] st (Just (.int .i64 (-1)) st) := by
  apply zq39
  unfold zq1p
  refine zq3 (x := .int .i64 (G.length : Int)) (by simp [fms]) ?_
  refine zqz (β := Unit) G (fun _ i => [.int .i64 (i : Int)]) (fun _ => st) (fun _ i rest => True) ?_ ?_ () trivial
  ·intro i x rest _ hi hx _ kk
   refine zq3 (x := .bool true) (by simp [hi]) ?_
   rw [zqa, zqk]
   refine zq3 (zq81 .i64 hx) ?_
   refine zq3 (lfm _ _) ?_
   have hx' := hG x (List.mem_of_getElem? hx)
   rw [zqem]
   refine zq1 (by simpa using zqm4 x hx'.1 hx'.2 st) ?_
   rw [zqa, zqd]
   refine zq3 (qinc (by omega)) ?_
   exact kk () trivial
  ·intro _ _
   refine zq3 (x := .bool false) (by simp) ?_
   rw [zqa, zqd]
   exact Just.ret (Sub.refl _)
 have hc : zq5 prog n_slices_ContainsFunc_impl_Form_impl_Form [fms G, .fn (.func n_impl_badForm) [] []] st (Just (.bool false) st) := by
  apply zq2t
  unfold zq1f
  refine zq1 hi ?_
  refine zq3 (x := .bool false) rfl ?_
  exact Just.bool rfl (Sub.refl _)
 apply c_impl_hypsOK
 unfold zqg0
 refine zq3 (x := .int .i64 (G.length : Int)) (by simp [fms]) ?_
 refine zq3 (x := .bool true) (by simp; omega) ?_
 rw [zqa, zqk]
 refine zq1 hc ?_
 refine zq3 (x := .bool true) rfl ?_
 exact Just.bool rfl (Sub.refl _)
end Go.H.Tryz
set_option linter.unusedVariables false
set_option linter.unusedSimpArgs false
namespace Go.H.Tryz
open Go Go.H

theorem h_forms_equal (fs gs : List Fm) (st : St) (hl : fs.length ≤ 1000) (ih : ∀ x ∈ fs, ∀ (y : Fm) (s : St), zq5 prog n_impl_sameForm [fm x, fm y] s (Just (.bool (decide (x = y))) s)) :
  zq5 prog n_slices_EqualFunc_impl_Form_impl_Form_impl_Form_impl_Form [fms fs, fms gs, .fn (.func n_impl_sameForm) [] []] st (Just (.bool (decide (fs = gs))) st) := by
 apply zq1i
 unfold zqr
 generalize hv : decide (fs = gs) = v
 refine zq3 (x := .int .i64 (fs.length : Int)) (by simp [fms]) ?_
 refine zq3 (x := .int .i64 (gs.length : Int)) (by simp [fms]) ?_
 refine zq3 (x := .bool (decide (fs.length ≠ gs.length))) (by simp; omega) ?_
 have no : ¬ fs = gs → false = v := fun h => by rw [← hv, decide_eq_false h]
 refine zql (fun h1 => Just.bool (no fun h => h1 (by rw [h])) (Sub.refl _)) (fun h1 => ?_)
 refine zq3 (x := .int .i64 (fs.length : Int)) (by simp [fms]) ?_
 refine zqz (β := St) fs (fun _ i => [.int .i64 (i : Int)]) (fun z => z) (fun z i rest => Sub st z ∧ (fs = gs ↔ rest = gs.drop i)) ?_ ?_ st ⟨Sub.refl _, by simp⟩
 ·rintro i x rest s hi hx ⟨hs, hq⟩ kk
  obtain ⟨y, hy⟩ : ∃ y, gs[i]? = some y := ⟨gs[i]'(by omega), List.getElem?_eq_getElem _⟩
  refine zq3 (x := .bool true) (by simp [hi]) ?_
  rw [zqa, zqk]
  refine zq3 (zq81 .i64 hx) ?_
  refine zq3 (lfm _ _) ?_
  refine (Held.start s).new (Box.fm x) rfl fun v8 s2 k2 => ?_
  refine zq3 (zq81 .i64 hy) ?_
  refine zq3 (lfm _ _) ?_
  refine k2.new (Box.fm y) rfl fun v9 s3 k3 => ?_
  refine zq3 (k3.ldf (f := x) (by simp)) ?_
  refine zq3 (k3.top (Box.fm y)) ?_
  rw [zqem]
  refine zq1 (by simpa using ih x (List.mem_of_getElem? hx) y s3) ?_
  refine zq3 (x := .bool (decide (x ≠ y))) (by simp) ?_
  rw [zqd8 hy, List.cons.injEq] at hq
  refine zql (fun h => Just.bool (no fun hh => h (hq.1 hh).1) (hs.trans k3.sub)) (fun h => ?_)
  refine zq3 (qinc (by omega)) ?_
  refine kk s3 ⟨hs.trans k3.sub, ?_⟩
  rw [hq]; simp only [Decidable.not_not] at h; simp [h]
 ·rintro s ⟨hs, hq⟩
  refine zq3 (x := .bool false) (by simp) ?_
  rw [zqa, zqd]
  refine Just.bool ?_ hs
  simp only [Decidable.not_not] at h1
  rw [← hv, decide_eq_true (hq.2 ?_)]
  rw [List.drop_of_length_le (by omega)]
theorem zqiz (f g : Fm) (st : St) : zq5 prog n_impl_sameForm [fm f, fm g] st (Just (.bool (decide (f = g))) st) := by
 induction f using Fm.ind generalizing g st with
 | _ f ih =>
 apply zqjk
 unfold zqav
 generalize hv : decide (f = g) = v
 refine zq9 (zqm _) ?_
 refine zq9 (zqm _) ?_
 have hfk := zqd5 f
 have no : ¬ (f.kind = g.kind ∧ f.num = g.num ∧ f.kids = g.kids) → false = v := fun h => by rw [← hv, decide_eq_false (fun e => h (by rw [e]; exact ⟨rfl, rfl, rfl⟩))]
 refine zq3 (x := .ref (fm f).cells) (by simp [q_fa]) ?_
 refine zq3 (x := .int .i64 f.kind) (by simp) ?_
 refine zq3 (x := .ref (fm g).cells) (by simp [q_fa]) ?_
 refine zq3 (x := .int .i64 g.kind) (by simp) ?_
 refine zq3 (x := .bool (decide (f.kind = g.kind))) (by simp) ?_
 refine zql (fun h1 => ?_) (fun h1 => Just.bool (no fun h => h1 h.1) (Sub.refl _))
 refine zq3 (x := .ref ((fm f).cells.drop 1)) (by simp [q_fa]) ?_
 refine zq3 (x := .int .i64 f.num) (by simp) ?_
 refine zq3 (x := .ref ((fm g).cells.drop 1)) (by simp [q_fa]) ?_
 refine zq3 (x := .int .i64 g.num) (by simp) ?_
 refine zq3 (x := .bool (decide (f.num = g.num))) (by simp) ?_
 refine zql (fun h2 => ?_) (fun h2 => Just.bool (no fun h => h2 h.2.1) (Sub.refl _))
 refine zq3 (x := .ref ((fm f).cells.drop 2)) (by simp [q_fa]) ?_
 refine zq3 (x := fms f.kids) (by simp [fms]) ?_
 refine zq3 (x := .ref ((fm g).cells.drop 2)) (by simp [q_fa]) ?_
 refine zq3 (x := fms g.kids) (by simp [fms]) ?_
 refine zq1 (h_forms_equal f.kids g.kids st (by omega) ih) ?_
 refine Just.bool ?_ (Sub.refl _)
 rw [← hv]
 by_cases h3 : f.kids = g.kids
 ·rw [decide_eq_true h3, decide_eq_true (Fm.ext_of h1 h2 h3)]
 ·rw [decide_eq_false h3, decide_eq_false (fun e => h3 (by rw [e]))]
theorem psize_loop (x : Pf) (hx : x.size ≤ 1000000) (st : St) (a : PV) (h3 : ∃ b, zq1d a = some a ∧ q_fa 3 a = some b ∧ zq0 st false 1 b = some (.sl 4 false (x.kids.map pf))) (ih : ∀ y ∈ x.kids, zq5 prog n_impl_Proof_size [.ref (pf y).cells] st (Just (.int .i64 y.size) st)) :
  zq5 prog n_impl_Proof_size [a] st (Just (.int .i64 x.size) st) := by
 obtain ⟨b, hb0, hb1, hb2⟩ := h3
 have hsz := zqh7 x
 have hl := zqhd x
 apply zqgp
 unfold zq8j
 refine zq3 hb0 ?_
 refine zq3 hb1 ?_
 refine zq3 hb2 ?_
 refine zq3 (x := .int .i64 (x.kids.length : Int)) (by simp) ?_
 refine zqz (β := Int) x.kids (fun z i => [.int .i64 z, .int .i64 (i : Int)]) (fun _ => st) (fun z i rest => 0 ≤ z ∧ z + zq8r rest = x.size) ?_ ?_ 1 ⟨by omega, by omega⟩
 ·rintro i y rest c hi hy ⟨hc0, hc⟩ kk
  have hc' : c + (y.size + zq8r rest : Nat) = x.size := by rw [← hc]; simp [zq8r]
  refine zq3 (x := .bool true) (by simp [hi]) ?_
  rw [zqa, zqk]
  refine zq3 hb0 ?_
  refine zq3 hb1 ?_
  refine zq3 hb2 ?_
  refine zq3 (zqlt .i64 hy) ?_
  refine zq1 (ih y (List.mem_of_getElem? hy)) ?_
  refine zq3 (x := .int .i64 (c + y.size)) (by simp; rw [zqs (by omega) (by omega)]) ?_
  refine zq3 (x := .int .i64 ((i + 1 : Nat) : Int)) (by simp; rw [zqs (by omega) (by omega)]) ?_
  exact kk (c + y.size) ⟨by omega, by omega⟩
 ·rintro c ⟨hc0, hc⟩
  refine zq3 (x := .bool false) (by simp) ?_
  rw [zqa, zqd]
  refine Just.int ?_ (Sub.refl _)
  simp only [zq8r] at hc
  simpa using hc
theorem zqgf (x : Pf) (hx : x.size ≤ 1000000) (st : St) : zq5 prog n_impl_Proof_size [.ref (pf x).cells] st (Just (.int .i64 x.size) st) := by
 induction x using Pf.ind with
 | _ x ih =>
 have hsz := zqh7 x
 refine psize_loop x hx st _ ⟨_, rfl, pfa3 _, pl3 _ _⟩ fun y hy => ih y hy ?_
 have := zqc8 hy
 omega
theorem zqbo (x : Pf) (hx : x.size ≤ 1000000) (v : Nat) (st : St) (hv : st v = some (.cells (pf x).cells)) : zq5 prog n_impl_Proof_size [.ptr v 0] st (Just (.int .i64 x.size) st) := by
 have hsz := zqh7 x
 refine psize_loop x hx st _ ⟨.ptr v 3, rfl, rfl, by rw [zqp hv]; simp⟩ fun y hy => zqgf y ?_ st
 have := zqc8 hy
 omega
theorem prv_parts {G : List Fm} {x : Pf} {f : Fm} (h : Prv G x f) (hk : x.kind ≠ 1) : Prvs (if x.kind = 5 then x.forms.headD .bot :: G else G) x.kids (prems x) ∧ f = concl x := by
 cases h <;> first | exact absurd rfl hk | simp_all [Prvs, Pf.kind, Pf.forms, Pf.kids, prems, concl]
theorem zqcr (fs : List Fm) (f : Bool) (st : St) : zq5 prog n_slices_Clip_impl_Form_impl_Form [.sl 3 f (fs.map fm)] st (Just (.sl 3 true (fs.map fm)) st) := by
 apply zq44
 unfold zq26
 have := zqk7 (e := 3) (f := f) (xs := fs.map fm) .i64 .i64
 simp at this
 try simp [this]
 exact Just.ret (Sub.refl _)
theorem h_impl_proves (x : Pf) : ∀ (G : List Fm) (f : Fm), Prv G x f → G.length + x.size ≤ 100000 → ∀ (at_ : Int), 0 ≤ at_ → at_ + x.size ≤ 1000000 → ∀ (st : St), zq5 prog n_impl_proves [fms G.reverse, pf x, .int .i64 at_] st (Just (fm f) st) := by
 induction x using Pf.ind with
 | _ x ih =>
 intro G f hp hG at_ ha0 ha st
 have hl := zqhd x
 have hsz := zqh7 x
 apply c_impl_proves
 unfold zqfv
 refine zq9 (zq31 _) ?_
 refine (Held.start st).alloc fun v6 w1 h1 => ?_
 refine zq3 (pfa0 _) ?_
 refine zq3 (pl0 _ _) ?_
 refine zq3 (x := .bool (decide (x.kind = 1))) (by simp) ?_
 refine zq1t (fun hk => ?_) (fun hk => ?_)
 ·obtain ⟨n, rfl⟩ := pf_hyp hk
  cases hp with
  | hyp hn =>
    have hlt := (List.getElem?_eq_some_iff.1 hn).1
    refine zq3 (pfa1 _) ?_
    refine zq3 (x := .int .i64 (n : Int)) (pl1 _ _) ?_
    refine zq3 (x := .int .i64 (G.length : Int)) (by simp [fms]) ?_
    refine zq3 (x := .bool false) (by simp; omega) ?_
    refine zq52 fun J hJ => ?_
    rw [zqa, zqd]
    refine hJ _ _ ?_
    refine zq3 (x := .int .i64 (G.length : Int)) (by simp [fms]) ?_
    refine zq3 (qdec (by omega)) ?_
    refine zq3 (pfa1 _) ?_
    refine zq3 (x := .int .i64 (n : Int)) (pl1 _ _) ?_
    refine zq3 (x := .int .i64 ((G.length - 1 - n : Nat) : Int)) (by simp; rw [zqs (by omega) (by omega)]; omega) ?_
    refine zq3 (zq81 .i64 (f := f) (by rw [List.getElem?_reverse (by omega), show G.length - 1 - (G.length - 1 - n) = n by omega]; exact hn)) ?_
    refine zq3 (lfm _ _) ?_
    refine h1.store (Box.fm f) rfl fun w4 h4 => ?_
    refine zq3 (h4.top (Box.fm f)) ?_
    exact Just.ret h4.sub
 ·obtain ⟨hps, hfe⟩ := prv_parts hp hk
  refine zq3 (pfa0 _) ?_
  refine zq3 (pl0 _ _) ?_
  refine zq1 (zq64 x hk _) ?_
  refine zq3 (x := ruleP x) rfl ?_
  refine zq3 (x := .bool true) rfl ?_
  refine h1.alloc fun v7 w2 h2 => ?_
  refine h2.store2 (zq9v x) rfl fun w3 h3 => ?_
  have e7 := h3.got _ (List.mem_cons_self ..)
  refine zq3 (x := .ptr v7 3) rfl ?_
  refine zq3 (x := ruleF3 x) (by rw [zqp e7]; cases x <;> first | exact absurd rfl hk | rfl) ?_
  refine zq3 (pfa2 _) ?_
  refine zq3 (pl2 _ _) ?_
  refine rule_prems x hk _ ?_
  refine zq3 (x := .int .i64 (at_ + 1)) (by simp; rw [zqs (by omega) (by omega)]) ?_
  refine zq3 (pfa0 _) ?_
  refine zq3 (pl0 _ _) ?_
  refine zq3 (x := .bool (decide (x.kind = 5))) (by simp) ?_
  refine hJ_cv fun J hJ => ?_
  generalize hGe : (if x.kind = 5 then x.forms.headD .bot :: G else G) = G' at hps
  have hGl : G'.length ≤ G.length + 1 := by rw [← hGe]; split <;> simp
  have main : ∀ (p : PV) (s : St), Conv [p] s [fms G'.reverse] w3 → J [p] s := fun p s hcv => by
   obtain ⟨hlen, hget⟩ := hps.get
   refine hJ [p] s [fms G'.reverse] w3 hcv ?_
   refine zq3 (pfa3 _) ?_
   refine zq3 (pl3 _ _) ?_
   refine zq3 (x := .int .i64 x.kids.length) (by simp) ?_
   refine zq52 fun J2 hJ2 => ?_
   refine zqz (β := Int × St) x.kids (fun z i => [.int .i64 z.1, .int .i64 (i : Int)]) (fun z => z.2) (fun z i rest => 0 ≤ z.1 ∧ z.1 + zq8r rest = at_ + x.size ∧ Sub w3 z.2) ?_ ?_ (at_ + 1, w3) ⟨by simp only; omega, by simp only; omega, Sub.refl w3⟩
   ·rintro i y rest ⟨c, s⟩ hi hy ⟨hc0, hc, hs⟩ kk
    simp only at hc0 hc hs
    have hm := List.mem_of_getElem? hy
    have hys := zqc8 hm
    obtain ⟨g, hg, hpg⟩ := hget i y hy
    have hc' : c + (y.size + zq8r rest : Nat) = at_ + x.size := by rw [← hc]; simp [zq8r]
    refine zq3 (x := .bool true) (by simp [hi]) ?_
    rw [zqa, zqk]
    refine zq3 (zqlt .i64 hy) ?_
    refine zq3 (lpf _ _) ?_
    refine (Held.start s).new (Box.pf y) rfl fun v12 s2 k2 => ?_
    refine zq3 (k2.top (Box.pf y)) ?_
    refine zq3 (zq81 .i64 hg) ?_
    refine zq3 (lfm _ _) ?_
    refine zq1 (ih y hm G' g hpg (by omega) c hc0 (by omega) _) ?_
    refine ⟨lfm _ _, ?_⟩
    refine zq1 (zqiz g g _) ?_
    refine zq3 (x := .bool false) (by simp) ?_
    rw [zqa, zqd]
    refine zq1 (zqbo y (by omega) v12 _ (k2.got _ (List.mem_cons_self ..))) ?_
    refine zq3 (x := .int .i64 (c + y.size)) (by simp; rw [zqs (by omega) (by omega)]) ?_
    refine zq3 (x := .int .i64 ((i + 1 : Nat) : Int)) (by simp; rw [zqs (by omega) (by omega)]) ?_
    exact kk (c + y.size, s2) ⟨by simp only; omega, by simp only; omega, hs.trans k2.sub⟩
   ·rintro ⟨c, s⟩ ⟨hc0, hc, hs⟩
    simp only at hs
    have hs' := h3.grow hs
    refine zq3 (x := .bool false) (by simp) ?_
    rw [zqa, zqd]
    refine hJ2 _ _ ?_
    have e7' := hs'.got _ (List.mem_cons_self ..)
    refine zq3 (x := .ptr v7 4) rfl ?_
    refine zq3 (x := ruleF4 x) (by rw [zqp e7']; cases x <;> first | exact absurd rfl hk | rfl) ?_
    refine zq3 (pfa2 _) ?_
    refine zq3 (pl2 _ _) ?_
    refine rule_concl x hk _ ?_
    rw [← hfe]
    refine hs'.store (Box.fm f) rfl fun s2 k2 => ?_
    refine zq3 (k2.top (Box.fm f)) ?_
    exact Just.ret k2.sub
  refine zq1t (fun h5 => ?_) (fun h5 => ?_)
  ·obtain ⟨a, b, y, rfl⟩ : ∃ a b y, x = .funI a b y := by cases x <;> simp_all [Pf.kind]
   rw [if_pos h5] at hGe
   refine zq3 (pfa2 _) ?_
   refine zq3 (x := .sl 3 false [fm a, fm b]) (pl2 _ _) ?_
   refine zq3 (x := .ref (fm a).cells) rfl ?_
   refine zq3 (lfm _ _) ?_
   refine zq3 (lit_f1 a) ?_
   refine zq1 (zqcr G.reverse false _) ?_
   refine ⟨lfm _ _, pl2 _ _, ?_⟩
   refine zqlb (zq2n _ _ _ _) (by simp) (by simp; omega) fun p2 s2 hg2 => ?_
   refine main _ _ ?_
   rw [← hGe]
   simpa [fms, Pf.forms] using hg2.freeze
  ·rw [if_neg h5] at hGe
   subst hGe
   exact main _ _ (Conv.refl _ _)
end Go.H.Tryz
set_option linter.unusedVariables false
set_option linter.unusedSimpArgs false
namespace Go.H.Tryz
open Go Go.H

theorem zqbm (fs : List Fm) (hl : fs.length ≤ 1000) (st : St) (ih : ∀ x ∈ fs, ∀ s : St, zq5 prog n_impl_cloneForm [fm x] s (Just (fm x) s)) : zq5 prog n_impl_cloneForms [fms fs] st (Just (fms fs) st) := by
 apply zqgm
 unfold zq8g
 refine zq3 (x := .sl 3 true []) rfl ?_
 refine zq3 (x := .int .i64 (fs.length : Int)) (by simp [fms]) ?_
 refine zqz (β := PV × St × St) fs (fun z i => [z.1, .int .i64 (i : Int)]) (fun z => z.2.1) (fun z i rest => Grow z.2.2 3 ((fs.take i).map fm) z.1 z.2.1 ∧ Sub st z.2.2) ?_ ?_ (.sl 3 true [], st, st) ⟨Grow.nil _ _ _, Sub.refl _⟩
 ·rintro i x rest ⟨p, s1, s0⟩ hi hx ⟨q0, qs⟩ kk
  simp only at q0 qs
  refine zq3 (x := .bool true) (by simp [hi]) ?_
  rw [zqa, zqk]
  refine zq3 (zq81 .i64 hx) ?_
  refine zq3 (lfm _ _) ?_
  intro b5 hb5
  have q1 := q0.beside (.cells (fm x).cells) hb5
  refine zq13 (zq2 _ _ _) (zq9z x) (zqd4 x) (zqm x) (by simp) ?_
  rw [fm_set, zq10]
  refine zq3 (load_fm (zq2 _ _ _)) ?_
  refine zq1 (ih x (List.mem_of_getElem? hx) _) ?_
  refine zq3 (lit_f1 x) ?_
  refine q1.append (zq2n _ _ _ _) (by simp; omega) fun p' s' hg => ?_
  refine zq3 (qinc (by omega)) ?_
  refine kk (p', s', upd s0 b5 (.cells (fm x).cells)) ⟨?_, qs.put (qs.isNone (q0.sub.isNone hb5))⟩
  rw [List.take_add_one, hx]
  simpa using hg
 ·rintro ⟨p, s1, s0⟩ ⟨q0, qs⟩
  simp only at q0 qs
  refine zq3 (x := .bool false) (by simp) ?_
  rw [zqa, zqd]
  rw [List.take_length] at q0
  exact Just.conv (Conv.trans q0.freeze (Conv.sub qs))
theorem zqhs (f : Fm) (st : St) : zq5 prog n_impl_cloneForm [fm f] st (Just (fm f) st) := by
 induction f using Fm.ind generalizing st with
 | _ f ih =>
 have hl := zqd5 f
 apply zqid
 unfold zq9l
 refine zq2a (zqm _) fun b1 hb1 => ?_
 intro b2 hb2
 have hne : b1 ≠ b2 := fun e => by rw [← e, zq2] at hb2; cases hb2
 rw [zq7 _ _ hne.symm] at hb2
 generalize hs : upd (upd st b1 (.cells (fm f).cells)) b2 (.cells [.int .i64 0, .int .i64 0, .sl 0 true []]) = s
 have e1 : s b1 = some (.cells (fm f).cells) := by rw [← hs, zq7 _ _ hne]; exact zq2 _ _ _
 have e2 : s b2 = some (.cells [.int .i64 0, .int .i64 0, .sl 0 true []]) := by rw [← hs]; exact zq2 _ _ _
 have hsub : Sub st s := by
  rw [← hs]
  refine ((Sub.refl st).put hb1).put hb2
 clear hs
 refine zq3 (x := .ptr b1 2) rfl ?_
 refine zq3 (x := fms f.kids) (by rw [zqp e1]; simp [fms]) ?_
 refine zq1 (zqbm f.kids (by omega) s fun x hx s' => ih x hx s') ?_
 refine zq3 (x := .ptr b1 2) rfl ?_
 refine zq13 e1 (by rfl) rfl rfl (by simp) ?_
 have e3 : zqg (fm f).cells 2 (fms f.kids).cells = (fm f).cells := by rw [zq6p]; rfl
 rw [e3]
 refine zq3 (load_fm (zq2 _ _ _)) ?_
 have hne2 : b2 ≠ b1 := fun e => hne e.symm
 refine zq13 (vs := [.int .i64 0, .int .i64 0, .sl 0 true []]) (by rw [zq7 _ _ hne2]; exact e2) (zq9z f) (zqd4 f) (zqm f) (by simp) ?_
 rw [fm_set]
 refine zq3 (load_fm (zq2 _ _ _)) ?_
 refine Just.ret ?_
 exact (hsub.put hb1).put hb2
end Go.H.Tryz
set_option linter.unusedVariables false
set_option linter.unusedSimpArgs false
namespace Go.H.Tryz
open Go Go.H

theorem longForms (n : Nat) (h : n ≤ 4096) (st : St) : zq5 prog n_impl_longLists [.sl 1 true [.int .i64 n]] st (Just (.bool false) st) := by
 have := zq92 (n : Int) [] (by simp) st
 rw [show ((((n : Int) :: []).any fun y => decide (y > 4096))) = false by simp; omega] at this
 exact this
structure PrOK (G : List Fm) (p : Pf) (f : Fm) : Prop where
 prv : Prv G p f
 ctx : ∀ h ∈ G, h.ok = true ∧ h.size ≤ 150
 few : G.length ≤ 12
 fok : p.fok = true
 pok : pfOK p = true
theorem h_impl_Proves (G : List Fm) (p : Pf) (f : Fm) (h : PrOK G p f) (st : St) : zq5 prog n_impl_Proves [fms G.reverse, pf p] st (Just (.tup [fm f, .int .i64 0, .int .i64 0]) st) := by
 obtain ⟨hp, hG, hGl, hpf, hpo⟩ := h
 obtain ⟨pc, ps, ph⟩ := zqhe hpo
 apply c_impl_Proves
 unfold zqg5
 refine zq9 (by rfl) ?_
 refine zq9 (zq31 _) ?_
 refine (Held.start st).alloc fun v4 w1 h1 => ?_
 have hl0 : ∀ s : St, zq0 s false 1 (.ref (fms G.reverse).cells) = some (fms G.reverse) := fun s => rfl
 refine zq3 (hl0 _) ?_
 refine zq3 (x := .int .i64 (G.length : Int)) (by simp [fms]) ?_
 refine zq3 (x := .sl 1 true [.int .i64 (G.length : Int)]) rfl ?_
 refine zq1 (longForms G.length (by omega) _) ?_
 rw [zqa, zqd]
 refine zq52 fun J hJ => ?_
 refine zq3 (hl0 _) ?_
 refine zq1 (zqfh G.reverse (fun x hx => hG x (by simpa using hx)) (by simpa using hGl) _) ?_
 refine zq3 (x := .bool false) rfl ?_
 rw [zqa, zqd]
 refine zq3 (lpf _ _) ?_
 refine zq1 (zqd0 p hpf _) ?_
 rw [hpo]
 refine zq3 (x := .bool false) rfl ?_
 refine hJ _ _ ?_
 show cb (.bool false) _
 rw [zqa, zqd]
 refine zq3 (x := .agg [.int .i64 0, .int .i64 0, .sl 0 true []]) rfl ?_
 refine h1.alloc fun v7 w2 h2 => ?_
 refine h2.store2 (box3 _ _ _ rfl) rfl fun w3 h3 => ?_
 have h4 := h3.again (y := fm f)
 refine zq99 (v := v7) (o := .cells (fm f).cells) (by have := h3.got _ (List.mem_cons_self ..); rw [this]; simp) (fun b hb => ?_) ?_
 ·apply zqk2
  unfold zqbd
  refine zq3 (hl0 _) ?_
  refine zq3 (lpf _ _) ?_
  refine zq1 (h_impl_proves p G f hp (by omega) 0 (by omega) (by omega) _) ?_
  have e7 := h3.got _ (List.mem_cons_self ..)
  have ne : v7 ≠ b := fun e => by simp only at e7; rw [e, hb] at e7; cases e7
  refine zq13 (vs := (PV.agg [.int .i64 0, .int .i64 0, .sl 0 true []]).cells) (by rw [zq7 _ _ ne]; exact e7) (zq9z f) (zqd4 f) (zqm f) (by simp [PV.cells]) ?_
  rw [show zqg (PV.agg [.int .i64 0, .int .i64 0, .sl 0 true []]).cells 0 (fm f).cells = (fm f).cells from fm_set f _ _ _]
  exact zq29 ⟨rfl, rfl⟩
 refine h4.alloc fun v8 w5 h5 => ?_
 refine h5.store2 (n := 2) ⟨_, rfl, rfl, rfl⟩ rfl fun w6 h6 => ?_
 have e8 := h6.got _ (List.mem_cons_self ..)
 refine zq3 (x := .ptr v8 0) rfl ?_
 refine zq3 (x := .int .i64 0) (by rw [zqp e8]; rfl) ?_
 refine zq3 (x := .bool false) rfl ?_
 rw [zqa, zqd]
 refine zq3 (h6.ldf (f := f) (by simp)) ?_
 refine zq1 (zqhs f _) ?_
 refine h6.store (Box.fm f) rfl fun w7 h7 => ?_
 refine zq3 (h7.top (Box.fm f)) ?_
 exact Just.ret h7.sub
theorem conv_hyp (s : St) (n : Nat) : Conv [.agg [.int .i64 1, .int .i64 (n : Int), .sl 0 true [], .sl 0 true []]] s [pf (.hyp n)] s := zqfp s 1 (n : Int) 0 0 true true [] [] (.hyp n) ⟨rfl, rfl, rfl, rfl⟩ (.inr rfl) (.inr rfl)
end Go.H.Tryz
set_option linter.unusedVariables false
set_option linter.unusedSimpArgs false
namespace Go.H.Tryz
open Go Go.H

theorem zqcx (w : List UInt8) (st : St) : zq5 prog n_impl_constant [.str w, .sl 0 true []] st (Just (.agg [.int .i64 6, .int .i64 0, .str w, .sl 0 true []]) st) := by
 apply zq6s
 unfold zq4o
 refine (Held.start st).alloc fun v4 w1 h1 => ?_
 refine zq3 (x := .agg [.int .i64 6, .int .i64 0, .str w, .sl 0 true []]) rfl ?_
 refine h1.store (box4 _ _ _ _ rfl) rfl fun w2 h2 => ?_
 refine zq3 (h2.top (box4 _ _ _ _ rfl)) ?_
 exact Just.ret h2.sub
def MkT (w : St) (v : Nat) (nm : List UInt8) (ks : List Tr) (p : PV) (s : St) : Prop := Grow (upd w v (.cells [.int .i64 6, .int .i64 0, .str nm, p])) 4 (ks.map tree) p s
theorem MkT.at {w s : St} {v : Nat} {nm : List UInt8} {ks : List Tr} {p : PV} (h : MkT w v nm ks p s) : s v = some (.cells [.int .i64 6, .int .i64 0, .str nm, p]) := h.sub _ _ (zq2 _ _ _)
theorem MkT.row {w s : St} {v : Nat} {nm : List UInt8} {ks : List Tr} {p : PV} (h : MkT w v nm ks p s) : zq0 s false 1 (.ptr v 3) = some p := by
 obtain ⟨o1, o2, o3, o4⟩ := h.one
 rw [zqp h.at]
 show zq3n false 1 [p] = _
 unfold zq3n
 cases p <;> first | rfl | (simp [PV.cellOK] at o4)
theorem MkT.more {w s : St} {v : Nat} {nm : List UInt8} {ks : List Tr} {p : PV} {x : Tr} {K : St → Prop} (h : MkT w v nm ks p s) (hl : ks.length ≤ 1000) (hk : ∀ p' s', MkT w v nm (ks ++ [x]) p' s' → K s') :
  zqo s 4 56 p (.sl 4 true [tree x]) fun r st => qb (q_fa 3 (.ptr v 0)) fun a => zq4 st 1 a r K := by
 refine Grow.append h (zq2n _ _ _ _) (by simp; omega) fun p' s' hg => ?_
 have hv : s' v = some (.cells [.int .i64 6, .int .i64 0, .str nm, p]) := hg.sub _ _ (zq2 _ _ _)
 obtain ⟨o1, o2, o3, o4⟩ := hg.one
 refine zq3 (x := .ptr v 3) rfl ?_
 refine zq13 hv (by rw [o1]; simp [o4]) o2 o3 (by simp) ?_
 refine hk p' _ ?_
 have hs := hg.store (.cells [.int .i64 6, .int .i64 0, .str nm, p']) (zq2 _ _ _)
 rw [zq10] at hs
 have e : zqg [.int .i64 6, .int .i64 0, .str nm, p] 3 p'.cells = [.int .i64 6, .int .i64 0, .str nm, p'] := by rw [o1]; rfl
 rw [e]
 unfold MkT
 simpa using hs
theorem MkT.other {w s : St} {v c : Nat} {nm : List UInt8} {ks : List Tr} {p : PV} {o : HObj} (h : MkT w v nm ks p s) (hc : c ≠ v) (ho : w c = some o) : s c = some o := Grow.sub h _ _ (by rw [zq7 _ _ hc]; exact ho)
theorem MkT.ne {w s : St} {v b : Nat} {nm : List UInt8} {ks : List Tr} {p : PV} (h : MkT w v nm ks p s) (hb : s b = none) : b ≠ v := fun e => by
 have := h.at
 rw [← e, hb] at this; cases this
theorem MkT.none {w s : St} {v b : Nat} {nm : List UInt8} {ks : List Tr} {p : PV} (h : MkT w v nm ks p s) (hb : s b = Option.none) : w b = Option.none := by
 have hn := (Grow.sub h).isNone hb
 rwa [zq7 _ _ (h.ne hb)] at hn
theorem MkT.beside {w s : St} {v b : Nat} {nm : List UInt8} {ks : List Tr} {p : PV} (h : MkT w v nm ks p s) (o : HObj) (hb : s b = Option.none) : MkT (upd w b o) v nm ks p (upd s b o) := by
 have := Grow.beside h o hb
 rw [zq4y _ _ _ (Ne.symm (h.ne hb))] at this
 exact this
theorem MkT.store {w s : St} {v c : Nat} {nm : List UInt8} {ks : List Tr} {p : PV} (h : MkT w v nm ks p s) (o : HObj) {o0 : HObj} (hc : c ≠ v) (hw : w c = some o0) : MkT (upd w c o) v nm ks p (upd s c o) := by
 have := Grow.store h o (c := c) (by rw [zq7 _ _ hc]; exact hw)
 rw [zq4y _ _ _ (Ne.symm hc)] at this
 exact this
theorem MkT.freeze {w s : St} {v : Nat} {nm : List UInt8} {ks : List Tr} {p : PV} (h : MkT w v nm ks p s) :
  Conv [.agg [.int .i64 6, .int .i64 0, .str nm, p]] s [tree (.const nm ks)] (upd w v (.cells [.int .i64 6, .int .i64 0, .str nm, p])) := by
 rw [zq5b]
 obtain ⟨o1, o2, o3, o4⟩ := h.one
 exact Conv.agg (Conv.cons (Conv.sub (Grow.sub h)) (Conv.cons (Conv.sub (Grow.sub h)) (Conv.cons (Conv.sub (Grow.sub h)) (Grow.freeze h)))) rfl (by show (true && (true && (true && (p.cellOK && true)))) = true; rw [o4]; rfl)
def zqfe : Pf → List UInt8
 | .hyp _ => [] | .andI .. => wAndI | .fst .. => wFst | .snd .. => wSnd | .funI .. => wFunI | .use .. => wUse | .botE .. => wBotE
def kidT (x y : Pf) : Tr := if x.kind = 5 then .lam (pfT y) else pfT y
theorem pfT_node {x : Pf} (hk : x.kind ≠ 1) : pfT x = .const (zqfe x) (x.forms.map fmT ++ x.kids.map (kidT x)) := by
 cases x <;> first | exact absurd rfl hk | rfl
theorem zqhp (x : Pf) (hf : x.fok = true) (st : St) : zq5 prog n_impl_proofTerm [pf x] st (Just (tree (pfT x)) st) := by
 induction x using Pf.ind generalizing st with
 | _ x ih =>
 have hl := zqhd x
 obtain ⟨hff, hfk⟩ := zqd3 hf
 apply zqi9
 unfold zq9h
 refine zq9 (zq31 _) ?_
 refine (Held.start st).alloc fun v2 w1 h1 => ?_
 refine zq3 (pfa0 _) ?_
 refine zq3 (pl0 _ _) ?_
 refine zq3 (x := .bool (decide (x.kind = 1))) (by simp) ?_
 refine zq1t (fun hk => ?_) (fun hk => ?_)
 ·obtain ⟨n, rfl⟩ := pf_hyp hk
  refine zq3 (pfa1 _) ?_
  refine zq3 (x := .int .i64 (n : Int)) (pl1 _ _) ?_
  refine zq1 (zq8y (n : Int) _) ?_
  refine h1.store (Box.tree _) rfl fun w2 h2 => ?_
  refine zq3 (h2.top (Box.tree _)) ?_
  exact Just.ret h2.sub
 ·refine zq3 (pfa0 _) ?_
  refine zq3 (pl0 _ _) ?_
  refine zq1 (zq64 x hk _) ?_
  refine zq3 (x := ruleP x) rfl ?_
  refine zq3 (x := .bool true) rfl ?_
  refine h1.alloc fun v3 w2 h2 => ?_
  refine h2.store2 (zq9v x) rfl fun w3 h3 => ?_
  have e3 := h3.got _ (List.mem_cons_self ..)
  refine zq3 (x := .ptr v3 2) rfl ?_
  refine zq3 (x := .str (zqfe x)) (by rw [zqp e3]; cases x <;> first | exact absurd rfl hk | rfl) ?_
  refine zq1 (zqcx (zqfe x) _) ?_
  refine h3.alloc fun v5 w4 h4 => ?_
  refine h4.store2 (box4 _ _ _ _ rfl) rfl fun w5 h5 => ?_
  have e5 := h5.got _ (List.mem_cons_self ..)
  have e2 := h5.zat (v2, [.int .i64 0, .int .i64 0, .str [], .sl 0 true []]) (by simp)
  have ne25 : v2 ≠ v5 := fun e => by
   have := h5.nd
   simp [e] at this
  have o2 := h5.out v2 (by simp)
  have o5 := h5.out v5 (by simp)
  have e : upd w5 v5 (.cells [.int .i64 6, .int .i64 0, .str (zqfe x), .sl 0 true []]) = w5 := by
   funext c
   unfold upd
   split
   ·rename_i h; rw [h]; exact e5.symm
   ·rfl
  have start : MkT w5 v5 (zqfe x) [] (.sl 0 true []) w5 := by
   have : MkT w5 v5 (zqfe x) [] (.sl 0 true []) (upd w5 v5 (.cells [.int .i64 6, .int .i64 0, .str (zqfe x), .sl 0 true []])) := Grow.nil _ _ _
   rw [e] at this
   exact this
  refine zq3 (pfa2 _) ?_
  refine zq3 (pl2 _ _) ?_
  refine zq3 (x := .int .i64 x.forms.length) (by simp) ?_
  refine zqz (β := PV × St × St) x.forms (fun _ i => [.int .i64 (i : Int)]) (fun z => z.2.1) (fun z i rest => MkT z.2.2 v5 (zqfe x) ((x.forms.take i).map fmT) z.1 z.2.1 ∧ Sub w5 z.2.2) ?_ ?_ (.sl 0 true [], w5, w5) ⟨start, Sub.refl _⟩
  ·rintro i y rest ⟨p, s, w⟩ hi hy ⟨hg0, hws⟩ kk
   simp only at hg0 hws
   refine zq3 (x := .bool true) (by simp [hi]) ?_
   rw [zqa, zqk]
   refine zq3 (zq81 .i64 hy) ?_
   refine zq3 (lfm _ _) ?_
   intro b7 hb7
   have hb7 : s b7 = none := hb7
   have hg1 := hg0.beside (.cells (fm y).cells) hb7
   refine zq13 (zq2 _ _ _) (zq9z y) (zqd4 y) (zqm y) (by simp) ?_
   rw [zq10, fm_set]
   refine zq3 (x := .ptr v5 3) rfl ?_
   refine zq3 hg1.row ?_
   refine zq3 (load_fm (zq2 _ _ _)) ?_
   refine zq1 (zqah y (hff y (List.mem_of_getElem? hy)) _) ?_
   refine ⟨hg1.row, ?_⟩
   refine zq3 (x := .sl 4 true [tree (fmT y)]) (by simp) ?_
   refine hg1.more (by simp; omega) fun p' s' hg' => ?_
   refine zq3 (qinc (by omega)) ?_
   refine kk (p', s', upd w b7 (.cells (fm y).cells)) ⟨?_, hws.put (hws.isNone (hg0.none hb7))⟩
   rw [List.take_add_one, hy, List.map_append]
   exact hg'
  ·rintro ⟨p, s, w⟩ ⟨hg0, hws⟩
   simp only [List.take_length] at hg0
   simp only at hws
   refine zq3 (x := .bool false) (by simp) ?_
   rw [zqa, zqd]
   refine zq3 (pfa3 _) ?_
   refine zq3 (pl3 _ _) ?_
   refine zq3 (x := .int .i64 x.kids.length) (by simp) ?_
   refine zqz (β := PV × St × St) x.kids (fun _ i => [.int .i64 (i : Int)]) (fun z => z.2.1) (fun z i rest => MkT z.2.2 v5 (zqfe x) (x.forms.map fmT ++ (x.kids.take i).map (kidT x)) z.1 z.2.1 ∧ Sub w5 z.2.2) ?_ ?_ (p, s, w) ⟨by simpa using hg0, hws⟩
   ·rintro i y rest ⟨p, s, w⟩ hi hy ⟨hg0, hws⟩ kk
    simp only at hg0 hws
    refine zq3 (x := .bool true) (by simp [hi]) ?_
    rw [zqa, zqk]
    refine zq3 (zqlt .i64 hy) ?_
    refine zq3 (lpf _ _) ?_
    intro b9 hb9
    have hb9 : s b9 = none := hb9
    have hg1 := hg0.beside (.cells (pf y).cells) hb9
    refine zq13 (zq2 _ _ _) (zqlk y) (pf_ncells y) (zq31 y) (by simp) ?_
    rw [zq10, show zqg [.int .i64 0, .int .i64 0, .sl 0 true [], .sl 0 true []] 0 (pf y).cells = (pf y).cells by rw [zq5e]; rfl]
    refine zq3 (load_pf (zq2 _ _ _)) ?_
    refine zq1 (ih y (List.mem_of_getElem? hy) (hfk y (List.mem_of_getElem? hy)) _) ?_
    intro b10 hb10
    have hn10 := hg1.none hb10
    have hg2 := hg1.beside (.cells (tree (pfT y)).cells) hb10
    refine zq13 (zq2 _ _ _) (zq2z _) (zq4a _) (zqf _) (by simp) ?_
    rw [zq10, show zqg [.int .i64 0, .int .i64 0, .str [], .sl 0 true []] 0 (tree (pfT y)).cells = (tree (pfT y)).cells by rw [zqj]; rfl]
    refine zq3 (pfa0 _) ?_
    refine zq3 (pl0 _ _) ?_
    refine zq3 (x := .bool (decide (x.kind = 5))) (by simp) ?_
    refine zq52 fun J hJ => ?_
    have hws1 : Sub w5 (upd w b9 (.cells (pf y).cells)) := hws.put (hws.isNone (hg0.none hb9))
    have ne10 := hg1.ne hb10
    have main : ∀ (s2 : St), MkT (upd (upd w b9 (.cells (pf y).cells)) b10 (.cells (tree (kidT x y)).cells)) v5 (zqfe x) (x.forms.map fmT ++ (x.kids.take i).map (kidT x)) p s2 → J [] s2 := fun s2 hg3 => by
     refine hJ _ _ ?_
     refine zq3 (x := .ptr v5 3) rfl ?_
     refine zq3 hg3.row ?_
     have h10 : s2 b10 = some (.cells (tree (kidT x y)).cells) := hg3.other ne10 (zq2 _ _ _)
     refine zq3 (x := tree (kidT x y)) (by rw [zqp h10]; simp) ?_
     refine zq3 (x := .sl 4 true [tree (kidT x y)]) (by simp) ?_
     refine hg3.more (by simp; omega) fun p' s' hg' => ?_
     refine zq3 (qinc (by omega)) ?_
     refine kk (p', s', upd (upd w b9 (.cells (pf y).cells)) b10 (.cells (tree (kidT x y)).cells)) ⟨?_, hws1.put (hws1.isNone hn10)⟩
     rw [List.take_add_one, hy, List.map_append, ← List.append_assoc]
     exact hg'
    refine zq1t (fun h5 => ?_) (fun h5 => ?_)
    ·refine zq3 (x := tree (pfT y)) (by rw [zqp (zq2 _ _ _)]; simp) ?_
     refine zq1 (h_impl_lam (pfT y) _) ?_
     refine zq13 (zq2 _ _ _) (zq2z _) (zq4a _) (zqf _) (by simp) ?_
     rw [show zqg (tree (pfT y)).cells 0 (tree (Tr.lam (pfT y))).cells = (tree (Tr.lam (pfT y))).cells by rw [zqj, zqj]; rfl]
     have hkt : kidT x y = .lam (pfT y) := by unfold kidT; rw [if_pos h5]
     have hg3 := hg2.store (.cells (tree (Tr.lam (pfT y))).cells) ne10 (zq2 _ _ _)
     rw [zq10] at hg3
     rw [← hkt] at hg3 ⊢
     exact main _ hg3
    ·have hkt : kidT x y = pfT y := by unfold kidT; rw [if_neg h5]
     rw [← hkt] at hg2 ⊢
     exact main _ hg2
   ·rintro ⟨p, s, w⟩ ⟨hg, hws⟩
    simp only [List.take_length] at hg
    simp only at hws
    have hat := hg.at
    obtain ⟨q1, q2, q3, q4⟩ := hg.one
    refine zq3 (x := .bool false) (by simp) ?_
    rw [zqa, zqd]
    refine zq3 (x := .agg [.int .i64 6, .int .i64 0, .str (zqfe x), p]) (by show zq0 s true 4 (.ptr v5 0) = _; rw [zqp hat]; rfl) ?_
    have e2w : w v2 = some (.cells [.int .i64 0, .int .i64 0, .str [], .sl 0 true []]) := hws _ _ e2
    have e2' := hg.other ne25 e2w
    refine zq13 e2' (by show (true && (true && (true && (p.cellOK && true)))) = true; rw [q4]; rfl) rfl rfl (by simp) ?_
    have hs := hg.store (.cells [.int .i64 6, .int .i64 0, .str (zqfe x), p]) ne25 e2w
    refine zq3 (x := .agg [.int .i64 6, .int .i64 0, .str (zqfe x), p]) (by rw [zqp (zq2 _ _ _)]; rfl) ?_
    have hfin := hs.freeze
    rw [← pfT_node hk] at hfin
    refine Just.conv (Conv.trans hfin (Conv.sub fun c o hc => ?_))
    have n2 : c ≠ v2 := fun e => by rw [e, o2] at hc; cases hc
    have n5 : c ≠ v5 := fun e => by rw [e, o5] at hc; cases hc
    rw [zq7 _ _ n5, zq7 _ _ n2]
    exact hws _ _ (h5.sub c o hc)
theorem zqeg (p : Pf) (hf : p.fok = true) (ho : pfOK p = true) (st : St) :
  zq5 prog n_impl_EncodeProof [pf p] st (Just (if 150 < (pfT p).size then .tup [tree zq8l, .int .i64 11] else .tup [tree (pfT p), .int .i64 0]) st) := by
 obtain ⟨pc, ps, ph⟩ := zqhe ho
 have hok := Pf.ok_of hf ph
 have hsz := pfT_size p
 have hb := pfT_big hok
 apply zqf4
 unfold zq7r
 refine zq9 (zq31 _) ?_
 refine (Held.start st).alloc fun v2 w1 h1 => ?_
 refine zq3 (lpf _ _) ?_
 refine zq1 (zqd0 p hf _) ?_
 rw [ho]
 have he := zqcw n_impl_EncodeProof_1 [.ref (pf p).cells] (pfT p) (by omega) w1 (fun s hsub => by
  apply zqc0
  unfold zq5y
  refine (Held.start s).alloc fun v1 w2 h2 => ?_
  refine zq3 (lpf _ _) ?_
  refine zq1 (zqhp p hf _) ?_
  refine h2.store (Box.tree _) rfl fun w3 h3 => ?_
  refine zq3 (h3.top (Box.tree _)) ?_
  exact Just.ret h3.sub)
 rw [hb] at he
 refine zq1 he ?_
 by_cases h : 150 < (pfT p).size
 ·rw [if_pos h, if_pos (by rw [decide_eq_true h])]
  refine zq3 (x := tree zq8l) rfl ?_
  refine zq3 (x := .int .i64 11) rfl ?_
  refine h1.store (Box.tree _) rfl fun w3 h3 => ?_
  refine zq3 (h3.top (Box.tree _)) ?_
  exact Just.ret h3.sub
 ·rw [if_neg h, if_neg (by rw [decide_eq_false h]; decide)]
  refine zq3 (x := tree (pfT p)) rfl ?_
  refine zq3 (x := .int .i64 0) rfl ?_
  refine h1.store (Box.tree _) rfl fun w3 h3 => ?_
  refine zq3 (h3.top (Box.tree _)) ?_
  exact Just.ret h3.sub
end Go.H.Tryz
