/- Part of a proof that the program answers as the reference does: ZHC145, ZHC146. -/
import Derived.Test.YtmjpemdbkenebaaGreatDoorHY
import Derived.Test.YtmjpemdbkenebaaGreatDoorHZ
import Derived.Test.YtmjpemdbkenebaaGreatDoorHM
import Derived.Test.YtmjpemdbkenebaaGreatDoorHW
import Derived.Test.YtmjpemdbkenebaaGreatDoorHNB
import Derived.Test.YtmjpemdbkenebaaGreatDoorHNC
import Derived.Test.YtmjpemdbkenebaaGreatDoorHND
set_option linter.unusedVariables false
set_option linter.unusedSimpArgs false
namespace Go.H.Tryz
open Go Go.H

theorem MkF.beside {w s : St} {v b : Nat} {k n : Int} {fs : List Fm} {p : PV} (h : MkF w v k n fs p s) (o : HObj) (hb : s b = none) : MkF (upd w b o) v k n fs p (upd s b o) := by
 have ne : b ≠ v := fun e => by
  have := h.at
  rw [← e, hb] at this; cases this
 have := Grow.beside h o hb
 rw [zq4y _ _ _ (Ne.symm ne)] at this
 exact this
theorem MkF.none {w s : St} {v b : Nat} {k n : Int} {fs : List Fm} {p : PV} (h : MkF w v k n fs p s) (hb : s b = Option.none) : w b = Option.none := by
 have ne : b ≠ v := fun e => by
  have := h.at
  rw [← e, hb] at this; cases this
 have hn := (Grow.sub h).isNone hb
 rwa [zq7 _ _ ne] at hn
theorem MkF.row {w s : St} {v : Nat} {k n : Int} {fs : List Fm} {p : PV} (h : MkF w v k n fs p s) : zq0 s false 1 (.ptr v 2) = some p := by
 obtain ⟨o1, o2, o3, o4⟩ := h.one
 rw [zqp h.at]
 show zq3n false 1 [p, .sl 0 true []] = _
 unfold zq3n
 cases p <;> first | rfl | (simp [PV.cellOK] at o4)
theorem MkK.besideR {w s : St} {v b : Nat} {k n : Int} {fs : List Fm} {ks : List Pf} {p : PV} (h : MkK w v k n fs ks p s) (o : HObj) (hb : s b = none) : MkK (upd w b o) v k n fs ks p (upd s b o) := by
 have ne : b ≠ v := fun e => by
  have := h.at
  rw [← e, hb] at this; cases this
 have := Grow.beside h o hb
 rw [zq4y _ _ _ (Ne.symm ne)] at this
 exact this
theorem MkK.none {w s : St} {v b : Nat} {k n : Int} {fs : List Fm} {ks : List Pf} {p : PV} (h : MkK w v k n fs ks p s) (hb : s b = Option.none) : w b = Option.none := by
 have ne : b ≠ v := fun e => by
  have := h.at
  rw [← e, hb] at this; cases this
 have hn := (Grow.sub h).isNone hb
 rwa [zq7 _ _ ne] at hn
theorem MkK.row {w s : St} {v : Nat} {k n : Int} {fs : List Fm} {ks : List Pf} {p : PV} (h : MkK w v k n fs ks p s) : zq0 s false 1 (.ptr v 3) = some p := by
 obtain ⟨o1, o2, o3, o4⟩ := h.one
 rw [zqp h.at]
 show zq3n false 1 [p] = _
 unfold zq3n
 cases p <;> first | rfl | (simp [PV.cellOK] at o4)
def rep : Nat → Pf
 | 2 => .andI .bot .bot (.hyp 0) (.hyp 0)
 | 3 => .fst .bot .bot (.hyp 0)
 | 4 => .snd .bot .bot (.hyp 0)
 | 5 => .funI .bot .bot (.hyp 0)
 | 6 => .use .bot .bot (.hyp 0) (.hyp 0)
 | _ => .botE .bot (.hyp 0)
theorem rep_kind {k : Nat} (h2 : 2 ≤ k) (h7 : k ≤ 7) : (rep k).kind = k := by
 match k, h2, h7 with
 | 2, _, _ => rfl
 | 3, _, _ => rfl
 | 4, _, _ => rfl
 | 5, _, _ => rfl
 | 6, _, _ => rfl
 | 7, _, _ => rfl
theorem rule_name (p : Pf) : (ruleP p).cells[2]? = some (.str (zqfe p)) := by cases p <;> rfl
theorem rule_other {p : Pf} {k : Nat} (h2 : 2 ≤ k) (hk : (k : Int) < p.kind) : zqfe p ≠ zqfe (rep k) := by
 have h7 : p.kind ≤ 7 := by cases p <;> simp [Pf.kind]
 match k, h2 with
 | 2, _ => cases p <;> simp [Pf.kind] at hk <;> simp [zqfe, rep, wAndI, wFst, wSnd, wFunI, wUse, wBotE]
 | 3, _ => cases p <;> simp [Pf.kind] at hk <;> simp [zqfe, rep, wAndI, wFst, wSnd, wFunI, wUse, wBotE]
 | 4, _ => cases p <;> simp [Pf.kind] at hk <;> simp [zqfe, rep, wAndI, wFst, wSnd, wFunI, wUse, wBotE]
 | 5, _ => cases p <;> simp [Pf.kind] at hk <;> simp [zqfe, rep, wAndI, wFst, wSnd, wFunI, wUse, wBotE]
 | 6, _ => cases p <;> simp [Pf.kind] at hk <;> simp [zqfe, rep, wAndI, wFst, wSnd, wFunI, wUse, wBotE]
 | k + 7, _ => omega
theorem rule_rep {p : Pf} (hk : p.kind ≠ 1) : ruleP (rep p.kind.toNat) = ruleP p := by cases p <;> first | exact absurd rfl hk | rfl
theorem kind_range {p : Pf} (hk : p.kind ≠ 1) : 2 ≤ p.kind ∧ p.kind ≤ 7 := by cases p <;> first | exact absurd rfl hk | (constructor <;> simp [Pf.kind])
set_option maxHeartbeats 1000000 in
theorem zqho (x : Pf) : ∀ (G : List Fm) (f : Fm), Prv G x f → x.fok = true → G.length + x.size ≤ 100000 → ∀ (st : St), zq5 prog n_impl_readProof [tree (pfT x), .int .i64 G.length] st (Just (pf x) st) := by
 induction x using Pf.ind with
 | _ x ih =>
 intro G f hp hf hG st
 have hl := zqhd x
 have hsz := zqh7 x
 obtain ⟨hff, hfk⟩ := zqd3 hf
 apply zqi8
 unfold zq9g
 refine zq9 (zqf _) ?_
 refine (Held.start st).alloc fun v4 w1 h1 => ?_
 refine zq52 fun J hJ => ?_
 by_cases hk : x.kind = 1
 ·obtain ⟨n, rfl⟩ := pf_hyp hk
  cases hp with
  | hyp hn =>
    have hlt := (List.getElem?_eq_some_iff.1 hn).1
    refine zq3 (tfa0 _) ?_
    refine zq3 (x := .int .i64 5) (tl0 _ _) ?_
    refine zq3 (x := .bool true) rfl ?_
    rw [zqa, zqk]
    refine zq3 (tfa3 _) ?_
    refine zq3 (x := .sl 4 false []) (tl3 _ _) ?_
    refine zq3 (x := .int .i64 0) rfl ?_
    refine zq3 (x := .bool true) rfl ?_
    rw [zqa, zqk]
    refine zq3 (x := .ref ((tree (pfT (.hyp n))).cells.drop 1)) (by simp [q_fa]) ?_
    refine zq3 (x := .int .i64 (n : Int)) (by simp [pfT, Tr.var]) ?_
    refine zq3 (x := .bool true) (by simp; omega) ?_
    refine hJ _ _ ?_
    show cb (.bool true) _
    rw [zqa, zqk]
    refine zq3 (x := .ref ((tree (pfT (.hyp n))).cells.drop 1)) (by simp [q_fa]) ?_
    refine zq3 (x := .int .i64 (n : Int)) (by simp [pfT, Tr.var]) ?_
    refine zq3 (x := .agg [.int .i64 1, .int .i64 (n : Int), .sl 0 true [], .sl 0 true []]) rfl ?_
    refine h1.store (box4 _ _ _ _ rfl) rfl fun w2 h2 => ?_
    refine zq3 (h2.top (box4 _ _ _ _ rfl)) ?_
    exact Just.conv (Conv.trans (conv_hyp w2 _) (Conv.sub h2.sub))
 ·obtain ⟨hps, hfe⟩ := prv_parts hp hk
  obtain ⟨hk2, hk7⟩ := kind_range hk
  have ht := pfT_node hk
  have tk : (pfT x).kind = 6 := by rw [ht]; rfl
  have tn : (pfT x).name = zqfe x := by rw [ht]; rfl
  have tks : (pfT x).kids = x.forms.map fmT ++ x.kids.map (kidT x) := by rw [ht]; rfl
  refine zq3 (tfa0 _) ?_
  refine zq3 (x := .int .i64 6) (by rw [tl0, tk]) ?_
  refine zq3 (x := .bool false) rfl ?_
  rw [zqa, zqd]
  refine hJ _ _ ?_
  show cb (.bool false) _
  rw [zqa, zqd]
  refine hFix_nat (fun n ls s => ∃ (k : Nat) (L : List (Nat × PV)), ls = [.int .i64 (k : Int)] ∧ 2 ≤ k ∧ (k : Int) + n = x.kind ∧ Held st s L [(v4, [.int .i64 0, .int .i64 0, .sl 0 true [], .sl 0 true []])]) ?_ (x.kind.toNat - 2) _ _ ⟨2, [], rfl, by omega, by omega, h1⟩
  clear h1
  rintro n _ s ⟨k, L, rfl, hk2', hkn, h1⟩ loop
  refine zq3 (x := .bool true) (by simp; omega) ?_
  rw [zqa, zqk]
  have hrk := rep_kind hk2' (by omega)
  have hro := zq64 (rep k) (by rw [hrk]; omega) s
  rw [hrk] at hro
  refine zq1 hro ?_
  refine zq3 (x := ruleP (rep k)) rfl ?_
  refine zq3 (x := .bool true) rfl ?_
  refine h1.alloc fun v6 w2 h2 => ?_
  refine h2.store2 (zq9v _) rfl fun w3 h3 => ?_
  have e6 := h3.got _ (List.mem_cons_self ..)
  refine zq3 (tfa0 _) ?_
  refine zq3 (x := .int .i64 6) (by rw [tl0, tk]) ?_
  refine zq3 (x := .bool false) rfl ?_
  rw [zqa, zqd]
  refine zq3 (tfa2 _) ?_
  refine zq3 (x := .str (zqfe x)) (by rw [tl2, tn]) ?_
  refine zq3 (x := .ptr v6 2) rfl ?_
  refine zq3 (x := .str (zqfe (rep k))) (by
   rw [zqp e6]
   cases rep k <;> rfl) ?_
  refine zq3 (x := .bool (decide (zqfe x ≠ zqfe (rep k)))) (by simp) ?_
  refine zq1t (fun hne => ?_) (fun hne => ?_)
  ·refine zq3 (qinc (by omega)) ?_
   cases n with
   | zero =>
     exfalso
     apply hne
     have : k = x.kind.toNat := by omega
     rw [this]
     have e := rule_rep hk
     have h1 := rule_name (rep x.kind.toNat)
     rw [e, rule_name] at h1
     injection h1 with h1
     injection h1
   | succ n => exact loop n _ _ (by omega) ⟨k + 1, _, rfl, by omega, by omega, h3⟩
  ·have hkk : (k : Int) = x.kind := by
    cases n with
    | zero => omega
    | succ n => exact absurd (rule_other hk2' (by omega)) hne
   have hrp : ruleP (rep k) = ruleP x := by
    have := rule_rep hk
    rwa [show x.kind.toNat = k by omega] at this
   rw [hrp] at e6 h3
   clear loop
   have lf : zq0 w3 false 1 (.ptr v6 0) = some (.int .i64 (x.forms.length : Int)) := by rw [zqp e6]; cases x <;> first | exact absurd rfl hk | rfl
   have lk : zq0 w3 false 1 (.ptr v6 1) = some (.int .i64 (x.kids.length : Int)) := by rw [zqp e6]; cases x <;> first | exact absurd rfl hk | rfl
   refine zq3 (tfa3 _) ?_
   refine zq3 (x := .sl 4 false ((x.forms.map fmT ++ x.kids.map (kidT x)).map tree)) (by rw [tl3, tks]) ?_
   refine zq3 (x := .int .i64 ((x.forms.length + x.kids.length : Nat) : Int)) (by simp) ?_
   refine zq3 (x := .ptr v6 0) rfl ?_
   refine zq3 lf ?_
   refine zq3 (x := .ptr v6 1) rfl ?_
   refine zq3 lk ?_
   refine zq3 (x := .int .i64 ((x.forms.length + x.kids.length : Nat) : Int)) (by simp; rw [zqs (by omega) (by omega)]) ?_
   refine zq3 (x := .bool false) (by simp) ?_
   rw [zqa, zqd]
   refine zq3 (x := .agg [.int .i64 x.kind, .int .i64 0, .sl 0 true [], .sl 0 true []]) (by rw [← hkk]; rfl) ?_
   refine h3.alloc fun v8 w4 h4 => ?_
   refine h4.store2 (box4 _ _ _ _ rfl) rfl fun w5 h5 => ?_
   have e8 := h5.got _ (List.mem_cons_self ..)
   have e4 := h5.zat (v4, [.int .i64 0, .int .i64 0, .sl 0 true [], .sl 0 true []]) (by simp)
   have e6' : w5 v6 = some (.cells (ruleP x).cells) := h5.got (v6, ruleP x) (by simp)
   have o4 := h5.out v4 (by simp)
   have o8 := h5.out v8 (by simp)
   have nd := h5.nd
   have ne48 : v4 ≠ v8 := fun e => by
    simp [e] at nd
   have ne68 : v6 ≠ v8 := fun e => by
    simp [e] at nd
   have eu : upd w5 v8 (.cells [.int .i64 x.kind, .int .i64 0, .sl 0 true [], .sl 0 true []]) = w5 := by
    funext c
    unfold upd
    split
    ·rename_i h; rw [h]; exact e8.symm
    ·rfl
   have start : MkF w5 v8 x.kind 0 [] (.sl 0 true []) w5 := by
    have := MkF.start w5 v8 x.kind 0
    rw [eu] at this
    exact this
   have lf5 : ∀ {s : St}, Sub w5 s → zq0 s false 1 (.ptr v6 0) = some (.int .i64 (x.forms.length : Int)) := fun hs => by rw [zqp (hs _ _ e6')]; cases x <;> first | exact absurd rfl hk | rfl
   refine zq3 (tfa3 _) ?_
   refine zq3 (x := .sl 4 false ((x.forms.map fmT ++ x.kids.map (kidT x)).map tree)) (by rw [tl3, tks]) ?_
   refine zq3 (x := .ptr v6 0) rfl ?_
   refine zq3 (lf5 (Sub.refl _)) ?_
   refine zq3 (x := .sl 4 false ((x.forms.map fmT).map tree)) (by
    simp only [zq1y, zq5d, optI]
    simp [List.map_append]) ?_
   refine zq3 (x := .int .i64 (x.forms.length : Int)) (by simp) ?_
   refine zqz (β := PV × St × St) x.forms (fun _ i => [.int .i64 (i : Int)]) (fun z => z.2.1) (fun z i rest => MkF z.2.2 v8 x.kind 0 (x.forms.take i) z.1 z.2.1 ∧ Sub w5 z.2.2) ?_ ?_ (.sl 0 true [], w5, w5) ⟨start, Sub.refl _⟩
   ·rintro i y rest ⟨p, s1, w⟩ hi hy ⟨hg, hws⟩ kk
    simp only at hg hws
    refine zq3 (x := .bool true) (by simp [hi]) ?_
    rw [zqa, zqk]
    refine zq3 (zq4r .i64 (t := fmT y) (by simp [hy])) ?_
    refine zq3 (ltr _ _) ?_
    intro c hc
    have hc : s1 c = none := hc
    have hg1 := hg.beside (.cells (tree (fmT y)).cells) hc
    refine zq13 (zq2 _ _ _) (zq2z _) (zq4a _) (zqf _) (by simp) ?_
    rw [zq10, show zqg [.int .i64 0, .int .i64 0, .str [], .sl 0 true []] 0 (tree (fmT y)).cells = (tree (fmT y)).cells by rw [zqj]; rfl]
    refine zq3 (x := .ptr v8 2) rfl ?_
    refine zq3 hg1.row ?_
    refine zq3 (x := tree (fmT y)) (by rw [zqp (zq2 _ _ _)]; simp) ?_
    refine zq1 (zqj6 y (hff y (List.mem_of_getElem? hy)) _) ?_
    refine ⟨hg1.row, ?_⟩
    refine zq3 (lit_f1 y) ?_
    refine hg1.more (by simp; omega) fun p' s2 hg' => ?_
    refine zq3 (qinc (by omega)) ?_
    refine kk (p', s2, upd w c (.cells (tree (fmT y)).cells)) ⟨?_, hws.put (hws.isNone (hg.none hc))⟩
    rw [List.take_add_one, hy]
    exact hg'
   ·rintro ⟨p, s1, w⟩ ⟨hg, hws⟩
    simp only [List.take_length] at hg
    simp only at hws
    have e6s : s1 v6 = some (.cells (ruleP x).cells) := Grow.sub hg _ _ (by rw [zq7 _ _ ne68]; exact hws _ _ e6')
    refine zq3 (x := .bool false) (by simp) ?_
    rw [zqa, zqd]
    refine zq3 (tfa3 _) ?_
    refine zq3 (x := .sl 4 false ((x.forms.map fmT ++ x.kids.map (kidT x)).map tree)) (by rw [tl3, tks]) ?_
    refine zq3 (x := .ptr v6 0) rfl ?_
    refine zq3 (x := .int .i64 (x.forms.length : Int)) (by rw [zqp e6s]; cases x <;> first | exact absurd rfl hk | rfl) ?_
    refine zq3 (x := .sl 4 false ((x.kids.map (kidT x)).map tree)) (by
     simp only [zq1y, zq5d, optI]
     try simp [List.map_append]
     rw [List.take_of_length_le (by simp), List.drop_left' (by simp)]) ?_
    refine zq3 (x := .int .i64 (x.kids.length : Int)) (by simp) ?_
    obtain ⟨s', hcv, hmk⟩ := hg.done (ls := [.int .i64 0])
    refine hFix_cv hcv ?_
    generalize hGe : (if x.kind = 5 then x.forms.headD .bot :: G else G) = G' at hps
    obtain ⟨hlen, hget⟩ := hps.get
    refine zqz (β := PV × St × St) x.kids (fun _ i => [.int .i64 (i : Int)]) (fun z => z.2.1) (fun z i rest => MkK z.2.2 v8 x.kind 0 x.forms (x.kids.take i) z.1 z.2.1 ∧ Sub w5 z.2.2) ?_ ?_ (.sl 0 true [], s', w) ⟨hmk, hws⟩
    ·rintro i y rest ⟨p, s1, w⟩ hi hy ⟨hg, hws⟩ kk
     simp only at hg hws
     have hm := List.mem_of_getElem? hy
     have hys := zqc8 hm
     obtain ⟨g, _, hpg⟩ := hget i y hy
     refine zq3 (x := .bool true) (by simp [hi]) ?_
     rw [zqa, zqk]
     refine zq3 (zq4r .i64 (t := kidT x y) (by simp [hy])) ?_
     refine zq3 (ltr _ _) ?_
     intro c hc
     have hc : s1 c = none := hc
     have hg1 := hg.besideR (.cells (tree (kidT x y)).cells) hc
     refine zq13 (zq2 _ _ _) (zq2z _) (zq4a _) (zqf _) (by simp) ?_
     rw [zq10, show zqg [.int .i64 0, .int .i64 0, .str [], .sl 0 true []] 0 (tree (kidT x y)).cells = (tree (kidT x y)).cells by rw [zqj]; rfl]
     refine zq3 (x := .ptr v8 3) rfl ?_
     refine zq3 hg1.row ?_
     refine zq3 (x := tree (kidT x y)) (by rw [zqp (zq2 _ _ _)]; simp) ?_
     have hkid : ∀ s : St, zq5 prog n_impl_readKid [.int .i64 (k : Int), tree (kidT x y), .int .i64 G.length] s (Just (pf y) s) := fun s => by
      apply zqmf
      unfold zqdr
      refine zq9 (zqf _) ?_
      refine (Held.start s).alloc fun u6 u1 g1 => ?_
      refine zq3 (x := .bool (decide ((k : Int) ≠ 5))) (by simp) ?_
      refine zq1t (fun h5 => ?_) (fun h5 => ?_)
      ·have e5 : x.kind ≠ 5 := by omega
       rw [if_neg e5] at hGe
       subst hGe
       have ekt : kidT x y = pfT y := by unfold kidT; rw [if_neg e5]
       rw [ekt]
       refine zq3 (ltr _ _) ?_
       refine zq1 (ih y hm G g hpg (hfk y hm) (by omega) _) ?_
       refine g1.store (Box.pf y) rfl fun u2 g2 => ?_
       refine zq3 (g2.top (Box.pf y)) ?_
       exact Just.ret g2.sub
      ·have e5 : x.kind = 5 := by omega
       rw [if_pos e5] at hGe
       have ekt : kidT x y = .lam (pfT y) := by unfold kidT; rw [if_pos e5]
       rw [ekt]
       refine zq3 (tfa0 _) ?_
       refine zq3 (x := .int .i64 4) (tl0 _ _) ?_
       refine zq3 (x := .bool false) rfl ?_
       refine zq52 fun J1 hJ1 => ?_
       rw [zqa, zqd]
       refine hJ1 _ _ ?_
       refine zq3 (tfa3 _) ?_
       refine zq3 (x := .sl 4 false [tree (pfT y)]) (by rw [tl3]; rfl) ?_
       refine zq3 (x := .ref (tree (pfT y)).cells) rfl ?_
       refine zq3 (ltr _ _) ?_
       have hlen' : G'.length = G.length + 1 := by rw [← hGe]; rfl
       refine zq3 (x := .int .i64 (G'.length : Int)) (by rw [hlen']; simp; rw [zqs (by omega) (by omega)]) ?_
       refine zq1 (ih y hm G' g hpg (hfk y hm) (by omega) _) ?_
       refine g1.store (Box.pf y) rfl fun u2 g2 => ?_
       refine zq3 (g2.top (Box.pf y)) ?_
       exact Just.ret g2.sub
     refine zq1 (hkid _) ?_
     refine ⟨hg1.row, ?_⟩
     refine zq3 (x := .sl 4 true [pf y]) (by simp) ?_
     refine hg1.more (by simp; omega) fun p' s2 hg' => ?_
     refine zq3 (qinc (by omega)) ?_
     refine kk (p', s2, upd w c (.cells (tree (kidT x y)).cells)) ⟨?_, hws.put (hws.isNone (hg.none hc))⟩
     rw [List.take_add_one, hy]
     exact hg'
    ·rintro ⟨p, s1, w⟩ ⟨hg, hws⟩
     simp only [List.take_length] at hg
     simp only at hws
     have hat := hg.at
     obtain ⟨q1, q2, q3, q4⟩ := hg.one
     refine zq3 (x := .bool false) (by simp) ?_
     rw [zqa, zqd]
     refine zq3 (x := .agg [.int .i64 x.kind, .int .i64 0, .sl 3 false (x.forms.map fm), p]) (by show zq0 s1 true 4 (.ptr v8 0) = _; rw [zqp hat]; rfl) ?_
     have e4w : w v4 = some (.cells [.int .i64 0, .int .i64 0, .sl 0 true [], .sl 0 true []]) := hws _ _ e4
     have e4' := hg.other ne48 e4w
     refine zq13 e4' (by show (true && (true && (true && (p.cellOK && true)))) = true; rw [q4]; rfl) rfl rfl (by simp) ?_
     have hs : MkK (upd w v4 (.cells [.int .i64 x.kind, .int .i64 0, .sl 3 false (x.forms.map fm), p])) v8 x.kind 0 x.forms x.kids p (upd s1 v4 (.cells [.int .i64 x.kind, .int .i64 0, .sl 3 false (x.forms.map fm), p])) := by
      have := Grow.store hg (.cells [.int .i64 x.kind, .int .i64 0, .sl 3 false (x.forms.map fm), p]) (c := v4) (by rw [zq7 _ _ ne48]; exact e4w)
      rw [zq4y _ _ _ (Ne.symm ne48)] at this
      exact this
     refine zq3 (x := .agg [.int .i64 x.kind, .int .i64 0, .sl 3 false (x.forms.map fm), p]) (by rw [zqp (zq2 _ _ _)]; rfl) ?_
     have hfin := hs.freeze (x := x) rfl (num_zero hk) rfl rfl
     refine Just.conv (Conv.trans hfin (Conv.sub fun c o hc => ?_))
     have n4 : c ≠ v4 := fun e => by rw [e, o4] at hc; cases hc
     have n8 : c ≠ v8 := fun e => by rw [e, o8] at hc; cases hc
     rw [zq7 _ _ n8, zq7 _ _ n4]
     exact hws _ _ (h5.sub c o hc)
end Go.H.Tryz
set_option linter.unusedVariables false
set_option linter.unusedSimpArgs false
namespace Go.H.Tryz
open Go Go.H

def PrHave (p : PV) : Prop := ∃ (G : List Fm) (x : Pf) (f : Fm), p = .tup [fms G.reverse, pf x, fm f] ∧ Prv G x f ∧ x.fok = true ∧ f.ok = true ∧ G.length ≤ 3 ∧ ∀ h ∈ G, h.ok = true ∧ h.size ≤ 7
theorem zqlz (bs : List UInt8) (hl : bs.length ≤ 1000000000) (st : St) : zq5 prog n_spec_ProofOf [zq8p bs] st (GivesV st PrHave) := by
 apply zqmd
 unfold zqdp
 refine (Held.start st).alloc fun v3 w1 h1 => ?_
 refine h1.alloc fun v4 w2 h2 => ?_
 refine HS.begun h2 (zqhl bs hl w2) fun b w3 hb h3 => ?_
 refine h3.drew (zqeb bs hl b 0 (by omega) (by omega) w3 h3.src) fun p w4 hp h4 => ?_
 obtain ⟨fs, rfl, hfl, hfs⟩ := hp
 obtain ⟨G, rfl⟩ : ∃ G : List Fm, fs = G.reverse := ⟨fs.reverse, by simp⟩
 simp only [List.length_reverse, List.mem_reverse] at hfl hfs
 refine h4.drew (zqv bs hl _ (by omega) 5 (by decide) b w4 h4.src) fun p w5 hp h5 => ?_
 obtain ⟨d, rfl, d0, d1⟩ := hp
 have hpr : prC 10 = 122820 := by decide
 have hme : meas d G ≤ ((10 : Nat) : Int) := by
  unfold meas
  split
  ·split <;> omega
  ·omega
 refine h5.drew (zqcq bs hl b 10 G d hme (by omega) (by omega) (by omega) (fun g hg => (hfs g hg).1) _ (by omega) (by omega) w5 h5.src) fun p w6 hp h6 => ?_
 obtain ⟨x, f, rfl, hpx, hfx, hff⟩ := hp
 refine zq3 (x := pf x) rfl ?_
 refine zq3 (x := fm f) rfl ?_
 refine h6.pair rfl rfl fun v7 v8 w7 h7 => ?_
 refine zq3 (h7.ldp (p := x) (by simp)) ?_
 refine zq3 (h7.ldf (f := f) (by simp)) ?_
 refine h7.store (Box.pf x) rfl fun w8 h8 => ?_
 refine ⟨h8.ldf (f := f) (by simp), ?_⟩
 refine h8.store (Box.fm f) rfl fun w9 h9 => ?_
 refine zq3 (h9.ldp (p := x) (by simp)) ?_
 refine zq3 (h9.ldf (f := f) (by simp)) ?_
 exact zq1h (h9.sub hb) ⟨rfl, _, rfl, G, x, f, rfl, hpx, hfx, hff, hfl, hfs⟩
theorem zq93 (f : Fm) (hf : f.ok = true) (st : St) : zq5 prog n_impl_judgement [fm f] st (Just (tree (judg f)) st) := by
 apply zqib
 unfold zq9j
 refine zq9 (zqm _) ?_
 refine (Held.start st).alloc fun v2 w1 h1 => ?_
 refine zq3 (lfm _ _) ?_
 refine zq1 (zqah f hf _) ?_
 refine zq3 (x := .sl 4 true [tree (fmT f)]) (by simp) ?_
 refine zq3 (x := .agg [.int .i64 3, .int .i64 0, .str wPf, .sl 4 true [tree (fmT f)]]) rfl ?_
 refine h1.store (box4 _ _ _ _ rfl) rfl fun w2 h2 => ?_
 refine zq3 (h2.top (box4 _ _ _ _ rfl)) ?_
 exact Just.conv (Conv.trans (zq88 w2 3 0 wPf 4 true [fmT f] (.inl rfl)) (Conv.sub h2.sub))
theorem judg_big {f : Fm} (hf : f.ok = true) : (judg f).big = decide (149 < f.size) := by
 unfold Tr.big
 rw [high_of (by simp [judg, pfF, Tr.fm, Tr.kind]) (fun x hx => by
  simp only [judg, pfF, Tr.fm, Tr.kids, List.mem_singleton] at hx
  subst hx
  exact term_high _ (zq4g f hf))]
 unfold Tr.small
 rw [zqgy]
 by_cases h : 149 < f.size
 ·rw [decide_eq_true h, decide_eq_false (by omega)]; rfl
 ·rw [decide_eq_false h, decide_eq_true (by omega)]; rfl
theorem zqhw (f : Fm) (hf : f.ok = true) (hs : f.size ≤ 150) (st : St) : zq5 prog n_impl_Judgement [fm f] st (Just (if 149 < f.size then .tup [tree zq8l, .int .i64 11] else .tup [tree (judg f), .int .i64 0]) st) := by
 apply zqih
 unfold zq9p
 refine zq9 (zqm _) ?_
 refine (Held.start st).alloc fun v2 w1 h1 => ?_
 refine zq3 (lfm _ _) ?_
 refine zq1 (zqfm f hf hs _) ?_
 have he := zqcw n_impl_Judgement_1 [.ref (fm f).cells] (judg f) (by rw [zqgy]; omega) w1 (fun s hsub => by
  apply zqf3
  unfold zq7q
  refine (Held.start s).alloc fun v1 w2 h2 => ?_
  refine zq3 (lfm _ _) ?_
  refine zq1 (zq93 f hf _) ?_
  refine h2.store (Box.tree _) rfl fun w3 h3 => ?_
  refine zq3 (h3.top (Box.tree _)) ?_
  exact Just.ret h3.sub)
 rw [judg_big hf] at he
 refine zq1 he ?_
 by_cases h : 149 < f.size
 ·rw [if_pos h, if_pos (by rw [decide_eq_true h])]
  refine zq3 (x := tree zq8l) rfl ?_
  refine zq3 (x := .int .i64 11) rfl ?_
  refine h1.store (Box.tree _) rfl fun w3 h3 => ?_
  refine zq3 (h3.top (Box.tree _)) ?_
  exact Just.ret h3.sub
 ·rw [if_neg h, if_neg (by rw [decide_eq_false h]; decide)]
  refine zq3 (x := tree (judg f)) rfl ?_
  refine zq3 (x := .int .i64 0) rfl ?_
  refine h1.store (Box.tree _) rfl fun w3 h3 => ?_
  refine zq3 (h3.top (Box.tree _)) ?_
  exact Just.ret h3.sub
theorem zqgg (G : List Fm) (hG : ∀ f ∈ G, f.ok = true ∧ f.size ≤ 149) (hl : G.length ≤ 12) (st : St) : zq5 prog n_impl_EncodeHyps [fms G] st (Just (.tup [trees (G.map judg), .int .i64 0]) st) := by
 apply zqgq
 unfold zq8k
 refine zq3 (x := .int .i64 (G.length : Int)) (by simp [fms]) ?_
 refine zq3 (x := .sl 1 true [.int .i64 (G.length : Int)]) rfl ?_
 refine zq1 (longForms G.length (by omega) _) ?_
 rw [zqa, zqd]
 refine zq1 (zqfh G (fun f hf => ⟨(hG f hf).1, by have := (hG f hf).2; omega⟩) hl _) ?_
 refine zq3 (x := .bool false) rfl ?_
 rw [zqa, zqd]
 refine zq3 (x := .sl 4 true []) rfl ?_
 refine zq3 (x := .int .i64 (G.length : Int)) (by simp [fms]) ?_
 refine hJ_cv fun J hJ => ?_
 have hany : (G.map judg).any Tr.big = false := by
  rw [List.any_eq_false]
  intro x hx
  obtain ⟨f, hf, rfl⟩ := List.mem_map.1 hx
  rw [judg_big (hG f hf).1, decide_eq_false (by have := (hG f hf).2; omega)]; decide
 refine zqz (β := PV × St × St) G (fun z i => [z.1, .int .i64 (i : Int)]) (fun z => z.2.1) (fun z i rest => Grow z.2.2 4 (((G.take i).map judg).map tree) z.1 z.2.1 ∧ Sub st z.2.2) ?_ ?_ (.sl 4 true [], st, st) ⟨Grow.nil _ _ _, Sub.refl _⟩
 ·rintro i x rest ⟨p, s1, s0⟩ hi hx ⟨q0, qs⟩ kk
  simp only at q0 qs
  have hxm := hG x (List.mem_of_getElem? hx)
  refine zq3 (x := .bool true) (by simp [hi]) ?_
  rw [zqa, zqk]
  refine zq3 (zq81 .i64 hx) ?_
  refine zq3 (lfm _ _) ?_
  intro b5 hb5
  have q1 := q0.beside (.cells (fm x).cells) hb5
  refine zq13 (zq2 _ _ _) (zq9z x) (zqd4 x) (zqm x) (by simp) ?_
  rw [fm_set, zq10]
  refine zq3 (load_fm (zq2 _ _ _)) ?_
  refine zq1 (zq93 x hxm.1 _) ?_
  refine zq3 (x := .sl 4 true [tree (judg x)]) (by simp) ?_
  refine q1.append (ys := [tree (judg x)]) (zq2n _ _ _ _) (by simp; omega) fun p' s' hg => ?_
  refine zq3 (qinc (by omega)) ?_
  refine kk (p', s', upd s0 b5 (.cells (fm x).cells)) ⟨?_, qs.put (qs.isNone (q0.sub.isNone hb5))⟩
  rw [List.take_add_one, hx]
  simpa using hg
 ·rintro ⟨p, s1, s0⟩ ⟨q0, qs⟩
  simp only [List.take_length] at q0
  simp only at qs
  refine zq3 (x := .bool false) (by simp) ?_
  rw [zqa, zqd]
  refine hJ [p] s1 [trees (G.map judg)] st (Conv.trans q0.freeze (Conv.sub qs)) ?_
  refine zq1 (zq2r (G.map judg) n_impl_tooBig [] [] Tr.big st (fun t ht => by
   obtain ⟨f, hf, rfl⟩ := List.mem_map.1 ht
   exact zq63 (judg f) (by rw [zqgy]; have := (hG f hf).2; omega) st)) ?_
  rw [hany, zqa, zqd]
  exact Just.ret (Sub.refl _)
theorem zqeh (G : List Fm) (p : Pf) (f : Fm) (hp : Prv G p f) (hf : p.fok = true) (ho : p.ok = true) (hs : (pfT p).size ≤ 150) (hl : G.length ≤ 12) (st : St) : zq5 prog n_impl_DecodeProof [tree (pfT p), .int .i64 G.length] st (Just (.tup [pf p, .int .i64 0]) st) := by
 have hps := (pfT_size p).1
 have hpc := zqff p
 apply zqf5
 unfold zq7s
 refine zq9 (zqf _) ?_
 refine zq9 (by rfl) ?_
 refine (Held.start st).alloc fun v4 w1 h1 => ?_
 refine zq3 (ltr _ _) ?_
 refine zq1 (zqm3 (pfT p) _) ?_
 have ht : (pfT p).termOK = true := by unfold Tr.termOK; rw [small_of hs, pfT_term p ho]; rfl
 rw [zqa, ht]
 show br false _ _
 rw [zqd]
 refine zq3 (x := .int .i64 (G.length : Int)) rfl ?_
 refine zq1 (zq9y (G.length : Int) 0 12 _) ?_
 refine zq3 (x := .bool false) (by simp; omega) ?_
 rw [zqa, zqd]
 refine zq3 (x := .agg [.int .i64 0, .int .i64 0, .sl 0 true [], .sl 0 true []]) rfl ?_
 refine h1.alloc fun v6 w2 h2 => ?_
 refine h2.store2 (box4 _ _ _ _ rfl) rfl fun w3 h3 => ?_
 have h4 := h3.again (y := pf p)
 refine zq99 (v := v6) (o := .cells (pf p).cells) (by have := h3.got _ (List.mem_cons_self ..); rw [this]; simp) (fun b hb => ?_) ?_
 ·apply zqc1
  unfold zq5z
  refine zq3 (ltr _ _) ?_
  refine zq3 (x := .int .i64 (G.length : Int)) rfl ?_
  refine zq1 (zqho p G f hp hf (by omega) _) ?_
  have e6 := h3.got _ (List.mem_cons_self ..)
  have ne : v6 ≠ b := fun e => by simp only at e6; rw [e, hb] at e6; cases e6
  refine zq13 (vs := (PV.agg [.int .i64 0, .int .i64 0, .sl 0 true [], .sl 0 true []]).cells) (by rw [zq7 _ _ ne]; exact e6) (zqlk p) (pf_ncells p) (zq31 p) (by simp [PV.cells]) ?_
  rw [show zqg (PV.agg [.int .i64 0, .int .i64 0, .sl 0 true [], .sl 0 true []]).cells 0 (pf p).cells = (pf p).cells by rw [zq5e]; rfl]
  exact zq29 ⟨rfl, rfl⟩
 refine h4.alloc fun v7 w5 h5 => ?_
 refine h5.store2 (n := 2) ⟨_, rfl, rfl, rfl⟩ rfl fun w6 h6 => ?_
 have e7 := h6.got _ (List.mem_cons_self ..)
 refine zq3 (x := .ptr v7 0) rfl ?_
 refine zq3 (x := .int .i64 0) (by rw [zqp e7]; rfl) ?_
 refine zq3 (x := .bool false) rfl ?_
 rw [zqa, zqd]
 refine zq3 (h6.ldp (p := p) (by simp)) ?_
 refine h6.store (Box.pf p) rfl fun w7 h7 => ?_
 refine zq3 (h7.top (Box.pf p)) ?_
 exact Just.ret h7.sub
theorem zqm8 (p : Pf) : ∃ t c, (if 150 < (pfT p).size then PV.tup [tree zq8l, .int .i64 11] else .tup [tree (pfT p), .int .i64 0]) = .tup [tree t, .int .i64 c] ∧ (c = 11 ∨ (c = 0 ∧ t = pfT p ∧ (pfT p).size ≤ 150)) := by
 by_cases h : 150 < (pfT p).size
 ·exact ⟨_, _, by rw [if_pos h], .inl rfl⟩
 ·exact ⟨_, _, by rw [if_neg h], .inr ⟨rfl, rfl, by omega⟩⟩
theorem judged_cases (f : Fm) : ∃ t c, (if 149 < f.size then PV.tup [tree zq8l, .int .i64 11] else .tup [tree (judg f), .int .i64 0]) = .tup [tree t, .int .i64 c] ∧ (c = 11 ∨ (c = 0 ∧ t = judg f ∧ f.size ≤ 149)) := by
 by_cases h : 149 < f.size
 ·exact ⟨_, _, by rw [if_pos h], .inl rfl⟩
 ·exact ⟨_, _, by rw [if_neg h], .inr ⟨rfl, rfl, by omega⟩⟩
theorem h_laws_FnProofs (x0 : List UInt8) (hb : x0.length ≤ 1048576) (st : St) : zq5 prog n_laws_FnProofs [zq8p x0] st (Just (.bool true) st) := by
 apply zqjg
 unfold zqar
 refine zq3 (x := .int .i64 (x0.length : Int)) (by simp [zq8p]) ?_
 refine zq3 (x := .bool false) (by simp; omega) ?_
 rw [zqa, zqd]
 refine callK_givesV (zqlz x0 (by omega) st) fun p0 hp0 => ?_
 obtain ⟨G, p, f, rfl, hp, hpf, hfo, hGl, hG⟩ := hp0
 refine zq3 (x := fms G.reverse) rfl ?_
 refine zq3 (x := pf p) rfl ?_
 refine zq3 (x := fm f) rfl ?_
 refine (Held.start st).alloc fun v4 w1 h1 => ?_
 refine h1.alloc fun v5 w2 h2 => ?_
 refine h2.store (Box.pf p) rfl fun w3 h3 => ?_
 refine h3.store (Box.fm f) rfl fun w4 h4 => ?_
 refine zq3 (h4.ldp (p := p) (by simp)) ?_
 refine zq1 (zqm0 p hpf _) ?_
 refine zq3 (x := .bool (!pfOK p)) rfl ?_
 rw [zqa]
 refine zq50 (fun _ => Just.bool rfl h4.sub) (fun hpo => ?_)
 have hpo : pfOK p = true := by simpa using hpo
 obtain ⟨pc, ps, ph⟩ := zqhe hpo
 have hok := Pf.ok_of hpf ph
 have hG' : ∀ h ∈ G, h.ok = true ∧ h.size ≤ 150 := fun h hh => ⟨(hG h hh).1, by have := (hG h hh).2; omega⟩
 have hG2 : ∀ h ∈ G, h.ok = true ∧ h.size ≤ 149 := fun h hh => ⟨(hG h hh).1, by have := (hG h hh).2; omega⟩
 have hfs : f.size ≤ 150 := hp.size (fun h hh => (hG' h hh).2) pc
 refine zq3 (h4.ldp (p := p) (by simp)) ?_
 refine zq1 (h_impl_Proves G p f ⟨hp, hG', by omega, hpf, hpo⟩ _) ?_
 refine zq3 (x := fm f) rfl ?_
 refine zq3 (x := .int .i64 0) rfl ?_
 refine zq3 (x := .int .i64 0) rfl ?_
 refine h4.new (Box.fm f) rfl fun v6 w5 h5 => ?_
 refine zq3 (x := .bool false) rfl ?_
 rw [zqa, zqd]
 refine zq3 (h5.ldf (f := f) (v := v5) (by simp)) ?_
 refine zq3 (h5.top (Box.fm f)) ?_
 refine zq1 (zqad f f _) ?_
 refine zq3 (x := .bool false) (by simp) ?_
 rw [zqa, zqd]
 refine zq3 (h5.ldp (p := p) (v := v4) (by simp)) ?_
 have ep := zqeg p hpf hpo w5
 obtain ⟨tp, cp, e1, hcp⟩ := zqm8 p
 rw [e1] at ep
 refine zq1 ep ?_
 refine zq3 (x := tree tp) rfl ?_
 refine zq3 (x := .int .i64 cp) rfl ?_
 refine h5.news rfl fun v9 w6 h6 => ?_
 refine zq1 (zqgg G.reverse (fun h hh => hG2 h (by simpa using hh)) (by simp; omega) _) ?_
 refine zq3 (x := trees (ctxJ G)) rfl ?_
 refine zq3 (x := .int .i64 0) rfl ?_
 refine zq3 (h6.ldf (f := f) (v := v5) (by simp)) ?_
 have ej := zqhw f hfo hfs w6
 obtain ⟨tj, cj, e2, hcj⟩ := judged_cases f
 rw [e2] at ej
 refine zq1 ej ?_
 refine zq3 (x := tree tj) rfl ?_
 refine zq3 (x := .int .i64 cj) rfl ?_
 refine h6.news rfl fun v13 w7 h7 => ?_
 refine zq1 (zq9w cp _) ?_
 rcases hcp with rfl | ⟨rfl, rfl, hps⟩
 ·refine cbr_t rfl ?_
  exact Just.bool rfl h7.sub
 refine zqis rfl ?_
 refine zq1 (zq9w 0 _) ?_
 refine zqis rfl ?_
 refine zq1 (zq9w cj _) ?_
 rcases hcj with rfl | ⟨rfl, rfl, hjs⟩
 ·refine cbr_t rfl ?_
  exact Just.bool rfl h7.sub
 refine zqis rfl ?_
 refine zq3 (h7.ld (t := pfT p) (v := v9) (by simp)) ?_
 refine zq3 (x := .int .i64 (G.length : Int)) (by simp [fms]) ?_
 refine zq1 (zqeh G p f hp hpf hok hps (by omega) _) ?_
 refine zq3 (x := pf p) rfl ?_
 refine zq3 (x := .int .i64 0) rfl ?_
 refine h7.new (Box.pf p) rfl fun v15 w8 h8 => ?_
 refine zq3 (h8.ld (t := pfT p) (v := v9) (by simp)) ?_
 refine zq3 (h8.ld (t := judg f) (v := v13) (by simp)) ?_
 refine zq1 (Owns.just (zqja w8)) ?_
 refine ⟨h8.ld (t := judg f) (v := v13) (by simp), h8.ld (t := pfT p) (v := v9) (by simp), ?_⟩
 refine zq1 (zqhx zq4c (ctxJ G) (pfT p) (judg f) _) ?_
 have hck := proof_checked hp hok hG2 (by omega) hfo hjs hps
 unfold zq6u
 generalize zq98 zq4c (ctxJ G) ((pfT p).termOK && dueT zq4c (ctxJ G) (judg f)) (zqfn (zqab zq4c 900000 (ctxJ G) (pfT p) (judg f) 0 0)) = z at hck
 refine zq3 (x := .int .i64 z.1) rfl ?_
 refine zq3 (x := .int .i64 z.2) rfl ?_
 refine zq3 (x := .bool true) rfl ?_
 rw [zqa, zqk]
 refine zq3 (x := .bool true) rfl ?_
 rw [zqa, zqk]
 refine zq3 (x := .bool true) rfl ?_
 rw [zqa, zqk]
 refine zq3 (x := .bool true) rfl ?_
 rw [zqa, zqk]
 refine zq3 (h8.top (Box.pf p)) ?_
 refine zq3 (h8.ldp (p := p) (v := v4) (by simp)) ?_
 refine zq1 (zqhm p _) ?_
 rw [zqa, zqk]
 refine zq3 (x := .bool (decide (z.1 = 0))) (by simp) ?_
 refine zq1t (fun _ => Just.bool rfl h8.sub) (fun h0 => ?_)
 have h11 : z.1 = 11 := hck.resolve_left h0
 refine zq1 (zq9w z.1 _) ?_
 rw [h11]
 exact Just.bool rfl h8.sub
end Go.H.Tryz
