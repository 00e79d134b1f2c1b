/- Part of a proof that the program answers as the reference does: ZHC78, ZHC79, ZHC80, ZHC81, ZHC82, ZHC83. -/
import Derived.Test.YtmjpemdbkenebaaGreatDoorHR
import Derived.Test.YtmjpemdbkenebaaGreatDoorHE
import Derived.Test.YtmjpemdbkenebaaGreatDoorHV
import Derived.Test.YtmjpemdbkenebaaGreatDoorHM
set_option linter.unusedVariables false
set_option linter.unusedSimpArgs false
namespace Go.H.Tryz
open Go Go.H

variable {st0 st : St} {b : Nat} {t : List UInt8} {sc : List (List UInt8)} {i nd : Nat}
def highP (t : Tr) (_ : Int) : Bool := decide (t.kind = 5) && decide (100 < t.n)
def zqkd (t : List UInt8) : Option Tr := match pFam t (2 * t.length + 2) [] 0 0 with
 | .ok k i _ => if runE zq2g t i = t.length ∧ eachT highP k 0 = false then some k else none
 | .er _ _ => none
theorem zqcs (k : Tr) (d : Int) (st : St) : zq5 prog n_impl_parser_end_1 [.ref (tree k).cells, .int .i64 d] st (Just (.bool (highP k d)) st) := by
 apply zqdf
 unfold zq6d
 obtain ⟨v, hv⟩ : ∃ v, highP k d = v := ⟨_, rfl⟩
 rw [hv]
 unfold highP at hv
 try simp
 refine zql (fun h => ?_) (fun h => ?_)
 ·rw [decide_eq_true h, Bool.true_and] at hv
  exact Just.bool hv
 ·rw [decide_eq_false h, Bool.false_and] at hv
  exact Just.bool hv
theorem zqgb {om : Bool} (hp : PS st0 st b t om sc i nd) (ht : t.length ≤ 1000000) (he : runE zq2g t i = t.length) (k : Tr) (hk : eachT highP k 0 = false) (hsz : k.size ≤ 1000000) : zq5 prog n_impl_parser_end [.ptr b 0, .sl 4 true [tree k]] st (PG st0 b t om sc (fun _ => PV.tup []) (.ok () t.length nd)) := by
 apply zqgk
 unfold zq8e
 have hN := zqx hp ht
 rw [he, byteP_none (List.getElem?_eq_none (Nat.le_refl _))] at hN
 refine zqi (β := Unit) hN fun s h => ?_
 try simp
 intro k1 hk1 _
 refine hk1 _ _ ?_
 try simp
 have hq0 : q_ia 4 (.sl 4 true [tree k]) (.int .i64 0) = some (.ref (tree k).cells) := by simp [q_ia]
 refine zq32 ?_
 try simp [hq0]
 intro v5 hv5
 have hv50 := h.sub.isNone hv5
 try simp
 have h2 := h.beside (.cells (tree k).cells) hv5
 have e5 := zq2 s v5 (.cells (tree k).cells)
 have hdel : del (upd s v5 (.cells (tree k).cells)) v5 = s := del_upd _ _ _ hv5
 refine zqda (us' := [.ref (tree k).cells, .int .i64 0, .fn (.func n_impl_parser_end_1) [] []]) (st' := s) ?_ ?_
 ·have := Conv.freezeVar e5
  rw [hdel] at this
  exact Conv.cons this (Conv.sub fun c o hc => ((Sub.refl s).put hv5) c o hc)
 refine zq1 (zqhv highP n_impl_parser_end_1 [] [] k 0 (by omega) (fun _ => True) (fun _ _ _ _ => trivial) trivial s (fun k d _ => by simpa using zqcs k d s)) ?_
 rw [hk]
 try simp
 rw [zqs (by omega) (by omega)]
 refine zq32 ?_
 try simp
 exact PRes.ret h rfl
theorem zqhq (t : List UInt8) (st : St) : zq5 prog n_impl_parserOf [.str t, .int .i64 0] st (fun r st' => ∃ b, st b = none ∧ r = .ret (.ptr b 0) ∧ st' = upd st b (.cells (pC t false 0 (.sl 0 true []) 0))) := by
 apply zqjv
 unfold zqb6
 rw [show zqe [PV.str [], .int .i64 0, .sl 0 true [], .int .i64 0, .bool false] [(0, 1, .str t)] = some (.agg (pC t false 0 (.sl 0 true []) 0)) from rfl]
 simp only [zq20]
 refine zq2a rfl fun b hb => ?_
 refine zq32 ?_
 try simp
 exact zq29 ⟨b, hb, rfl, rfl⟩
theorem HoleOK.none (hq : ∀ j : Nat, t[j]? ≠ some 63) (om : Bool) : HoleOK b t om := fun _ _ _ j _ _ h => absurd h (hq j)
theorem zqj7 {k : Tr} (hq : ∀ j : Nat, t[j]? ≠ some 63) (ht : t.length ≤ 1000000) (hr : zqkd t = some k) (v bb : Nat) (st : St) (hv : st v = some (.cells z4)) (hbb : st bb = none) :
  zq5 prog n_impl_parsed_1 [.ref [.str t], .ref [.int .i64 0], .ref [.fn (.func n_impl_parser_family) [] []], .ptr v 0] (upd st bb (.cells [.int .i64 0, .int .i64 0])) (Caught ty_impl_halt bb (fun c p s => c = 0 ∧ p = 0 ∧ s = upd st v (.cells (tree k).cells) ∧ k.size ≤ 1000)) := by
 apply zqjw
 unfold zqb7
 unfold zqkd at hr
 split at hr
 rotate_left
 ·cases hr
 rename_i k' i nd hpf
 split at hr
 rotate_left
 ·cases hr
 rename_i hend
 cases hr
 have hbv : v ≠ bb := fun e => by rw [e, hbb] at hv; cases hv
 try simp
 refine zqa1 (zqhq t _) fun b hb => ?_
 try simp
 generalize hS : upd st bb (.cells [.int .i64 0, .int .i64 0]) = s0 at hb
 have hPS : PS s0 (upd s0 b (.cells (pC t false 0 (.sl 0 true []) 0))) b t false [] 0 0 := ⟨⟨_, zq2 _ _ _, .inl ⟨rfl, rfl⟩⟩, (Sub.refl _).put hb, hb, Nat.zero_le _, Nat.zero_le _, by simp⟩
 have hF := (fam_all (HoleOK.none hq false) ht (2 * t.length + 2)).1 _ _ _ _ _ hPS (by omega)
 rw [hpf] at hF
 have hsz := (zqci hpf).1
 refine zqi (β := Unit) hF fun s1 h1 => ?_
 have hfew := h1.few
 have ev : s0 v = some (.cells z4) := by rw [← hS, zq7 _ _ hbv]; exact hv
 refine zq4p (vs := z4) (h1.sub v _ ev) rfl ?_
 have h2 := h1.turn ev (.cells (tree k).cells)
 have e2 := zq2 s1 v (.cells (tree k).cells)
 generalize upd s1 v (.cells (tree k).cells) = s2 at h2 e2
 try simp [zq6 e2]
 refine zqi (β := Unit) (zqgb h2 ht hend.1 k hend.2 (by omega)) fun s3 h3 => ?_
 refine zq1h h3.sub ⟨upd st v (.cells (tree k).cells), by rw [zq7 _ _ (Ne.symm hbv)]; exact hbb, ?_, .inl ⟨rfl, rfl, rfl, rfl, by omega⟩⟩
 rw [← hS, zq4y _ _ _ hbv]
theorem zqa6 {k : Tr} (hq : ∀ j : Nat, t[j]? ≠ some 63) (ht : t.length ≤ 65536) (hr : zqkd t = some k) (st : St) : zq5 prog n_impl_ParseFamily [.str t, .int .i64 0] st (Owns (.tup (tree k :: [0, 0].map (PV.int .i64))) st) := by
 apply zqf2
 unfold zq7p
 intro v4 hv4
 have e4 := zq2 st v4 (.cells [.int .i64 0, .int .i64 0, .str [], .sl 0 true []])
 have hsub4 := (Sub.refl st).put (o := .cells [.int .i64 0, .int .i64 0, .str [], .sl 0 true []]) hv4
 generalize upd st v4 (.cells [.int .i64 0, .int .i64 0, .str [], .sl 0 true []]) = s at e4 hsub4
 have hparsed : zq5 prog n_impl_parsed [.str t, .int .i64 0, .fn (.func n_impl_parser_family) [] []] s (Owns (.tup (tree k :: [0, 0].map (PV.int .i64))) s) := by
  apply c_impl_parsed
  unfold zqfw
  refine zq9 rfl ?_
  refine zq9 rfl ?_
  refine zq9 rfl ?_
  intro v6 hv6
  try simp
  refine zq1 (zq91 t _) ?_
  try simp
  refine zql (fun h => by omega) (fun _ => ?_)
  refine zq1 (zq9y 0 0 100 _) ?_
  try simp
  rw [show zqe [PV.int IntKind.i64 0, PV.int IntKind.i64 0, PV.str [], PV.sl 0 true []] [] = some (.agg z4) from rfl]
  simp only [zq20]
  intro v9 hv9
  rw [zqh _ _ _ _ _ _ _ (zq2 _ _ _)]
  have ez : zqg z4 0 (PV.agg z4).cells = z4 := rfl
  have ez' : zqg [PV.int IntKind.i64 0, PV.int IntKind.i64 0, PV.str [], PV.sl 0 true []] 0 (PV.agg z4).cells = z4 := rfl
  rw [ez', zq10]
  rw [if_pos ⟨rfl, rfl, rfl⟩, if_pos (by decide)]
  have e6 : upd s v6 (.cells z4) v6 = some (.cells z4) := zq2 _ _ _
  have hsub6 := (Sub.refl s).put (o := .cells z4) hv6
  have hv9' : upd s v6 (.cells z4) v9 = none := hv9
  show zqb prog n_impl_caught _ (upd (upd s v6 (.cells z4)) v9 (.cells z4)) _ _
  generalize upd s v6 (.cells z4) = s1 at e6 hsub6 hv9'
  have h69 : v6 ≠ v9 := fun e => by rw [e, hv9'] at e6; cases e6
  refine zq15 (zq3q n_impl_parsed_1 _ _ (fun c p s' => c = 0 ∧ p = 0 ∧ s' = upd (upd s1 v9 (.cells z4)) v9 (.cells (tree k).cells) ∧ k.size ≤ 1000) (fun bb hbb => zqj7 hq (by omega) hr v9 bb _ (zq2 _ _ _) hbb)) (fun q s2 h2 => ?_) (fun q s2 h2 => by obtain ⟨_, _, h, _⟩ := h2; cases h)
  obtain ⟨c, p, h, rfl, rfl, rfl, hsz⟩ := h2
  cases h
  rw [zq10]
  intro v10 hv10
  try simp
  try simp [zq6 (zq2 _ _ _)]
  have h910 : v9 ≠ v10 := fun e => by rw [← e, zq2] at hv10; cases hv10
  have e9 : upd (upd s1 v9 (.cells (tree k).cells)) v10 (.cells [.int .i64 0, .int .i64 0]) v9 = some (.cells (tree k).cells) := by rw [zq7 _ _ h910]; exact zq2 _ _ _
  have e6' : upd (upd s1 v9 (.cells (tree k).cells)) v10 (.cells [.int .i64 0, .int .i64 0]) v6 = some (.cells z4) := by
   rw [zq7 _ _ (fun e => by rw [← e, zq7 _ _ h69] at hv10; rw [hv10] at e6; cases e6), zq7 _ _ h69]
   exact e6
  have hsub10 : Sub s (upd (upd s1 v9 (.cells (tree k).cells)) v10 (.cells [.int .i64 0, .int .i64 0])) := by
   have a1 := hsub6.put (o := .cells (tree k).cells) (hsub6.isNone hv9')
   exact a1.put (a1.isNone hv10)
  generalize upd (upd s1 v9 (.cells (tree k).cells)) v10 (.cells [.int .i64 0, .int .i64 0]) = s3 at e9 e6' hsub10
  try simp [zq6 e9]
  refine zq4u (zqhr k (by omega) s3) fun pt D s4 hD hT hf ho => ?_
  obtain ⟨q, rfl, hTq⟩ := Th.tree.1 hT
  obtain ⟨c1, c2, c3, c4⟩ := zq6t hTq
  have keep : ∀ c o, s3 c = some o → s4 c = some o := fun c o hc => by
   rw [ho c (fun h => by rw [hf c h] at hc; cases hc)]; exact hc
  have f6 := keep _ _ e6'
  rw [zqh _ _ _ _ _ _ _ f6]
  try simp [z4, c1, c2, c3, c4, zqg]
  try simp [zq6 (zq2 _ _ _)]
  have hnD : ∀ c ∈ D, c ≠ v6 := fun c hc e => by rw [e] at hc; rw [hf v6 hc] at e6'; cases e6'
  refine Owns.tupInts [0, 0] hD (Th.tree.2 ⟨q, rfl, hTq.frame _ _ _ fun c hc => zq7 _ _ (hnD c hc)⟩) (fun c hc => hsub10.isNone (hf c hc)) ((hsub10.trans keep).put hv6)
 refine zq4u hparsed fun p D s2 hD hT hf ho => ?_
 obtain ⟨pt, rfl, hTt⟩ := Th.tupInts_inv hT
 obtain ⟨q, rfl, hTq⟩ := Th.tree.1 hTt
 obtain ⟨c1, c2, c3, c4⟩ := zq6t hTq
 have keep : ∀ c o, s c = some o → s2 c = some o := fun c o hc => by
  rw [ho c (fun h => by rw [hf c h] at hc; cases hc)]; exact hc
 have f4 := keep _ _ e4
 simp only [List.map_cons, List.map_nil]
 try simp
 rw [zqh _ _ _ _ _ _ _ f4]
 try simp [c1, c2, c3, c4, zqg]
 try simp [zq6 (zq2 _ _ _)]
 have hnD : ∀ c ∈ D, c ≠ v4 := fun c hc e => by rw [e] at hc; rw [hf v4 hc] at e4; cases e4
 exact Owns.tupInts [0, 0] hD (Th.tree.2 ⟨q, rfl, hTq.frame _ _ _ fun c hc => zq7 _ _ (hnD c hc)⟩) (fun c hc => hsub4.isNone (hf c hc)) ((hsub4.trans keep).put hv4)
end Go.H.Tryz
set_option linter.unusedVariables false
set_option linter.unusedSimpArgs false
namespace Go.H.Tryz
open Go Go.H

theorem lblank_signs (c : UInt8) : decide (0 ≤ Lib.indexByte [32, 9, 13] c) = zq6z c := by
 rw [Bool.eq_iff_iff, decide_eq_true_eq, (zq3p c [32, 9, 13]).1]
 unfold zq6z
 try simp [or_assoc]
theorem zq6m (l : List UInt8) (i : Nat) (hi : i ≤ l.length) (hl : l.length ≤ 1000000) (st : St) : zq5 prog n_impl_blankEnd [.str l, .int .i64 i] st (Just (.int .i64 (runE zq6z l i)) st) := by
 apply zqk0
 unfold zqbb
 generalize hv : runE zq6z l i = v
 refine zq6o (σ := Nat) (fun z => l.length - z) (fun z => [.int .i64 (z : Int)]) (fun _ => st) (fun z => z ≤ l.length ∧ runE zq6z l z = v) ?_ i ⟨hi, hv⟩
 rintro j ⟨hj, he⟩ ih
 have fin : runE zq6z l j = j → retR (Just (.int .i64 (v : Int)) st) (.int .i64 (j : Int)) st := fun e => Just.int (by rw [← he, e])
 try simp
 refine zql (fun h => ?_) (fun h => ?_)
 ·have hj' : j < l.length := by omega
  rw [zqha (List.getElem?_eq_getElem hj')]
  simp only [zq20]
  refine zq1 (zq1k _ _ _) ?_
  try simp
  show br _ _ _
  rw [lblank_signs]
  refine zq50 (fun hB => ?_) (fun hB => fin (zq62 fun c hc => by rw [List.getElem?_eq_getElem hj'] at hc; cases hc; exact hB))
  rw [zqs (by omega) (by omega)]
  exact ih (j + 1) (by omega) ⟨by omega, by rw [← he, ← zqcc (List.getElem?_eq_getElem hj') hB]⟩
 ·exact fin (zq62 fun c hc => by rw [List.getElem?_eq_none (by omega)] at hc; cases hc)
theorem zqh5 (l : List UInt8) (n : Nat) (hn : n ≤ l.length) : zq17 (.str l) (some (.int .i64 (n : Int))) none none = some (.str (l.drop n)) := by simp [zq17, zq5d, optI, hn]
theorem slice_to (l : List UInt8) (n : Nat) (hn : n ≤ l.length) : zq17 (.str l) none (some (.int .i64 (n : Int))) none = some (.str (l.take n)) := by simp [zq17, zq5d, optI, hn]
theorem h_HasSuffix (l : List UInt8) (hl : l.length ≤ 1000000) (st : St) : zq5 prog n_internal_stringslite_HasSuffix [.str l, .str [10]] st (Just (.bool (decide (1 ≤ l.length ∧ l.drop (l.length - 1) = [10]))) st) := by
 apply zq4i
 unfold zq2d
 obtain ⟨v, hv⟩ : ∃ v, decide (1 ≤ l.length ∧ l.drop (l.length - 1) = [10]) = v := ⟨_, rfl⟩
 rw [hv]
 try simp
 refine zql (fun h => ?_) (fun h => ?_)
 ·rw [zqs (by omega) (by omega)]
  have e : zq17 (.str l) (some (.int .i64 ((l.length : Int) - 1))) none none = some (.str (l.drop (l.length - 1))) := by
   have e1 : ((l.length : Int) - 1) = ((l.length - 1 : Nat) : Int) := by omega
   rw [e1]
   exact zqh5 l _ (by omega)
  rw [e]
  try simp
  refine Just.bool ?_
  rw [← hv]
  congr 1
  exact propext ⟨fun h => ⟨by omega, h⟩, fun h => h.2⟩
 ·exact Just.bool (by rw [← hv]; exact (decide_eq_false (by omega)).symm)
theorem zq8n (l : List UInt8) (hl : l.length ≤ 1000000) (st : St) : zq5 prog n_strings_TrimSuffix [.str l, .str [10]] st (Just (.str (zq2y l)) st) := by
 apply zqbr
 unfold zq5o
 have h1 : zq5 prog n_internal_stringslite_TrimSuffix [.str l, .str [10]] st (Just (.str (zq2y l)) st) := by
  apply zq46
  unfold zq28
  obtain ⟨v, hv⟩ : ∃ v, zq2y l = v := ⟨_, rfl⟩
  rw [hv]
  unfold zq2y at hv
  refine zq1 (h_HasSuffix l hl _) ?_
  simp only [cb]
  refine zql (fun h => ?_) (fun h => ?_)
  ·rw [if_pos h] at hv
   try simp
   rw [zqs (by omega) (by omega)]
   have e : zq17 (.str l) none (some (.int .i64 ((l.length : Int) - 1))) none = some (.str (l.take (l.length - 1))) := by
    have e1 : ((l.length : Int) - 1) = ((l.length - 1 : Nat) : Int) := by omega
    rw [e1]
    exact slice_to l _ (by omega)
   rw [e, hv]
   exact Just.ret (Sub.refl _)
  ·rw [if_neg h] at hv
   rw [hv]
   exact Just.ret (Sub.refl _)
 exact zq1 h1 (Just.ret (Sub.refl _))
theorem h_impl_says (l : List UInt8) (hl : l.length ≤ 1000000) (st : St) : zq5 prog n_impl_says [.str l] st (Just (.bool (saysT l)) st) := by
 apply c_impl_says
 unfold zql7
 obtain ⟨v, hv⟩ : ∃ v, saysT l = v := ⟨_, rfl⟩
 rw [hv]
 unfold saysT at hv
 refine zq1 (zq6m l 0 (Nat.zero_le _) hl _) ?_
 generalize runE zq6z l 0 = j at hv
 try simp
 refine zql (fun h => ?_) (fun h => ?_)
 ·have hj : j < l.length := by omega
  have hj' := List.getElem?_eq_getElem hj
  rw [hj'] at hv
  rw [zqha hj']
  try simp
  refine Just.bool ?_
  rw [← hv]
  simp only
  congr 1
  exact decide_eq_decide.2 ⟨fun h => UInt8.toNat_inj.1 (by have : (37 : UInt8).toNat = 37 := rfl; omega), fun h => by rw [h]; rfl⟩
 ·rw [List.getElem?_eq_none (by omega)] at hv
  exact Just.bool hv
def zqce (l : List UInt8) : Option Dc :=
 if zq8t (cut l (runE zq6z l 0) (runE zqaa l (runE zq6z l 0))) = true ∧ l[runE zq6z l (runE zqaa l (runE zq6z l 0))]? = some 58 then
  match zqkd (l.drop (runE zq6z l (runE zqaa l (runE zq6z l 0)) + 1)) with
  | some k => some ⟨cut l (runE zq6z l 0) (runE zqaa l (runE zq6z l 0)), zq4q k, k⟩
  | none => none
 else none
theorem readFam_spine {t : List UInt8} {k : Tr} (h : zqkd t = some k) : zqa3 k = true := by
 unfold zqkd at h
 split at h
 ·rename_i hpf
  split at h
  ·cases h; exact (zqci hpf).2
  ·cases h
 ·cases h
theorem drop_noQ {l : List UInt8} (hq : ∀ j : Nat, l[j]? ≠ some 63) (n : Nat) : ∀ j : Nat, (l.drop n)[j]? ≠ some 63 := fun j => by
 rw [List.getElem?_drop]
 exact hq _
theorem zqee {l : List UInt8} {d : Dc} (hq : ∀ j : Nat, l[j]? ≠ some 63) (hl : l.length ≤ 4096) (hr : zqce l = some d) (st : St) : zq5 prog n_impl_readDecl [.str l] st (Owns (decl d) st) := by
 apply zqju
 unfold zqb5
 unfold zqce at hr
 split at hr
 rotate_left
 ·cases hr
 rename_i hc
 obtain ⟨hname, hcol⟩ := hc
 have hfl := runE_le zq6z l (i := 0) (Nat.zero_le _)
 generalize hfr : runE zq6z l 0 = fr at hr hname hcol hfl
 have htl := runE_le zqaa l hfl
 have hft := zq2v zqaa l fr
 generalize hto : runE zqaa l fr = to at hr hname hcol htl hft
 have hcl := runE_le zq6z l htl
 generalize hco : runE zq6z l to = co at hr hcol hcl
 have hcolt := (List.getElem?_eq_some_iff.1 hcol).1
 split at hr
 rotate_left
 ·cases hr
 rename_i k hk
 cases hr
 intro v2 hv2
 have e2 := zq2 st v2 (.cells [.str [], .bool false, .int .i64 0, .int .i64 0, .str [], .sl 0 true []])
 have hsub2 := (Sub.refl st).put (o := .cells [.str [], .bool false, .int .i64 0, .int .i64 0, .str [], .sl 0 true []]) hv2
 generalize upd st v2 (.cells [.str [], .bool false, .int .i64 0, .int .i64 0, .str [], .sl 0 true []]) = s at e2 hsub2
 refine zq1 (zq6m l 0 (Nat.zero_le _) (by omega) _) ?_
 rw [hfr]
 intro k0 hk0 _
 -- the word
 refine zq6o (σ := Nat) (fun z => l.length - z) (fun z => [.int .i64 (z : Int)]) (fun _ => s) (fun z => z ≤ l.length ∧ runE zqaa l z = to) ?_ fr ⟨hfl, hto⟩
 rintro j ⟨hj, he⟩ ih
 have fin : runE zqaa l j = j → k0 [.int .i64 (j : Int)] s := fun e => by
  have hjt : j = to := by rw [← he, e]
  subst hjt
  refine hk0 _ _ ?_
  have e1 : zq17 (.str l) (some (.int .i64 (fr : Int))) (some (.int .i64 (j : Int))) none = some (.str (cut l fr j)) := by
   try simp [zq17, zq5d, optI, cut]
   omega
  simp only [List.getD_cons_zero]
  rw [e1]
  simp only [zq20]
  refine zq1 (zq2w _ _) ?_
  rw [hname]
  try simp
  intro k1 hk1 _
  refine hk1 _ _ ?_
  refine zq1 (zq6m l j htl (by omega) _) ?_
  rw [hco]
  intro k2 hk2 _
  try simp
  refine zql (fun h => by omega) (fun _ => ?_)
  rw [zqha hcol]
  try simp
  refine hk2 _ _ ?_
  try simp
  rw [zqs (by omega) (by omega)]
  have e3 : zq17 (.str l) (some (.int .i64 ((co : Int) + 1))) none none = some (.str (l.drop (co + 1))) := by
   exact zqh5 l (co + 1) (by omega)
  rw [e3]
  simp only [zq20]
  refine zq4u (zqa6 (drop_noQ hq _) (by rw [List.length_drop]; omega) hk _) fun p D s2 hD hT hf ho => ?_
  obtain ⟨pt, rfl, hTt⟩ := Th.tupInts_inv hT
  obtain ⟨q, rfl, hTq⟩ := Th.tree.1 hTt
  obtain ⟨c1, c2, c3, c4⟩ := zq6t hTq
  have keep : ∀ c o, s c = some o → s2 c = some o := fun c o hc => by
   rw [ho c (fun h => by rw [hf c h] at hc; cases hc)]; exact hc
  have f2 := keep _ _ e2
  simp only [List.map_cons, List.map_nil]
  try simp
  intro v6 hv6
  have hne : v2 ≠ v6 := fun e => by rw [e, hv6] at f2; cases f2
  try simp [c1, c2, c3, c4]
  intro k3 hk3 _
  refine hk3 _ _ ?_
  have live : ∀ c ∈ D, ∃ o, s2 c = some o := fun c hc => by obtain ⟨o, h1, _⟩ := (Ths.solid _ _ _ (Ths.one hTt)).2 c hc; exact ⟨o, h1⟩
  have hD6 : ∀ c ∈ D, c ≠ v6 := fun c hc e => by obtain ⟨o, h1⟩ := live c hc; rw [e, hv6] at h1; cases h1
  have hTt6 : Th (upd s2 v6 (.cells [.int .i64 k.kind, .int .i64 k.n, .str k.name, q])) (tree k) (.agg [.int .i64 k.kind, .int .i64 k.n, .str k.name, q]) D := hTt.frame _ _ _ fun c hc => zq7 _ _ (hD6 c hc)
  have e6 := zq2 s2 v6 (.cells [.int .i64 k.kind, .int .i64 k.n, .str k.name, q])
  have f26 : upd s2 v6 (.cells [.int .i64 k.kind, .int .i64 k.n, .str k.name, q]) v2 = some (.cells [.str [], .bool false, .int .i64 0, .int .i64 0, .str [], .sl 0 true []]) := by rw [zq7 _ _ hne]; exact f2
  have hsub6 : Sub st (upd s2 v6 (.cells [.int .i64 k.kind, .int .i64 k.n, .str k.name, q])) := (hsub2.trans keep).put ((hsub2.trans keep).isNone hv6)
  generalize upd s2 v6 (.cells [.int .i64 k.kind, .int .i64 k.n, .str k.name, q]) = s3 at e6 f26 hTt6 hsub6
  try simp [zq6 e6]
  refine Go.H.callK_look (us' := [tree k]) (fun i p p' h1 h2 => ?_) rfl rfl (zq94 k (readFam_spine hk) noSt) ?_
  ·match i with
   | 0 => cases h1; cases h2; exact .inr ⟨D, hTt6⟩
   | n + 1 => simp at h1
  try simp [zq6 e6]
  have r0 : zqe [PV.str [], .bool false, .int .i64 0, .int .i64 0, .str [], .sl 0 true []] [(0, 1, .str (cut l fr j)), (1, 1, .bool (zq4q k)), (2, 4, .agg [.int .i64 k.kind, .int .i64 k.n, .str k.name, q])] = some (.agg [.str (cut l fr j), .bool (zq4q k), .int .i64 k.kind, .int .i64 k.n, .str k.name, q]) := by
   try simp [zqe, fillL, c1]
  rw [r0]
  simp only [zq20]
  rw [zqh _ _ _ _ _ _ _ f26]
  try simp [c1, c2, c3, c4, zqg]
  try simp [zq6 (zq2 _ _ _)]
  obtain ⟨q', hq', hTq'⟩ := Th.tree.1 hTt6
  simp only [PV.agg.injEq, List.cons.injEq, and_true, true_and] at hq'
  subst hq'
  have hD2 : ∀ c ∈ D, c ≠ v2 := fun c hc e => by rw [e] at hc; rw [hf v2 hc] at e2; cases e2
  refine Owns.ret hD (Th.decl.2 ⟨q, rfl, hTq'.frame _ _ _ fun c hc => zq7 _ _ (hD2 c hc)⟩) (fun c hc => hsub2.isNone (hf c hc)) (hsub6.put hv2)
 try simp
 refine zql (fun h => ?_) (fun h => ?_)
 ·have hj' : j < l.length := by omega
  rw [zqha (List.getElem?_eq_getElem hj')]
  simp only [zq20]
  refine zq1 (zq1k _ _ _) ?_
  try simp
  show br _ _ _
  have := zqh2 l[j]
  unfold zq55 at this
  rw [this]
  refine zq50 (fun hB => ?_) (fun hB => fin (zq62 fun c hc => by rw [List.getElem?_eq_getElem hj'] at hc; cases hc; exact hB))
  rw [zqs (by omega) (by omega)]
  exact ih (j + 1) (by omega) ⟨by omega, by rw [← he, ← zqcc (List.getElem?_eq_getElem hj') hB]⟩
 ·exact fin (zq62 fun c hc => by rw [List.getElem?_eq_none (by omega)] at hc; cases hc)
end Go.H.Tryz
set_option linter.unusedVariables false
set_option linter.unusedSimpArgs false
namespace Go.H.Tryz
open Go Go.H

theorem range_lines {t : List UInt8} {s0 : St} {b : Nat} (hb0 : s0 b = some (.cells [.str t])) (ht : t.length ≤ 1000000) {round : List PV → St → (St → (St → Prop) → Prop) → (HExit → St → Prop) → Prop} {Qn : St → Prop} {Qj : List (HExit × (St → Prop))} (I : List UInt8 → St → Prop)
  (hIb : ∀ rest s o, I rest s → I rest (upd s b o)) (hIu : ∀ l env r rest s, s0 l = none → (s l = none ∨ ∃ env' r', s l = some (.loop env' r')) → I rest s → I rest (upd s l (.loop env r))) (h0 : I t s0)
  (hr : ∀ l env r1 r2 t' s X, s0 l = none → t' ≠ [] → t'.length ≤ 1000000 → I t' s → s l = some (.loop env r1) → s b = some (.cells [.str (zq1r t').2]) →
    (∀ s', s' l = some (.loop env r2) → s' b = some (.cells [.str (zq1r t').2]) → I (zq1r t').2 s' → X .normal s') → round [.str (zq1r t').1] s (beginJ l env r1 r2) X)
  (hn : ∀ l env r s, s0 l = none → s l = some (.loop env r) → I [] s → Qn (del s l)) :
  hRange prog (.fn (.func n_strings_Lines_1) [] [.ptr b 0]) s0 round Qn Qj := by
 intro l env r1 r2 r3 hl0 hy
 have hbl : b ≠ l := fun e => by rw [e, hl0] at hb0; cases hb0
 show zq5 prog n_strings_Lines_1 [.fn (.yield l) [] [], .ptr b 0] _ _
 apply zqgh
 unfold zq8b
 refine zq6o (σ := List UInt8 × St) (fun z => z.1.length) (fun _ => []) (fun z => z.2) (fun z => z.2 l = some (.loop env r1) ∧ z.2 b = some (.cells [.str z.1]) ∧ I z.1 z.2 ∧ z.1.length ≤ 1000000) ?_ (t, upd s0 l (.loop env r1)) ⟨zq2 _ _ _, (zq7 s0 (.loop env r1) hbl).trans hb0, hIu l _ _ _ _ hl0 (.inl hl0) h0, ht⟩
 rintro ⟨t', s⟩ ⟨hs, hb, hI, hlen⟩ ih
 simp only at hs hb hI hlen ih
 try simp [zq6 hb]
 refine zql (fun hpos => ?_) (fun hpos => ?_)
 ·have hne : t' ≠ [] := fun e => by rw [e] at hpos; simp at hpos
  have hll := lineOf_len hne
  have hix := zqhk 10 t'
  have hge := (zq3p 10 t').2
  refine zq1 (by simpa using zq1k t' 10 _) ?_
  try simp
  have hs2 : ∀ o, upd s b o l = some (.loop env r1) := fun o => by rw [zq7 _ _ (Ne.symm hbl)]; exact hs
  have nxt := fun (s' : St) (hl' : s' l = some (.loop env r2)) (hb' : s' b = some (.cells [.str (zq1r t').2])) (hI' : I (zq1r t').2 s') => ih ((zq1r t').2, upd s' l (.loop env r1)) hll ⟨zq2 _ _ _, (zq7 s' (.loop env r1) hbl).trans hb', hIu l env r1 _ _ hl0 (.inr ⟨_, _, hl'⟩) hI', by simp only; omega⟩
  refine zql (fun hx => ?_) (fun hx => ?_)
  ·have e1 : Lib.indexByte t' 10 + 1 = (((Lib.indexByte t' 10).toNat + 1 : Nat) : Int) := by omega
   have hL : zq0 s false 1 (.ptr b 0) = some (.str t') := by simp [zq6 hb]
   rw [zqs (by omega) (by omega), e1]
   simp only [hL, zq20]
   rw [slice_to t' _ (by omega), zqh5 t' _ (by omega)]
   simp only [zq20]
   rw [zqh _ _ _ _ _ _ _ hb]
   try simp
   have el1 : t'.take ((Lib.indexByte t' 10).toNat + 1) = (zq1r t').1 := by unfold zq1r; rw [if_pos hx]
   have el2 : t'.drop ((Lib.indexByte t' 10).toNat + 1) = (zq1r t').2 := by unfold zq1r; rw [if_pos hx]
   rw [el1, el2, zqbp]
   refine hy _ _ _ _ (hs2 _) (hr l env r1 r2 t' _ _ hl0 hne hlen (hIb _ _ _ hI) (hs2 _) (zq2 _ _ _) (fun s' hl' hb' hI' => ⟨hl', ?_⟩))
   exact nxt s' hl' hb' hI'
  ·have hL : zq0 s false 1 (.ptr b 0) = some (.str t') := by simp [zq6 hb]
   simp only [hL, zq20]
   rw [zqh _ _ _ _ _ _ _ hb]
   try simp
   have el1 : t' = (zq1r t').1 := by unfold zq1r; rw [if_neg hx]
   have el2 : [] = (zq1r t').2 := by unfold zq1r; rw [if_neg hx]
   rw [zqbp]
   have ec : callY prog l [.str t'] (upd s b (.cells [.str []])) = callY prog l [.str (zq1r t').1] (upd s b (.cells [.str (zq1r t').2])) := by rw [← el1, ← el2]
   rw [ec]
   refine hy _ _ _ _ (hs2 _) (hr l env r1 r2 t' _ _ hl0 hne hlen (hIb _ _ _ hI) (hs2 _) (zq2 _ _ _) (fun s' hl' hb' hI' => ⟨hl', ?_⟩))
   exact nxt s' hl' hb' hI'
 ·have h0 : t' = [] := List.length_eq_zero_iff.1 (by omega)
  subst h0
  exact zq29 (.inl ⟨hs, hn l env r1 _ hl0 hs hI⟩)
end Go.H.Tryz
set_option linter.unusedVariables false
set_option linter.unusedSimpArgs false
namespace Go.H.Tryz
open Go Go.H

theorem addT_ok {sig : List Dc} {d : Dc} (h : addT sig d = (0, 0)) : zq87 d = true ∧ hasT sig d.name = false ∧ sig.length ≤ 39 := by
 unfold addT at h
 split at h
 ·rename_i h1
  rw [h] at h1
  exact absurd rfl h1
 ·rename_i h1
  split at h
  ·cases h
  ·rename_i h2
   have h1' : (declT sig d).1 = 0 := Classical.byContradiction h1
   unfold declT at h1'
   split at h1'
   ·cases h1'
   ·rename_i h3
    split at h1'
    ·cases h1'
    ·rename_i h4
     exact ⟨by simpa using h3, by simpa using h4, by omega⟩
def AddR (st s : St) (D : List Nat) (xs : List PV) : Res → St → Prop := fun r s' => ∃ p' D', r = .ret p' ∧ Rw st s' 6 xs p' D' ∧ (∀ c o, s c = some o → c ∉ D → s' c = some o) ∧ (∀ c, c ∈ D' → c ∈ D ∨ s c = none)
theorem zqgc {l : List UInt8} {d : Dc} (hq : ∀ j : Nat, l[j]? ≠ some 63) (hl : l.length ≤ 4096) (hr : zqce l = some d) {sig : List Dc} (hs : SigR sig) (ha : addT sig d = (0, 0)) {st s : St} {p : PV} {D : List Nat} (q0 : Rw st s 6 (sig.map decl) p D) :
  zq5 prog n_impl_addLine [p, .str l] s (AddR st s D ((sig ++ [d]).map decl)) := by
 obtain ⟨hform, hnew, hlen⟩ := addT_ok ha
 apply zqmm
 unfold zqdy
 refine zq4u (zqee hq hl hr s) fun pd Dd s1 hDd hTd hfd hod => ?_
 obtain ⟨q, rfl, hTq⟩ := Th.decl.1 hTd
 obtain ⟨c1, c2, c3, c4⟩ := zq6t hTq
 have keep : ∀ c o, s c = some o → s1 c = some o := fun c o hc => by
  rw [hod c (fun h => by rw [hfd c h] at hc; cases hc)]; exact hc
 have q1 : Rw st s1 6 (sig.map decl) p D := q0.frame (fun c hc => by
  obtain ⟨o, ho⟩ := q0.live hc
  rw [ho]; exact keep c o ho) (q0.sub.trans keep)
 have liveD : ∀ c ∈ Dd, ∃ o, s1 c = some o := fun c hc => by obtain ⟨o, h1, _⟩ := (Ths.solid _ _ _ (Ths.one hTd)).2 c hc; exact ⟨o, h1⟩
 intro v5 hv5
 have hv5s : s v5 = none := by
  cases h : s v5 with
  | none => rfl
  | some o => rw [keep _ _ h] at hv5; cases hv5
 have hd5 : ∀ c ∈ Dd, c ≠ v5 := fun c hc e => by obtain ⟨o, h1⟩ := liveD c hc; rw [e, hv5] at h1; cases h1
 try simp [c1, c2, c3, c4, zqg]
 have q2 := q1.put hv5 (.cells [.str d.name, .bool d.fam, .int .i64 d.type.kind, .int .i64 d.type.n, .str d.type.name, q])
 have hTd2 : Th (upd s1 v5 (.cells [.str d.name, .bool d.fam, .int .i64 d.type.kind, .int .i64 d.type.n, .str d.type.name, q])) (decl d) (.agg [.str d.name, .bool d.fam, .int .i64 d.type.kind, .int .i64 d.type.n, .str d.type.name, q]) Dd := hTd.frame _ _ _ fun c hc => zq7 _ _ (hd5 c hc)
 have e5 := zq2 s1 v5 (.cells [.str d.name, .bool d.fam, .int .i64 d.type.kind, .int .i64 d.type.n, .str d.type.name, q])
 have keep2 : ∀ c o, s c = some o → upd s1 v5 (.cells [.str d.name, .bool d.fam, .int .i64 d.type.kind, .int .i64 d.type.n, .str d.type.name, q]) c = some o := fun c o hc => by
  rw [zq7 _ _ (fun e => by rw [e, hv5s] at hc; cases hc)]; exact keep c o hc
 generalize upd s1 v5 (.cells [.str d.name, .bool d.fam, .int .i64 d.type.kind, .int .i64 d.type.n, .str d.type.name, q]) = s2 at q2 hTd2 e5 keep2
 try simp [zq6 e5]
 refine Go.H.callK_look (us' := [zqa7 sig, decl d]) (fun i p p' h1 h2 => ?_) rfl rfl (zqj9 sig hs d noSt) ?_
 ·match i with
  | 0 => cases h1; cases h2; exact .inr ⟨D, q2.th⟩
  | 1 => cases h1; cases h2; exact .inr ⟨Dd, hTd2⟩
  | n + 2 => simp at h1
 rw [ha]
 unfold haltP
 intro v6 hv6
 have hv6s : s v6 = none := by
  cases h : s v6 with
  | none => rfl
  | some o => rw [keep2 _ _ h] at hv6; cases hv6
 try simp
 try simp [zq6 (zq2 _ _ _)]
 have n56 : v5 ≠ v6 := fun e => by rw [e, hv6] at e5; cases e5
 have e5' : upd s2 v6 (.cells [.int .i64 0, .int .i64 0]) v5 = some (.cells [.str d.name, .bool d.fam, .int .i64 d.type.kind, .int .i64 d.type.n, .str d.type.name, q]) := by rw [zq7 _ _ n56]; exact e5
 have q3 := q2.put hv6 (.cells [.int .i64 0, .int .i64 0])
 have hd6 : ∀ c ∈ Dd, c ≠ v6 := fun c hc e => by obtain ⟨o, h1, _⟩ := (Ths.solid _ _ _ (Ths.one hTd2)).2 c hc; rw [e, hv6] at h1; cases h1
 have hTd3 : Th (upd s2 v6 (.cells [.int .i64 0, .int .i64 0])) (decl d) (.agg [.str d.name, .bool d.fam, .int .i64 d.type.kind, .int .i64 d.type.n, .str d.type.name, q]) Dd := hTd2.frame _ _ _ fun c hc => zq7 _ _ (hd6 c hc)
 have keep3 : ∀ c o, s c = some o → upd s2 v6 (.cells [.int .i64 0, .int .i64 0]) c = some o := fun c o hc => by
  rw [zq7 _ _ (fun e => by rw [e, hv6s] at hc; cases hc)]; exact keep2 c o hc
 have none3 : ∀ c, upd s2 v6 (.cells [.int .i64 0, .int .i64 0]) c = none → s c = none := fun c hc => by
  cases h : s c with
  | none => rfl
  | some o => rw [keep3 _ _ h] at hc; cases hc
 generalize upd s2 v6 (.cells [.int .i64 0, .int .i64 0]) = s3 at q3 hTd3 e5' keep3 none3
 try simp [zq6 e5']
 simp only [c1, if_true, zq20]
 refine q3.append hTd3 (decl_el d) hDd (fun c hc => q0.sub.isNone (hfd c hc)) (fun c hc h => by obtain ⟨o, ho⟩ := q0.live hc; rw [hfd c h] at ho; cases ho) (zq2n _ _ _ _) (by simp; omega) fun p2 s4 D2 q4 hk4 hin4 => ?_
 refine zq29 ⟨p2, D2, rfl, q4, fun c o hc hcD => hk4 c o (keep3 c o hc) hcD (fun h => by rw [hfd c h] at hc; cases hc), fun c hc => ?_⟩
 rcases hin4 c hc with h | h | h
 ·exact .inl h
 ·exact .inr (hfd c h)
 ·exact .inr (none3 c h)
theorem zqcz {l : List UInt8} {d : Dc} (hq : ∀ j : Nat, l[j]? ≠ some 63) (hl : l.length ≤ 4096) (hr : zqce l = some d) {sig : List Dc} (hs : SigR sig) (ha : addT sig d = (0, 0)) {st s : St} {p : PV} {D : List Nat} (q0 : Rw st s 6 (sig.map decl) p D)
  {v6 v8 : Nat} (h6 : s v6 = some (.cells [p])) (h8 : s v8 = some (.cells [.str l])) (h6D : v6 ∉ D) (h6s : st v6 = none) (bb : Nat) (hbb : s bb = none) :
  zq5 prog n_impl_ReadSig_1 [.ptr v6 0, .ptr v8 0] (upd s bb (.cells [.int .i64 0, .int .i64 0])) (Caught ty_impl_halt bb (fun c p s0 => c = 0 ∧ p = 0 ∧ ∃ p' D', s0 v6 = some (.cells [p']) ∧ Rw st s0 6 ((sig ++ [d]).map decl) p' D' ∧ (∀ c o, s c = some o → c ∉ D → c ≠ v6 → s0 c = some o) ∧ (∀ c, c ∈ D' → c ∈ D ∨ s c = none))) := by
 apply zqig
 unfold zq9o
 have n6 : v6 ≠ bb := fun e => by rw [e, hbb] at h6; cases h6
 have n8 : v8 ≠ bb := fun e => by rw [e, hbb] at h8; cases h8
 have f6 : upd s bb (.cells [.int .i64 0, .int .i64 0]) v6 = some (.cells [p]) := by rw [zq7 _ _ n6]; exact h6
 have f8 : upd s bb (.cells [.int .i64 0, .int .i64 0]) v8 = some (.cells [.str l]) := by rw [zq7 _ _ n8]; exact h8
 have hpA : p.isAgg = false := by rcases Th.row.1 q0.th with ⟨_, ⟨_, _, rfl⟩, _⟩ | ⟨_, _, _, _, rfl, _⟩ <;> rfl
 try simp [zq6 f6, zq6 f8, zq60 hpA]
 refine zq15 (zqgc hq hl hr hs ha (q0.put hbb _)) (fun p' s1 h => ?_) (fun q s1 h => by obtain ⟨_, _, h, _⟩ := h; cases h)
 obtain ⟨q, D', h, q1, hk, hin⟩ := h
 injection h with h
 subst h
 have hbD : bb ∉ D := fun h => by obtain ⟨o, ho⟩ := q0.live h; rw [hbb] at ho; cases ho
 have g6 := hk v6 _ f6 h6D
 have gb := hk bb _ (zq2 _ _ _) hbD
 have hpc : p'.cellOK = true ∧ p'.ncells = 1 ∧ p'.isJunk = false ∧ p'.cells = [p'] := by rcases Th.row.1 q1.th with ⟨_, ⟨_, _, rfl⟩, _⟩ | ⟨_, _, _, _, rfl, _⟩ <;> exact ⟨rfl, rfl, rfl, rfl⟩
 obtain ⟨c1, c2, c3, c4⟩ := hpc
 have hb' : ∀ c ∈ D', c ≠ bb ∧ c ≠ v6 := fun c hc => by
  rcases hin c hc with h | h
  ·exact ⟨fun e => hbD (e ▸ h), fun e => h6D (e ▸ h)⟩
  ·exact ⟨fun e => (by rw [e, zq2] at h; cases h), fun e => (by rw [e, f6] at h; cases h)⟩
 rw [zqh _ _ _ _ _ _ _ g6]
 try simp [c1, c2, c3, c4, zqg]
 have nb6 : bb ≠ v6 := Ne.symm n6
 refine zq29 ⟨del (upd s1 v6 (.cells [p'])) bb, zq6q _ _, ?_, .inl ⟨rfl, rfl, rfl, p', ?_, D', ?_, fun c o hc hcD hc6 => ?_, fun c hc => ?_⟩⟩
 ·funext c
  by_cases e : c = bb
  ·rw [e, zq2, zq7 _ _ nb6]; exact gb
  ·rw [zq7 _ _ e, zq5k _ e]
 ·rw [zq5k _ n6]; exact zq2 _ _ _
 ·rw [show List.map decl sig ++ [decl d] = (sig ++ [d]).map decl by simp]
  refine q1.frame (fun c hc => by rw [zq5k _ (hb' c hc).1, zq7 _ _ (hb' c hc).2]) (fun c o hc => ?_)
  have e1 : c ≠ v6 := fun e => by rw [e, h6s] at hc; cases hc
  have e2 : c ≠ bb := fun e => by rw [e, q0.sub.isNone hbb] at hc; cases hc
  rw [zq5k _ e2, zq7 _ _ e1]
  exact q1.sub c o hc
 ·have e2 : c ≠ bb := fun e => by rw [e, hbb] at hc; cases hc
  rw [zq5k _ e2, zq7 _ _ hc6]
  exact hk c o (by rw [zq7 _ _ e2]; exact hc) hcD
 ·rcases hin c hc with h | h
  ·exact .inl h
  ·by_cases e : c = bb
   ·exact .inr (by rw [e]; exact hbb)
   ·rw [zq7 _ _ e] at h; exact .inr h
end Go.H.Tryz
set_option linter.unusedVariables false
set_option linter.unusedSimpArgs false
namespace Go.H.Tryz
open Go Go.H

def readL : Nat → List UInt8 → List Dc → Option (List Dc)
 | 0, _, _ => none
 | n + 1, t, sig =>
   if t.isEmpty then some sig else
   match saysT (zq2y (zq1r t).1) with
   | false => readL n (zq1r t).2 sig
   | true => if (zq2y (zq1r t).1).length ≤ 4096 then
      match zqce (zq2y (zq1r t).1) with
      | some d => if (addT sig d).1 = 0 ∧ (addT sig d).2 = 0 then readL n (zq1r t).2 (sig ++ [d]) else none
      | none => none
     else none
theorem noQ_take {l : List UInt8} (hq : ∀ j : Nat, l[j]? ≠ some 63) (n : Nat) : ∀ j : Nat, (l.take n)[j]? ≠ some 63 := fun j => by
 rw [List.getElem?_take]; split
 ·exact hq j
 ·simp
theorem noQ_line {l : List UInt8} (hq : ∀ j : Nat, l[j]? ≠ some 63) : (∀ j : Nat, (zq1r l).1[j]? ≠ some 63) ∧ ∀ j : Nat, (zq1r l).2[j]? ≠ some 63 := by
 unfold zq1r
 split
 ·exact ⟨noQ_take hq _, drop_noQ hq _⟩
 ·exact ⟨hq, fun j => by simp⟩
theorem noQ_bare {l : List UInt8} (hq : ∀ j : Nat, l[j]? ≠ some 63) : ∀ j : Nat, (zq2y l)[j]? ≠ some 63 := by
 unfold zq2y
 split
 ·exact noQ_take hq _
 ·exact hq
theorem lineOf_le (t : List UInt8) : (zq1r t).1.length ≤ t.length ∧ (zq1r t).2.length ≤ t.length := by
 unfold zq1r
 split
 ·simp only [List.length_take, List.length_drop]; omega
 ·simp
theorem bareLine_le (t : List UInt8) : (zq2y t).length ≤ t.length := by
 unfold zq2y
 split
 ·simp only [List.length_take]; omega
 ·omega
structure LI (st : St) (v2 v3 v4 v5 v6 v7 b : Nat) (sig : List Dc) (p : PV) (D : List Nat) (k : Nat) (s : St) : Prop where
 right : SigR sig
 row : Rw st s 6 (sig.map decl) p D
 e2 : s v2 = some (.cells [.sl 0 true []])
 e3 : s v3 = some (.cells [.int .i64 0])
 e4 : s v4 = some (.cells [.int .i64 0])
 e5 : s v5 = some (.cells [.int .i64 0])
 e6 : s v6 = some (.cells [p])
 e7 : s v7 = some (.cells [.int .i64 k])
 out : ∀ v ∈ [v2, v3, v4, v5, v6, v7, b], v ∉ D
section
variable {st s : St} {v2 v3 v4 v5 v6 v7 b : Nat} {sig : List Dc} {p : PV} {D : List Nat} {k : Nat}
theorem LI.upd (h : LI st v2 v3 v4 v5 v6 v7 b sig p D k s) {c : Nat} (hc : c ∉ [v2, v3, v4, v5, v6, v7]) (hD : c ∉ D) (hst : st c = none) (o : HObj) :
  LI st v2 v3 v4 v5 v6 v7 b sig p D k (Go.H.upd s c o) := by
 simp only [List.mem_cons, List.not_mem_nil, or_false, not_or] at hc
 obtain ⟨c2, c3, c4, c5, c6, c7⟩ := hc
 exact ⟨h.right, h.row.frame (fun d hd => zq7 _ _ (fun e => hD (e ▸ hd))) (h.row.sub.put hst), by rw [zq7 _ _ (Ne.symm c2)]; exact h.e2, by rw [zq7 _ _ (Ne.symm c3)]; exact h.e3, by rw [zq7 _ _ (Ne.symm c4)]; exact h.e4,
  by rw [zq7 _ _ (Ne.symm c5)]; exact h.e5, by rw [zq7 _ _ (Ne.symm c6)]; exact h.e6, by rw [zq7 _ _ (Ne.symm c7)]; exact h.e7, h.out⟩
theorem LI.del (h : LI st v2 v3 v4 v5 v6 v7 b sig p D k s) {c : Nat} (hc : c ∉ [v2, v3, v4, v5, v6, v7]) (hD : c ∉ D) (hst : st c = none) :
  LI st v2 v3 v4 v5 v6 v7 b sig p D k (Go.H.del s c) := by
 simp only [List.mem_cons, List.not_mem_nil, or_false, not_or] at hc
 obtain ⟨c2, c3, c4, c5, c6, c7⟩ := hc
 exact ⟨h.right, h.row.frame (fun d hd => zq5k _ (fun e => hD (e ▸ hd))) (fun d o hd => by
   have : d ≠ c := fun e => by rw [e, hst] at hd; cases hd
   rw [zq5k _ this]; exact h.row.sub d o hd), by rw [zq5k _ (Ne.symm c2)]; exact h.e2, by rw [zq5k _ (Ne.symm c3)]; exact h.e3, by rw [zq5k _ (Ne.symm c4)]; exact h.e4,
  by rw [zq5k _ (Ne.symm c5)]; exact h.e5, by rw [zq5k _ (Ne.symm c6)]; exact h.e6, by rw [zq5k _ (Ne.symm c7)]; exact h.e7, h.out⟩
theorem LI.count (h : LI st v2 v3 v4 v5 v6 v7 b sig p D k s) (hn : v2 ≠ v7 ∧ v3 ≠ v7 ∧ v4 ≠ v7 ∧ v5 ≠ v7 ∧ v6 ≠ v7) (hst : st v7 = none) : LI st v2 v3 v4 v5 v6 v7 b sig p D (k + 1) (Go.H.upd s v7 (.cells [.int .i64 ((k : Int) + 1)])) := by
 obtain ⟨c2, c3, c4, c5, c6⟩ := hn
 have hD := h.out v7 (by simp)
 exact ⟨h.right, h.row.frame (fun d hd => zq7 _ _ (fun e => hD (e ▸ hd))) (h.row.sub.put hst), by rw [zq7 _ _ c2]; exact h.e2, by rw [zq7 _ _ c3]; exact h.e3, by rw [zq7 _ _ c4]; exact h.e4,
  by rw [zq7 _ _ c5]; exact h.e5, by rw [zq7 _ _ c6]; exact h.e6, by rw [zq2]; simp, h.out⟩
theorem LI.grow (h : LI st v2 v3 v4 v5 v6 v7 b sig p D k s) (hn : v2 ≠ v6 ∧ v3 ≠ v6 ∧ v4 ≠ v6 ∧ v5 ≠ v6 ∧ v7 ≠ v6) (hb : ∃ o, s b = some o) {sig2 : List Dc} {p2 : PV} {D2 : List Nat} {s2 : St} (hr : SigR sig2) (hrow : Rw st s2 6 (sig2.map decl) p2 D2) (e6 : s2 v6 = some (.cells [p2]))
  (hk : ∀ c o, s c = some o → c ∉ D → c ≠ v6 → s2 c = some o) (hin : ∀ c, c ∈ D2 → c ∈ D ∨ s c = none) : LI st v2 v3 v4 v5 v6 v7 b sig2 p2 D2 k s2 := by
 obtain ⟨c2, c3, c4, c5, c7⟩ := hn
 have o := h.out
 simp only [List.forall_mem_cons] at o
 obtain ⟨o2, o3, o4, o5, o6, o7, ob, _⟩ := o
 refine ⟨hr, hrow, hk _ _ h.e2 o2 c2, hk _ _ h.e3 o3 c3, hk _ _ h.e4 o4 c4, hk _ _ h.e5 o5 c5, e6, hk _ _ h.e7 o7 c7, fun v hv hd => ?_⟩
 rcases hin v hd with h1 | h1
 ·exact h.out v hv h1
 ·simp only [List.mem_cons, List.not_mem_nil, or_false] at hv
  obtain ⟨ob', hob⟩ := hb
  rcases hv with rfl | rfl | rfl | rfl | rfl | rfl | rfl
  ·rw [h.e2] at h1; cases h1
  ·rw [h.e3] at h1; cases h1
  ·rw [h.e4] at h1; cases h1
  ·rw [h.e5] at h1; cases h1
  ·rw [h.e6] at h1; cases h1
  ·rw [h.e7] at h1; cases h1
  ·rw [hob] at h1; cases h1
theorem LI.new (h : LI st v2 v3 v4 v5 v6 v7 b sig p D k s) {c : Nat} (hc : s c = none) : c ∉ [v2, v3, v4, v5, v6, v7] ∧ c ∉ D ∧ st c = none := by
 refine ⟨fun hm => ?_, fun hd => ?_, h.row.sub.isNone hc⟩
 ·simp only [List.mem_cons, List.not_mem_nil, or_false] at hm
  rcases hm with rfl | rfl | rfl | rfl | rfl | rfl
  ·rw [h.e2] at hc; cases hc
  ·rw [h.e3] at hc; cases hc
  ·rw [h.e4] at hc; cases hc
  ·rw [h.e5] at hc; cases hc
  ·rw [h.e6] at hc; cases hc
  ·rw [h.e7] at hc; cases hc
 ·obtain ⟨o, ho⟩ := h.row.live hd; rw [ho] at hc; cases hc
theorem LI.apart (h : LI st v2 v3 v4 v5 v6 v7 b sig p D k s) {c : Nat} (hc : s c = none ∨ ∃ e r, s c = some (.loop e r)) : c ∉ [v2, v3, v4, v5, v6, v7] ∧ c ∉ D := by
 rcases hc with hc | ⟨e, r, hc⟩
 ·exact ⟨(h.new hc).1, (h.new hc).2.1⟩
 ·refine ⟨fun hm => ?_, fun hd => ?_⟩
  ·simp only [List.mem_cons, List.not_mem_nil, or_false] at hm
   rcases hm with rfl | rfl | rfl | rfl | rfl | rfl
   ·rw [h.e2] at hc; cases hc
   ·rw [h.e3] at hc; cases hc
   ·rw [h.e4] at hc; cases hc
   ·rw [h.e5] at hc; cases hc
   ·rw [h.e6] at hc; cases hc
   ·rw [h.e7] at hc; cases hc
  ·obtain ⟨o, ho, hso⟩ := h.row.th.solid.2 _ hd
   rw [hc] at ho; cases ho; cases hso
end
theorem zqit (t : List UInt8) (st : St) : zq5 prog n_strings_Lines [.str t] st (fun r s => ∃ b, st b = none ∧ r = .ret (.fn (.func n_strings_Lines_1) [] [.ptr b 0]) ∧ s = upd st b (.cells [.str t])) := by
 apply zqjb
 unfold zqam
 refine zq2a rfl fun b hb => ?_
 exact zq29 ⟨b, hb, rfl, rfl⟩
theorem zqge {t : List UInt8} {sigF : List Dc} {n : Nat} (hq : ∀ j : Nat, t[j]? ≠ some 63) (ht : t.length ≤ 65536) (hr : readL n t [] = some sigF) (st : St) :
  zq5 prog n_impl_ReadSig [.str t] st (Owns (.tup (zqa7 sigF :: [0, 0, 0].map (PV.int .i64))) st) := by
 apply zqmn
 unfold zqdz
 intro v2 hv2
 intro v3 hv3
 intro v4 hv4
 intro v5 hv5
 have n23 : v2 ≠ v3 := fun e => by rw [← e, zq2] at hv3; cases hv3
 have n34 : v3 ≠ v4 := fun e => by rw [← e, zq2] at hv4; cases hv4
 have n45 : v4 ≠ v5 := fun e => by rw [← e, zq2] at hv5; cases hv5
 have hv4a : upd st v2 (.cells [.sl 0 true []]) v4 = none := by rw [zq7 _ _ (Ne.symm n34)] at hv4; exact hv4
 have n24 : v2 ≠ v4 := fun e => by rw [← e, zq2] at hv4a; cases hv4a
 have hv5a : (upd (upd (upd st v2 (.cells [.sl 0 true []])) v3 (.cells [.int .i64 0])) v4 (.cells [.int .i64 0])) v5 = none := hv5
 rw [zq7 _ _ (Ne.symm n45)] at hv5a
 have n35 : v3 ≠ v5 := fun e => by rw [← e, zq2] at hv5a; cases hv5a
 rw [zq7 _ _ (Ne.symm n35)] at hv5a
 have n25 : v2 ≠ v5 := fun e => by rw [← e, zq2] at hv5a; cases hv5a
 have x2 : (upd (upd (upd (upd st v2 (.cells [.sl 0 true []])) v3 (.cells [.int .i64 0])) v4 (.cells [.int .i64 0])) v5 (.cells [.int .i64 0])) v2 = some (.cells [.sl 0 true []]) := by rw [zq7 _ _ n25, zq7 _ _ n24, zq7 _ _ n23]; exact zq2 _ _ _
 have x3 : (upd (upd (upd (upd st v2 (.cells [.sl 0 true []])) v3 (.cells [.int .i64 0])) v4 (.cells [.int .i64 0])) v5 (.cells [.int .i64 0])) v3 = some (.cells [.int .i64 0]) := by rw [zq7 _ _ n35, zq7 _ _ n34]; exact zq2 _ _ _
 have x4 : (upd (upd (upd (upd st v2 (.cells [.sl 0 true []])) v3 (.cells [.int .i64 0])) v4 (.cells [.int .i64 0])) v5 (.cells [.int .i64 0])) v4 = some (.cells [.int .i64 0]) := by rw [zq7 _ _ n45]; exact zq2 _ _ _
 have x5 := zq2 (upd (upd (upd st v2 (.cells [.sl 0 true []])) v3 (.cells [.int .i64 0])) v4 (.cells [.int .i64 0])) v5 (.cells [.int .i64 0])
 have hsub := ((((Sub.refl st).put (o := .cells [.sl 0 true []]) hv2).put (o := .cells [.int .i64 0]) (((Sub.refl st).put (o := .cells [.sl 0 true []]) hv2).isNone hv3)).put (o := .cells [.int .i64 0]) ((((Sub.refl st).put (o := .cells [.sl 0 true []]) hv2).put (o := .cells [.int .i64 0]) (((Sub.refl st).put (o := .cells [.sl 0 true []]) hv2).isNone hv3)).isNone hv4)).put (o := .cells [.int .i64 0]) (((((Sub.refl st).put (o := .cells [.sl 0 true []]) hv2).put (o := .cells [.int .i64 0]) (((Sub.refl st).put (o := .cells [.sl 0 true []]) hv2).isNone hv3)).put (o := .cells [.int .i64 0]) ((((Sub.refl st).put (o := .cells [.sl 0 true []]) hv2).put (o := .cells [.int .i64 0]) (((Sub.refl st).put (o := .cells [.sl 0 true []]) hv2).isNone hv3)).isNone hv4)).isNone hv5)
 have k2 := hv2
 have k3 : st v3 = none := ((Sub.refl st).put (o := .cells [.sl 0 true []]) hv2).isNone hv3
 have k4 : st v4 = none := ((Sub.refl st).put (o := .cells [.sl 0 true []]) hv2).isNone hv4a
 have k5 : st v5 = none := ((Sub.refl st).put (o := .cells [.sl 0 true []]) hv2).isNone hv5a
 clear hv3 hv4 hv5 hv4a hv5a hv2
 generalize (upd (upd (upd (upd st v2 (.cells [.sl 0 true []])) v3 (.cells [.int .i64 0])) v4 (.cells [.int .i64 0])) v5 (.cells [.int .i64 0])) = s at x2 x3 x4 x5 hsub
 try simp
 refine zq1 (zq91 t _) ?_
 try simp
 refine zql (fun h => by omega) (fun _ => ?_)
 try simp [zq24]
 intro v6 hv6
 intro v7 hv7
 have n67 : v6 ≠ v7 := fun e => by rw [← e, zq2] at hv7; cases hv7
 have hv7a := hv7
 rw [zq7 _ _ (Ne.symm n67)] at hv7a
 rw [zqh _ _ _ _ _ _ _ (by rw [zq7 _ _ n67]; exact zq2 _ _ _)]
 try simp
 rw [zqh _ _ _ _ _ _ _ (by rw [zq7 _ _ (Ne.symm n67)]; exact zq2 _ _ _)]
 try simp
 have y2 : s v2 = some (.cells [.sl 0 true []]) := x2
 have m6 : ∀ v o, s v = some o → v ≠ v6 := fun v o h e => by rw [e, hv6] at h; cases h
 have m7 : ∀ v o, s v = some o → v ≠ v7 := fun v o h e => by rw [e, hv7a] at h; cases h
 have look : ∀ v o, s v = some o → upd (upd (upd (upd s v6 (.cells [.sl 0 true []])) v7 (.cells [.int .i64 0])) v6 (.cells [.sl 6 true []])) v7 (.cells [.int .i64 0]) v = some o := fun v o h => by
  rw [zq7 _ _ (m7 v o h), zq7 _ _ (m6 v o h), zq7 _ _ (m7 v o h), zq7 _ _ (m6 v o h)]; exact h
 have w6 : upd (upd (upd (upd s v6 (.cells [.sl 0 true []])) v7 (.cells [.int .i64 0])) v6 (.cells [.sl 6 true []])) v7 (.cells [.int .i64 0]) v6 = some (.cells [.sl 6 true []]) := by rw [zq7 _ _ n67]; exact zq2 _ _ _
 have w7 := zq2 (upd (upd (upd s v6 (.cells [.sl 0 true []])) v7 (.cells [.int .i64 0])) v6 (.cells [.sl 6 true []])) v7 (.cells [.int .i64 0])
 have hsub2 : Sub st (upd (upd (upd (upd s v6 (.cells [.sl 0 true []])) v7 (.cells [.int .i64 0])) v6 (.cells [.sl 6 true []])) v7 (.cells [.int .i64 0])) := fun v o h => look v o (hsub v o h)
 have z2 := look _ _ x2
 have z3 := look _ _ x3
 have z4' := look _ _ x4
 have z5 := look _ _ x5
 have s26 := m6 _ _ x2
 have s36 := m6 _ _ x3
 have s46 := m6 _ _ x4
 have s56 := m6 _ _ x5
 have s27 := m7 _ _ x2
 have s37 := m7 _ _ x3
 have s47 := m7 _ _ x4
 have s57 := m7 _ _ x5
 have k6 : st v6 = none := hsub.isNone hv6
 have k7 : st v7 = none := hsub.isNone hv7a
 clear look m6 m7 x2 x3 x4 x5 hv6 hv7 hv7a hsub
 generalize upd (upd (upd (upd s v6 (.cells [.sl 0 true []])) v7 (.cells [.int .i64 0])) v6 (.cells [.sl 6 true []])) v7 (.cells [.int .i64 0]) = S at w6 w7 hsub2 z2 z3 z4' z5
 refine zq15 (zqit t S) (fun q S2 h => ?_) (fun q S2 h => by obtain ⟨_, _, h, _⟩ := h; cases h)
 obtain ⟨b, hb, h1, rfl⟩ := h
 injection h1 with h1
 subst h1
 have hI0 : LI st v2 v3 v4 v5 v6 v7 b [] (.sl 6 true []) [] 0 S := ⟨SigR.nil, Rw.start hsub2 6 6, z2, z3, z4', z5, w6, w7, by simp⟩
 obtain ⟨hb1, hb2, hb3⟩ := hI0.new hb
 have hI1 := hI0.upd hb1 hb2 hb3 (.cells [.str t])
 have eb := zq2 S b (.cells [.str t])
 generalize upd S b (.cells [.str t]) = s0 at hI1 eb
 refine range_lines eb (by omega) (fun rest s' => ∃ sig p D k n, LI st v2 v3 v4 v5 v6 v7 b sig p D k s' ∧ readL n rest sig = some sigF ∧ k + rest.length ≤ 1000000 ∧ ∀ j : Nat, rest[j]? ≠ some 63) ?_ ?_ ⟨_, _, _, _, _, hI1, hr, by omega, hq⟩ ?_ ?_
 ·rintro rest s' o ⟨sig, p, D, k, n, h, ho⟩
  exact ⟨sig, p, D, k, n, h.upd hb1 (h.out b (by simp)) hb3 o, ho⟩
 ·rintro l env r rest s' hl hl' ⟨sig, p, D, k, n, h, ho⟩
  obtain ⟨h1, h2⟩ := h.apart hl'
  exact ⟨sig, p, D, k, n, h.upd h1 h2 (hI1.row.sub.isNone hl) _, ho⟩
 ·rintro l env r1 r2 t' s' X hl hne hlen ⟨sig, p, D, k, n, h, hrd, hkn, hnq⟩ hsl hsb hX
  have hbl : b ≠ l := fun e => by rw [e, hsl] at hsb; cases hsb
  obtain ⟨hl6, hlD⟩ := h.apart (.inr ⟨_, _, hsl⟩)
  have hlst := hI1.row.sub.isNone hl
  have hb6 := hb1
  have hle := lineOf_le t'
  have hllt := lineOf_len hne
  have hbare := bareLine_le (zq1r t').1
  obtain ⟨hnq1, hnq2⟩ := noQ_line hnq
  have hnq3 := noQ_bare hnq1
  refine ⟨rfl, ?_⟩
  intro v8 hv8
  obtain ⟨h86, h8D, h8st⟩ := h.new hv8
  have n8l : v8 ≠ l := fun e => by rw [e, hsl] at hv8; cases hv8
  have n8b : v8 ≠ b := fun e => by rw [e, hsb] at hv8; cases hv8
  try simp
  have q1 := h.upd h86 h8D h8st (.cells [.str (zq1r t').1])
  have f8 := zq2 s' v8 (.cells [.str (zq1r t').1])
  have fl : upd s' v8 (.cells [.str (zq1r t').1]) l = some (.loop env r1) := by rw [zq7 _ _ (Ne.symm n8l)]; exact hsl
  have fb : upd s' v8 (.cells [.str (zq1r t').1]) b = some (.cells [.str (zq1r t').2]) := by rw [zq7 _ _ (Ne.symm n8b)]; exact hsb
  generalize upd s' v8 (.cells [.str (zq1r t').1]) = a1 at q1 f8 fl fb
  refine ⟨fl, ?_⟩
  have q2 := q1.upd hl6 hlD hlst (.loop env r2)
  have f8 : upd a1 l (.loop env r2) v8 = some (.cells [.str (zq1r t').1]) := by rw [zq7 _ _ n8l]; exact f8
  have fl := zq2 a1 l (.loop env r2)
  have fb : upd a1 l (.loop env r2) b = some (.cells [.str (zq1r t').2]) := by rw [zq7 _ _ hbl]; exact fb
  generalize upd a1 l (.loop env r2) = a2 at q2 f8 fl fb
  try simp [zq6 q2.e7]
  rw [zqh _ _ _ _ _ _ _ q2.e7]
  have hl6' := hl6
  have hb6' := hb6
  have h86' := h86
  simp only [List.mem_cons, List.not_mem_nil, or_false, not_or] at hl6 hb6 h86
  obtain ⟨l2, l3, l4, l5, l6, l7⟩ := hl6
  obtain ⟨b2, b3, b4, b5, b6, b7⟩ := hb6
  obtain ⟨g2, g3, g4, g5, g6, g7⟩ := h86
  rw [zqs (by omega) (by omega)]
  try simp
  have q3 := q2.count ⟨s27, s37, s47, s57, n67⟩ k7
  have f8 : upd a2 v7 (.cells [.int .i64 ((k : Int) + 1)]) v8 = some (.cells [.str (zq1r t').1]) := by rw [zq7 _ _ g7]; exact f8
  have fl : upd a2 v7 (.cells [.int .i64 ((k : Int) + 1)]) l = some (.loop env r2) := by rw [zq7 _ _ l7]; exact fl
  have fb : upd a2 v7 (.cells [.int .i64 ((k : Int) + 1)]) b = some (.cells [.str (zq1r t').2]) := by rw [zq7 _ _ b7]; exact fb
  generalize upd a2 v7 (.cells [.int .i64 ((k : Int) + 1)]) = a3 at q3 f8 fl fb
  try simp [zq6 f8]
  refine zq1 (zq8n _ (by omega) _) ?_
  rw [zqh _ _ _ _ _ _ _ f8]
  try simp
  have q4 := q3.upd h86' h8D h8st (.cells [.str (zq2y (zq1r t').1)])
  have f8' := zq2 a3 v8 (.cells [.str (zq2y (zq1r t').1)])
  have fl : upd a3 v8 (.cells [.str (zq2y (zq1r t').1)]) l = some (.loop env r2) := by rw [zq7 _ _ (Ne.symm n8l)]; exact fl
  have fb : upd a3 v8 (.cells [.str (zq2y (zq1r t').1)]) b = some (.cells [.str (zq1r t').2]) := by rw [zq7 _ _ (Ne.symm n8b)]; exact fb
  generalize upd a3 v8 (.cells [.str (zq2y (zq1r t').1)]) = a4 at q4 f8' fl fb
  try simp [zq6 f8']
  refine zq1 (h_impl_says _ (by omega) _) ?_
  cases n with
  | zero => cases hrd
  | succ n =>
  unfold readL at hrd
  rw [if_neg (by simpa using hne)] at hrd
  cases hsays : saysT (zq2y (zq1r t').1) with
  | false =>
    rw [hsays] at hrd
    try simp
    exact hX _ fl fb ⟨sig, p, D, k + 1, n, q4, hrd, by omega, hnq2⟩
  | true =>
    rw [hsays] at hrd
    simp only [] at hrd
    split at hrd
    rotate_left
    ·cases hrd
    rename_i hlen2
    split at hrd
    rotate_left
    ·cases hrd
    rename_i d hd
    split at hrd
    rotate_left
    ·cases hrd
    rename_i had
    have had : addT sig d = (0, 0) := Prod.ext had.1 had.2
    obtain ⟨hform, hnew, hlen40⟩ := addT_ok had
    try simp [zq6 f8']
    refine zql (fun h => by omega) (fun _ => ?_)
    refine zq15 (zq3q n_impl_ReadSig_1 _ _ _ (fun bb hbb => zqcz hnq3 hlen2 hd q4.right had q4.row q4.e6 f8' (q4.out v6 (by simp)) k6 bb hbb)) (fun q s2 h2 => ?_) (fun q s2 h2 => by obtain ⟨_, _, h, _⟩ := h2; cases h)
    obtain ⟨c, pl, h, rfl, rfl, p', D', e6, hrow, hkeep, hin⟩ := h2
    cases h
    have q5 := q4.grow ⟨s26, s36, s46, s56, Ne.symm n67⟩ ⟨_, fb⟩ (q4.right.snoc (by omega) hform hnew) hrow e6 hkeep hin
    have nb : ∀ c o, a4 c = some o → c ∉ D → c ≠ v6 → s2 c = some o := hkeep
    have fl5 := hkeep l _ fl hlD l6
    have fb5 := hkeep b _ fb (q4.out b (by simp)) b6
    intro v9 hv9
    obtain ⟨h96, h9D, h9st⟩ := q5.new hv9
    have n9l : v9 ≠ l := fun e => by rw [e, fl5] at hv9; cases hv9
    have n9b : v9 ≠ b := fun e => by rw [e, fb5] at hv9; cases hv9
    have q6 := q5.upd h96 h9D h9st (.cells [.int .i64 0, .int .i64 0])
    have f9 := zq2 s2 v9 (.cells [.int .i64 0, .int .i64 0])
    have fl6 : upd s2 v9 (.cells [.int .i64 0, .int .i64 0]) l = some (.loop env r2) := by rw [zq7 _ _ (Ne.symm n9l)]; exact fl5
    have fb6 : upd s2 v9 (.cells [.int .i64 0, .int .i64 0]) b = some (.cells [.str (zq1r t').2]) := by rw [zq7 _ _ (Ne.symm n9b)]; exact fb5
    try simp
    generalize upd s2 v9 (.cells [.int .i64 0, .int .i64 0]) = a6 at q6 f9 fl6 fb6
    try simp [zq6 f9]
    exact hX _ fl6 fb6 ⟨sig ++ [d], p', D', k + 1, n, q6, hrd, by omega, hnq2⟩
 ·rintro l env r s' hl hsl ⟨sig, p, D, k, n, h, hrd, hkn, hnq⟩
  have hrd : sig = sigF := by
   cases n with
   | zero => cases hrd
   | succ n => simpa [readL] using hrd
  subst hrd
  obtain ⟨h1, h2⟩ := h.apart (.inr ⟨_, _, hsl⟩)
  have q1 := h.del h1 h2 (hI1.row.sub.isNone hl)
  generalize del s' l = a1 at q1
  have hpc : p.cellOK = true ∧ p.ncells = 1 ∧ p.isJunk = false ∧ p.cells = [p] ∧ p.isAgg = false := by rcases Th.row.1 q1.row.th with ⟨_, ⟨_, _, rfl⟩, _⟩ | ⟨_, _, _, _, rfl, _⟩ <;> exact ⟨rfl, rfl, rfl, rfl, rfl⟩
  obtain ⟨c1, c2, c3, c4, c5⟩ := hpc
  try simp [zq6 q1.e6, zq60 c5]
  rw [zqh _ _ _ _ _ _ _ q1.e2]
  try simp [c1, c2, c3, c4, zqg]
  have o := q1.out
  simp only [List.forall_mem_cons] at o
  obtain ⟨o2, o3, o4, o5, o6, o7, ob, _⟩ := o
  have r1 : Rw st (upd a1 v2 (.cells [p])) 6 (sig.map decl) p D := q1.row.frame (fun d hd => zq7 _ _ (fun e => o2 (e ▸ hd))) (q1.row.sub.put k2)
  have a2 := zq2 a1 v2 (.cells [p])
  have a3 : upd a1 v2 (.cells [p]) v3 = some (.cells [.int .i64 0]) := by rw [zq7 _ _ (Ne.symm n23)]; exact q1.e3
  have a4 : upd a1 v2 (.cells [p]) v4 = some (.cells [.int .i64 0]) := by rw [zq7 _ _ (Ne.symm n24)]; exact q1.e4
  have a5 : upd a1 v2 (.cells [p]) v5 = some (.cells [.int .i64 0]) := by rw [zq7 _ _ (Ne.symm n25)]; exact q1.e5
  generalize upd a1 v2 (.cells [p]) = w1 at r1 a2 a3 a4 a5
  rw [zqh _ _ _ _ _ _ _ a3]
  try simp
  have r2 : Rw st (upd w1 v3 (.cells [.int .i64 0])) 6 (sig.map decl) p D := r1.frame (fun d hd => zq7 _ _ (fun e => o3 (e ▸ hd))) (r1.sub.put k3)
  have a2 : upd w1 v3 (.cells [.int .i64 0]) v2 = some (.cells [p]) := by rw [zq7 _ _ n23]; exact a2
  have a3 := zq2 w1 v3 (.cells [.int .i64 0])
  have a4 : upd w1 v3 (.cells [.int .i64 0]) v4 = some (.cells [.int .i64 0]) := by rw [zq7 _ _ (Ne.symm n34)]; exact a4
  have a5 : upd w1 v3 (.cells [.int .i64 0]) v5 = some (.cells [.int .i64 0]) := by rw [zq7 _ _ (Ne.symm n35)]; exact a5
  generalize upd w1 v3 (.cells [.int .i64 0]) = w2 at r2 a2 a3 a4 a5
  rw [zqh _ _ _ _ _ _ _ a4]
  try simp
  have r3 : Rw st (upd w2 v4 (.cells [.int .i64 0])) 6 (sig.map decl) p D := r2.frame (fun d hd => zq7 _ _ (fun e => o4 (e ▸ hd))) (r2.sub.put k4)
  have a2 : upd w2 v4 (.cells [.int .i64 0]) v2 = some (.cells [p]) := by rw [zq7 _ _ n24]; exact a2
  have a3 : upd w2 v4 (.cells [.int .i64 0]) v3 = some (.cells [.int .i64 0]) := by rw [zq7 _ _ n34]; exact a3
  have a4 := zq2 w2 v4 (.cells [.int .i64 0])
  have a5 : upd w2 v4 (.cells [.int .i64 0]) v5 = some (.cells [.int .i64 0]) := by rw [zq7 _ _ (Ne.symm n45)]; exact a5
  generalize upd w2 v4 (.cells [.int .i64 0]) = w3 at r3 a2 a3 a4 a5
  rw [zqh _ _ _ _ _ _ _ a5]
  try simp
  have r4 : Rw st (upd w3 v5 (.cells [.int .i64 0])) 6 (sig.map decl) p D := r3.frame (fun d hd => zq7 _ _ (fun e => o5 (e ▸ hd))) (r3.sub.put k5)
  have a2 : upd w3 v5 (.cells [.int .i64 0]) v2 = some (.cells [p]) := by rw [zq7 _ _ n25]; exact a2
  have a3 : upd w3 v5 (.cells [.int .i64 0]) v3 = some (.cells [.int .i64 0]) := by rw [zq7 _ _ n35]; exact a3
  have a4 : upd w3 v5 (.cells [.int .i64 0]) v4 = some (.cells [.int .i64 0]) := by rw [zq7 _ _ n45]; exact a4
  have a5 := zq2 w3 v5 (.cells [.int .i64 0])
  generalize upd w3 v5 (.cells [.int .i64 0]) = w4 at r4 a2 a3 a4 a5
  try simp [zq6 a2, zq6 a3, zq6 a4, zq6 a5, zq60 c5]
  exact Owns.tupInts [0, 0, 0] r4.nodup r4.th r4.fresh r4.sub
end Go.H.Tryz
set_option linter.unusedVariables false
set_option linter.unusedSimpArgs false
namespace Go.H.Tryz
open Go Go.H

theorem noQ_of {l : List UInt8} (h : l.all (fun c => !decide (c = 63)) = true) : ∀ j : Nat, l[j]? ≠ some 63 := fun j e => by
 have := List.all_eq_true.1 h 63 (List.mem_of_getElem? e)
 simp at this
theorem zqm2 {t : List UInt8} {sigF : List Dc} {n : Nat} (hq : t.all (fun c => !decide (c = 63)) = true) (ht : decide (t.length ≤ 65536) = true) (hr : readL n t [] = some sigF) (st : St) :
  zq5 prog n_impl_builtIn [.str t] st (Owns (zqa7 sigF) st) := by
 apply zqmj
 unfold zqdv
 refine zq4u (zqge (noQ_of hq) (of_decide_eq_true ht) hr st) fun p D s hD hT hf hs => ?_
 obtain ⟨q, rfl, hq⟩ := Th.tupInts_inv hT
 try simp [q_ex]
 exact Owns.ret hD hq hf (fun c o hc => by rw [hs c (fun h => by rw [hf c h] at hc; cases hc)]; exact hc)
theorem zqja (st : St) : zq5 prog n_impl_LogicSig [] st (Owns (zqa7 zq4c) st) := by
 apply zqk3
 unfold zqbe
 refine zq4u (zqm2 (sigF := zq4c) (n := 40) (by kernel_rfl) (by kernel_rfl) (by kernel_rfl) st) fun p D s hD hT hf hs => ?_
 exact Owns.ret hD hT hf (fun c o hc => by rw [hs c (fun h => by rw [hf c h] at hc; cases hc)]; exact hc)
end Go.H.Tryz
