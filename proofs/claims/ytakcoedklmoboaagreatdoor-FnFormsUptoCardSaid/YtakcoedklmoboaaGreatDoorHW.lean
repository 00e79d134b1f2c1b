/- Part of a proof that the program answers as the reference does: ZFC78, ZFC79, ZFC80, ZFC81, ZFC82, ZFC83. -/
import Derived.Test.YtakcoedklmoboaaGreatDoorHR
import Derived.Test.YtakcoedklmoboaaGreatDoorHE
import Derived.Test.YtakcoedklmoboaaGreatDoorHV
import Derived.Test.YtakcoedklmoboaaGreatDoorHM
/- Contracts: the program's ParseFamily, of a text that is right. -/
set_option linter.unusedVariables false
set_option linter.unusedSimpArgs false
namespace Go.H.Tryz
open Go Go.H

variable {st0 st : St} {b : Nat} {t : List UInt8} {sc : List (List UInt8)} {i nd : Nat}
def highP (t : Tr) (_ : Int) : Bool := decide (t.kind = 5) && decide (100 < t.n)
/-- What is read of a text that is the text of a family or kind without a context. -/
def readFam (t : List UInt8) : Option Tr := match pFam t (2 * t.length + 2) [] 0 0 with
  | .ok k i _ => if runE blank t i = t.length ∧ eachT highP k 0 = false then some k else none
  | .er _ _ => none
theorem h_impl_parser_end_1 (k : Tr) (d : Int) (st : St) : HCalls prog n_impl_parser_end_1 [.ref (tree k).cells, .int .i64 d] st (Just (.bool (highP k d)) st) := by
  apply c_impl_parser_end_1
  unfold b_impl_parser_end_1
  obtain ⟨v, hv⟩ : ∃ v, highP k d = v := ⟨_, rfl⟩
  rw [hv]
  unfold highP at hv
  try simp
  refine br_dec (fun h => ?_) (fun h => ?_)
  · rw [decide_eq_true h, Bool.true_and] at hv
    exact Just.bool hv
  · rw [decide_eq_false h, Bool.false_and] at hv
    exact Just.bool hv
theorem h_impl_parser_end {om : Bool} (hp : PS st0 st b t om sc i nd) (ht : t.length ≤ 1000000) (he : runE blank t i = t.length) (k : Tr) (hk : eachT highP k 0 = false) (hsz : k.size ≤ 1000000) : HCalls prog n_impl_parser_end [.ptr b 0, .sl 4 true [tree k]] st (PG st0 b t om sc (fun _ => PV.tup []) (.ok () t.length nd)) := by
  apply c_impl_parser_end
  unfold b_impl_parser_end
  have hN := h_impl_parser_next hp ht
  rw [he, byteP_none (List.getElem?_eq_none (Nat.le_refl _))] at hN
  refine callK_goes (β := Unit) hN fun s h => ?_
  try simp
  intro k1 hk1 _
  refine hk1 _ _ ?_
  try simp
  have hq0 : q_ia 4 (.sl 4 true [tree k]) (.int .i64 0) = some (.ref (tree k).cells) := by simp [q_ia]
  refine hFix_unroll ?_
  try simp [hq0]
  intro v5 hv5
  have hv50 := h.sub.isNone hv5
  try simp
  have h2 := h.beside (.cells (tree k).cells) hv5
  have e5 := upd_same s v5 (.cells (tree k).cells)
  have hdel : del (upd s v5 (.cells (tree k).cells)) v5 = s := del_upd _ _ _ hv5
  refine callK_conv (us' := [.ref (tree k).cells, .int .i64 0, .fn (.func n_impl_parser_end_1) [] []]) (st' := s) ?_ ?_
  · have := Conv.freezeVar e5
    rw [hdel] at this
    exact Conv.cons this (Conv.sub fun c o hc => ((Sub.refl s).put hv5) c o hc)
  refine callK_just (h_impl_Tree_each highP n_impl_parser_end_1 [] [] k 0 (by omega) (fun _ => True) (fun _ _ _ _ => trivial) trivial s (fun k d _ => by simpa using h_impl_parser_end_1 k d s)) ?_
  rw [hk]
  try simp
  rw [wrap64 (by omega) (by omega)]
  refine hFix_unroll ?_
  try simp
  exact PRes.ret h rfl
theorem h_impl_parserOf0 (t : List UInt8) (st : St) : HCalls prog n_impl_parserOf [.str t, .int .i64 0] st (fun r st' => ∃ b, st b = none ∧ r = .ret (.ptr b 0) ∧ st' = upd st b (.cells (pC t false 0 (.sl 0 true []) 0))) := by
  apply c_impl_parserOf
  unfold b_impl_parserOf
  rw [show q_struct [PV.str [], .int .i64 0, .sl 0 true [], .int .i64 0, .bool false] [(0, 1, .str t)] = some (.agg (pC t false 0 (.sl 0 true []) 0)) from rfl]
  simp only [qb_some]
  refine e_box_own rfl fun b hb => ?_
  refine hFix_unroll ?_
  try simp
  exact retR_same ⟨b, hb, rfl, rfl⟩
theorem HoleOK.none (hq : ∀ j : Nat, t[j]? ≠ some 63) (om : Bool) : HoleOK b t om := fun _ _ _ j _ _ h => absurd h (hq j)
theorem h_impl_parsed_1 {k : Tr} (hq : ∀ j : Nat, t[j]? ≠ some 63) (ht : t.length ≤ 1000000) (hr : readFam t = some k) (v bb : Nat) (st : St) (hv : st v = some (.cells z4)) (hbb : st bb = none) :
    HCalls prog n_impl_parsed_1 [.ref [.str t], .ref [.int .i64 0], .ref [.fn (.func n_impl_parser_family) [] []], .ptr v 0] (upd st bb (.cells [.int .i64 0, .int .i64 0])) (Caught ty_impl_halt bb (fun c p s => c = 0 ∧ p = 0 ∧ s = upd st v (.cells (tree k).cells) ∧ k.size ≤ 1000)) := by
  apply c_impl_parsed_1
  unfold b_impl_parsed_1
  unfold readFam at hr
  split at hr
  rotate_left
  · cases hr
  rename_i k' i nd hpf
  split at hr
  rotate_left
  · cases hr
  rename_i hend
  cases hr
  have hbv : v ≠ bb := fun e => by rw [e, hbb] at hv; cases hv
  try simp
  refine callK_ptr (h_impl_parserOf0 t _) fun b hb => ?_
  try simp
  generalize hS : upd st bb (.cells [.int .i64 0, .int .i64 0]) = s0 at hb
  have hPS : PS s0 (upd s0 b (.cells (pC t false 0 (.sl 0 true []) 0))) b t false [] 0 0 := ⟨⟨_, upd_same _ _ _, .inl ⟨rfl, rfl⟩⟩, (Sub.refl _).put hb, hb, Nat.zero_le _, Nat.zero_le _, by simp⟩
  have hF := (fam_all (HoleOK.none hq false) ht (2 * t.length + 2)).1 _ _ _ _ _ hPS (by omega)
  rw [hpf] at hF
  have hsz := (pFam_size hpf).1
  refine callK_goes (β := Unit) hF fun s1 h1 => ?_
  have hfew := h1.few
  have ev : s0 v = some (.cells z4) := by rw [← hS, upd_ne _ _ hbv]; exact hv
  refine tree_store (vs := z4) (h1.sub v _ ev) rfl ?_
  have h2 := h1.turn ev (.cells (tree k).cells)
  have e2 := upd_same s1 v (.cells (tree k).cells)
  generalize upd s1 v (.cells (tree k).cells) = s2 at h2 e2
  try simp [q_load_p e2]
  refine callK_goes (β := Unit) (h_impl_parser_end h2 ht hend.1 k hend.2 (by omega)) fun s3 h3 => ?_
  refine retR_sub h3.sub ⟨upd st v (.cells (tree k).cells), by rw [upd_ne _ _ (Ne.symm hbv)]; exact hbb, ?_, .inl ⟨rfl, rfl, rfl, rfl, by omega⟩⟩
  rw [← hS, upd_comm _ _ _ hbv]
theorem h_impl_ParseFamily_ok {k : Tr} (hq : ∀ j : Nat, t[j]? ≠ some 63) (ht : t.length ≤ 65536) (hr : readFam t = some k) (st : St) : HCalls prog n_impl_ParseFamily [.str t, .int .i64 0] st (Owns (.tup (tree k :: [0, 0].map (PV.int .i64))) st) := by
  apply c_impl_ParseFamily
  unfold b_impl_ParseFamily
  intro v4 hv4
  have e4 := upd_same st v4 (.cells [.int .i64 0, .int .i64 0, .str [], .sl 0 true []])
  have hsub4 := (Sub.refl st).put (o := .cells [.int .i64 0, .int .i64 0, .str [], .sl 0 true []]) hv4
  generalize upd st v4 (.cells [.int .i64 0, .int .i64 0, .str [], .sl 0 true []]) = s at e4 hsub4
  have hparsed : HCalls prog n_impl_parsed [.str t, .int .i64 0, .fn (.func n_impl_parser_family) [] []] s (Owns (.tup (tree k :: [0, 0].map (PV.int .i64))) s) := by
    apply c_impl_parsed
    unfold b_impl_parsed
    refine e_box_ref rfl ?_
    refine e_box_ref rfl ?_
    refine e_box_ref rfl ?_
    intro v6 hv6
    try simp
    refine callK_just (h_impl_longText0 t _) ?_
    try simp
    refine br_dec (fun h => by omega) (fun _ => ?_)
    refine callK_just (h_impl_in 0 0 100 _) ?_
    try simp
    rw [show q_struct [PV.int IntKind.i64 0, PV.int IntKind.i64 0, PV.str [], PV.sl 0 true []] [] = some (.agg z4) from rfl]
    simp only [qb_some]
    intro v9 hv9
    rw [e_store_p _ _ _ _ _ _ _ (upd_same _ _ _)]
    have ez : setRange z4 0 (PV.agg z4).cells = z4 := rfl
    have ez' : setRange [PV.int IntKind.i64 0, PV.int IntKind.i64 0, PV.str [], PV.sl 0 true []] 0 (PV.agg z4).cells = z4 := rfl
    rw [ez', upd_upd]
    rw [if_pos ⟨rfl, rfl, rfl⟩, if_pos (by decide)]
    have e6 : upd s v6 (.cells z4) v6 = some (.cells z4) := upd_same _ _ _
    have hsub6 := (Sub.refl s).put (o := .cells z4) hv6
    have hv9' : upd s v6 (.cells z4) v9 = none := hv9
    show callK prog n_impl_caught _ (upd (upd s v6 (.cells z4)) v9 (.cells z4)) _ _
    generalize upd s v6 (.cells z4) = s1 at e6 hsub6 hv9'
    have h69 : v6 ≠ v9 := fun e => by rw [e, hv9'] at e6; cases e6
    refine callK_of (h_impl_caught n_impl_parsed_1 _ _ (fun c p s' => c = 0 ∧ p = 0 ∧ s' = upd (upd s1 v9 (.cells z4)) v9 (.cells (tree k).cells) ∧ k.size ≤ 1000) (fun bb hbb => h_impl_parsed_1 hq (by omega) hr v9 bb _ (upd_same _ _ _) hbb)) (fun q s2 h2 => ?_) (fun q s2 h2 => by obtain ⟨_, _, h, _⟩ := h2; cases h)
    obtain ⟨c, p, h, rfl, rfl, rfl, hsz⟩ := h2
    cases h
    rw [upd_upd]
    intro v10 hv10
    try simp
    try simp [q_load_p (upd_same _ _ _)]
    have h910 : v9 ≠ v10 := fun e => by rw [← e, upd_same] at hv10; cases hv10
    have e9 : upd (upd s1 v9 (.cells (tree k).cells)) v10 (.cells [.int .i64 0, .int .i64 0]) v9 = some (.cells (tree k).cells) := by rw [upd_ne _ _ h910]; exact upd_same _ _ _
    have e6' : upd (upd s1 v9 (.cells (tree k).cells)) v10 (.cells [.int .i64 0, .int .i64 0]) v6 = some (.cells z4) := by
      rw [upd_ne _ _ (fun e => by rw [← e, upd_ne _ _ h69] at hv10; rw [hv10] at e6; cases e6), upd_ne _ _ h69]
      exact e6
    have hsub10 : Sub s (upd (upd s1 v9 (.cells (tree k).cells)) v10 (.cells [.int .i64 0, .int .i64 0])) := by
      have a1 := hsub6.put (o := .cells (tree k).cells) (hsub6.isNone hv9')
      exact a1.put (a1.isNone hv10)
    generalize upd (upd s1 v9 (.cells (tree k).cells)) v10 (.cells [.int .i64 0, .int .i64 0]) = s3 at e9 e6' hsub10
    try simp [q_load_p e9]
    refine callK_owns (h_impl_clone_own k (by omega) s3) fun pt D s4 hD hT hf ho => ?_
    obtain ⟨q, rfl, hTq⟩ := Th.tree.1 hT
    obtain ⟨c1, c2, c3, c4⟩ := th_row_cell hTq
    have keep : ∀ c o, s3 c = some o → s4 c = some o := fun c o hc => by
      rw [ho c (fun h => by rw [hf c h] at hc; cases hc)]; exact hc
    have f6 := keep _ _ e6'
    rw [e_store_p _ _ _ _ _ _ _ f6]
    try simp [z4, c1, c2, c3, c4, setRange]
    try simp [q_load_p (upd_same _ _ _)]
    have hnD : ∀ c ∈ D, c ≠ v6 := fun c hc e => by rw [e] at hc; rw [hf v6 hc] at e6'; cases e6'
    refine Owns.tupInts [0, 0] hD (Th.tree.2 ⟨q, rfl, hTq.frame _ _ _ fun c hc => upd_ne _ _ (hnD c hc)⟩) (fun c hc => hsub10.isNone (hf c hc)) ((hsub10.trans keep).put hv6)
  refine callK_owns hparsed fun p D s2 hD hT hf ho => ?_
  obtain ⟨pt, rfl, hTt⟩ := Th.tupInts_inv hT
  obtain ⟨q, rfl, hTq⟩ := Th.tree.1 hTt
  obtain ⟨c1, c2, c3, c4⟩ := th_row_cell hTq
  have keep : ∀ c o, s c = some o → s2 c = some o := fun c o hc => by
    rw [ho c (fun h => by rw [hf c h] at hc; cases hc)]; exact hc
  have f4 := keep _ _ e4
  simp only [List.map_cons, List.map_nil]
  try simp
  rw [e_store_p _ _ _ _ _ _ _ f4]
  try simp [c1, c2, c3, c4, setRange]
  try simp [q_load_p (upd_same _ _ _)]
  have hnD : ∀ c ∈ D, c ≠ v4 := fun c hc e => by rw [e] at hc; rw [hf v4 hc] at e4; cases e4
  exact Owns.tupInts [0, 0] hD (Th.tree.2 ⟨q, rfl, hTq.frame _ _ _ fun c hc => upd_ne _ _ (hnD c hc)⟩) (fun c hc => hsub4.isNone (hf c hc)) ((hsub4.trans keep).put hv4)
end Go.H.Tryz
/- Contracts: lines of the program's; a declaration read off a line. -/
set_option linter.unusedVariables false
set_option linter.unusedSimpArgs false
namespace Go.H.Tryz
open Go Go.H

theorem lblank_signs (c : UInt8) : decide (0 ≤ Lib.indexByte [32, 9, 13] c) = lblank c := by
  rw [Bool.eq_iff_iff, decide_eq_true_eq, (indexByte_neg c [32, 9, 13]).1]
  unfold lblank
  try simp [or_assoc]
theorem h_impl_blankEnd (l : List UInt8) (i : Nat) (hi : i ≤ l.length) (hl : l.length ≤ 1000000) (st : St) : HCalls prog n_impl_blankEnd [.str l, .int .i64 i] st (Just (.int .i64 (runE lblank l i)) st) := by
  apply c_impl_blankEnd
  unfold b_impl_blankEnd
  generalize hv : runE lblank l i = v
  refine hFix_rec (σ := Nat) (fun z => l.length - z) (fun z => [.int .i64 (z : Int)]) (fun _ => st) (fun z => z ≤ l.length ∧ runE lblank l z = v) ?_ i ⟨hi, hv⟩
  rintro j ⟨hj, he⟩ ih
  have fin : runE lblank l j = j → retR (Just (.int .i64 (v : Int)) st) (.int .i64 (j : Int)) st := fun e => Just.int (by rw [← he, e])
  try simp
  refine br_dec (fun h => ?_) (fun h => ?_)
  · have hj' : j < l.length := by omega
    rw [q_ix_at (List.getElem?_eq_getElem hj')]
    simp only [qb_some]
    refine callK_just (h_strings_IndexByte _ _ _) ?_
    try simp
    show br _ _ _
    rw [lblank_signs]
    refine br_of (fun hB => ?_) (fun hB => fin (runE_stop fun c hc => by rw [List.getElem?_eq_getElem hj'] at hc; cases hc; exact hB))
    rw [wrap64 (by omega) (by omega)]
    exact ih (j + 1) (by omega) ⟨by omega, by rw [← he, ← runE_step (List.getElem?_eq_getElem hj') hB]⟩
  · exact fin (runE_stop fun c hc => by rw [List.getElem?_eq_none (by omega)] at hc; cases hc)
theorem slice_from (l : List UInt8) (n : Nat) (hn : n ≤ l.length) : q_sliceS (.str l) (some (.int .i64 (n : Int))) none none = some (.str (l.drop n)) := by simp [q_sliceS, q_slice, optI, hn]
theorem slice_to (l : List UInt8) (n : Nat) (hn : n ≤ l.length) : q_sliceS (.str l) none (some (.int .i64 (n : Int))) none = some (.str (l.take n)) := by simp [q_sliceS, q_slice, optI, hn]
theorem h_HasSuffix (l : List UInt8) (hl : l.length ≤ 1000000) (st : St) : HCalls prog n_internal_stringslite_HasSuffix [.str l, .str [10]] st (Just (.bool (decide (1 ≤ l.length ∧ l.drop (l.length - 1) = [10]))) st) := by
  apply c_internal_stringslite_HasSuffix
  unfold b_internal_stringslite_HasSuffix
  obtain ⟨v, hv⟩ : ∃ v, decide (1 ≤ l.length ∧ l.drop (l.length - 1) = [10]) = v := ⟨_, rfl⟩
  rw [hv]
  try simp
  refine br_dec (fun h => ?_) (fun h => ?_)
  · rw [wrap64 (by omega) (by omega)]
    have e : q_sliceS (.str l) (some (.int .i64 ((l.length : Int) - 1))) none none = some (.str (l.drop (l.length - 1))) := by
      have e1 : ((l.length : Int) - 1) = ((l.length - 1 : Nat) : Int) := by omega
      rw [e1]
      exact slice_from l _ (by omega)
    rw [e]
    try simp
    refine Just.bool ?_
    rw [← hv]
    congr 1
    exact propext ⟨fun h => ⟨by omega, h⟩, fun h => h.2⟩
  · exact Just.bool (by rw [← hv]; exact (decide_eq_false (by omega)).symm)
theorem h_strings_TrimSuffix_nl (l : List UInt8) (hl : l.length ≤ 1000000) (st : St) : HCalls prog n_strings_TrimSuffix [.str l, .str [10]] st (Just (.str (bareLine l)) st) := by
  apply c_strings_TrimSuffix
  unfold b_strings_TrimSuffix
  have h1 : HCalls prog n_internal_stringslite_TrimSuffix [.str l, .str [10]] st (Just (.str (bareLine l)) st) := by
    apply c_internal_stringslite_TrimSuffix
    unfold b_internal_stringslite_TrimSuffix
    obtain ⟨v, hv⟩ : ∃ v, bareLine l = v := ⟨_, rfl⟩
    rw [hv]
    unfold bareLine at hv
    refine callK_just (h_HasSuffix l hl _) ?_
    simp only [cb]
    refine br_dec (fun h => ?_) (fun h => ?_)
    · rw [if_pos h] at hv
      try simp
      rw [wrap64 (by omega) (by omega)]
      have e : q_sliceS (.str l) none (some (.int .i64 ((l.length : Int) - 1))) none = some (.str (l.take (l.length - 1))) := by
        have e1 : ((l.length : Int) - 1) = ((l.length - 1 : Nat) : Int) := by omega
        rw [e1]
        exact slice_to l _ (by omega)
      rw [e, hv]
      exact Just.ret (Sub.refl _)
    · rw [if_neg h] at hv
      rw [hv]
      exact Just.ret (Sub.refl _)
  exact callK_just h1 (Just.ret (Sub.refl _))
theorem h_impl_says (l : List UInt8) (hl : l.length ≤ 1000000) (st : St) : HCalls prog n_impl_says [.str l] st (Just (.bool (saysT l)) st) := by
  apply c_impl_says
  unfold b_impl_says
  obtain ⟨v, hv⟩ : ∃ v, saysT l = v := ⟨_, rfl⟩
  rw [hv]
  unfold saysT at hv
  refine callK_just (h_impl_blankEnd l 0 (Nat.zero_le _) hl _) ?_
  generalize runE lblank l 0 = j at hv
  try simp
  refine br_dec (fun h => ?_) (fun h => ?_)
  · have hj : j < l.length := by omega
    have hj' := List.getElem?_eq_getElem hj
    rw [hj'] at hv
    rw [q_ix_at hj']
    try simp
    refine Just.bool ?_
    rw [← hv]
    simp only
    congr 1
    exact decide_eq_decide.2 ⟨fun h => UInt8.toNat_inj.1 (by have : (37 : UInt8).toNat = 37 := rfl; omega), fun h => by rw [h]; rfl⟩
  · rw [List.getElem?_eq_none (by omega)] at hv
    exact Just.bool hv
/-- A declaration read off a line that is right. -/
def readDeclT (l : List UInt8) : Option Dc :=
  if nameOK (cut l (runE lblank l 0) (runE wordC l (runE lblank l 0))) = true ∧ l[runE lblank l (runE wordC l (runE lblank l 0))]? = some 58 then
    match readFam (l.drop (runE lblank l (runE wordC l (runE lblank l 0)) + 1)) with
    | some k => some ⟨cut l (runE lblank l 0) (runE wordC l (runE lblank l 0)), isKindT k, k⟩
    | none => none
  else none
theorem readFam_spine {t : List UInt8} {k : Tr} (h : readFam t = some k) : spineB k = true := by
  unfold readFam at h
  split at h
  · rename_i hpf
    split at h
    · cases h; exact (pFam_size hpf).2
    · cases h
  · cases h
theorem drop_noQ {l : List UInt8} (hq : ∀ j : Nat, l[j]? ≠ some 63) (n : Nat) : ∀ j : Nat, (l.drop n)[j]? ≠ some 63 := fun j => by
  rw [List.getElem?_drop]
  exact hq _
theorem h_impl_readDecl_ok {l : List UInt8} {d : Dc} (hq : ∀ j : Nat, l[j]? ≠ some 63) (hl : l.length ≤ 4096) (hr : readDeclT l = some d) (st : St) : HCalls prog n_impl_readDecl [.str l] st (Owns (decl d) st) := by
  apply c_impl_readDecl
  unfold b_impl_readDecl
  unfold readDeclT at hr
  split at hr
  rotate_left
  · cases hr
  rename_i hc
  obtain ⟨hname, hcol⟩ := hc
  have hfl := runE_le lblank l (i := 0) (Nat.zero_le _)
  generalize hfr : runE lblank l 0 = fr at hr hname hcol hfl
  have htl := runE_le wordC l hfl
  have hft := runE_ge wordC l fr
  generalize hto : runE wordC l fr = to at hr hname hcol htl hft
  have hcl := runE_le lblank l htl
  generalize hco : runE lblank l to = co at hr hcol hcl
  have hcolt := (List.getElem?_eq_some_iff.1 hcol).1
  split at hr
  rotate_left
  · cases hr
  rename_i k hk
  cases hr
  intro v2 hv2
  have e2 := upd_same st v2 (.cells [.str [], .bool false, .int .i64 0, .int .i64 0, .str [], .sl 0 true []])
  have hsub2 := (Sub.refl st).put (o := .cells [.str [], .bool false, .int .i64 0, .int .i64 0, .str [], .sl 0 true []]) hv2
  generalize upd st v2 (.cells [.str [], .bool false, .int .i64 0, .int .i64 0, .str [], .sl 0 true []]) = s at e2 hsub2
  refine callK_just (h_impl_blankEnd l 0 (Nat.zero_le _) (by omega) _) ?_
  rw [hfr]
  intro k0 hk0 _
  -- the word
  refine hFix_rec (σ := Nat) (fun z => l.length - z) (fun z => [.int .i64 (z : Int)]) (fun _ => s) (fun z => z ≤ l.length ∧ runE wordC l z = to) ?_ fr ⟨hfl, hto⟩
  rintro j ⟨hj, he⟩ ih
  have fin : runE wordC l j = j → k0 [.int .i64 (j : Int)] s := fun e => by
    have hjt : j = to := by rw [← he, e]
    subst hjt
    refine hk0 _ _ ?_
    have e1 : q_sliceS (.str l) (some (.int .i64 (fr : Int))) (some (.int .i64 (j : Int))) none = some (.str (cut l fr j)) := by
      try simp [q_sliceS, q_slice, optI, cut]
      omega
    simp only [List.getD_cons_zero]
    rw [e1]
    simp only [qb_some]
    refine callK_just (h_impl_NameOK _ _) ?_
    rw [hname]
    try simp
    intro k1 hk1 _
    refine hk1 _ _ ?_
    refine callK_just (h_impl_blankEnd l j htl (by omega) _) ?_
    rw [hco]
    intro k2 hk2 _
    try simp
    refine br_dec (fun h => by omega) (fun _ => ?_)
    rw [q_ix_at hcol]
    try simp
    refine hk2 _ _ ?_
    try simp
    rw [wrap64 (by omega) (by omega)]
    have e3 : q_sliceS (.str l) (some (.int .i64 ((co : Int) + 1))) none none = some (.str (l.drop (co + 1))) := by
      exact slice_from l (co + 1) (by omega)
    rw [e3]
    simp only [qb_some]
    refine callK_owns (h_impl_ParseFamily_ok (drop_noQ hq _) (by rw [List.length_drop]; omega) hk _) fun p D s2 hD hT hf ho => ?_
    obtain ⟨pt, rfl, hTt⟩ := Th.tupInts_inv hT
    obtain ⟨q, rfl, hTq⟩ := Th.tree.1 hTt
    obtain ⟨c1, c2, c3, c4⟩ := th_row_cell hTq
    have keep : ∀ c o, s c = some o → s2 c = some o := fun c o hc => by
      rw [ho c (fun h => by rw [hf c h] at hc; cases hc)]; exact hc
    have f2 := keep _ _ e2
    simp only [List.map_cons, List.map_nil]
    try simp
    intro v6 hv6
    have hne : v2 ≠ v6 := fun e => by rw [e, hv6] at f2; cases f2
    try simp [c1, c2, c3, c4]
    intro k3 hk3 _
    refine hk3 _ _ ?_
    have live : ∀ c ∈ D, ∃ o, s2 c = some o := fun c hc => by obtain ⟨o, h1, _⟩ := (Ths.solid _ _ _ (Ths.one hTt)).2 c hc; exact ⟨o, h1⟩
    have hD6 : ∀ c ∈ D, c ≠ v6 := fun c hc e => by obtain ⟨o, h1⟩ := live c hc; rw [e, hv6] at h1; cases h1
    have hTt6 : Th (upd s2 v6 (.cells [.int .i64 k.kind, .int .i64 k.n, .str k.name, q])) (tree k) (.agg [.int .i64 k.kind, .int .i64 k.n, .str k.name, q]) D := hTt.frame _ _ _ fun c hc => upd_ne _ _ (hD6 c hc)
    have e6 := upd_same s2 v6 (.cells [.int .i64 k.kind, .int .i64 k.n, .str k.name, q])
    have f26 : upd s2 v6 (.cells [.int .i64 k.kind, .int .i64 k.n, .str k.name, q]) v2 = some (.cells [.str [], .bool false, .int .i64 0, .int .i64 0, .str [], .sl 0 true []]) := by rw [upd_ne _ _ hne]; exact f2
    have hsub6 : Sub st (upd s2 v6 (.cells [.int .i64 k.kind, .int .i64 k.n, .str k.name, q])) := (hsub2.trans keep).put ((hsub2.trans keep).isNone hv6)
    generalize upd s2 v6 (.cells [.int .i64 k.kind, .int .i64 k.n, .str k.name, q]) = s3 at e6 f26 hTt6 hsub6
    try simp [q_load_p e6]
    refine Go.H.callK_look (us' := [tree k]) (fun i p p' h1 h2 => ?_) rfl rfl (h_impl_isKind k (readFam_spine hk) noSt) ?_
    · match i with
      | 0 => cases h1; cases h2; exact .inr ⟨D, hTt6⟩
      | n + 1 => simp at h1
    try simp [q_load_p e6]
    have r0 : q_struct [PV.str [], .bool false, .int .i64 0, .int .i64 0, .str [], .sl 0 true []] [(0, 1, .str (cut l fr j)), (1, 1, .bool (isKindT k)), (2, 4, .agg [.int .i64 k.kind, .int .i64 k.n, .str k.name, q])] = some (.agg [.str (cut l fr j), .bool (isKindT k), .int .i64 k.kind, .int .i64 k.n, .str k.name, q]) := by
      try simp [q_struct, fillL, c1]
    rw [r0]
    simp only [qb_some]
    rw [e_store_p _ _ _ _ _ _ _ f26]
    try simp [c1, c2, c3, c4, setRange]
    try simp [q_load_p (upd_same _ _ _)]
    obtain ⟨q', hq', hTq'⟩ := Th.tree.1 hTt6
    simp only [PV.agg.injEq, List.cons.injEq, and_true, true_and] at hq'
    subst hq'
    have hD2 : ∀ c ∈ D, c ≠ v2 := fun c hc e => by rw [e] at hc; rw [hf v2 hc] at e2; cases e2
    refine Owns.ret hD (Th.decl.2 ⟨q, rfl, hTq'.frame _ _ _ fun c hc => upd_ne _ _ (hD2 c hc)⟩) (fun c hc => hsub2.isNone (hf c hc)) (hsub6.put hv2)
  try simp
  refine br_dec (fun h => ?_) (fun h => ?_)
  · have hj' : j < l.length := by omega
    rw [q_ix_at (List.getElem?_eq_getElem hj')]
    simp only [qb_some]
    refine callK_just (h_strings_IndexByte _ _ _) ?_
    try simp
    show br _ _ _
    have := word_run l[j]
    unfold wordSigns at this
    rw [this]
    refine br_of (fun hB => ?_) (fun hB => fin (runE_stop fun c hc => by rw [List.getElem?_eq_getElem hj'] at hc; cases hc; exact hB))
    rw [wrap64 (by omega) (by omega)]
    exact ih (j + 1) (by omega) ⟨by omega, by rw [← he, ← runE_step (List.getElem?_eq_getElem hj') hB]⟩
  · exact fin (runE_stop fun c hc => by rw [List.getElem?_eq_none (by omega)] at hc; cases hc)
end Go.H.Tryz
/- Contracts: a loop over a text's lines; a line's declaration behind a signature. -/
set_option linter.unusedVariables false
set_option linter.unusedSimpArgs false
namespace Go.H.Tryz
open Go Go.H

/-- A loop over a text's lines that ends by itself. -/
theorem range_lines {t : List UInt8} {s0 : St} {b : Nat} (hb0 : s0 b = some (.cells [.str t])) (ht : t.length ≤ 1000000) {round : List PV → St → (St → (St → Prop) → Prop) → (HExit → St → Prop) → Prop} {Qn : St → Prop} {Qj : List (HExit × (St → Prop))} (I : List UInt8 → St → Prop)
    (hIb : ∀ rest s o, I rest s → I rest (upd s b o)) (hIu : ∀ l env r rest s, s0 l = none → (s l = none ∨ ∃ env' r', s l = some (.loop env' r')) → I rest s → I rest (upd s l (.loop env r))) (h0 : I t s0)
    (hr : ∀ l env r1 r2 t' s X, s0 l = none → t' ≠ [] → t'.length ≤ 1000000 → I t' s → s l = some (.loop env r1) → s b = some (.cells [.str (lineOf t').2]) →
      (∀ s', s' l = some (.loop env r2) → s' b = some (.cells [.str (lineOf t').2]) → I (lineOf t').2 s' → X .normal s') → round [.str (lineOf t').1] s (beginJ l env r1 r2) X)
    (hn : ∀ l env r s, s0 l = none → s l = some (.loop env r) → I [] s → Qn (del s l)) :
    hRange prog (.fn (.func n_strings_Lines_1) [] [.ptr b 0]) s0 round Qn Qj := by
  intro l env r1 r2 r3 hl0 hy
  have hbl : b ≠ l := fun e => by rw [e, hl0] at hb0; cases hb0
  show HCalls prog n_strings_Lines_1 [.fn (.yield l) [] [], .ptr b 0] _ _
  apply c_strings_Lines_1
  unfold b_strings_Lines_1
  refine hFix_rec (σ := List UInt8 × St) (fun z => z.1.length) (fun _ => []) (fun z => z.2) (fun z => z.2 l = some (.loop env r1) ∧ z.2 b = some (.cells [.str z.1]) ∧ I z.1 z.2 ∧ z.1.length ≤ 1000000) ?_ (t, upd s0 l (.loop env r1)) ⟨upd_same _ _ _, (upd_ne s0 (.loop env r1) hbl).trans hb0, hIu l _ _ _ _ hl0 (.inl hl0) h0, ht⟩
  rintro ⟨t', s⟩ ⟨hs, hb, hI, hlen⟩ ih
  simp only at hs hb hI hlen ih
  try simp [q_load_p hb]
  refine br_dec (fun hpos => ?_) (fun hpos => ?_)
  · have hne : t' ≠ [] := fun e => by rw [e] at hpos; simp at hpos
    have hll := lineOf_len hne
    have hix := indexByte_lt 10 t'
    have hge := (indexByte_neg 10 t').2
    refine callK_just (by simpa using h_strings_IndexByte t' 10 _) ?_
    try simp
    have hs2 : ∀ o, upd s b o l = some (.loop env r1) := fun o => by rw [upd_ne _ _ (Ne.symm hbl)]; exact hs
    have nxt := fun (s' : St) (hl' : s' l = some (.loop env r2)) (hb' : s' b = some (.cells [.str (lineOf t').2])) (hI' : I (lineOf t').2 s') => ih ((lineOf t').2, upd s' l (.loop env r1)) hll ⟨upd_same _ _ _, (upd_ne s' (.loop env r1) hbl).trans hb', hIu l env r1 _ _ hl0 (.inr ⟨_, _, hl'⟩) hI', by simp only; omega⟩
    refine br_dec (fun hx => ?_) (fun hx => ?_)
    · have e1 : Lib.indexByte t' 10 + 1 = (((Lib.indexByte t' 10).toNat + 1 : Nat) : Int) := by omega
      have hL : q_load s false 1 (.ptr b 0) = some (.str t') := by simp [q_load_p hb]
      rw [wrap64 (by omega) (by omega), e1]
      simp only [hL, qb_some]
      rw [slice_to t' _ (by omega), slice_from t' _ (by omega)]
      simp only [qb_some]
      rw [e_store_p _ _ _ _ _ _ _ hb]
      try simp
      have el1 : t'.take ((Lib.indexByte t' 10).toNat + 1) = (lineOf t').1 := by unfold lineOf; rw [if_pos hx]
      have el2 : t'.drop ((Lib.indexByte t' 10).toNat + 1) = (lineOf t').2 := by unfold lineOf; rw [if_pos hx]
      rw [el1, el2, e_call_yield]
      refine hy _ _ _ _ (hs2 _) (hr l env r1 r2 t' _ _ hl0 hne hlen (hIb _ _ _ hI) (hs2 _) (upd_same _ _ _) (fun s' hl' hb' hI' => ⟨hl', ?_⟩))
      exact nxt s' hl' hb' hI'
    · have hL : q_load s false 1 (.ptr b 0) = some (.str t') := by simp [q_load_p hb]
      simp only [hL, qb_some]
      rw [e_store_p _ _ _ _ _ _ _ hb]
      try simp
      have el1 : t' = (lineOf t').1 := by unfold lineOf; rw [if_neg hx]
      have el2 : [] = (lineOf t').2 := by unfold lineOf; rw [if_neg hx]
      rw [e_call_yield]
      have ec : callY prog l [.str t'] (upd s b (.cells [.str []])) = callY prog l [.str (lineOf t').1] (upd s b (.cells [.str (lineOf t').2])) := by rw [← el1, ← el2]
      rw [ec]
      refine hy _ _ _ _ (hs2 _) (hr l env r1 r2 t' _ _ hl0 hne hlen (hIb _ _ _ hI) (hs2 _) (upd_same _ _ _) (fun s' hl' hb' hI' => ⟨hl', ?_⟩))
      exact nxt s' hl' hb' hI'
  · have h0 : t' = [] := List.length_eq_zero_iff.1 (by omega)
    subst h0
    exact retR_same (.inl ⟨hs, hn l env r1 _ hl0 hs hI⟩)
end Go.H.Tryz
/- Contracts: the program's ReadSig, of a text that is right. -/
set_option linter.unusedVariables false
set_option linter.unusedSimpArgs false
namespace Go.H.Tryz
open Go Go.H

theorem addT_ok {sig : List Dc} {d : Dc} (h : addT sig d = (0, 0)) : declForm d = true ∧ hasT sig d.name = false ∧ sig.length ≤ 39 := by
  unfold addT at h
  split at h
  · rename_i h1
    rw [h] at h1
    exact absurd rfl h1
  · rename_i h1
    split at h
    · cases h
    · rename_i h2
      have h1' : (declT sig d).1 = 0 := Classical.byContradiction h1
      unfold declT at h1'
      split at h1'
      · cases h1'
      · rename_i h3
        split at h1'
        · cases h1'
        · rename_i h4
          exact ⟨by simpa using h3, by simpa using h4, by omega⟩
/-- A row that has grown by a line's declaration. -/
def AddR (st s : St) (D : List Nat) (xs : List PV) : Res → St → Prop := fun r s' => ∃ p' D', r = .ret p' ∧ Rw st s' 6 xs p' D' ∧ (∀ c o, s c = some o → c ∉ D → s' c = some o) ∧ (∀ c, c ∈ D' → c ∈ D ∨ s c = none)
theorem h_impl_addLine_ok {l : List UInt8} {d : Dc} (hq : ∀ j : Nat, l[j]? ≠ some 63) (hl : l.length ≤ 4096) (hr : readDeclT l = some d) {sig : List Dc} (hs : SigR sig) (ha : addT sig d = (0, 0)) {st s : St} {p : PV} {D : List Nat} (q0 : Rw st s 6 (sig.map decl) p D) :
    HCalls prog n_impl_addLine [p, .str l] s (AddR st s D ((sig ++ [d]).map decl)) := by
  obtain ⟨hform, hnew, hlen⟩ := addT_ok ha
  apply c_impl_addLine
  unfold b_impl_addLine
  refine callK_owns (h_impl_readDecl_ok hq hl hr s) fun pd Dd s1 hDd hTd hfd hod => ?_
  obtain ⟨q, rfl, hTq⟩ := Th.decl.1 hTd
  obtain ⟨c1, c2, c3, c4⟩ := th_row_cell hTq
  have keep : ∀ c o, s c = some o → s1 c = some o := fun c o hc => by
    rw [hod c (fun h => by rw [hfd c h] at hc; cases hc)]; exact hc
  have q1 : Rw st s1 6 (sig.map decl) p D := q0.frame (fun c hc => by
    obtain ⟨o, ho⟩ := q0.live hc
    rw [ho]; exact keep c o ho) (q0.sub.trans keep)
  have liveD : ∀ c ∈ Dd, ∃ o, s1 c = some o := fun c hc => by obtain ⟨o, h1, _⟩ := (Ths.solid _ _ _ (Ths.one hTd)).2 c hc; exact ⟨o, h1⟩
  intro v5 hv5
  have hv5s : s v5 = none := by
    cases h : s v5 with
    | none => rfl
    | some o => rw [keep _ _ h] at hv5; cases hv5
  have hd5 : ∀ c ∈ Dd, c ≠ v5 := fun c hc e => by obtain ⟨o, h1⟩ := liveD c hc; rw [e, hv5] at h1; cases h1
  try simp [c1, c2, c3, c4, setRange]
  have q2 := q1.put hv5 (.cells [.str d.name, .bool d.fam, .int .i64 d.type.kind, .int .i64 d.type.n, .str d.type.name, q])
  have hTd2 : Th (upd s1 v5 (.cells [.str d.name, .bool d.fam, .int .i64 d.type.kind, .int .i64 d.type.n, .str d.type.name, q])) (decl d) (.agg [.str d.name, .bool d.fam, .int .i64 d.type.kind, .int .i64 d.type.n, .str d.type.name, q]) Dd := hTd.frame _ _ _ fun c hc => upd_ne _ _ (hd5 c hc)
  have e5 := upd_same s1 v5 (.cells [.str d.name, .bool d.fam, .int .i64 d.type.kind, .int .i64 d.type.n, .str d.type.name, q])
  have keep2 : ∀ c o, s c = some o → upd s1 v5 (.cells [.str d.name, .bool d.fam, .int .i64 d.type.kind, .int .i64 d.type.n, .str d.type.name, q]) c = some o := fun c o hc => by
    rw [upd_ne _ _ (fun e => by rw [e, hv5s] at hc; cases hc)]; exact keep c o hc
  generalize upd s1 v5 (.cells [.str d.name, .bool d.fam, .int .i64 d.type.kind, .int .i64 d.type.n, .str d.type.name, q]) = s2 at q2 hTd2 e5 keep2
  try simp [q_load_p e5]
  refine Go.H.callK_look (us' := [decls sig, decl d]) (fun i p p' h1 h2 => ?_) rfl rfl (h_impl_addFault sig hs d noSt) ?_
  · match i with
    | 0 => cases h1; cases h2; exact .inr ⟨D, q2.th⟩
    | 1 => cases h1; cases h2; exact .inr ⟨Dd, hTd2⟩
    | n + 2 => simp at h1
  rw [ha]
  unfold haltP
  intro v6 hv6
  have hv6s : s v6 = none := by
    cases h : s v6 with
    | none => rfl
    | some o => rw [keep2 _ _ h] at hv6; cases hv6
  try simp
  try simp [q_load_p (upd_same _ _ _)]
  have n56 : v5 ≠ v6 := fun e => by rw [e, hv6] at e5; cases e5
  have e5' : upd s2 v6 (.cells [.int .i64 0, .int .i64 0]) v5 = some (.cells [.str d.name, .bool d.fam, .int .i64 d.type.kind, .int .i64 d.type.n, .str d.type.name, q]) := by rw [upd_ne _ _ n56]; exact e5
  have q3 := q2.put hv6 (.cells [.int .i64 0, .int .i64 0])
  have hd6 : ∀ c ∈ Dd, c ≠ v6 := fun c hc e => by obtain ⟨o, h1, _⟩ := (Ths.solid _ _ _ (Ths.one hTd2)).2 c hc; rw [e, hv6] at h1; cases h1
  have hTd3 : Th (upd s2 v6 (.cells [.int .i64 0, .int .i64 0])) (decl d) (.agg [.str d.name, .bool d.fam, .int .i64 d.type.kind, .int .i64 d.type.n, .str d.type.name, q]) Dd := hTd2.frame _ _ _ fun c hc => upd_ne _ _ (hd6 c hc)
  have keep3 : ∀ c o, s c = some o → upd s2 v6 (.cells [.int .i64 0, .int .i64 0]) c = some o := fun c o hc => by
    rw [upd_ne _ _ (fun e => by rw [e, hv6s] at hc; cases hc)]; exact keep2 c o hc
  have none3 : ∀ c, upd s2 v6 (.cells [.int .i64 0, .int .i64 0]) c = none → s c = none := fun c hc => by
    cases h : s c with
    | none => rfl
    | some o => rw [keep3 _ _ h] at hc; cases hc
  generalize upd s2 v6 (.cells [.int .i64 0, .int .i64 0]) = s3 at q3 hTd3 e5' keep3 none3
  try simp [q_load_p e5']
  simp only [c1, if_true, qb_some]
  refine q3.append hTd3 (decl_el d) hDd (fun c hc => q0.sub.isNone (hfd c hc)) (fun c hc h => by obtain ⟨o, ho⟩ := q0.live hc; rw [hfd c h] at ho; cases ho) (elems_sl _ _ _ _) (by simp; omega) fun p2 s4 D2 q4 hk4 hin4 => ?_
  refine retR_same ⟨p2, D2, rfl, q4, fun c o hc hcD => hk4 c o (keep3 c o hc) hcD (fun h => by rw [hfd c h] at hc; cases hc), fun c hc => ?_⟩
  rcases hin4 c hc with h | h | h
  · exact .inl h
  · exact .inr (hfd c h)
  · exact .inr (none3 c h)
theorem h_impl_ReadSig_1_ok {l : List UInt8} {d : Dc} (hq : ∀ j : Nat, l[j]? ≠ some 63) (hl : l.length ≤ 4096) (hr : readDeclT l = some d) {sig : List Dc} (hs : SigR sig) (ha : addT sig d = (0, 0)) {st s : St} {p : PV} {D : List Nat} (q0 : Rw st s 6 (sig.map decl) p D)
    {v6 v8 : Nat} (h6 : s v6 = some (.cells [p])) (h8 : s v8 = some (.cells [.str l])) (h6D : v6 ∉ D) (h6s : st v6 = none) (bb : Nat) (hbb : s bb = none) :
    HCalls prog n_impl_ReadSig_1 [.ptr v6 0, .ptr v8 0] (upd s bb (.cells [.int .i64 0, .int .i64 0])) (Caught ty_impl_halt bb (fun c p s0 => c = 0 ∧ p = 0 ∧ ∃ p' D', s0 v6 = some (.cells [p']) ∧ Rw st s0 6 ((sig ++ [d]).map decl) p' D' ∧ (∀ c o, s c = some o → c ∉ D → c ≠ v6 → s0 c = some o) ∧ (∀ c, c ∈ D' → c ∈ D ∨ s c = none))) := by
  apply c_impl_ReadSig_1
  unfold b_impl_ReadSig_1
  have n6 : v6 ≠ bb := fun e => by rw [e, hbb] at h6; cases h6
  have n8 : v8 ≠ bb := fun e => by rw [e, hbb] at h8; cases h8
  have f6 : upd s bb (.cells [.int .i64 0, .int .i64 0]) v6 = some (.cells [p]) := by rw [upd_ne _ _ n6]; exact h6
  have f8 : upd s bb (.cells [.int .i64 0, .int .i64 0]) v8 = some (.cells [.str l]) := by rw [upd_ne _ _ n8]; exact h8
  have hpA : p.isAgg = false := by rcases Th.row.1 q0.th with ⟨_, ⟨_, _, rfl⟩, _⟩ | ⟨_, _, _, _, rfl, _⟩ <;> rfl
  try simp [q_load_p f6, q_load_p f8, takeV_one hpA]
  refine callK_of (h_impl_addLine_ok hq hl hr hs ha (q0.put hbb _)) (fun p' s1 h => ?_) (fun q s1 h => by obtain ⟨_, _, h, _⟩ := h; cases h)
  obtain ⟨q, D', h, q1, hk, hin⟩ := h
  injection h with h
  subst h
  have hbD : bb ∉ D := fun h => by obtain ⟨o, ho⟩ := q0.live h; rw [hbb] at ho; cases ho
  have g6 := hk v6 _ f6 h6D
  have gb := hk bb _ (upd_same _ _ _) hbD
  have hpc : p'.cellOK = true ∧ p'.ncells = 1 ∧ p'.isJunk = false ∧ p'.cells = [p'] := by rcases Th.row.1 q1.th with ⟨_, ⟨_, _, rfl⟩, _⟩ | ⟨_, _, _, _, rfl, _⟩ <;> exact ⟨rfl, rfl, rfl, rfl⟩
  obtain ⟨c1, c2, c3, c4⟩ := hpc
  have hb' : ∀ c ∈ D', c ≠ bb ∧ c ≠ v6 := fun c hc => by
    rcases hin c hc with h | h
    · exact ⟨fun e => hbD (e ▸ h), fun e => h6D (e ▸ h)⟩
    · exact ⟨fun e => (by rw [e, upd_same] at h; cases h), fun e => (by rw [e, f6] at h; cases h)⟩
  rw [e_store_p _ _ _ _ _ _ _ g6]
  try simp [c1, c2, c3, c4, setRange]
  have nb6 : bb ≠ v6 := Ne.symm n6
  refine retR_same ⟨del (upd s1 v6 (.cells [p'])) bb, del_same _ _, ?_, .inl ⟨rfl, rfl, rfl, p', ?_, D', ?_, fun c o hc hcD hc6 => ?_, fun c hc => ?_⟩⟩
  · funext c
    by_cases e : c = bb
    · rw [e, upd_same, upd_ne _ _ nb6]; exact gb
    · rw [upd_ne _ _ e, del_ne _ e]
  · rw [del_ne _ n6]; exact upd_same _ _ _
  · rw [show List.map decl sig ++ [decl d] = (sig ++ [d]).map decl by simp]
    refine q1.frame (fun c hc => by rw [del_ne _ (hb' c hc).1, upd_ne _ _ (hb' c hc).2]) (fun c o hc => ?_)
    have e1 : c ≠ v6 := fun e => by rw [e, h6s] at hc; cases hc
    have e2 : c ≠ bb := fun e => by rw [e, q0.sub.isNone hbb] at hc; cases hc
    rw [del_ne _ e2, upd_ne _ _ e1]
    exact q1.sub c o hc
  · have e2 : c ≠ bb := fun e => by rw [e, hbb] at hc; cases hc
    rw [del_ne _ e2, upd_ne _ _ hc6]
    exact hk c o (by rw [upd_ne _ _ e2]; exact hc) hcD
  · rcases hin c hc with h | h
    · exact .inl h
    · by_cases e : c = bb
      · exact .inr (by rw [e]; exact hbb)
      · rw [upd_ne _ _ e] at h; exact .inr h
end Go.H.Tryz
/- Contracts: the program's ReadSig, of a text that is right. -/
set_option linter.unusedVariables false
set_option linter.unusedSimpArgs false
namespace Go.H.Tryz
open Go Go.H

/-- The signature of a text's lines behind another one, where all of them are right. -/
def readL : Nat → List UInt8 → List Dc → Option (List Dc)
  | 0, _, _ => none
  | n + 1, t, sig =>
    if t.isEmpty then some sig else
    match saysT (bareLine (lineOf t).1) with
    | false => readL n (lineOf t).2 sig
    | true => if (bareLine (lineOf t).1).length ≤ 4096 then
        match readDeclT (bareLine (lineOf t).1) with
        | some d => if (addT sig d).1 = 0 ∧ (addT sig d).2 = 0 then readL n (lineOf t).2 (sig ++ [d]) else none
        | none => none
      else none
theorem noQ_take {l : List UInt8} (hq : ∀ j : Nat, l[j]? ≠ some 63) (n : Nat) : ∀ j : Nat, (l.take n)[j]? ≠ some 63 := fun j => by
  rw [List.getElem?_take]; split
  · exact hq j
  · simp
theorem noQ_line {l : List UInt8} (hq : ∀ j : Nat, l[j]? ≠ some 63) : (∀ j : Nat, (lineOf l).1[j]? ≠ some 63) ∧ ∀ j : Nat, (lineOf l).2[j]? ≠ some 63 := by
  unfold lineOf
  split
  · exact ⟨noQ_take hq _, drop_noQ hq _⟩
  · exact ⟨hq, fun j => by simp⟩
theorem noQ_bare {l : List UInt8} (hq : ∀ j : Nat, l[j]? ≠ some 63) : ∀ j : Nat, (bareLine l)[j]? ≠ some 63 := by
  unfold bareLine
  split
  · exact noQ_take hq _
  · exact hq
theorem lineOf_le (t : List UInt8) : (lineOf t).1.length ≤ t.length ∧ (lineOf t).2.length ≤ t.length := by
  unfold lineOf
  split
  · simp only [List.length_take, List.length_drop]; omega
  · simp
theorem bareLine_le (t : List UInt8) : (bareLine t).length ≤ t.length := by
  unfold bareLine
  split
  · simp only [List.length_take]; omega
  · omega
/-- Between two lines: what is read stands in a row, the line's number is counted. -/
structure LI (st : St) (v2 v3 v4 v5 v6 v7 b : Nat) (sig : List Dc) (p : PV) (D : List Nat) (k : Nat) (s : St) : Prop where
  right : SigR sig
  row : Rw st s 6 (sig.map decl) p D
  e2 : s v2 = some (.cells [.sl 0 true []])
  e3 : s v3 = some (.cells [.int .i64 0])
  e4 : s v4 = some (.cells [.int .i64 0])
  e5 : s v5 = some (.cells [.int .i64 0])
  e6 : s v6 = some (.cells [p])
  e7 : s v7 = some (.cells [.int .i64 k])
  out : ∀ v ∈ [v2, v3, v4, v5, v6, v7, b], v ∉ D
section
variable {st s : St} {v2 v3 v4 v5 v6 v7 b : Nat} {sig : List Dc} {p : PV} {D : List Nat} {k : Nat}
theorem LI.upd (h : LI st v2 v3 v4 v5 v6 v7 b sig p D k s) {c : Nat} (hc : c ∉ [v2, v3, v4, v5, v6, v7]) (hD : c ∉ D) (hst : st c = none) (o : HObj) :
    LI st v2 v3 v4 v5 v6 v7 b sig p D k (Go.H.upd s c o) := by
  simp only [List.mem_cons, List.not_mem_nil, or_false, not_or] at hc
  obtain ⟨c2, c3, c4, c5, c6, c7⟩ := hc
  exact ⟨h.right, h.row.frame (fun d hd => upd_ne _ _ (fun e => hD (e ▸ hd))) (h.row.sub.put hst), by rw [upd_ne _ _ (Ne.symm c2)]; exact h.e2, by rw [upd_ne _ _ (Ne.symm c3)]; exact h.e3, by rw [upd_ne _ _ (Ne.symm c4)]; exact h.e4,
    by rw [upd_ne _ _ (Ne.symm c5)]; exact h.e5, by rw [upd_ne _ _ (Ne.symm c6)]; exact h.e6, by rw [upd_ne _ _ (Ne.symm c7)]; exact h.e7, h.out⟩
theorem LI.del (h : LI st v2 v3 v4 v5 v6 v7 b sig p D k s) {c : Nat} (hc : c ∉ [v2, v3, v4, v5, v6, v7]) (hD : c ∉ D) (hst : st c = none) :
    LI st v2 v3 v4 v5 v6 v7 b sig p D k (Go.H.del s c) := by
  simp only [List.mem_cons, List.not_mem_nil, or_false, not_or] at hc
  obtain ⟨c2, c3, c4, c5, c6, c7⟩ := hc
  exact ⟨h.right, h.row.frame (fun d hd => del_ne _ (fun e => hD (e ▸ hd))) (fun d o hd => by
      have : d ≠ c := fun e => by rw [e, hst] at hd; cases hd
      rw [del_ne _ this]; exact h.row.sub d o hd), by rw [del_ne _ (Ne.symm c2)]; exact h.e2, by rw [del_ne _ (Ne.symm c3)]; exact h.e3, by rw [del_ne _ (Ne.symm c4)]; exact h.e4,
    by rw [del_ne _ (Ne.symm c5)]; exact h.e5, by rw [del_ne _ (Ne.symm c6)]; exact h.e6, by rw [del_ne _ (Ne.symm c7)]; exact h.e7, h.out⟩
theorem LI.count (h : LI st v2 v3 v4 v5 v6 v7 b sig p D k s) (hn : v2 ≠ v7 ∧ v3 ≠ v7 ∧ v4 ≠ v7 ∧ v5 ≠ v7 ∧ v6 ≠ v7) (hst : st v7 = none) : LI st v2 v3 v4 v5 v6 v7 b sig p D (k + 1) (Go.H.upd s v7 (.cells [.int .i64 ((k : Int) + 1)])) := by
  obtain ⟨c2, c3, c4, c5, c6⟩ := hn
  have hD := h.out v7 (by simp)
  exact ⟨h.right, h.row.frame (fun d hd => upd_ne _ _ (fun e => hD (e ▸ hd))) (h.row.sub.put hst), by rw [upd_ne _ _ c2]; exact h.e2, by rw [upd_ne _ _ c3]; exact h.e3, by rw [upd_ne _ _ c4]; exact h.e4,
    by rw [upd_ne _ _ c5]; exact h.e5, by rw [upd_ne _ _ c6]; exact h.e6, by rw [upd_same]; simp, h.out⟩
theorem LI.grow (h : LI st v2 v3 v4 v5 v6 v7 b sig p D k s) (hn : v2 ≠ v6 ∧ v3 ≠ v6 ∧ v4 ≠ v6 ∧ v5 ≠ v6 ∧ v7 ≠ v6) (hb : ∃ o, s b = some o) {sig2 : List Dc} {p2 : PV} {D2 : List Nat} {s2 : St} (hr : SigR sig2) (hrow : Rw st s2 6 (sig2.map decl) p2 D2) (e6 : s2 v6 = some (.cells [p2]))
    (hk : ∀ c o, s c = some o → c ∉ D → c ≠ v6 → s2 c = some o) (hin : ∀ c, c ∈ D2 → c ∈ D ∨ s c = none) : LI st v2 v3 v4 v5 v6 v7 b sig2 p2 D2 k s2 := by
  obtain ⟨c2, c3, c4, c5, c7⟩ := hn
  have o := h.out
  simp only [List.forall_mem_cons] at o
  obtain ⟨o2, o3, o4, o5, o6, o7, ob, _⟩ := o
  refine ⟨hr, hrow, hk _ _ h.e2 o2 c2, hk _ _ h.e3 o3 c3, hk _ _ h.e4 o4 c4, hk _ _ h.e5 o5 c5, e6, hk _ _ h.e7 o7 c7, fun v hv hd => ?_⟩
  rcases hin v hd with h1 | h1
  · exact h.out v hv h1
  · simp only [List.mem_cons, List.not_mem_nil, or_false] at hv
    obtain ⟨ob', hob⟩ := hb
    rcases hv with rfl | rfl | rfl | rfl | rfl | rfl | rfl
    · rw [h.e2] at h1; cases h1
    · rw [h.e3] at h1; cases h1
    · rw [h.e4] at h1; cases h1
    · rw [h.e5] at h1; cases h1
    · rw [h.e6] at h1; cases h1
    · rw [h.e7] at h1; cases h1
    · rw [hob] at h1; cases h1
theorem LI.new (h : LI st v2 v3 v4 v5 v6 v7 b sig p D k s) {c : Nat} (hc : s c = none) : c ∉ [v2, v3, v4, v5, v6, v7] ∧ c ∉ D ∧ st c = none := by
  refine ⟨fun hm => ?_, fun hd => ?_, h.row.sub.isNone hc⟩
  · simp only [List.mem_cons, List.not_mem_nil, or_false] at hm
    rcases hm with rfl | rfl | rfl | rfl | rfl | rfl
    · rw [h.e2] at hc; cases hc
    · rw [h.e3] at hc; cases hc
    · rw [h.e4] at hc; cases hc
    · rw [h.e5] at hc; cases hc
    · rw [h.e6] at hc; cases hc
    · rw [h.e7] at hc; cases hc
  · obtain ⟨o, ho⟩ := h.row.live hd; rw [ho] at hc; cases hc
theorem LI.apart (h : LI st v2 v3 v4 v5 v6 v7 b sig p D k s) {c : Nat} (hc : s c = none ∨ ∃ e r, s c = some (.loop e r)) : c ∉ [v2, v3, v4, v5, v6, v7] ∧ c ∉ D := by
  rcases hc with hc | ⟨e, r, hc⟩
  · exact ⟨(h.new hc).1, (h.new hc).2.1⟩
  · refine ⟨fun hm => ?_, fun hd => ?_⟩
    · simp only [List.mem_cons, List.not_mem_nil, or_false] at hm
      rcases hm with rfl | rfl | rfl | rfl | rfl | rfl
      · rw [h.e2] at hc; cases hc
      · rw [h.e3] at hc; cases hc
      · rw [h.e4] at hc; cases hc
      · rw [h.e5] at hc; cases hc
      · rw [h.e6] at hc; cases hc
      · rw [h.e7] at hc; cases hc
    · obtain ⟨o, ho, hso⟩ := h.row.th.solid.2 _ hd
      rw [hc] at ho; cases ho; cases hso
end
theorem h_strings_Lines (t : List UInt8) (st : St) : HCalls prog n_strings_Lines [.str t] st (fun r s => ∃ b, st b = none ∧ r = .ret (.fn (.func n_strings_Lines_1) [] [.ptr b 0]) ∧ s = upd st b (.cells [.str t])) := by
  apply c_strings_Lines
  unfold b_strings_Lines
  refine e_box_own rfl fun b hb => ?_
  exact retR_same ⟨b, hb, rfl, rfl⟩
theorem h_impl_ReadSig_ok {t : List UInt8} {sigF : List Dc} {n : Nat} (hq : ∀ j : Nat, t[j]? ≠ some 63) (ht : t.length ≤ 65536) (hr : readL n t [] = some sigF) (st : St) :
    HCalls prog n_impl_ReadSig [.str t] st (Owns (.tup (decls sigF :: [0, 0, 0].map (PV.int .i64))) st) := by
  apply c_impl_ReadSig
  unfold b_impl_ReadSig
  intro v2 hv2
  intro v3 hv3
  intro v4 hv4
  intro v5 hv5
  have n23 : v2 ≠ v3 := fun e => by rw [← e, upd_same] at hv3; cases hv3
  have n34 : v3 ≠ v4 := fun e => by rw [← e, upd_same] at hv4; cases hv4
  have n45 : v4 ≠ v5 := fun e => by rw [← e, upd_same] at hv5; cases hv5
  have hv4a : upd st v2 (.cells [.sl 0 true []]) v4 = none := by rw [upd_ne _ _ (Ne.symm n34)] at hv4; exact hv4
  have n24 : v2 ≠ v4 := fun e => by rw [← e, upd_same] at hv4a; cases hv4a
  have hv5a : (upd (upd (upd st v2 (.cells [.sl 0 true []])) v3 (.cells [.int .i64 0])) v4 (.cells [.int .i64 0])) v5 = none := hv5
  rw [upd_ne _ _ (Ne.symm n45)] at hv5a
  have n35 : v3 ≠ v5 := fun e => by rw [← e, upd_same] at hv5a; cases hv5a
  rw [upd_ne _ _ (Ne.symm n35)] at hv5a
  have n25 : v2 ≠ v5 := fun e => by rw [← e, upd_same] at hv5a; cases hv5a
  have x2 : (upd (upd (upd (upd st v2 (.cells [.sl 0 true []])) v3 (.cells [.int .i64 0])) v4 (.cells [.int .i64 0])) v5 (.cells [.int .i64 0])) v2 = some (.cells [.sl 0 true []]) := by rw [upd_ne _ _ n25, upd_ne _ _ n24, upd_ne _ _ n23]; exact upd_same _ _ _
  have x3 : (upd (upd (upd (upd st v2 (.cells [.sl 0 true []])) v3 (.cells [.int .i64 0])) v4 (.cells [.int .i64 0])) v5 (.cells [.int .i64 0])) v3 = some (.cells [.int .i64 0]) := by rw [upd_ne _ _ n35, upd_ne _ _ n34]; exact upd_same _ _ _
  have x4 : (upd (upd (upd (upd st v2 (.cells [.sl 0 true []])) v3 (.cells [.int .i64 0])) v4 (.cells [.int .i64 0])) v5 (.cells [.int .i64 0])) v4 = some (.cells [.int .i64 0]) := by rw [upd_ne _ _ n45]; exact upd_same _ _ _
  have x5 := upd_same (upd (upd (upd st v2 (.cells [.sl 0 true []])) v3 (.cells [.int .i64 0])) v4 (.cells [.int .i64 0])) v5 (.cells [.int .i64 0])
  have hsub := ((((Sub.refl st).put (o := .cells [.sl 0 true []]) hv2).put (o := .cells [.int .i64 0]) (((Sub.refl st).put (o := .cells [.sl 0 true []]) hv2).isNone hv3)).put (o := .cells [.int .i64 0]) ((((Sub.refl st).put (o := .cells [.sl 0 true []]) hv2).put (o := .cells [.int .i64 0]) (((Sub.refl st).put (o := .cells [.sl 0 true []]) hv2).isNone hv3)).isNone hv4)).put (o := .cells [.int .i64 0]) (((((Sub.refl st).put (o := .cells [.sl 0 true []]) hv2).put (o := .cells [.int .i64 0]) (((Sub.refl st).put (o := .cells [.sl 0 true []]) hv2).isNone hv3)).put (o := .cells [.int .i64 0]) ((((Sub.refl st).put (o := .cells [.sl 0 true []]) hv2).put (o := .cells [.int .i64 0]) (((Sub.refl st).put (o := .cells [.sl 0 true []]) hv2).isNone hv3)).isNone hv4)).isNone hv5)
  have k2 := hv2
  have k3 : st v3 = none := ((Sub.refl st).put (o := .cells [.sl 0 true []]) hv2).isNone hv3
  have k4 : st v4 = none := ((Sub.refl st).put (o := .cells [.sl 0 true []]) hv2).isNone hv4a
  have k5 : st v5 = none := ((Sub.refl st).put (o := .cells [.sl 0 true []]) hv2).isNone hv5a
  clear hv3 hv4 hv5 hv4a hv5a hv2
  generalize (upd (upd (upd (upd st v2 (.cells [.sl 0 true []])) v3 (.cells [.int .i64 0])) v4 (.cells [.int .i64 0])) v5 (.cells [.int .i64 0])) = s at x2 x3 x4 x5 hsub
  try simp
  refine callK_just (h_impl_longText0 t _) ?_
  try simp
  refine br_dec (fun h => by omega) (fun _ => ?_)
  try simp [q_lit]
  intro v6 hv6
  intro v7 hv7
  have n67 : v6 ≠ v7 := fun e => by rw [← e, upd_same] at hv7; cases hv7
  have hv7a := hv7
  rw [upd_ne _ _ (Ne.symm n67)] at hv7a
  rw [e_store_p _ _ _ _ _ _ _ (by rw [upd_ne _ _ n67]; exact upd_same _ _ _)]
  try simp
  rw [e_store_p _ _ _ _ _ _ _ (by rw [upd_ne _ _ (Ne.symm n67)]; exact upd_same _ _ _)]
  try simp
  have y2 : s v2 = some (.cells [.sl 0 true []]) := x2
  have m6 : ∀ v o, s v = some o → v ≠ v6 := fun v o h e => by rw [e, hv6] at h; cases h
  have m7 : ∀ v o, s v = some o → v ≠ v7 := fun v o h e => by rw [e, hv7a] at h; cases h
  have look : ∀ v o, s v = some o → upd (upd (upd (upd s v6 (.cells [.sl 0 true []])) v7 (.cells [.int .i64 0])) v6 (.cells [.sl 6 true []])) v7 (.cells [.int .i64 0]) v = some o := fun v o h => by
    rw [upd_ne _ _ (m7 v o h), upd_ne _ _ (m6 v o h), upd_ne _ _ (m7 v o h), upd_ne _ _ (m6 v o h)]; exact h
  have w6 : upd (upd (upd (upd s v6 (.cells [.sl 0 true []])) v7 (.cells [.int .i64 0])) v6 (.cells [.sl 6 true []])) v7 (.cells [.int .i64 0]) v6 = some (.cells [.sl 6 true []]) := by rw [upd_ne _ _ n67]; exact upd_same _ _ _
  have w7 := upd_same (upd (upd (upd s v6 (.cells [.sl 0 true []])) v7 (.cells [.int .i64 0])) v6 (.cells [.sl 6 true []])) v7 (.cells [.int .i64 0])
  have hsub2 : Sub st (upd (upd (upd (upd s v6 (.cells [.sl 0 true []])) v7 (.cells [.int .i64 0])) v6 (.cells [.sl 6 true []])) v7 (.cells [.int .i64 0])) := fun v o h => look v o (hsub v o h)
  have z2 := look _ _ x2
  have z3 := look _ _ x3
  have z4' := look _ _ x4
  have z5 := look _ _ x5
  have s26 := m6 _ _ x2
  have s36 := m6 _ _ x3
  have s46 := m6 _ _ x4
  have s56 := m6 _ _ x5
  have s27 := m7 _ _ x2
  have s37 := m7 _ _ x3
  have s47 := m7 _ _ x4
  have s57 := m7 _ _ x5
  have k6 : st v6 = none := hsub.isNone hv6
  have k7 : st v7 = none := hsub.isNone hv7a
  clear look m6 m7 x2 x3 x4 x5 hv6 hv7 hv7a hsub
  generalize upd (upd (upd (upd s v6 (.cells [.sl 0 true []])) v7 (.cells [.int .i64 0])) v6 (.cells [.sl 6 true []])) v7 (.cells [.int .i64 0]) = S at w6 w7 hsub2 z2 z3 z4' z5
  refine callK_of (h_strings_Lines t S) (fun q S2 h => ?_) (fun q S2 h => by obtain ⟨_, _, h, _⟩ := h; cases h)
  obtain ⟨b, hb, h1, rfl⟩ := h
  injection h1 with h1
  subst h1
  have hI0 : LI st v2 v3 v4 v5 v6 v7 b [] (.sl 6 true []) [] 0 S := ⟨SigR.nil, Rw.start hsub2 6 6, z2, z3, z4', z5, w6, w7, by simp⟩
  obtain ⟨hb1, hb2, hb3⟩ := hI0.new hb
  have hI1 := hI0.upd hb1 hb2 hb3 (.cells [.str t])
  have eb := upd_same S b (.cells [.str t])
  generalize upd S b (.cells [.str t]) = s0 at hI1 eb
  refine range_lines eb (by omega) (fun rest s' => ∃ sig p D k n, LI st v2 v3 v4 v5 v6 v7 b sig p D k s' ∧ readL n rest sig = some sigF ∧ k + rest.length ≤ 1000000 ∧ ∀ j : Nat, rest[j]? ≠ some 63) ?_ ?_ ⟨_, _, _, _, _, hI1, hr, by omega, hq⟩ ?_ ?_
  · rintro rest s' o ⟨sig, p, D, k, n, h, ho⟩
    exact ⟨sig, p, D, k, n, h.upd hb1 (h.out b (by simp)) hb3 o, ho⟩
  · rintro l env r rest s' hl hl' ⟨sig, p, D, k, n, h, ho⟩
    obtain ⟨h1, h2⟩ := h.apart hl'
    exact ⟨sig, p, D, k, n, h.upd h1 h2 (hI1.row.sub.isNone hl) _, ho⟩
  · rintro l env r1 r2 t' s' X hl hne hlen ⟨sig, p, D, k, n, h, hrd, hkn, hnq⟩ hsl hsb hX
    have hbl : b ≠ l := fun e => by rw [e, hsl] at hsb; cases hsb
    obtain ⟨hl6, hlD⟩ := h.apart (.inr ⟨_, _, hsl⟩)
    have hlst := hI1.row.sub.isNone hl
    have hb6 := hb1
    have hle := lineOf_le t'
    have hllt := lineOf_len hne
    have hbare := bareLine_le (lineOf t').1
    obtain ⟨hnq1, hnq2⟩ := noQ_line hnq
    have hnq3 := noQ_bare hnq1
    refine ⟨rfl, ?_⟩
    intro v8 hv8
    obtain ⟨h86, h8D, h8st⟩ := h.new hv8
    have n8l : v8 ≠ l := fun e => by rw [e, hsl] at hv8; cases hv8
    have n8b : v8 ≠ b := fun e => by rw [e, hsb] at hv8; cases hv8
    try simp
    have q1 := h.upd h86 h8D h8st (.cells [.str (lineOf t').1])
    have f8 := upd_same s' v8 (.cells [.str (lineOf t').1])
    have fl : upd s' v8 (.cells [.str (lineOf t').1]) l = some (.loop env r1) := by rw [upd_ne _ _ (Ne.symm n8l)]; exact hsl
    have fb : upd s' v8 (.cells [.str (lineOf t').1]) b = some (.cells [.str (lineOf t').2]) := by rw [upd_ne _ _ (Ne.symm n8b)]; exact hsb
    generalize upd s' v8 (.cells [.str (lineOf t').1]) = a1 at q1 f8 fl fb
    refine ⟨fl, ?_⟩
    have q2 := q1.upd hl6 hlD hlst (.loop env r2)
    have f8 : upd a1 l (.loop env r2) v8 = some (.cells [.str (lineOf t').1]) := by rw [upd_ne _ _ n8l]; exact f8
    have fl := upd_same a1 l (.loop env r2)
    have fb : upd a1 l (.loop env r2) b = some (.cells [.str (lineOf t').2]) := by rw [upd_ne _ _ hbl]; exact fb
    generalize upd a1 l (.loop env r2) = a2 at q2 f8 fl fb
    try simp [q_load_p q2.e7]
    rw [e_store_p _ _ _ _ _ _ _ q2.e7]
    have hl6' := hl6
    have hb6' := hb6
    have h86' := h86
    simp only [List.mem_cons, List.not_mem_nil, or_false, not_or] at hl6 hb6 h86
    obtain ⟨l2, l3, l4, l5, l6, l7⟩ := hl6
    obtain ⟨b2, b3, b4, b5, b6, b7⟩ := hb6
    obtain ⟨g2, g3, g4, g5, g6, g7⟩ := h86
    rw [wrap64 (by omega) (by omega)]
    try simp
    have q3 := q2.count ⟨s27, s37, s47, s57, n67⟩ k7
    have f8 : upd a2 v7 (.cells [.int .i64 ((k : Int) + 1)]) v8 = some (.cells [.str (lineOf t').1]) := by rw [upd_ne _ _ g7]; exact f8
    have fl : upd a2 v7 (.cells [.int .i64 ((k : Int) + 1)]) l = some (.loop env r2) := by rw [upd_ne _ _ l7]; exact fl
    have fb : upd a2 v7 (.cells [.int .i64 ((k : Int) + 1)]) b = some (.cells [.str (lineOf t').2]) := by rw [upd_ne _ _ b7]; exact fb
    generalize upd a2 v7 (.cells [.int .i64 ((k : Int) + 1)]) = a3 at q3 f8 fl fb
    try simp [q_load_p f8]
    refine callK_just (h_strings_TrimSuffix_nl _ (by omega) _) ?_
    rw [e_store_p _ _ _ _ _ _ _ f8]
    try simp
    have q4 := q3.upd h86' h8D h8st (.cells [.str (bareLine (lineOf t').1)])
    have f8' := upd_same a3 v8 (.cells [.str (bareLine (lineOf t').1)])
    have fl : upd a3 v8 (.cells [.str (bareLine (lineOf t').1)]) l = some (.loop env r2) := by rw [upd_ne _ _ (Ne.symm n8l)]; exact fl
    have fb : upd a3 v8 (.cells [.str (bareLine (lineOf t').1)]) b = some (.cells [.str (lineOf t').2]) := by rw [upd_ne _ _ (Ne.symm n8b)]; exact fb
    generalize upd a3 v8 (.cells [.str (bareLine (lineOf t').1)]) = a4 at q4 f8' fl fb
    try simp [q_load_p f8']
    refine callK_just (h_impl_says _ (by omega) _) ?_
    cases n with
    | zero => cases hrd
    | succ n =>
    unfold readL at hrd
    rw [if_neg (by simpa using hne)] at hrd
    cases hsays : saysT (bareLine (lineOf t').1) with
    | false =>
      rw [hsays] at hrd
      try simp
      exact hX _ fl fb ⟨sig, p, D, k + 1, n, q4, hrd, by omega, hnq2⟩
    | true =>
      rw [hsays] at hrd
      simp only [] at hrd
      split at hrd
      rotate_left
      · cases hrd
      rename_i hlen2
      split at hrd
      rotate_left
      · cases hrd
      rename_i d hd
      split at hrd
      rotate_left
      · cases hrd
      rename_i had
      have had : addT sig d = (0, 0) := Prod.ext had.1 had.2
      obtain ⟨hform, hnew, hlen40⟩ := addT_ok had
      try simp [q_load_p f8']
      refine br_dec (fun h => by omega) (fun _ => ?_)
      refine callK_of (h_impl_caught n_impl_ReadSig_1 _ _ _ (fun bb hbb => h_impl_ReadSig_1_ok hnq3 hlen2 hd q4.right had q4.row q4.e6 f8' (q4.out v6 (by simp)) k6 bb hbb)) (fun q s2 h2 => ?_) (fun q s2 h2 => by obtain ⟨_, _, h, _⟩ := h2; cases h)
      obtain ⟨c, pl, h, rfl, rfl, p', D', e6, hrow, hkeep, hin⟩ := h2
      cases h
      have q5 := q4.grow ⟨s26, s36, s46, s56, Ne.symm n67⟩ ⟨_, fb⟩ (q4.right.snoc (by omega) hform hnew) hrow e6 hkeep hin
      have nb : ∀ c o, a4 c = some o → c ∉ D → c ≠ v6 → s2 c = some o := hkeep
      have fl5 := hkeep l _ fl hlD l6
      have fb5 := hkeep b _ fb (q4.out b (by simp)) b6
      intro v9 hv9
      obtain ⟨h96, h9D, h9st⟩ := q5.new hv9
      have n9l : v9 ≠ l := fun e => by rw [e, fl5] at hv9; cases hv9
      have n9b : v9 ≠ b := fun e => by rw [e, fb5] at hv9; cases hv9
      have q6 := q5.upd h96 h9D h9st (.cells [.int .i64 0, .int .i64 0])
      have f9 := upd_same s2 v9 (.cells [.int .i64 0, .int .i64 0])
      have fl6 : upd s2 v9 (.cells [.int .i64 0, .int .i64 0]) l = some (.loop env r2) := by rw [upd_ne _ _ (Ne.symm n9l)]; exact fl5
      have fb6 : upd s2 v9 (.cells [.int .i64 0, .int .i64 0]) b = some (.cells [.str (lineOf t').2]) := by rw [upd_ne _ _ (Ne.symm n9b)]; exact fb5
      try simp
      generalize upd s2 v9 (.cells [.int .i64 0, .int .i64 0]) = a6 at q6 f9 fl6 fb6
      try simp [q_load_p f9]
      exact hX _ fl6 fb6 ⟨sig ++ [d], p', D', k + 1, n, q6, hrd, by omega, hnq2⟩
  · rintro l env r s' hl hsl ⟨sig, p, D, k, n, h, hrd, hkn, hnq⟩
    have hrd : sig = sigF := by
      cases n with
      | zero => cases hrd
      | succ n => simpa [readL] using hrd
    subst hrd
    obtain ⟨h1, h2⟩ := h.apart (.inr ⟨_, _, hsl⟩)
    have q1 := h.del h1 h2 (hI1.row.sub.isNone hl)
    generalize del s' l = a1 at q1
    have hpc : p.cellOK = true ∧ p.ncells = 1 ∧ p.isJunk = false ∧ p.cells = [p] ∧ p.isAgg = false := by rcases Th.row.1 q1.row.th with ⟨_, ⟨_, _, rfl⟩, _⟩ | ⟨_, _, _, _, rfl, _⟩ <;> exact ⟨rfl, rfl, rfl, rfl, rfl⟩
    obtain ⟨c1, c2, c3, c4, c5⟩ := hpc
    try simp [q_load_p q1.e6, takeV_one c5]
    rw [e_store_p _ _ _ _ _ _ _ q1.e2]
    try simp [c1, c2, c3, c4, setRange]
    have o := q1.out
    simp only [List.forall_mem_cons] at o
    obtain ⟨o2, o3, o4, o5, o6, o7, ob, _⟩ := o
    have r1 : Rw st (upd a1 v2 (.cells [p])) 6 (sig.map decl) p D := q1.row.frame (fun d hd => upd_ne _ _ (fun e => o2 (e ▸ hd))) (q1.row.sub.put k2)
    have a2 := upd_same a1 v2 (.cells [p])
    have a3 : upd a1 v2 (.cells [p]) v3 = some (.cells [.int .i64 0]) := by rw [upd_ne _ _ (Ne.symm n23)]; exact q1.e3
    have a4 : upd a1 v2 (.cells [p]) v4 = some (.cells [.int .i64 0]) := by rw [upd_ne _ _ (Ne.symm n24)]; exact q1.e4
    have a5 : upd a1 v2 (.cells [p]) v5 = some (.cells [.int .i64 0]) := by rw [upd_ne _ _ (Ne.symm n25)]; exact q1.e5
    generalize upd a1 v2 (.cells [p]) = w1 at r1 a2 a3 a4 a5
    rw [e_store_p _ _ _ _ _ _ _ a3]
    try simp
    have r2 : Rw st (upd w1 v3 (.cells [.int .i64 0])) 6 (sig.map decl) p D := r1.frame (fun d hd => upd_ne _ _ (fun e => o3 (e ▸ hd))) (r1.sub.put k3)
    have a2 : upd w1 v3 (.cells [.int .i64 0]) v2 = some (.cells [p]) := by rw [upd_ne _ _ n23]; exact a2
    have a3 := upd_same w1 v3 (.cells [.int .i64 0])
    have a4 : upd w1 v3 (.cells [.int .i64 0]) v4 = some (.cells [.int .i64 0]) := by rw [upd_ne _ _ (Ne.symm n34)]; exact a4
    have a5 : upd w1 v3 (.cells [.int .i64 0]) v5 = some (.cells [.int .i64 0]) := by rw [upd_ne _ _ (Ne.symm n35)]; exact a5
    generalize upd w1 v3 (.cells [.int .i64 0]) = w2 at r2 a2 a3 a4 a5
    rw [e_store_p _ _ _ _ _ _ _ a4]
    try simp
    have r3 : Rw st (upd w2 v4 (.cells [.int .i64 0])) 6 (sig.map decl) p D := r2.frame (fun d hd => upd_ne _ _ (fun e => o4 (e ▸ hd))) (r2.sub.put k4)
    have a2 : upd w2 v4 (.cells [.int .i64 0]) v2 = some (.cells [p]) := by rw [upd_ne _ _ n24]; exact a2
    have a3 : upd w2 v4 (.cells [.int .i64 0]) v3 = some (.cells [.int .i64 0]) := by rw [upd_ne _ _ n34]; exact a3
    have a4 := upd_same w2 v4 (.cells [.int .i64 0])
    have a5 : upd w2 v4 (.cells [.int .i64 0]) v5 = some (.cells [.int .i64 0]) := by rw [upd_ne _ _ (Ne.symm n45)]; exact a5
    generalize upd w2 v4 (.cells [.int .i64 0]) = w3 at r3 a2 a3 a4 a5
    rw [e_store_p _ _ _ _ _ _ _ a5]
    try simp
    have r4 : Rw st (upd w3 v5 (.cells [.int .i64 0])) 6 (sig.map decl) p D := r3.frame (fun d hd => upd_ne _ _ (fun e => o5 (e ▸ hd))) (r3.sub.put k5)
    have a2 : upd w3 v5 (.cells [.int .i64 0]) v2 = some (.cells [p]) := by rw [upd_ne _ _ n25]; exact a2
    have a3 : upd w3 v5 (.cells [.int .i64 0]) v3 = some (.cells [.int .i64 0]) := by rw [upd_ne _ _ n35]; exact a3
    have a4 : upd w3 v5 (.cells [.int .i64 0]) v4 = some (.cells [.int .i64 0]) := by rw [upd_ne _ _ n45]; exact a4
    have a5 := upd_same w3 v5 (.cells [.int .i64 0])
    generalize upd w3 v5 (.cells [.int .i64 0]) = w4 at r4 a2 a3 a4 a5
    try simp [q_load_p a2, q_load_p a3, q_load_p a4, q_load_p a5, takeV_one c5]
    exact Owns.tupInts [0, 0, 0] r4.nodup r4.th r4.fresh r4.sub
end Go.H.Tryz
/- Contracts: the program's built-in signatures. -/
set_option linter.unusedVariables false
set_option linter.unusedSimpArgs false
namespace Go.H.Tryz
open Go Go.H

theorem noQ_of {l : List UInt8} (h : l.all (fun c => !decide (c = 63)) = true) : ∀ j : Nat, l[j]? ≠ some 63 := fun j e => by
  have := List.all_eq_true.1 h 63 (List.mem_of_getElem? e)
  simp at this
theorem h_impl_builtIn {t : List UInt8} {sigF : List Dc} {n : Nat} (hq : t.all (fun c => !decide (c = 63)) = true) (ht : decide (t.length ≤ 65536) = true) (hr : readL n t [] = some sigF) (st : St) :
    HCalls prog n_impl_builtIn [.str t] st (Owns (decls sigF) st) := by
  apply c_impl_builtIn
  unfold b_impl_builtIn
  refine callK_owns (h_impl_ReadSig_ok (noQ_of hq) (of_decide_eq_true ht) hr st) fun p D s hD hT hf hs => ?_
  obtain ⟨q, rfl, hq⟩ := Th.tupInts_inv hT
  try simp [q_ex]
  exact Owns.ret hD hq hf (fun c o hc => by rw [hs c (fun h => by rw [hf c h] at hc; cases hc)]; exact hc)
theorem h_impl_LogicSig (st : St) : HCalls prog n_impl_LogicSig [] st (Owns (decls logicL) st) := by
  apply c_impl_LogicSig
  unfold b_impl_LogicSig
  refine callK_owns (h_impl_builtIn (sigF := logicL) (n := 40) (by kernel_rfl) (by kernel_rfl) (by kernel_rfl) st) fun p D s hD hT hf hs => ?_
  exact Owns.ret hD hT hf (fun c o hc => by rw [hs c (fun h => by rw [hf c h] at hc; cases hc)]; exact hc)
end Go.H.Tryz
