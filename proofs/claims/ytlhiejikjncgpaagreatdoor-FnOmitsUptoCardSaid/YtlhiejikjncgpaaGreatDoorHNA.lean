/- Part of a proof that the program answers as the reference does: EFC100. -/
import Derived.Test.YtlhiejikjncgpaaGreatDoorHM
import Derived.Test.YtlhiejikjncgpaaGreatDoorHZ
import Derived.Test.YtlhiejikjncgpaaGreatDoorHV
import Derived.Test.YtlhiejikjncgpaaGreatDoorHN
/- Contracts: sources; the law FnOmits. -/
set_option linter.unusedVariables false
set_option linter.unusedSimpArgs false
namespace Go.H.Tryz
open Go Go.H

/-- A right source, perhaps with arguments left out. -/
def sourceOKT (t : Tr) : Bool := (t.small && t.isTerm true) && !eachT (fun t _ => decide (t.kind = 7)) t 0
theorem h_impl_sourceTerm (t : Tr) (st : St) : HCalls prog n_impl_sourceTerm [tree t] st (Just (.bool (t.small && t.isTerm true)) st) := by
  apply c_impl_sourceTerm
  unfold b_impl_sourceTerm
  refine e_box_ref (tree_isJunk _) ?_
  generalize hv : (t.small && t.isTerm true) = v
  rw [← looks_ok] at hv
  refine qb_of (x := .agg [.int .i64 150, .bool true]) rfl ?_
  unfold e_box
  rw [if_neg (by decide)]
  refine .inr fun b hb => ?_
  refine qb_of (x := tree t) (by simp) ?_
  refine callK_look (h_impl_looker_term b true t 150 (by omega) (upd_same _ _ _)) (fun m hm => ?_) (fun hm m => ?_)
  · exact Just.bool (by rw [← hv, hm]; rfl) (by rw [upd_upd]; exact (Sub.refl st).fresh hb)
  · exact Just.bool (by rw [← hv, hm]; rfl) (by rw [upd_upd]; exact (Sub.refl st).fresh hb)
theorem h_impl_SourceOK_1 (t : Tr) (d : Int) (st : St) : HCalls prog n_impl_SourceOK_1 [.ref (tree t).cells, .int .i64 d] st (Just (.bool (decide (t.kind = 7))) st) := by
  apply c_impl_SourceOK_1
  unfold b_impl_SourceOK_1
  refine qb_of (x := .ref (tree t).cells) rfl ?_
  refine qb_of (x := .ref (tree t).cells) (by simp [q_fa]) ?_
  refine qb_of (x := .int .i64 t.kind) (by simp) ?_
  refine qb_of (x := .bool (decide (t.kind = 7))) (by simp) ?_
  exact Just.bool rfl (Sub.refl _)
theorem h_impl_SourceOK (t : Tr) (hsz : t.size ≤ 1000000) (st : St) : HCalls prog n_impl_SourceOK [tree t] st (Just (.bool (sourceOKT t)) st) := by
  apply c_impl_SourceOK
  unfold b_impl_SourceOK
  refine e_box_ref (tree_isJunk _) ?_
  refine qb_of (x := tree t) (by simp) ?_
  refine callK_just (h_impl_sourceTerm t _) ?_
  rw [cb_bool]
  refine br_of (fun h => ?_) (fun h => Just.bool (by unfold sourceOKT; rw [h]; rfl) (Sub.refl _))
  refine callK_just (h_impl_Tree_each (fun t _ => decide (t.kind = 7)) n_impl_SourceOK_1 [] [] t 0 (by omega) (fun _ => True) (fun _ _ _ _ => trivial) trivial st (fun t d _ => h_impl_SourceOK_1 t d st)) ?_
  refine qb_of (x := .bool (!eachT (fun t _ => decide (t.kind = 7)) t 0)) rfl ?_
  exact Just.bool (by unfold sourceOKT; rw [h]; rfl) (Sub.refl _)
theorem source_of {t : Tr} (hs : t.size ≤ 150) (h : t.isTerm true = true) (hf : t.free 7 = true) : sourceOKT t = true := by
  unfold sourceOKT
  rw [small_of hs, h, eachT_free (k := 7) (fun t _ h => by simpa using h) t 0 hf]
  rfl
theorem set_flags (i : Nat) (hi : i < 200) : (List.replicate i (PV.bool true) ++ List.replicate (200 - i) (PV.bool false)).set i (PV.bool true) = List.replicate (i + 1) (PV.bool true) ++ List.replicate (200 - (i + 1)) (PV.bool false) := by
  rw [List.set_append_right _ _ (by simp)]
  rw [List.length_replicate, Nat.sub_self, show 200 - i = (200 - (i + 1)) + 1 by omega, List.replicate_succ, List.set_cons_zero, List.replicate_succ' (n := i), List.append_assoc]
  rfl
theorem del_upd_new {st : St} {b : Nat} {o : HObj} (h : st b = none) : del (upd st b o) b = st := by
  funext c
  unfold del upd
  by_cases hc : c = b
  · rw [if_pos hc, hc, h]
  · rw [if_neg hc, if_neg hc]
theorem e_make_200 {st : St} {K : PV → St → Prop} (h : ∀ b, st b = none → K (.vsl b 200 200) (upd st b (.vec 1 (List.replicate 200 (PV.bool false)) 200))) : e_make st 1 1 (.bool false) (.int .i64 200) (.int .i64 200) K := by
  unfold e_make
  refine ⟨rfl, rfl, by omega, by omega, by omega, by omega, by omega, fun b hb => ?_⟩
  exact h b hb
def OmFlag (w : St) (b : Nat) (n : Nat) (ls : List PV) (s : St) : Prop := ∃ i : Nat, i ≤ 200 ∧ n = 200 - i ∧ ls = [.int .i64 (i : Int)] ∧ s = upd w b (.vec 1 (List.replicate i (PV.bool true) ++ List.replicate (200 - i) (PV.bool false)) 200)
def OmSig (st : St) (n : Nat) (ls : List PV) (s : St) : Prop := Sub st s ∧ ∃ i : Nat, i ≤ 12 ∧ n = 12 - i ∧ ls = [.int .i64 (i : Int)]
def OmPi (st : St) (k n : Nat) (ls : List PV) (s : St) : Prop := Sub st s ∧ ∃ (c : Nat) (t : Tr) (v : Nat), c + n = k ∧ PiN n t ∧ ls = [.int .i64 (c : Int), .ptr v 0] ∧ s v = some (.cells (tree t).cells)
set_option maxRecDepth 100000
set_option maxHeartbeats 4000000 in
theorem h_laws_FnOmits (x0 : List UInt8) (hb : x0.length ≤ 1048576) (st : St) : HCalls prog n_laws_FnOmits [bytesP x0] st (Just (.bool true) st) := by
  apply c_laws_FnOmits
  unfold b_laws_FnOmits
  refine qb_of (x := .int .i64 x0.length) (by simp [bytesP]) ?_
  refine qb_of (x := .bool (decide (1048576 < x0.length))) (by simp; omega) ?_
  refine br_dec (fun _ => Just.bool rfl (Sub.refl _)) (fun _ => ?_)
  refine callK_giveJ (h_spec_JudgedOf x0 (by omega) _) fun n m a hn hj hm ha => ?_
  refine qb_of (x := trees (ctxN n)) rfl ?_
  refine qb_of (x := tree m) rfl ?_
  refine qb_of (x := tree a) rfl ?_
  refine (Held.start st).two rfl fun v4 v5 w1 h1 => ?_
  refine callK_just (h_spec_Numbers _) ?_
  refine qb_of (h1.ld (t := m) (by simp)) ?_
  refine callK_just (h_spec_TermOK m _) ?_
  have htm := judged_term (by omega) hj hm ha
  have htt : m.isTerm false = true := by unfold Tr.termOK at htm; rw [Bool.and_eq_true] at htm; exact htm.2
  refine qb_of (x := .bool false) (by rw [htm]; rfl) ?_
  rw [cb_bool, br_false]
  refine qb_of (h1.ld (t := m) (by simp)) ?_
  have hz : ∀ o : List Bool, o.length ≤ 4096 → dropZ numbersL m o = 0 := fun o ho => by
    unfold dropZ
    rw [if_neg (by simp [numbersL]; omega), numbers_sig, htm]
    rfl
  refine callK_conv (Conv.cons (Conv.sub (Sub.refl w1)) (Conv.cons (Conv.sub (Sub.refl w1)) (Conv.sl_to w1 0 1 true [] (.inr rfl)))) ?_
  have hom := Owns.just (h_impl_Omit numbersL m [] (by simp) w1)
  rw [dropP_yes (hz [] (by simp)), omT_none] at hom
  refine callK_just hom ?_
  refine qb_of (x := tree m) rfl ?_
  refine qb_of (x := .int .i64 0) rfl ?_
  refine h1.news rfl fun v7 w2 h2 => ?_
  apply e_make_200
  intro b hbn
  refine hJ_cv fun J hJ => ?_
  refine hFix_ind (OmFlag w2 b) (n := 200) ?_ ⟨0, by omega, rfl, rfl, rfl⟩
  rintro k ls s ih ⟨i, hi, rfl, rfl, rfl⟩
  show qb _ _
  rw [q_len_vsl, qb_some]
  refine qb_of (x := .bool (decide ((i : Int) < 200))) (by simp) ?_
  refine br_dec (fun hlt => ?_) (fun hge => ?_)
  · refine qb_of (x := .eptr b 1 i 0) (by
      show q_ia 1 (.vsl b 200 200) (.int .i64 (i : Int)) = _
      unfold q_ia
      simp only
      rw [if_pos ⟨by omega, by omega⟩]
      rfl) ?_
    unfold e_store
    rw [if_pos ⟨rfl, rfl, rfl⟩]
    simp only [upd_self]
    rw [if_pos trivial]
    have hg : ∃ c, (List.replicate i (PV.bool true) ++ List.replicate (200 - i) (PV.bool false))[i]? = some (PV.bool c) := by
      refine ⟨false, ?_⟩
      rw [List.getElem?_append_right (by simp), List.length_replicate, Nat.sub_self, List.getElem?_replicate, if_pos (by omega)]
    obtain ⟨c, hg⟩ := hg
    rw [hg]
    simp only
    rw [if_pos ⟨trivial, trivial, rfl⟩, set_flags i (by omega), upd_upd]
    refine qb_of (x := .int .i64 ((i + 1 : Nat) : Int)) (by simp; rw [wrap64 (by omega) (by omega)]) ?_
    exact ⟨200 - (i + 1), by omega, i + 1, by omega, rfl, rfl, rfl⟩
  · have hi2 : i = 200 := by omega
    subst hi2
    refine hJ [.vsl b 200 200] _ [boolsP (List.replicate 200 true)] w2 ?_ ?_
    · have := Conv.freeze (b := b) (n := 200) (cap := 200) (esz := 1) (xs := List.replicate 200 (PV.bool true)) (st := upd w2 b (.vec 1 (List.replicate 200 (PV.bool true)) 200)) (upd_same _ _ _) (by simp)
      rw [del_upd_new hbn] at this
      unfold boolsP
      rw [List.map_replicate]
      simpa using this
    · refine qb_of (h2.ld (t := m) (by simp)) ?_
      have hsrc := omT_source (flagsOf numbersL) m (List.replicate 200 true) htt
      have hfree := omT_free (flagsOf numbersL) m (List.replicate 200 true) (judged_free hj)
      have ho1 := fun s => Owns.just (h_impl_Omit numbersL m (List.replicate 200 true) (by simp) s)
      have ho2 := fun s => h_spec_Omit numbersL m (List.replicate 200 true) (by simp) s
      rw [dropP_yes (hz (List.replicate 200 true) (by simp))] at ho1 ho2
      generalize (omT (flagsOf numbersL) m (List.replicate 200 true)).1 = y at hsrc hfree ho1 ho2
      refine callK_just (ho1 _) ?_
      refine qb_of (x := tree y) rfl ?_
      refine qb_of (x := .int .i64 0) rfl ?_
      refine h2.news rfl fun v11 w3 h3 => ?_
      refine qb_of (h3.ld (t := m) (by simp)) ?_
      refine callK_just (ho2 _) ?_
      refine qb_of (x := tree y) rfl ?_
      refine qb_of (x := .int .i64 0) rfl ?_
      refine h3.news rfl fun v13 w4 h4 => ?_
      refine qb_of (x := .bool false) rfl ?_
      rw [cb_bool, br_false]
      refine qb_of (x := .bool false) rfl ?_
      rw [cb_bool, br_false]
      refine qb_of (h4.ld (t := m) (by simp)) ?_
      refine qb_of (h4.ld (t := m) (by simp)) ?_
      refine callK_just (h_laws_same m m _) ?_
      refine qb_of (x := .bool false) (by simp) ?_
      rw [cb_bool, br_false]
      refine qb_of (h4.ld (t := y) (by simp)) ?_
      refine qb_of (h4.ld (v := v13) (t := y) (by simp)) ?_
      refine callK_just (h_laws_same y y _) ?_
      refine qb_of (x := .bool false) (by simp) ?_
      rw [cb_bool, br_false]
      refine qb_of (h4.ld (t := y) (by simp)) ?_
      refine callK_just (h_impl_SourceOK y (by omega) _) ?_
      rw [source_of (by omega) hsrc.1 hfree]
      refine qb_of (x := .bool false) rfl ?_
      rw [cb_bool, br_false]
      refine qb_of (h4.ld (t := y) (by simp)) ?_
      refine qb_of (h4.ld (t := m) (by simp)) ?_
      refine callK_just (h_impl_Size y (by omega) _) ?_
      refine ⟨h4.ld (t := m) (by simp), ?_⟩
      refine callK_just (h_impl_Size m (by omega) _) ?_
      refine qb_of (x := .bool false) (by simp; omega) ?_
      rw [cb_bool, br_false]
      refine hFix_ind (OmSig st) (n := 12) ?_ ⟨h4.sub, 0, by omega, rfl, rfl⟩
      rintro k ls s ih2 ⟨hs, i, hi, rfl, rfl⟩
      refine qb_of (x := .int .i64 12) (by simp [numbersL]) ?_
      refine qb_of (x := .bool (decide ((i : Int) < 12))) (by simp) ?_
      refine br_dec (fun hlt => ?_) (fun hge => Just.bool rfl hs)
      have hi' : i < numbersL.length := by show i < 12; omega
      obtain ⟨d, hd⟩ : ∃ d, numbersL[i]? = some d := ⟨_, List.getElem?_eq_getElem hi'⟩
      have hmem := List.mem_of_getElem? hd
      refine qb_of (x := .ref (decl d).cells) (ia_decl _ hd) ?_
      refine qb_of (x := .ref (.bool d.fam :: (tree d.type).cells)) (by simp [q_fa]) ?_
      refine qb_of (x := .bool d.fam) rfl ?_
      rw [cb_bool]
      have hnext : q_bin .add (([PV.int .i64 (i : Int)] : List PV).getD 0 .junk) (.int .i64 1) = some (.int .i64 ((i + 1 : Nat) : Int)) := by simp; rw [wrap64 (by omega) (by omega)]
      rcases numbers_pi d hmem with hf | ⟨hf, k, a', hk, hp, hda, hoa, hnl⟩
      · rw [hf, br_true]
        refine qb_of hnext ?_
        exact ⟨12 - (i + 1), by omega, hs, i + 1, by omega, rfl, rfl⟩
      · rw [hf, br_false]
        refine qb_of (x := .ref (decl d).cells) (ia_decl _ hd) ?_
        refine qb_of (x := .ref (tree d.type).cells) (by simp [q_fa]) ?_
        refine qb_of (x := tree d.type) (by simp) ?_
        refine (Held.start s).news rfl fun v17 s1 k1 => ?_
        refine hFix_ind (OmPi s k) (n := k) ?_ ⟨k1.sub, 0, d.type, v17, by omega, hp, rfl, k1.got (v17, tree d.type) (by simp)⟩
        rintro j ls s2 ih3 ⟨hs2, c, t, v, hcj, hpt, rfl, hv⟩
        refine qb_of (x := .ptr v 0) rfl ?_
        refine qb_of (x := .int .i64 t.kind) (by rw [q_load_ptr hv]; simp) ?_
        refine qb_of (x := .bool (decide (t.kind = 2))) (by simp) ?_
        refine br_dec (fun h2 => ?_) (fun h2 => ?_)
        · cases hpt with
          | z hne => exact absurd h2 hne
          | @s j' a1 b1 hpb =>
            refine qb_of (x := .int .i64 ((c + 1 : Nat) : Int)) (by simp; rw [wrap64 (by omega) (by omega)]) ?_
            refine qb_of (load_tree hv) ?_
            refine (Held.start s2).news rfl fun v2 s3 k2 => ?_
            have hv2 := k2.got (v2, tree (.pi a1 b1)) (by simp)
            refine qb_of (x := .ptr v2 3) rfl ?_
            refine qb_of (x := trees [a1, b1]) (by rw [q_load_ptr hv2, tree_cells]; rfl) ?_
            refine qb_of (x := .ref (tree b1).cells) rfl ?_
            refine qb_of (x := tree b1) (by simp) ?_
            refine store_tree hv2 (by simp) ?_
            exact ⟨j', by omega, hs2.trans (k2.sub.put (k2.out v2 (by simp))), c + 1, b1, v2, by omega, hpb, rfl, upd_same _ _ _⟩
        · cases hpt with
          | s hpb => exact absurd rfl h2
          | z hne =>
            refine qb_of (x := .ref (decl d).cells) (ia_decl _ hd) ?_
            refine qb_of (x := .ref (decl d).cells) (by simp [q_fa]) ?_
            refine qb_of (x := .str d.name) (by simp) ?_
            have hot := Owns.just (h_impl_Omittable numbersL d.name s2)
            rw [omitP_yes (by simp [numbersL]; omega) numbers_sig hda] at hot
            refine callK_just hot ?_
            refine qb_of (x := boolsP (omitB a')) rfl ?_
            refine qb_of (x := .int .i64 0) rfl ?_
            refine qb_of (x := .bool false) rfl ?_
            rw [cb_bool, br_false]
            refine qb_of (x := .int .i64 (c : Int)) (by rw [boolsP_len, hoa]; congr 2; omega) ?_
            refine qb_of (x := .bool false) (by simp) ?_
            rw [cb_bool, br_false]
            refine qb_of hnext ?_
            exact ⟨12 - (i + 1), by omega, hs.trans hs2, i + 1, by omega, rfl, rfl⟩
end Go.H.Tryz
