/- Part of a proof that the program answers as the reference does: DC12, DC13, DC9, DC14, DC15, DC16. -/
import Derived.Defers
import Derived.Recover
import Derived.Test.YtmfdgpjmdbdhcaaDoorHS0
import Derived.Test.YtmfdgpjmdbdhcaaDoorHS1
import Derived.Test.YtmfdgpjmdbdhcaaDoorHS2
import Derived.Test.YtmfdgpjmdbdhcaaDoorHS3
import Derived.Test.YtmfdgpjmdbdhcaaDoorHS4
import Derived.Test.YtmfdgpjmdbdhcaaDoorHS5
import Derived.Test.YtmfdgpjmdbdhcaaDoorHP
import Derived.Test.YtmfdgpjmdbdhcaaDoorHX
/- Contracts: what the laws' own functions do with constants and their types. -/
set_option linter.unusedVariables false
set_option linter.unusedSimpArgs false
namespace Go.H.Tryd
open Go Go.H

theorem h_laws_szTyped (x : Ty) (m : Int) (hm : 0 ≤ m ∧ m ≤ 1000000000) (hn : x.bulk ≤ 1000000000000) (st : St) : HCalls prog n_laws_szTyped [typed x, .int .i64 m] st (Just (.int .i64 (left m x.bulk)) st) := by
  apply c_laws_szTyped
  unfold b_laws_szTyped
  generalize hv : left m x.bulk = v
  unfold Ty.bulk at hn hv
  refine e_box_ref (typed_isJunk _) ?_
  try simp
  rw [wrap64 (by omega) (by omega)]
  refine br_dec (fun h => Just.int ?_) (fun h => ?_)
  · rw [← hv]; unfold left; rw [if_neg (by omega)]
  · refine callK_just (h_laws_szTree x.type _ (by omega) (by omega) _) ?_
    try simp
    have e1 : left (m - x.name.length) x.type.bulk = v := by rw [← hv]; unfold left; split <;> split <;> omega
    rw [e1]
    refine br_dec (fun h2 => Just.int ?_) (fun h2 => Just.int rfl)
    rw [← e1] at h2 ⊢
    unfold left at h2 ⊢
    split <;> simp_all
    omega
theorem h_laws_szTypedS (ts : List Ty) (m : Int) (hm : 0 ≤ m ∧ m ≤ 1000000000) (hn : Ty.bulks ts ≤ 1000000000000) (st : St) : HCalls prog n_laws_szTypedS [typeds ts, .int .i64 m] st (Just (.int .i64 (left m (Ty.bulks ts))) st) := by
  apply c_laws_szTypedS
  unfold b_laws_szTypedS
  have hl := Ty.length_le ts
  try simp [typeds]
  rw [wrap64 (by omega) (by omega)]
  refine br_dec (fun h => ?_) (fun h => ?_)
  · rw [show left m (Ty.bulks ts) = -1 by unfold left Ty.bulks; rw [if_neg (by omega)]]
    exact Just.ret (Sub.refl _)
  · refine hFix_rec (σ := Int × Nat) (fun s => ts.length - s.2) (fun s => [.int .i64 s.1, .int .i64 (s.2 : Int)]) (fun _ => st)
      (fun s => s.2 ≤ ts.length ∧ 0 ≤ s.1 ∧ s.1 ≤ 1000000000 ∧ left m (Ty.bulks ts) = left s.1 (((ts.drop s.2).map Ty.bulk).sum)) ?_ (m - ts.length, 0) ⟨by omega, by simpa using h, by simp; omega, by
        simp only [List.drop_zero]; unfold left Ty.bulks; split <;> split <;> omega⟩
    rintro ⟨c, i⟩ ⟨hi, hc, hc2, hl2⟩ ihl
    simp only at hi hc hl2 hc2
    try simp
    refine br_dec (fun h2 => ?_) (fun h2 => ?_)
    · have hit : i < ts.length := by omega
      rw [ia_typeds hit]
      try simp
      refine callK_just (h_laws_szTyped _ _ (by omega) (by have := Ty.bulk_mem (List.getElem_mem hit); omega) _) ?_
      try simp
      rw [List.drop_eq_getElem_cons hit] at hl2
      simp only [List.map_cons, List.sum_cons] at hl2
      refine br_dec (fun h3 => ?_) (fun h3 => ?_)
      · rw [show left m (Ty.bulks ts) = -1 by rw [hl2]; unfold left at h3 ⊢; split at h3 <;> split <;> omega]
        exact Just.ret (Sub.refl _)
      · rw [wrap64 (by omega) (by omega)]
        refine ihl (left c ts[i].bulk, i + 1) (by simp; omega) ⟨by simp; omega, by simpa using h3, by simp [left]; split <;> omega, ?_⟩
        rw [hl2]; simp only; unfold left at h3 ⊢; split at h3 <;> split <;> (try split) <;> omega
    · have hii : i = ts.length := by omega
      subst hii
      rw [hl2, List.drop_length]
      try simp [left, hc]
      exact Just.ret (Sub.refl _)
theorem h_laws_eqTyped (a b : Ty) (st : St) : HCalls prog n_laws_eqTyped [typed a, typed b] st (Just (.bool (decide (a = b))) st) := by
  apply c_laws_eqTyped
  unfold b_laws_eqTyped
  generalize hv : decide (a = b) = v
  refine e_box_ref (typed_isJunk _) ?_
  refine e_box_ref (typed_isJunk _) ?_
  have he := Ty.ext_iff' a b
  try simp
  refine br_dec (fun h1 => ?_) (fun h1 => Just.bool (by rw [← hv, decide_eq_false (by rw [he]; simp [h1])]))
  refine callK_just (h_laws_eqTree _ _ _) ?_
  try simp
  refine br_dec (fun h2 => Just.bool (by rw [← hv, decide_eq_true (he.2 ⟨h1, h2⟩)])) (fun h2 => Just.bool (by rw [← hv, decide_eq_false (by rw [he]; simp [h2])]))
theorem h_laws_eqTypedS (xs ys : List Ty) (st : St) : HCalls prog n_laws_eqTypedS [typeds xs, typeds ys] st (Just (.bool (decide (xs = ys))) st) := by
  refine HCalls.wf e_laws_eqTypedS fun hw => ?_
  have hw := (typeds_wf hw.1).1
  apply c_laws_eqTypedS
  unfold b_laws_eqTypedS
  try simp [typeds]
  refine br_dec (fun h => ?_) (fun h => ?_)
  · refine hFix_rec (σ := Nat) (fun i => xs.length - i) (fun i => [.int .i64 (i : Int)]) (fun _ => st) (fun i => i ≤ xs.length ∧ (xs = ys ↔ xs.drop i = ys.drop i)) ?_ 0 ⟨by omega, by simp⟩
    rintro i ⟨hi, he⟩ ihl
    try simp
    refine br_dec (fun h2 => ?_) (fun h2 => ?_)
    · have hit : i < xs.length := by omega
      have hib : i < ys.length := by omega
      rw [ia_typeds hit, ia_typeds hib]
      try simp
      refine callK_just (h_laws_eqTyped _ _ _) ?_
      try simp
      rw [List.drop_eq_getElem_cons hit, List.drop_eq_getElem_cons hib, List.cons.injEq] at he
      refine br_dec (fun h3 => ?_) (fun h3 => ?_)
      · rw [show IntKind.i64.wrap ((i : Int) + 1) = ((i + 1 : Nat) : Int) from W_succ (by omega)]
        exact ihl (i + 1) (by omega) ⟨by omega, by rw [he]; simp [h3]⟩
      · rw [decide_eq_false (by rw [he]; simp [h3])]
        exact Just.ret (Sub.refl _)
    · have e1 : xs.drop i = [] := by rw [List.drop_eq_nil_iff]; omega
      have e2 : ys.drop i = [] := by rw [List.drop_eq_nil_iff]; omega
      rw [decide_eq_true (he.2 (by rw [e1, e2]))]
      exact Just.ret (Sub.refl _)
  · rw [decide_eq_false (by intro e; rw [e] at h; exact h rfl)]
    exact Just.ret (Sub.refl _)
theorem h_laws_toTyped (x : Ty) (hn : x.bulk ≤ 1000000000) (st : St) : HCalls prog n_laws_toTyped [typed x] st (Just (typed x) st) := by
  apply c_laws_toTyped
  unfold b_laws_toTyped
  unfold Ty.bulk at hn
  refine e_box_ref (typed_isJunk _) ?_
  intro b1 hb1 b2 hb2
  simp only [upd_none] at hb1 hb2
  try simp [q_load_p, upd_apply, hb1, hb2]
  refine callK_just (h_laws_toTree _ (by omega) _) ?_
  try simp [q_load_p, upd_apply, hb1, hb2]
  exact Just.ret (by repeat (first | exact Sub.refl _ | refine Sub.fresh ?_ (by simp [*])))
theorem h_laws_toTypedS (ts : List Ty) (hn : Ty.bulks ts ≤ 1000000000) (st : St) : HCalls prog n_laws_toTypedS [typeds ts] st (Just (typeds ts) st) := by
  have hl := Ty.length_le ts
  apply c_laws_toTypedS
  unfold b_laws_toTypedS
  try simp
  refine ⟨rfl, by simp, by omega, ?_⟩
  try simp
  refine ⟨by omega, by omega, ?_⟩
  intro b hb
  refine hFix_rec (σ := Nat) (fun i => ts.length - i) (fun i => [.int .i64 (i : Int)]) (fun i => upd st b (.vec 5 ((ts.take i).map typed ++ List.replicate (ts.length - i) (.agg [.str [], .int .i64 0, .int .i64 0, .str [], .sl 0 true []])) ts.length)) (fun i => i ≤ ts.length) ?_ 0 (by omega)
  intro i hi ihl
  try simp
  refine br_dec (fun h => ?_) (fun h => ?_)
  · rw [ia_typeds h]
    try simp
    refine callK_just (h_laws_toTyped _ (by have := Ty.bulk_mem (List.getElem_mem h); omega) _) ?_
    try simp [h]
    refine e_store_el (upd_same _ _ _) (fill_get ts i ts.length _ typed h rfl) rfl (typed_ncells _) (typed_cellOK _) (typed_isAgg _) (typed_isJunk _) ?_
    rw [fill_set ts i ts.length _ typed h rfl, show IntKind.i64.wrap ((i : Int) + 1) = ((i + 1 : Nat) : Int) from W_succ (by unfold maxLen; omega)]
    have := ihl (i + 1) (by omega) (by omega)
    simpa using this
  · have hi2 : i = ts.length := by omega
    subst hi2
    refine Just.conv ?_
    have := Conv.freeze (st := upd st b (.vec 5 (ts.map typed) ts.length)) (n := ts.length) (upd_same _ _ _) (by simp)
    rw [del_upd _ _ _ hb] at this
    simpa [List.take_of_length_le] using this
end Go.H.Tryd
/- Contracts: the reference's check of long terms at simple types. -/
set_option linter.unusedVariables false
set_option linter.unusedSimpArgs false
namespace Go.H.Tryd
open Go Go.H

theorem h_spec_l03Const (xs : List Ty) (n : List UInt8) (hl : xs.length ≤ 1000000) (st : St) : HCalls prog n_spec_l03Const [typeds xs, .str n] st (Just (.int .i64 (tyAt xs n)) st) := by
  apply c_spec_l03Const
  unfold b_spec_l03Const
  generalize hv : tyAt xs n = v
  try simp [typeds]
  refine loop_idx (β := Unit) xs (fun _ i => [.int .i64 (i : Int)]) (fun _ => st) (fun _ i rest => tyGo n i rest = v) ?_ ?_ () hv
  · intro i x rest _ hi hx hq kk
    try simp [hi, ia_typed _ hx]
    rw [tyGo] at hq
    refine br_dec (fun h => Just.int ?_) (fun h => ?_)
    · rw [← hq, if_pos h]
    · rw [if_neg h] at hq
      rw [W_idx hi (by unfold maxLen; omega)]
      exact kk () hq
  · intro _ hq
    try simp
    exact Just.int hq
theorem h_spec_l03Consts (xs : List Ty) (st : St) : HCalls prog n_spec_l03Consts [typeds xs] st (Just (.bool (tysOK xs)) st) := by
  apply c_spec_l03Consts
  unfold b_spec_l03Consts
  generalize hv : tysOK xs = v
  unfold tysOK at hv
  try simp [typeds]
  refine br_dec (fun h => Just.bool (by rw [← hv, decide_eq_false (by omega)]; rfl)) (fun h => ?_)
  rw [decide_eq_true (by omega), Bool.true_and] at hv
  refine loop_idx (β := Unit) xs (fun _ i => [.int .i64 (i : Int)]) (fun _ => st) (fun _ i rest => tysGo xs i rest = v) ?_ ?_ () hv
  · intro i x rest _ hi hx hq kk
    try simp [hi, ia_typed _ hx]
    rw [tysGo] at hq
    refine callK_just (h_spec_NameOK _ _) ?_
    try simp
    refine br_of (fun h1 => ?_) (fun h1 => Just.bool (by rw [← hq, h1]; rfl))
    rw [h1, Bool.true_and] at hq
    try simp [hi, ia_typed _ hx]
    refine callK_just (h_spec_SimpleOK _ _) ?_
    try simp
    refine br_of (fun h2 => ?_) (fun h2 => Just.bool (by rw [← hq, h2]; rfl))
    rw [h2, Bool.true_and] at hq
    try simp [hi, ia_typed _ hx]
    rw [sliceE_take _ (by simp; omega)]
    try simp [hi, ia_typed _ hx]
    rw [← List.map_take]
    refine callK_just (h_spec_l03Const (xs.take i) _ (by simp; omega) _) ?_
    try simp
    refine br_dec (fun h3 => Just.bool (by rw [← hq, decide_eq_false (by omega)]; rfl)) (fun h3 => ?_)
    rw [decide_eq_true (by omega), Bool.true_and] at hq
    rw [W_idx hi (by unfold maxLen; omega)]
    exact kk () hq
  · intro _ hq
    try simp
    rw [tysGo] at hq
    exact Just.bool hq
theorem h_spec_l03Typed (cs : List Ty) (holes : List Tr) (he : TyEnv cs holes) : ∀ (m : Nat) (ctx : List Tr) (t a : Tr), ctx.length + m ≤ 2000000 → (∀ a ∈ ctx, a.isSimple = true) → t.isTerm false = true → t.size ≤ m → a.isSimple = true → ∀ st,
    HCalls prog n_spec_l03Typed [typeds cs, trees ctx, trees holes, tree t, tree a] st (Just (.int .i64 (typedT cs holes m ctx t a)) st)
  | 0, ctx, t, a, _, _, _, hsz, _, st => by have := Tr.size_kids t; omega
  | m + 1, ctx, t, a, hlen, hctx, ht, hsz, ha, st => by
    apply c_spec_l03Typed
    unfold b_spec_l03Typed
    generalize hv : typedT cs holes (m + 1) ctx t a = v
    rw [typedT] at hv
    refine e_box_ref (tree_isJunk _) ?_
    refine e_box_ref (tree_isJunk _) ?_
    try simp
    refine br_dec (fun h4 => ?_) (fun h4 => ?_)
    · rw [if_pos h4] at hv
      refine br_dec (fun h10 => ?_) (fun h10 => Just.int (by rw [← hv, if_neg h10]))
      rw [if_pos h10] at hv
      obtain ⟨x, hx, hxt⟩ := lam_kid ht h4
      obtain ⟨y, z, hyz, hy, hz⟩ := simple_kids ha h10
      rw [kid0 hx, kid0 hyz, kid1 hyz] at hv
      have hxs : x.size < t.size := Tr.kid_size (by rw [hx]; simp)
      have x0 : t.kids[0]? = some x := by rw [hx]; rfl
      have y0 : a.kids[0]? = some y := by rw [hyz]; rfl
      have y1 : a.kids[1]? = some z := by rw [hyz]; rfl
      try simp [ia_tree0 _ x0, ia_tree0 _ y0, ia_tree1 _ y1]
      refine (Grow.nil _ 4 4).append (elems_sl _ _ _ _) (by simp; omega) fun p1 s1 hg1 => ?_
      try simp
      refine hg1.append (elems_sl _ _ _ _) (by simp; omega) fun p2 s2 hg2 => ?_
      try simp
      refine callK_conv (us' := [typeds cs, trees (ctx ++ [y]), trees holes, tree x, tree z]) (st' := st) ?_ ?_
      · exact Conv.cons (Conv.sub hg2.sub) (Conv.cons (by simpa using hg2.freeze) (Conv.sub hg2.sub))
      · refine callK_just (h_spec_l03Typed cs holes he m _ _ _ (by simp; omega) (fun b hb => ?_) hxt (by omega) hz st) ?_
        · rcases List.mem_append.1 hb with h | h
          · exact hctx b h
          · simp at h; rw [h]; exact hy
        · exact Just.int hv
    · rw [if_neg h4] at hv
      refine br_dec (fun h10 => Just.int (by rw [← hv, if_pos h10])) (fun h10 => ?_)
      rw [if_neg h10] at hv
      try simp
      intro b11 hb
      try simp [q_load_p, upd_apply, hb]
      refine hJ_of fun J hJ => ?_
      have key : ∀ b, headType cs ctx holes t = .inr b → J [] (upd st b11 (.cells (tree b).cells)) := by
        intro b hhb
        rw [hhb] at hv
        have hbs := headType_simple he hctx ht hhb
        refine hJ _ _ ?_
        refine hJ_of fun J1 hJ1 => ?_
        refine loop_idx (β := Tr) t.kids (fun _ i => [.int .i64 (i : Int)]) (fun b => upd st b11 (.cells (tree b).cells)) (fun b i rest => b.isSimple = true ∧ (match argsType (typedT cs holes m ctx) rest b with | .inl c => c | .inr b => endType a b) = v) ?_ ?_ b ⟨hbs, hv⟩
        · rintro i x rest b hi hx ⟨hbs, hq⟩ kk
          rw [argsType] at hq
          try simp [hi, q_load_p, upd_apply, ia_tree _ hx]
          refine br_dec (fun k10 => ?_) (fun k10 => Just.int (by rw [← hq, if_neg k10]) (Sub.fresh (Sub.refl _) hb))
          rw [if_pos k10] at hq
          obtain ⟨y, z, hyz, hy, hz⟩ := simple_kids hbs k10
          have y0 : b.kids[0]? = some y := by rw [hyz]; rfl
          have y1 : b.kids[1]? = some z := by rw [hyz]; rfl
          rw [kid0 hyz, kid1 hyz] at hq
          try simp [ia_tree0 _ y0]
          have hxm := List.mem_of_getElem? hx
          refine callK_just (h_spec_l03Typed cs holes he m ctx x y (by omega) hctx (Tr.kids_lams ht hxm) (by have := Tr.kid_size hxm; omega) hy _) ?_
          try simp
          refine br_dec (fun hc => ?_) (fun hc => Just.int (by rw [← hq, if_neg hc]) (Sub.fresh (Sub.refl _) hb))
          rw [if_pos hc] at hq
          try simp [q_load_p, upd_apply, ia_tree1 _ y1]
          rw [W_idx hi (by unfold maxLen; have := Tr.kids_len t; omega)]
          exact kk z ⟨hz, hq⟩
        · rintro b ⟨hbs, hq⟩
          simp only [argsType] at hq
          try simp
          refine hJ1 _ _ ?_
          try simp [q_load_p, upd_apply]
          unfold endType at hq
          refine br_dec (fun k10 => Just.int (by rw [← hq, if_pos k10]) (Sub.fresh (Sub.refl _) hb)) (fun k10 => ?_)
          rw [if_neg k10] at hq
          exact br_dec (fun kn => Just.int (by rw [← hq, if_pos kn]) (Sub.fresh (Sub.refl _) hb)) (fun kn => Just.int (by rw [← hq, if_neg kn]) (Sub.fresh (Sub.refl _) hb))
      have out : ∀ c : Int, headType cs ctx holes t = .inl c → c = v := fun c h => by rw [h] at hv; exact hv
      refine br_dec (fun h5 => ?_) (fun h5 => ?_)
      · have hn := var_n ht (.inl h5)
        refine br_dec (fun hge => Just.int (out 7 (by unfold headType; rw [if_pos h5, if_pos (by omega)])) (Sub.fresh (Sub.refl _) hb)) (fun hge => ?_)
        have hi : ((ctx.length : Int) - 1 - t.n).toNat < ctx.length := by omega
        have e1 : IntKind.i64.wrap (IntKind.i64.wrap ((ctx.length : Int) - 1) - t.n) = ((((ctx.length : Int) - 1 - t.n).toNat : Nat) : Int) := by
          rw [wrap64 (n := (ctx.length : Int) - 1) (by omega) (by omega), wrap64 (by omega) (by omega)]
          omega
        rw [e1, ia_trees hi]
        try simp [q_load_p, upd_apply]
        exact key _ (by unfold headType; rw [if_pos h5, if_neg (by omega), getD_of hi])
      · refine br_dec (fun h7 => ?_) (fun h7 => ?_)
        · have hn := var_n ht (.inr h7)
          refine br_dec (fun hge => Just.int (out 15 (by unfold headType; rw [if_neg h5, if_pos h7, if_pos (by omega)])) (Sub.fresh (Sub.refl _) hb)) (fun hge => ?_)
          have hi : t.n.toNat < holes.length := by omega
          have e1 : t.n = ((t.n.toNat : Nat) : Int) := by omega
          rw [e1, ia_trees hi]
          try simp [q_load_p, upd_apply]
          exact key _ (by unfold headType; rw [if_neg h5, if_pos h7, if_neg (by omega), getD_of hi])
        · refine callK_just (h_spec_l03Const cs t.name (by have := he.cl; omega) _) ?_
          try simp
          refine br_dec (fun hlt => Just.int (out 5 (by unfold headType; rw [if_neg h5, if_neg h7, if_pos hlt])) (Sub.fresh (Sub.refl _) hb)) (fun hlt => ?_)
          rcases tyAt_cases cs t.name with ⟨e1, _⟩ | ⟨j, hj, e1, _⟩
          · omega
          · rw [e1, ia_typeds hj]
            try simp [q_load_p, upd_apply]
            exact key _ (by unfold headType; rw [if_neg h5, if_neg h7, if_neg hlt, e1]; simp [hj])
theorem tysGo_simple (xs : List Ty) : ∀ (i : Nat) (r : List Ty), tysGo xs i r = true → ∀ x ∈ r, x.type.isSimple = true
  | _, [], _, _, h => by cases h
  | i, y :: r, h, x, hx => by
    rw [tysGo] at h
    simp only [Bool.and_eq_true, Tr.simpleOK] at h
    rcases List.mem_cons.1 hx with e | e
    · subst e; exact h.1.1.2.2
    · exact tysGo_simple xs (i + 1) r h.2 x e
theorem tyEnv {cs : List Ty} {holes : List Tr} {m : Int} (h1 : tysOK cs = true) (h2 : simplesOK holes m = true) (hl : holes.length ≤ 4096) : TyEnv cs holes := by
  unfold tysOK at h1
  simp only [Bool.and_eq_true, decide_eq_true_eq] at h1
  exact ⟨tysGo_simple cs 0 cs h1.2, fun a ha => (simplesOK_mem h2 a ha).1, by omega, hl⟩
theorem h_spec_SimpleCheck (cs : List Ty) (ctx holes : List Tr) (t a : Tr) (st : St) : HCalls prog n_spec_SimpleCheck [typeds cs, trees ctx, trees holes, tree t, tree a] st (Just (.int .i64 (checkT cs ctx holes t a)) st) := by
  apply c_spec_SimpleCheck
  unfold b_spec_SimpleCheck
  generalize hv : checkT cs ctx holes t a = v
  unfold checkT at hv
  refine e_box_ref (tree_isJunk _) ?_
  refine e_box_ref (tree_isJunk _) ?_
  try simp
  refine br_dec (fun h1 => Just.int (by rw [← hv, if_pos (by omega)])) (fun h1 => ?_)
  refine br_dec (fun h2 => Just.int (by rw [← hv, if_pos (by omega)])) (fun h2 => ?_)
  refine br_dec (fun h3 => Just.int (by rw [← hv, if_pos (by omega)])) (fun h3 => ?_)
  rw [if_neg (by omega)] at hv
  refine callK_just (h_spec_l03Consts cs _) ?_
  try simp
  refine br_of (fun g1 => ?_) (fun g1 => Just.int (by rw [← hv, g1]; rfl))
  refine callK_just (h_spec_l03Simples ctx 40 _) ?_
  try simp
  refine br_of (fun g2 => ?_) (fun g2 => Just.int (by rw [← hv, g1, g2]; rfl))
  refine callK_just (h_spec_l03Simples holes 20 _) ?_
  try simp
  refine br_of (fun g3 => ?_) (fun g3 => Just.int (by rw [← hv, g1, g2, g3]; rfl))
  refine callK_just (h_spec_TermOK t _) ?_
  try simp
  refine br_of (fun g4 => ?_) (fun g4 => Just.int (by rw [← hv, g1, g2, g3, g4]; rfl))
  refine callK_just (h_spec_SimpleOK a _) ?_
  try simp
  refine br_of (fun g5 => ?_) (fun g5 => Just.int (by rw [← hv, g1, g2, g3, g4, g5]; rfl))
  rw [g1, g2, g3, g4, g5] at hv
  simp at hv
  have ht := termOK_of g4
  unfold Tr.simpleOK at g5
  simp only [Bool.and_eq_true] at g5
  refine callK_just (h_spec_l03Typed cs holes (tyEnv g1 g3 (by omega)) 1000000 ctx t a (by omega) (fun b hb => (simplesOK_mem g2 b hb).1) ht.1 (by omega) g5.2 _) ?_
  exact Just.int hv
end Go.H.Tryd
/- Contracts: the program lifts, makes long forms and looks at patterns. -/
set_option linter.unusedVariables false
set_option linter.unusedSimpArgs false
namespace Go.H.Tryd
open Go Go.H

theorem h_impl_Tree_under (t : Tr) (i : Int) {p : PV} {st : St} (hp : PT st (tree t).cells p) : HCalls prog n_impl_Tree_under [p, .int .i64 i] st (Just (.int .i64 (t.under i)) st) := by
  have hb : HCalls prog n_impl_Tree_binds [p, .int .i64 i] st (Just (.bool (decide (t.under i = 1))) st) := by
    apply c_impl_Tree_binds
    unfold b_impl_Tree_binds
    obtain ⟨q0, g0, g0'⟩ := hp.at_ 0 (by simp)
    try simp [hp.nil, g0, g0']
    refine br_dec (fun h => Just.bool (by simp [Tr.under, h])) (fun h => ?_)
    try simp [hp.nil, g0, g0']
    refine br_dec (fun h2 => ?_) (fun h2 => Just.bool (by simp [Tr.under, h, h2]))
    exact Just.bool (by simp [Tr.under, h2])
  apply c_impl_Tree_under
  unfold b_impl_Tree_under
  refine callK_just hb ?_
  try simp
  refine br_dec (fun h => Just.int h.symm) (fun h => Just.int ?_)
  unfold Tr.under at h ⊢
  split <;> simp_all
theorem h_impl_same (a b : Tr) (st : St) : HCalls prog n_impl_same [tree a, tree b] st (Just (.bool (decide (a = b))) st) := by
  induction a using Tr.ind generalizing b st with
  | _ a ih =>
  refine HCalls.wf e_impl_same fun hw => ?_
  have hl := (tree_wf hw.1).1
  apply c_impl_same
  unfold b_impl_same
  refine e_box_ref (tree_isJunk _) ?_
  refine e_box_ref (tree_isJunk _) ?_
  generalize hv : decide (a = b) = v
  have he := Tr.ext_iff a b
  try simp
  refine br_dec (fun h1 => ?_) (fun h1 => Just.bool (by rw [← hv, decide_eq_false (by rw [he]; simp [h1])]))
  refine br_dec (fun h2 => ?_) (fun h2 => Just.bool (by rw [← hv, decide_eq_false (by rw [he]; simp [h2])]))
  refine br_dec (fun h3 => ?_) (fun h3 => Just.bool (by rw [← hv, decide_eq_false (by rw [he]; simp [h3])]))
  refine br_dec (fun h4 => ?_) (fun h4 => Just.bool (by rw [← hv, decide_eq_false (by rw [he]; intro e; rw [e.2.2.2] at h4; exact h4 rfl)]))
  have hl4 : a.kids.length = b.kids.length := by omega
  refine loop_idx (β := Unit) a.kids (fun _ i => [.int .i64 (i : Int)]) (fun _ => st) (fun _ i rest => decide (rest = b.kids.drop i) = v) ?_ ?_ () (by rw [← hv, decide_eq_decide, he]; simp [h1, h2, h3])
  · intro i x rest _ hi hx hq k
    obtain ⟨y, hy⟩ : ∃ y, b.kids[i]? = some y := ⟨b.kids[i]'(by omega), List.getElem?_eq_getElem _⟩
    rw [drop_some hy] at hq
    try simp [hi, ia_tree _ hx, ia_tree _ hy]
    refine callK_just (ih x (List.mem_of_getElem? hx) y _) ?_
    try simp
    refine br_dec (fun h => ?_) (fun h => Just.bool (by rw [← hq, decide_eq_false (by simp [h])]))
    rw [W_idx hi hl]
    exact k () (by rw [← hq, h, decide_eq_decide]; simp)
  · intro _ hq
    try simp
    exact Just.bool (by rw [← hq, hl4, List.drop_length]; rfl)
theorem h_impl_lam (t : Tr) (st : St) : HCalls prog n_impl_lam [tree t] st (Just (tree (Tr.lam t)) st) := by
  apply c_impl_lam
  unfold b_impl_lam
  refine e_box_ref (tree_isJunk _) ?_
  intro b hb
  try simp [q_struct, fillL, upd_apply, q_load_p]
  exact Just.tree rfl (.inl rfl) rfl rfl rfl (Sub.fresh (Sub.refl _) hb)
theorem h_impl_variable (n : Int) (e : Nat) (f : Bool) (ks : List Tr) (he : e = 4 ∨ ks = []) (st : St) : HCalls prog n_impl_variable [.int .i64 n, .sl e f (ks.map tree)] st (Just (tree (Tr.var n ks)) st) := by
  apply c_impl_variable
  unfold b_impl_variable
  intro b hb
  try simp [q_struct, fillL, upd_apply, q_load_p]
  exact Just.tree rfl (by rcases he with h | h; exact .inl h; exact .inr (by simp [h])) rfl rfl rfl (Sub.fresh (Sub.refl _) hb)
theorem h_impl_variable0 (n : Int) (st : St) : HCalls prog n_impl_variable [.int .i64 n, .sl 0 true []] st (Just (tree (Tr.var n [])) st) := h_impl_variable n 0 true [] (.inr rfl) st
/-- A tree whose variables are turned by a function value. -/
theorem h_impl_turned (F : Int → Int → Int) (g : FuncId) (us vs : List PV)
    (hg : ∀ (n d : Int) (s : List UInt8) (q : PV) (st : St), q.cellOK = true → HCalls prog g (us ++ [.agg [.int .i64 5, .int .i64 n, .str s, q], .int .i64 d] ++ vs) st (Just (.agg [.int .i64 5, .int .i64 (F n d), .str s, q]) st))
    (t : Tr) (d : Int) (hsz : t.size ≤ 1000000000000) (st : St) : HCalls prog n_impl_turned [tree t, .int .i64 d, .fn (.func g) us vs] st (OwnTree (turnedT F t d) st) := by
  induction t using Tr.ind generalizing d st with
  | _ t ih =>
  have hl := t.kids_len
  apply c_impl_turned
  unfold b_impl_turned
  refine e_box_own (tree_isJunk _) fun b3 hb3 => ?_
  intro b6 hb6
  simp only [upd_none] at hb6
  generalize hv : turnedT F t d = v
  rw [turnedT_eq] at hv
  try simp [q_load_p, upd_apply, hb6]
  generalize hst1 : upd (upd st b3 (HObj.cells (tree t).cells)) b6 (HObj.cells [PV.int IntKind.i64 0, PV.int IntKind.i64 0, PV.str [], PV.sl 0 true []]) = st1
  have g3 : st1 b3 = some (.cells (tree t).cells) := by subst hst1; simp [upd_apply, hb6]
  have g6 : st1 b6 = some (HObj.cells [PV.int IntKind.i64 0, PV.int IntKind.i64 0, PV.str [], PV.sl 0 true []]) := by subst hst1; simp [upd_apply]
  have gs : Sub st st1 := by subst hst1; exact (Sub.refl _).fresh hb3 |>.fresh hb6.2.2
  have n36 : b3 ≠ b6 := fun e => hb6.1 e.symm
  clear hst1
  refine hJ_of fun J hJ => ?_
  refine loop_idx (β := PV × St × St) t.kids (fun z i => [z.1, .int .i64 (i : Int)]) (fun z => z.2.1) (fun z i rest => Grow z.2.2 4 (((t.kids.mapIdx fun i x => turnedT F x (W (d + t.under i))).take i).map tree) z.1 z.2.1 ∧ z.2.2 b3 = some (.cells (tree t).cells) ∧ z.2.2 b6 = some (HObj.cells [PV.int IntKind.i64 0, PV.int IntKind.i64 0, PV.str [], PV.sl 0 true []]) ∧ Sub st z.2.2) ?_ ?_ (_, st1, st1) ⟨Grow.nil _ _ _, g3, g6, gs⟩
  · rintro i x rest ⟨p, s, sb⟩ hi hx ⟨q0, q3, q6, qs⟩ k
    simp only at q0 q3 q6 qs
    try simp [hi, ia_tree _ hx]
    intro c hc
    have hc2 := q0.sub.isNone hc
    try simp [q_load_p, upd_apply]
    have e3 := q0.sub.get q3
    have n3c := ne_of e3 hc
    refine callK_just (h_impl_Tree_under t i (PT.ptr (by simp [upd_apply, n3c, e3]))) ?_
    try simp [q_load_p, upd_apply]
    refine callK_just (OwnTree.just (ih x (List.mem_of_getElem? hx) _ (by have := Tr.kid_size (List.mem_of_getElem? hx); omega) _)) ?_
    try simp
    have q0' := q0.beside (c := c) (.cells (tree x).cells) hc
    refine q0'.append (elems_sl _ _ _ _) (by simp; omega) fun p' st' hg' => ?_
    rw [W_idx hi (by unfold maxLen; omega)]
    refine k (p', st', upd sb c (.cells (tree x).cells)) ⟨?_, ?_, ?_, qs.put (qs.isNone hc2)⟩
    · simp only
      rw [mapIdx_snoc _ _ _ hx]
      simpa using hg'
    · simp [upd_apply, n3c, q3]
    · simp [upd_apply, ne_of q6 hc2, q6]
  · rintro ⟨p, s, sb⟩ ⟨q0, q3, q6, qs⟩
    simp only at q0 q3 q6 qs
    try simp
    refine hJ _ _ ?_
    rw [List.take_of_length_le (by simp)] at q0
    have e3 := q0.sub.get q3
    have e6 := q0.sub.get q6
    try simp
    rw [e_store_p _ _ _ _ _ _ _ e3]
    have hqc := q0.cellOK
    have hqj : p.cells = [p] ∧ p.ncells = 1 ∧ p.isJunk = false := by
      rcases q0 with ⟨_, ⟨e, rfl⟩, _⟩ | ⟨b, cap, rfl, _⟩ <;> exact ⟨rfl, rfl, rfl⟩
    try simp [hqj, hqc, q_load_p, upd_apply]
    have q1 := q0.store (.cells [.int .i64 t.kind, .int .i64 t.n, .str t.name, p]) q3
    have e6' : upd s b3 (.cells [.int .i64 t.kind, .int .i64 t.n, .str t.name, p]) b6 = some (HObj.cells [PV.int IntKind.i64 0, PV.int IntKind.i64 0, PV.str [], PV.sl 0 true []]) := by simp [upd_apply, n36.symm, e6]
    have fin : ∀ nn : Int, v = .mk t.kind nn t.name (t.kids.mapIdx fun i x => turnedT F x (W (d + t.under i))) → ∀ cs, retR (OwnTree v st) (.agg [.int .i64 t.kind, .int .i64 nn, .str t.name, p]) (upd (upd s b3 (.cells [.int .i64 t.kind, .int .i64 t.n, .str t.name, p])) b6 cs) := fun nn hnn cs => by
      subst hnn
      have q2 := q1.store (c := b6) cs (o := HObj.cells [PV.int IntKind.i64 0, PV.int IntKind.i64 0, PV.str [], PV.sl 0 true []]) (by simp [upd_apply, n36.symm, q6])
      have hsub : Sub st (upd (upd sb b3 (.cells [.int .i64 t.kind, .int .i64 t.n, .str t.name, p])) b6 cs) := (qs.put hb3).put hb6.2.2
      -- the row goes out, the rest stays behind
      rcases q2 with ⟨h1, ⟨e, rfl⟩, h3⟩ | ⟨b, cap, h1, h2, h3, h4⟩
      · exact retR_sub (by rw [h3]; exact hsub) ⟨_, rfl, .inl ⟨h1, ⟨e, rfl⟩, rfl⟩⟩
      · refine retR_sub (st' := upd st b (.vec 4 ((t.kids.mapIdx fun i x => turnedT F x (W (d + t.under i))).map tree) cap)) ?_ ⟨p, rfl, .inr ⟨b, cap, h1, h2, hsub.isNone h3, rfl⟩⟩
        rw [h4]
        exact hsub.upd b _
    refine br_dec (fun h5 => ?_) (fun h5 => ?_)
    · rw [if_pos h5] at hv
      rw [h5] at fin ⊢
      refine callK_just (by simpa using hg t.n d t.name p _ hqc) ?_
      rw [h5] at e6'
      rw [e_store_p _ _ _ _ _ _ _ e6']
      try simp [q_load_p, upd_apply, hqc]
      exact fin _ (by rw [← hv, h5]) _
    · rw [if_neg h5] at hv
      rw [e_store_p _ _ _ _ _ _ _ e6']
      try simp [q_load_p, upd_apply, hqc]
      exact fin _ hv.symm _
theorem h_impl_lift_1 (frm b n d : Int) (s : List UInt8) (q : PV) (st : St) (hq : q.cellOK = true) :
    HCalls prog n_impl_lift_1 [.agg [.int .i64 5, .int .i64 n, .str s, q], .int .i64 d, .ref [.int .i64 frm], .ref [.int .i64 b]] st (Just (.agg [.int .i64 5, .int .i64 (liftF frm b n d), .str s, q]) st) := by
  apply c_impl_lift_1
  unfold b_impl_lift_1
  refine e_box_own rfl fun b4 hb4 => ?_
  intro b6 hb6
  simp only [upd_none] at hb6
  generalize hv : liftF frm b n d = v
  unfold liftF at hv
  try simp [q_load_p, upd_apply, hb6]
  refine br_dec (fun h => ?_) (fun h => ?_)
  · rw [if_pos h] at hv
    try simp [q_load_p, upd_apply, hb6, hq]
    refine Just.same (by rw [← hv]) ?_
    exact ((Sub.refl _).fresh hb4 |>.fresh hb6.2.2 |>.fresh hb4 |>.fresh hb6.2.2)
  · rw [if_neg h] at hv
    try simp [q_load_p, upd_apply, hb6, hq]
    refine Just.same (by rw [← hv]) ?_
    exact ((Sub.refl _).fresh hb4 |>.fresh hb6.2.2)
theorem h_impl_lift_own (t : Tr) (frm b : Int) (hf : W frm = frm) (hsz : t.size ≤ 1000000000000) (st : St) : HCalls prog n_impl_lift [tree t, .int .i64 frm, .int .i64 b] st (OwnTree (t.lift frm b) st) := by
  apply c_impl_lift
  unfold b_impl_lift
  refine e_box_ref (tree_isJunk _) ?_
  refine e_box_ref rfl ?_
  refine e_box_ref rfl ?_
  intro b6 hb6
  have hv : turnedT (liftF frm b) t 0 = t.lift frm b := by rw [turned_lift, Int.add_zero, hf]
  rw [← hv]
  try simp
  refine callK_own (h_impl_turned (liftF frm b) n_impl_lift_1 [] [.ref [.int .i64 frm], .ref [.int .i64 b]] (fun n d s q st hq => by simpa using h_impl_lift_1 frm b n d s q st hq) t 0 hsz _) fun q s' hg => ?_
  have e6 : s' b6 = some (HObj.cells [PV.int IntKind.i64 0, PV.int IntKind.i64 0, PV.str [], PV.sl 0 true []]) := hg.sub.get (upd_same _ _ _)
  have hqc := hg.cellOK
  rw [e_store_p _ _ _ _ _ _ _ e6]
  try simp [q_load_p, upd_apply, hqc]
  have q2 := hg.store (.cells [.int .i64 (turnedT (liftF frm b) t 0).kind, .int .i64 (turnedT (liftF frm b) t 0).n, .str (turnedT (liftF frm b) t 0).name, q]) (upd_same _ _ _)
  rcases q2 with ⟨h1, ⟨e, rfl⟩, h3⟩ | ⟨b, cap, h1, h2, h3, h4⟩
  · exact retR_sub (by rw [h3]; simpa using (Sub.refl st).fresh hb6) ⟨_, rfl, .inl ⟨h1, ⟨e, rfl⟩, rfl⟩⟩
  · refine retR_sub (st' := upd st b _) ?_ ⟨q, rfl, .inr ⟨b, cap, h1, h2, (Sub.isNone (by simpa using (Sub.refl st).fresh hb6) h3), rfl⟩⟩
    rw [h4]
    exact Sub.upd (by simpa using (Sub.refl st).fresh hb6) b _
theorem h_impl_lift (t : Tr) (frm b : Int) (hf : W frm = frm) (hsz : t.size ≤ 1000000000000) (st : St) : HCalls prog n_impl_lift [tree t, .int .i64 frm, .int .i64 b] st (Just (tree (t.lift frm b)) st) := OwnTree.just (h_impl_lift_own t frm b hf hsz st)
end Go.H.Tryd
/- Contracts: the program's check of long terms at simple types. -/
set_option linter.unusedVariables false
set_option linter.unusedSimpArgs false
namespace Go.H.Tryd
open Go Go.H

theorem h_slices_Max (x : Int) (r : List Int) (hn : r.length ≤ 1000000) (st : St) : HCalls prog n_slices_Max_int_int [.sl 1 true (.int .i64 x :: r.map (.int .i64))] st (Just (.int .i64 (most x r)) st) := by
  apply c_slices_Max_int_int
  unfold b_slices_Max_int_int
  generalize hv : most x r = v
  try simp
  refine br_dec (fun h => by omega) (fun h => ?_)
  try simp [q_ia]
  refine hFix_rec (σ := Int × Nat) (fun s => r.length + 1 - s.2) (fun s => [.int .i64 s.1, .int .i64 (s.2 : Int)]) (fun _ => st) (fun s => 1 ≤ s.2 ∧ s.2 ≤ r.length + 1 ∧ most s.1 (r.drop (s.2 - 1)) = v) ?_ (x, 1) ⟨by omega, by simp, by simpa using hv⟩
  rintro ⟨c, i⟩ ⟨h1, h2, h3⟩ ih
  simp only at h1 h2 h3 ih
  obtain ⟨i, rfl⟩ : ∃ j, i = j + 1 := ⟨i - 1, by omega⟩
  try simp
  refine br_dec (fun hlt => ?_) (fun hlt => Just.int (by rw [← h3, List.drop_of_length_le (by omega)]; rfl))
  have e1 : r[i]? = some r[i] := List.getElem?_eq_getElem hlt
  have e2 : (0 : Int) ≤ (i : Int) + 1 := by omega
  simp only [Nat.add_sub_cancel, List.drop_eq_getElem_cons hlt, most] at h3
  rw [if_pos e2, e1]
  try simp [q_max, PV.cells]
  rw [show IntKind.i64.wrap ((i : Int) + 1 + 1) = ((i + 1 + 1 : Nat) : Int) from by rw [wrap64 (by omega) (by omega)]; omega]
  exact ih (if r[i] > c then r[i] else c, i + 1 + 1) (by simp; omega) ⟨by simp, by simp; omega, by simpa using h3⟩
theorem h_impl_longLists (x : Int) (r : List Int) (hn : r.length ≤ 1000000) (st : St) : HCalls prog n_impl_longLists [.sl 1 true (.int .i64 x :: r.map (.int .i64))] st (Just (.bool ((x :: r).any fun y => decide (y > 4096))) st) := by
  apply c_impl_longLists
  unfold b_impl_longLists
  generalize hv : ((x :: r).any fun y => decide (y > 4096)) = v
  refine callK_just (h_slices_Max x r hn _) ?_
  try simp
  refine Just.bool ?_
  rw [← hv, Bool.eq_iff_iff, decide_eq_true_eq]
  exact most_any r x 4096
theorem h_impl_constsOK (xs : List Ty) (st : St) : HCalls prog n_impl_constsOK [typeds xs] st (Just (.bool (tysOK xs)) st) := by
  apply c_impl_constsOK
  unfold b_impl_constsOK
  generalize hv : tysOK xs = v
  unfold tysOK at hv
  try simp [typeds]
  refine br_dec (fun h => Just.bool (by rw [← hv, decide_eq_false (by omega)]; rfl)) (fun h => ?_)
  rw [decide_eq_true (by omega), Bool.true_and] at hv
  intro bm hbm
  refine loop_idx (β := St) xs (fun _ i => [.int .i64 (i : Int)]) (fun s => s) (fun s i rest => tysGo xs i rest = v ∧ Sub st s ∧ s bm = some (.map (seen (xs.take i)))) ?_ ?_ _ ⟨hv, (Sub.refl _).put hbm, by simp [seen]⟩
  · rintro i x rest s hi hx ⟨hq, hs, hm⟩ kk
    try simp [hi, ia_typed _ hx]
    rw [tysGo] at hq
    intro b5 hb5
    have hne : b5 ≠ bm := fun e => by rw [e, hm] at hb5; cases hb5
    try simp [q_load_p, upd_apply, hb5]
    have hs5 : Sub st (upd s b5 (.cells (typed x).cells)) := hs.put (hs.isNone hb5)
    have hm5 : (upd s b5 (.cells (typed x).cells)) bm = some (.map (seen (xs.take i))) := by rw [upd_ne _ _ hne.symm]; exact hm
    refine callK_just (h_impl_NameOK _ _) ?_
    try simp
    refine br_of (fun g1 => ?_) (fun g1 => Just.bool (by rw [← hq, g1]; rfl) hs5)
    rw [g1, Bool.true_and] at hq
    try simp [q_load_p, upd_apply]
    rw [lookup_seen hm5]
    try simp
    have ha := tyAt_any (xs := xs.take i) (n := x.name)
    refine br_of (fun g2 => Just.bool (by rw [← hq, decide_eq_false (by rw [ha, g2]; simp)]; simp) hs5) (fun g2 => ?_)
    rw [decide_eq_true (ha.2 g2), Bool.and_true] at hq
    refine callK_just (h_impl_badSimple _ _) ?_
    try simp
    refine br_of (fun g3 => ?_) (fun g3 => Just.bool (by rw [← hq, g3]; rfl) hs5)
    rw [g3, Bool.true_and] at hq
    try simp [q_load_p, upd_apply]
    refine mapset_seen hm5 g2 ?_
    try simp
    rw [W_idx hi (by unfold maxLen; omega)]
    refine kk _ ⟨hq, hs5.put hbm, ?_⟩
    rw [upd_same, List.take_add_one, hx]
    rfl
  · rintro s ⟨hq, hs, hm⟩
    try simp
    rw [tysGo] at hq
    exact Just.bool hq hs
theorem h_slices_IndexFunc_impl_Typed_impl_Typed (ts : List Ty) (n : List UInt8) (g : FuncId) (us vs : List PV) (hl : ts.length ≤ 1000000) (st : St) (hg : ∀ t ∈ ts, HCalls prog g (us ++ [typed t] ++ vs) st (Just (.bool (decide (t.name = n))) st)) :
    HCalls prog n_slices_IndexFunc_impl_Typed_impl_Typed [typeds ts, .fn (.func g) us vs] st (Just (.int .i64 (tyAt ts n)) st) := by
  apply c_slices_IndexFunc_impl_Typed_impl_Typed
  unfold b_slices_IndexFunc_impl_Typed_impl_Typed
  generalize hv : tyAt ts n = v
  try simp
  refine loop_idx (β := Unit) ts (fun _ i => [.int .i64 (i : Int)]) (fun _ => st) (fun _ i rest => tyGo n i rest = v) ?_ ?_ () hv
  · intro i x rest _ hi hx hq k
    rw [tyGo] at hq
    try simp [hi, ia_typed _ hx]
    refine callK_just (by simpa using hg x (List.mem_of_getElem? hx)) ?_
    try simp
    refine br_dec (fun h => Just.int (by rw [← hq, if_pos h])) (fun h => ?_)
    rw [W_idx hi (by unfold maxLen; omega)]
    exact k () (by rw [← hq, if_neg h])
  · intro _ hq
    try simp
    exact Just.int hq
theorem h_slices_Clip_impl_Tree_impl_Tree (ts : List Tr) (f : Bool) (st : St) : HCalls prog n_slices_Clip_impl_Tree_impl_Tree [.sl 4 f (ts.map tree)] st (Just (.sl 4 true (ts.map tree)) st) := by
  apply c_slices_Clip_impl_Tree_impl_Tree
  unfold b_slices_Clip_impl_Tree_impl_Tree
  have := sliceE_clip (e := 4) (f := f) (xs := ts.map tree) .i64 .i64
  simp at this
  try simp [this]
  exact Just.ret (Sub.refl _)
theorem h_impl_stop (c p : Int) (hc : c ≠ 0) (st : St) : HCalls prog n_impl_stop [.int .i64 c, .int .i64 p] st (Stops ty_impl_halt c p st) := by
  apply c_impl_stop
  unfold b_impl_stop
  try simp [q_iface]
  exact Stops.pan hc rfl rfl (Sub.refl _)
theorem h_impl_simpler_typeOf_1 (x : Ty) (t : Tr) (st : St) : HCalls prog n_impl_simpler_typeOf_1 [typed x, .ref (tree t).cells] st (Just (.bool (decide (x.name = t.name))) st) := by
  apply c_impl_simpler_typeOf_1
  unfold b_impl_simpler_typeOf_1
  generalize hv : decide (x.name = t.name) = v
  refine e_box_ref (typed_isJunk _) ?_
  try simp
  exact Just.bool hv
def simplerP (cs : List Ty) (holes : List Tr) : PV := .ref [.sl 5 false (cs.map typed), .sl 4 false (holes.map tree)]
theorem h_impl_simpler_typeOf (cs : List Ty) (ctx holes : List Tr) (he : TyEnv cs holes) (hlen : ctx.length ≤ 2000000) (t : Tr) (ht : t.isTerm false = true) (st : St) :
    HCalls prog n_impl_simpler_typeOf [simplerP cs holes, trees ctx, tree t] st (Heads ty_impl_halt (headType cs ctx holes t) st) := by
  apply c_impl_simpler_typeOf
  unfold b_impl_simpler_typeOf simplerP
  generalize hv : headType cs ctx holes t = v
  unfold headType at hv
  refine e_box_ref (tree_isJunk _) ?_
  intro b6 hb
  have hsub : ∀ o, Sub st (upd st b6 o) := fun o => (Sub.refl _).put hb
  try simp
  refine br_dec (fun h5 => ?_) (fun h5 => ?_)
  · have hn := var_n ht (.inl h5)
    rw [if_pos h5] at hv
    refine hJ_of fun J hJ => ?_
    refine br_dec (fun hge => ?_) (fun hge => ?_)
    · rw [if_pos (by omega)] at hv
      refine callK_stops (h_impl_stop 7 0 (by omega) _) (fun h => by omega) (fun _ => Heads.pan hv.symm (hsub _))
    · rw [if_neg (by omega)] at hv
      refine hJ _ _ ?_
      have hi : ((ctx.length : Int) - 1 - t.n).toNat < ctx.length := by omega
      have e1 : IntKind.i64.wrap (IntKind.i64.wrap ((ctx.length : Int) - 1) - t.n) = ((((ctx.length : Int) - 1 - t.n).toNat : Nat) : Int) := by
        rw [wrap64 (n := (ctx.length : Int) - 1) (by omega) (by omega), wrap64 (by omega) (by omega)]
        omega
      rw [e1, ia_trees hi]
      try simp [q_load_p, upd_apply]
      exact Heads.ret (by rw [← hv, getD_of hi]) (hsub _)
  · rw [if_neg h5] at hv
    refine br_dec (fun h7 => ?_) (fun h7 => ?_)
    · have hn := var_n ht (.inr h7)
      rw [if_pos h7] at hv
      refine hJ_of fun J hJ => ?_
      refine br_dec (fun hge => ?_) (fun hge => ?_)
      · rw [if_pos (by omega)] at hv
        refine callK_stops (h_impl_stop 15 0 (by omega) _) (fun h => by omega) (fun _ => Heads.pan hv.symm (hsub _))
      · rw [if_neg (by omega)] at hv
        refine hJ _ _ ?_
        have hi : t.n.toNat < holes.length := by omega
        have e1 : t.n = ((t.n.toNat : Nat) : Int) := by omega
        rw [e1, ia_trees hi]
        try simp [q_load_p, upd_apply]
        exact Heads.ret (by rw [← hv, getD_of hi]) (hsub _)
    · rw [if_neg h7] at hv
      refine callK_just (h_slices_IndexFunc_impl_Typed_impl_Typed cs t.name n_impl_simpler_typeOf_1 [] [.ref (tree t).cells] (by have := he.cl; omega) _ (fun x hx => h_impl_simpler_typeOf_1 x t _)) ?_
      try simp
      refine hJ_of fun J hJ => ?_
      refine br_dec (fun hlt => ?_) (fun hlt => ?_)
      · rw [if_pos hlt] at hv
        refine callK_stops (h_impl_stop 5 0 (by omega) _) (fun h => by omega) (fun _ => Heads.pan hv.symm (hsub _))
      · rw [if_neg hlt] at hv
        refine hJ _ _ ?_
        rcases tyAt_cases cs t.name with ⟨e1, _⟩ | ⟨j, hj, e1, _⟩
        · omega
        · rw [e1, ia_typeds hj]
          try simp [q_load_p, upd_apply]
          exact Heads.ret (by rw [← hv, e1]; simp [hj]) (hsub _)
theorem h_impl_simpler_check (cs : List Ty) (holes : List Tr) (he : TyEnv cs holes) : ∀ (m : Nat) (ctx : List Tr) (t a : Tr), ctx.length + m ≤ 2000000 → (∀ a ∈ ctx, a.isSimple = true) → t.isTerm false = true → t.size ≤ m → a.isSimple = true → ∀ st,
    HCalls prog n_impl_simpler_check [simplerP cs holes, trees ctx, tree t, tree a] st (Stops ty_impl_halt (typedT cs holes m ctx t a) 0 st)
  | 0, ctx, t, a, _, _, _, hsz, _, st => by have := Tr.size_kids t; omega
  | m + 1, ctx, t, a, hlen, hctx, ht, hsz, ha, st => by
    apply c_impl_simpler_check
    unfold b_impl_simpler_check
    generalize hv : typedT cs holes (m + 1) ctx t a = v
    rw [typedT] at hv
    refine e_box_ref (tree_isJunk _) ?_
    refine e_box_ref (tree_isJunk _) ?_
    try simp
    refine hJ_of fun J hJ => ?_
    refine br_of (fun hd => ?_) (fun hd => ?_)
    · have e9 : (9 : Int) = v := by rw [← hv]; by_cases h4 : t.kind = 4 <;> by_cases h10 : a.kind = 10 <;> simp_all
      exact callK_stops (h_impl_stop 9 0 (by omega) _) (fun h => by omega) (fun h => Stops.pan h e9 rfl (Sub.refl _))
    · refine hJ _ _ ?_
      refine br_dec (fun h4 => ?_) (fun h4 => ?_)
      · have h10 : a.kind = 10 := by simpa [h4] using hd
        rw [if_pos h4, if_pos h10] at hv
        obtain ⟨x, hx, hxt⟩ := lam_kid ht h4
        obtain ⟨y, z, hyz, hy, hz⟩ := simple_kids ha h10
        rw [kid0 hx, kid0 hyz, kid1 hyz] at hv
        have hxs : x.size < t.size := Tr.kid_size (by rw [hx]; simp)
        have x0 : t.kids[0]? = some x := by rw [hx]; rfl
        have y0 : a.kids[0]? = some y := by rw [hyz]; rfl
        have y1 : a.kids[1]? = some z := by rw [hyz]; rfl
        try simp [ia_tree0 _ x0, ia_tree0 _ y0, ia_tree1 _ y1]
        refine callK_just (h_slices_Clip_impl_Tree_impl_Tree ctx false _) ?_
        try simp
        refine append_full (elems_sl _ _ _ _) (by simp) (by simp; omega) fun p2 s2 hg2 => ?_
        try simp
        refine callK_conv (us' := [simplerP cs holes, trees (ctx ++ [y]), tree x, tree z]) (st' := st) (Conv.cons (Conv.sub hg2.sub) (Conv.cons (by simpa using hg2.freeze) (Conv.sub hg2.sub))) ?_
        exact callK_stops (h_impl_simpler_check cs holes he m _ _ _ (by simp; omega) (fun b hb => by
          rcases List.mem_append.1 hb with h | h
          · exact hctx b h
          · simp at h; rw [h]; exact hy) hxt (by omega) hz st) (fun h => Stops.ret (by rw [← hv]; exact h) (Sub.refl _)) (fun h => Stops.pan h hv rfl (Sub.refl _))
      · have h10 : a.kind ≠ 10 := by simpa [h4] using hd
        rw [if_neg h4, if_neg h10] at hv
        refine callK_heads (h_impl_simpler_typeOf cs ctx holes he (by omega) t ht _) (fun b hhb => ?_) (fun c hc => Stops.pan (headType_ne hc) (by rw [← hv, hc]) rfl (Sub.refl _))
        have hbs := headType_simple he hctx ht hhb
        rw [hhb] at hv
        intro b8 hb8
        try simp
        refine hJ_of fun J1 hJ1 => ?_
        refine loop_idx (β := Tr × St) t.kids (fun _ i => [.int .i64 (i : Int)]) (fun z => z.2) (fun z i rest => z.1.isSimple = true ∧ Sub st z.2 ∧ z.2 b8 = some (.cells (tree z.1).cells) ∧ (match argsType (typedT cs holes m ctx) rest z.1 with | .inl c => c | .inr b => endType a b) = v) ?_ ?_ (b, _) ⟨hbs, (Sub.refl _).put hb8, upd_same _ _ _, hv⟩
        · rintro i x rest ⟨b, s⟩ hi hx ⟨hbs, hs, hb, hq⟩ kk
          simp only at hbs hs hb hq
          rw [argsType] at hq
          try simp [hi, ia_tree _ hx]
          intro b10 hb10
          have hne : b8 ≠ b10 := fun e => by rw [← e, hb] at hb10; cases hb10
          have hs2 : Sub st (upd s b10 (.cells (tree x).cells)) := hs.put (hs.isNone hb10)
          have hb2 : (upd s b10 (.cells (tree x).cells)) b8 = some (.cells (tree b).cells) := by rw [upd_ne _ _ hne]; exact hb
          have hb3 : (upd s b10 (.cells (tree x).cells)) b10 = some (.cells (tree x).cells) := upd_same _ _ _
          try simp
          generalize upd s b10 (.cells (tree x).cells) = s2 at hs2 hb2 hb3
          try simp [q_load_p hb2, q_load_p hb3]
          refine hJ_of fun J2 hJ2 => ?_
          refine br_dec (fun k10 => ?_) (fun k10 => ?_)
          · rw [if_pos k10] at hq
            refine hJ2 _ _ ?_
            obtain ⟨y, z, hyz, hy, hz⟩ := simple_kids hbs k10
            have y0 : b.kids[0]? = some y := by rw [hyz]; rfl
            have y1 : b.kids[1]? = some z := by rw [hyz]; rfl
            rw [kid0 hyz, kid1 hyz] at hq
            try simp [q_load_p hb2, q_load_p hb3, ia_tree0 _ y0]
            have hxm := List.mem_of_getElem? hx
            refine callK_stops (h_impl_simpler_check cs holes he m ctx x y (by omega) hctx (Tr.kids_lams ht hxm) (by have := Tr.kid_size hxm; omega) hy _) (fun hc => ?_) (fun hc => Stops.pan hc (by rw [← hq, if_neg hc]) rfl hs2)
            rw [if_pos hc] at hq
            try simp [q_load_p hb2, ia_tree1 _ y1]
            rw [W_idx hi (by unfold maxLen; have := Tr.kids_len t; omega)]
            rw [e_store_p _ _ _ _ _ _ _ hb2]
            try simp
            exact kk (z, _) ⟨hz, hs2.put hb8, upd_same _ _ _, hq⟩
          · rw [if_neg k10] at hq
            exact callK_stops (h_impl_stop 8 0 (by omega) _) (fun h => by omega) (fun h => Stops.pan h hq rfl hs2)
        · rintro ⟨b, s⟩ ⟨hbs, hs, hb, hq⟩
          simp only at hbs hs hb hq
          simp only [argsType] at hq
          try simp
          refine hJ1 _ _ ?_
          try simp [q_load_p hb]
          unfold endType at hq
          refine br_dec (fun k10 => ?_) (fun k10 => ?_)
          · rw [if_pos k10] at hq
            exact callK_stops (h_impl_stop 8 0 (by omega) _) (fun h => by omega) (fun h => Stops.pan h hq rfl hs)
          · rw [if_neg k10] at hq
            refine callK_just (h_impl_same _ _ _) ?_
            try simp
            have hsame := endType_same ha hbs h10 k10
            refine br_dec (fun k => ?_) (fun k => ?_)
            · rw [if_pos (hsame.2 k)] at hq
              exact Stops.ret hq.symm hs
            · rw [if_neg (fun e => k (hsame.1 e))] at hq
              exact callK_stops (h_impl_stop 10 0 (by omega) _) (fun h => by omega) (fun h => Stops.pan h hq rfl hs)
end Go.H.Tryd
/- The contract of what is caught: a halt that ends a call is told as its result. By hand, at the machine's level: deferred calls and recover. -/
set_option linter.unusedVariables false
set_option linter.unusedSimpArgs false
namespace Go.H.Tryd
open Go Go.H

theorem fnCaught : prog.funcs[n_impl_caught]? = some Go.Proofs.Tryd.f30 := by kernel_rfl
theorem fnCaught1 : prog.funcs[n_impl_caught_1]? = some Go.Proofs.Tryd.f47 := by kernel_rfl
theorem ntCaught1 : Go.Proofs.Tryd.f47.ntmps = 11 := by kernel_rfl
theorem reCaught1 : Go.Proofs.Tryd.f47.results = #[] := by kernel_rfl

theorem eCaught1 : Enters prog n_impl_caught_1 := ⟨_, fnCaught1, by kernel_rfl, by kernel_rfl⟩
theorem catch_idle (p : Addr) (w : World) :
    CallsD prog n_impl_caught_1 #[.pointer (some p)] .returning w fun e u' w' => e = .returned (.tuple #[]) ∧ u' = .returning ∧ w' = w := by
  have hnil : ∀ w : World, (binOp BinOp.eql 20 .nilIface .nilIface).run prog w = .ok (.bool true) w := fun _ => by kernel_rfl
  refine callsD_of_wpS fnCaught1 rfl fun c₀ cs hu => ?_
  apply wpS_seq
  apply wpS_region
  try simp [wpOpsS, go_sem, recoverD, hu, ntCaught1, Exit.thenS]
  refine wpS_of_wp (wp_block (wp_seq (wp_region ?_)))
  try simp [wpOps, Oper.wp, Oper.upon, go_sem, Exit.then, hnil]
  left
  refine wp_cond (t := true) ?_ ?_
  · simp [Act.eval, Array.replicate]
  simp only [if_true]
  refine wp_region ?_
  try simp [wpOps, Oper.wp, Oper.upon, go_sem, Exit.then]
  left
  cases c₀
  simp_all [bodyPostS, results, reCaught1]
theorem catch_halt (b : Nat) (c p : Int) (w : World) (st : St) (z : List PV) (hb : st b = some (.cells z)) (hz : z.length = 2) (hg : Good w st) :
    CallsD prog n_impl_caught_1 #[.pointer (some ⟨b, 0, none⟩)] (.panicking [{ v := .iface ty_impl_halt (.agg #[.int .i64 c, .int .i64 p]), recovered := false }]) w fun e u' w' => e = .returned (.tuple #[]) ∧ u' = .panicking [{ v := .iface ty_impl_halt (.agg #[.int .i64 c, .int .i64 p]), recovered := true }] ∧ Evo w st w' (upd st b (.cells [.int .i64 c, .int .i64 p])) ∧ Good w' (upd st b (.cells [.int .i64 c, .int .i64 p])) := by
  have hnil : ∀ w : World, (binOp BinOp.eql 20 (.iface ty_impl_halt (.agg #[.int .i64 c, .int .i64 p])) .nilIface).run prog w = .ok (.bool false) w := fun _ => by kernel_rfl
  have hta : ∀ w : World, (Instr.typeAssert (.iface ty_impl_halt (.agg #[.int .i64 c, .int .i64 p])) 20 ty_impl_halt true).run prog w = .ok (.tuple #[.agg #[.int .i64 c, .int .i64 p], .bool true]) w := fun _ => by kernel_rfl
  refine callsD_of_wpS fnCaught1 rfl fun c₀ cs hu => ?_
  apply wpS_seq
  apply wpS_region
  try simp [wpOpsS, go_sem, recoverD, hu, ntCaught1, Exit.thenS]
  refine wpS_of_wp (wp_block (wp_seq (wp_region ?_)))
  try simp [wpOps, Oper.wp, Oper.upon, go_sem, Exit.then, hnil]
  left
  refine wp_cond (t := false) ?_ ?_
  · simp [Act.eval, Array.replicate]
  simp only [Bool.false_eq_true, if_false]
  refine wp_seq (wp_region ?_)
  try simp [wpOps, Oper.wp, Oper.upon, go_sem, Exit.then, hnil, hta]
  refine .inl (.inl (.inl ?_))
  refine wp_mono (hCode_sound tyOK mixed (ann := []) (d0 := []) (w0 := w) (st0 := st) _ [.ptr b 0, .junk, .junk, .junk, .junk, .junk, .junk, .junk, .bool true, .agg [.int .i64 c, .int .i64 p], .junk] st
    (fun e _ s => e = .normal ∧ ∃ b2, st b2 = none ∧ s = upd (upd st b2 (.cells [.int .i64 c, .int .i64 p])) b (.cells [.int .i64 c, .int .i64 p])) _ w ?_ ?_) ?_
  · generalize hQ : (fun e (_ : List PV) s => e = HExit.normal ∧ ∃ b2, st b2 = none ∧ s = upd (upd st b2 (.cells [.int .i64 c, .int .i64 p])) b (.cells [.int .i64 c, .int .i64 p])) = Q
    refine Eq.mp (α := e_alloc st [.int .i64 0, .int .i64 0] fun v2 st => e_store st 2 v2 (.agg [.int .i64 c, .int .i64 p]) fun st => qb (q_load st true 2 v2) fun v10 => e_store st 2 (.ptr b 0) v10 fun st => Q .normal [.ptr b 0, .junk, v2, .junk, .junk, .junk, .junk, .junk, .bool true, .agg [.int .i64 c, .int .i64 p], v10] st) (by kernel_rfl) ?_
    intro b2 hb2
    have hne : b ≠ b2 := fun e => by rw [← e, hb] at hb2; cases hb2
    try simp
    have hb3 : (upd st b2 (.cells [.int .i64 c, .int .i64 p])) b = some (.cells z) := by rw [upd_ne _ _ hne]; exact hb
    try simp [q_load_p (upd_same _ _ _)]
    rw [e_store_p _ _ _ _ _ _ _ hb3]
    try simp [hz]
    rw [← hQ]
    refine ⟨rfl, b2, hb2, ?_⟩
    match z, hz with
    | [z1, z2], _ => rfl
  · refine ⟨Evo.refl w st, hg, ?_, rfl⟩
    refine ⟨_, _, rfl, .inr ⟨rfl, by simp [RX, Value.cells]⟩, _, _, rfl, RO_junk _ _, _, _, rfl, RO_junk _ _, _, _, rfl, RO_junk _ _, _, _, rfl, RO_junk _ _, _, _, rfl, RO_junk _ _, _, _, rfl, RO_junk _ _, _, _, rfl, RO_junk _ _, _, _, rfl, .inr ⟨rfl, by simp [RX, Value.cells]⟩, _, _, rfl, .inr ⟨rfl, ?_⟩, _, _, rfl, RO_junk _ _, rfl⟩
    try simp [RX, RCs, Value.cells]
  · intro e a w' hq
    cases e with
    | normal =>
      obtain ⟨env', st', ⟨_, b2, hb2, rfl⟩, _, hs⟩ := hq
      have hsub : Sub (upd st b (.cells [.int .i64 c, .int .i64 p])) (upd (upd st b2 (.cells [.int .i64 c, .int .i64 p])) b (.cells [.int .i64 c, .int .i64 p])) := Sub.upd ((Sub.refl st).put hb2) _ _
      refine ⟨hs.defers, _, rfl, .tuple #[], ?_, rfl, rfl, hs.evo.trans (Evo.sub hsub), hs.good.sub hsub⟩
      try simp [results, reCaught1]
    | panic ch => obtain ⟨_, _, _, _, ⟨h, _⟩, _⟩ := hq; cases h
    | outgrown => exact hq.elim
    | _ => obtain ⟨_, _, ⟨h, _⟩, _⟩ := hq; cases h
theorem rvs_ros {C : Nat → Nat → Value → Prop} : ∀ {ps : List PV} {vs : List Value}, RVs C ps vs → ROs C ps vs
  | [], _, h => h
  | _ :: _, _, ⟨v, vs', e, h1, h2⟩ => ⟨v, vs', e, h1, rvs_ros h2⟩
theorem callsD_mono {P : Program} {f : FuncId} {args : Array Value} {u : FrameMode} {w : World} {R R' : Ending → FrameMode → World → Prop} (h : CallsD P f args u w R) (hr : ∀ e u' w', R e u' w' → R' e u' w') : CallsD P f args u w R' := fun c cs hc =>
  let ⟨e, u', w', fr, h1, h2⟩ := h c cs hc
  ⟨e, u', w', fr, hr _ _ _ h1, h2⟩
/-- What the closure does that is caught: it goes on, or ends by a halt; the place of the result is left alone. -/
def Caught (h : TypeId) (b : Nat) (Q : Int → Int → St → Prop) : Res → St → Prop := fun r s => ∃ s0, s0 b = none ∧ s = upd s0 b (.cells [.int .i64 0, .int .i64 0]) ∧ ((r = .ret (.tup []) ∧ Q 0 0 s0) ∨ ∃ c p, r = .pan (halt h c p) ∧ Q c p s0)
theorem h_impl_caught (g : FuncId) (caps : List PV) (st : St) (Q : Int → Int → St → Prop) (hc : ∀ b, st b = none → HCalls prog g caps (upd st b (.cells [.int .i64 0, .int .i64 0])) (Caught ty_impl_halt b Q)) :
    HCalls prog n_impl_caught [.fn (.func g) [] caps] st (fun r s => ∃ c p, r = .ret (.agg [.int .i64 c, .int .i64 p]) ∧ Q c p s) := by
  refine ⟨⟨Go.Proofs.Tryd.f30, fnCaught, by kernel_rfl, by kernel_rfl⟩, fun w vals hg hv => ?_⟩
  obtain ⟨v0, vs, rfl, h0, rfl⟩ := hv
  refine calls_of_wp_defers fnCaught rfl ?_
  refine wp_seq ?_
  refine wp_mono (hCode_sound tyOK mixed (ann := []) (d0 := []) (w0 := w) (st0 := st) _ [.fn (.func g) [] caps, .junk, .junk, .junk, .junk, .junk, .junk] st
    (fun e env s => e = .normal ∧ ∃ b, st b = none ∧ env = [.fn (.func g) [] caps, .junk, .ptr b 0, .junk, .junk, .junk, .junk] ∧ s = upd st b (.cells [.int .i64 0, .int .i64 0])) _ w ?_ ?_) ?_
  · generalize hQ : (fun e env s => e = HExit.normal ∧ ∃ b, st b = none ∧ env = [PV.fn (.func g) [] caps, .junk, .ptr b 0, .junk, .junk, .junk, .junk] ∧ s = upd st b (.cells [.int .i64 0, .int .i64 0])) = Q
    refine Eq.mp (α := e_alloc st [.int .i64 0, .int .i64 0] fun v2 st => Q .normal [.fn (.func g) [] caps, .junk, v2, .junk, .junk, .junk, .junk] st) (by kernel_rfl) ?_
    intro b hb
    rw [← hQ]
    exact ⟨rfl, b, hb, rfl, rfl⟩
  · refine ⟨Evo.refl w st, hg, ?_, rfl⟩
    exact ⟨_, _, rfl, h0, _, _, rfl, RO_junk _ _, _, _, rfl, RO_junk _ _, _, _, rfl, RO_junk _ _, _, _, rfl, RO_junk _ _, _, _, rfl, RO_junk _ _, _, _, rfl, RO_junk _ _, rfl⟩
  intro e a1 w1 hq
  cases e with
  | normal =>
    obtain ⟨env1, st1, ⟨_, b, hb, rfl, rfl⟩, _, hs1⟩ := hq
    obtain ⟨hev1, hg1, hsl, hd1⟩ := hs1
    obtain ⟨tmps1, defers1⟩ := a1
    simp only at hd1 hsl
    subst hd1
    obtain ⟨u0, l0, e0, r0, u1, l1, rfl, _, u2, l2, rfl, r2, u3, l3, rfl, _, u4, l4, rfl, _, u5, l5, rfl, _, u6, l6, rfl, _, rfl⟩ := hsl
    have hu2 := RO_ptr r2
    subst hu2
    obtain rfl : tmps1 = #[u0, u1, .pointer (some ⟨b, 0, none⟩), u3, u4, u5, u6] := by cases tmps1; simp_all
    show Code.wp prog _ _ _ _
    refine wp_seq (wp_region ?_)
    try simp [wpOps, Oper.wp, Oper.upon, go_sem, Exit.then]
    refine .inl (.inl ?_)
    obtain ⟨vf, vc, rfl, rf, rc⟩ := RO_fn r0
    obtain rfl : vf = [] := by simpa [RVs] using rf
    refine wp_seq (wp_region ?_)
    try simp [wpOps, Oper.wp, Oper.upon, go_sem, Exit.then]
    have hent := (hc b hb).1
    rw [enter_run hent]
    refine .inl (.inl ?_)
    refine ((hc b hb).2 w1 vc hg1 ?_).mono ?_
    · exact rvs_ros rc
    rintro e w2 ⟨r, s, hev2, hg2, ⟨s0, hs0, rfl, hq⟩, hm⟩
    cases e with
    | returned v =>
      rcases hq with ⟨rfl, hq⟩ | ⟨c, p, rfl, _⟩
      · refine wp_mono (hCode_sound tyOK mixed (ann := []) (d0 := [{ target := .fn (.func n_impl_caught_1) #[.pointer (some ⟨b, 0, none⟩)], args := #[] }]) (w0 := w) (st0 := st) _ [.junk, .junk, .ptr b 0, .junk, .junk, .junk, .junk] (upd s0 b (.cells [.int .i64 0, .int .i64 0]))
          (fun e env s => e = .ret ∧ s = upd s0 b (.cells [.int .i64 0, .int .i64 0]) ∧ env = [.junk, .junk, .ptr b 0, .junk, .junk, .junk, .agg [.int .i64 0, .int .i64 0]]) _ w2 ?_ ?_) ?_
        · generalize hQ : (fun e env s => e = HExit.ret ∧ s = upd s0 b (.cells [.int .i64 0, .int .i64 0]) ∧ env = [PV.junk, .junk, .ptr b 0, .junk, .junk, .junk, .agg [.int .i64 0, .int .i64 0]]) = Q2
          refine Eq.mp (α := e_store (upd s0 b (.cells [.int .i64 0, .int .i64 0])) 2 (.ptr b 0) (.agg [.int .i64 0, .int .i64 0]) fun st => Q2 .ret [.junk, .junk, .ptr b 0, .junk, .junk, .junk, .agg [.int .i64 0, .int .i64 0]] st) (by kernel_rfl) ?_
          rw [e_store_p _ _ _ _ _ _ _ (upd_same _ _ _)]
          try simp
          rw [← hQ]
          exact ⟨rfl, rfl, rfl⟩
        · refine ⟨hev1.trans hev2, hg2, ?_, rfl⟩
          exact ⟨_, _, rfl, RO_junk _ _, _, _, rfl, RO_junk _ _, _, _, rfl, .inr ⟨rfl, by simp [RX, Value.cells]⟩, _, _, rfl, RO_junk _ _, _, _, rfl, RO_junk _ _, _, _, rfl, RO_junk _ _, _, _, rfl, RO_junk _ _, rfl⟩
        intro e a3 w3 hq3
        cases e with
        | ret =>
          obtain ⟨env', st', ⟨_, rfl, rfl⟩, _, hs3⟩ := hq3
          show Leaves prog _ a3.tmps _ a3.defers .returning w3
          rw [hs3.defers]
          refine leaves_cons (by simp) ?_ (callsD_mono (catch_idle ⟨b, 0, none⟩ w3) ?_)
          · simp [invoke, go_sem]
          · rintro e u' w' ⟨rfl, rfl, rfl⟩
            refine fin_post tyOK (fn := Go.Proofs.Tryd.f30) hs3.evo hs3.good hs3.slots ?_
            refine Eq.mp (α := qb (q_load (upd s0 b (.cells [.int .i64 0, .int .i64 0])) true 2 (.ptr b 0)) fun p => retR (fun r s => ∃ c p, r = Res.ret (.agg [.int .i64 c, .int .i64 p]) ∧ Q c p s) p (upd s0 b (.cells [.int .i64 0, .int .i64 0]))) (by kernel_rfl) ?_
            try simp [q_load_p (upd_same _ _ _)]
            exact retR_sub ((Sub.refl _).put hs0) ⟨0, 0, rfl, hq⟩
        | panic ch => obtain ⟨_, _, _, _, ⟨h, _⟩, _⟩ := hq3; cases h
        | outgrown => exact hq3.elim
        | _ => obtain ⟨_, _, ⟨h, _⟩, _⟩ := hq3; cases h
      · exact hm.elim
    | panicked ch =>
      rcases hq with ⟨rfl, _⟩ | ⟨c, p, rfl, hq⟩
      · exact hm.elim
      · obtain ⟨v, rfl, hro⟩ := hm
        obtain ⟨u, rfl, hu⟩ := RO_iface hro
        obtain ⟨vs, rfl, hvs⟩ := RO_agg (.inr hu)
        obtain rfl : vs = #[.int .i64 c, .int .i64 p] := by
          cases vs
          simpa [RCs, RX] using hvs
        refine leaves_cons (by simp) ?_ (callsD_mono (catch_halt b c p w2 _ _ (upd_same s0 b (.cells [.int .i64 0, .int .i64 0])) rfl hg2) ?_)
        · simp [invoke, go_sem]
        · rintro e u' w' ⟨rfl, rfl, hev3, hg3⟩
          refine fin_post tyOK (fn := Go.Proofs.Tryd.f30) (env := [.junk, .junk, .ptr b 0, .junk, .junk, .junk, .junk]) ((hev1.trans hev2).trans hev3) hg3 ?_ ?_
          · exact ⟨_, _, rfl, RO_junk _ _, _, _, rfl, RO_junk _ _, _, _, rfl, .inr ⟨rfl, by simp [RX, Value.cells]⟩, _, _, rfl, RO_junk _ _, _, _, rfl, RO_junk _ _, _, _, rfl, RO_junk _ _, _, _, rfl, RO_junk _ _, rfl⟩
          · refine Eq.mp (α := qb (q_load (upd (upd s0 b (.cells [.int .i64 0, .int .i64 0])) b (.cells [.int .i64 c, .int .i64 p])) true 2 (.ptr b 0)) fun q => retR (fun r s => ∃ c p, r = Res.ret (.agg [.int .i64 c, .int .i64 p]) ∧ Q c p s) q (upd (upd s0 b (.cells [.int .i64 0, .int .i64 0])) b (.cells [.int .i64 c, .int .i64 p]))) (by kernel_rfl) ?_
            try simp [q_load_p (upd_same _ _ _)]
            exact retR_sub ((Sub.refl _).put hs0) ⟨c, p, rfl, hq⟩
    | outgrown => exact hm.elim
  | panic ch => obtain ⟨_, _, _, _, ⟨h, _⟩, _⟩ := hq; cases h
  | outgrown => exact hq.elim
  | _ => obtain ⟨_, _, ⟨h, _⟩, _⟩ := hq; cases h
end Go.H.Tryd
/- Contracts: the program's SimpleCheck, and the law. -/
set_option linter.unusedVariables false
set_option linter.unusedSimpArgs false
namespace Go.H.Tryd
open Go Go.H

theorem h_impl_SimpleCheck_1 (cs : List Ty) (ctx holes : List Tr) (t a : Tr) (he : TyEnv cs holes) (hlen : ctx.length ≤ 1000000) (hctx : ∀ a ∈ ctx, a.isSimple = true) (ht : t.isTerm false = true) (hsz : t.size ≤ 1000000) (ha : a.isSimple = true) (s : St) (b : Nat) (hb : s b = some (.cells [simplerP cs holes])) :
    HCalls prog n_impl_SimpleCheck_1 [.ptr b 0, .ref [trees ctx], .ref (tree t).cells, .ref (tree a).cells] s (Stops ty_impl_halt (typedT cs holes 1000000 ctx t a) 0 s) := by
  apply c_impl_SimpleCheck_1
  unfold b_impl_SimpleCheck_1
  try simp [q_load_p hb]
  have e1 : takeV false 1 [simplerP cs holes] = some (simplerP cs holes) := rfl
  try simp [e1]
  refine callK_just (h_slices_Clip_impl_Tree_impl_Tree ctx false _) ?_
  try simp [q_load_p hb, e1]
  refine callK_conv (us' := [simplerP cs holes, trees ctx, tree t, tree a]) (st' := s) (Conv.cons (Conv.refl _ _) (Conv.cons Conv.unfull (Conv.refl _ _))) ?_
  exact callK_stops (h_impl_simpler_check cs holes he 1000000 ctx t a (by omega) hctx ht hsz ha s) (fun h => Stops.ret h (Sub.refl _)) (fun h => Stops.pan h rfl rfl (Sub.refl _))
theorem stops_caught {P : Program} {g : FuncId} {us : List PV} {h : TypeId} {c : Int} {st : St} {b : Nat} (hb : st b = none) (hc : HCalls P g us (upd st b (.cells [.int .i64 0, .int .i64 0])) (Stops h c 0 (upd st b (.cells [.int .i64 0, .int .i64 0])))) :
    HCalls P g us (upd st b (.cells [.int .i64 0, .int .i64 0])) (Caught h b fun c' p' s => c' = c ∧ p' = 0 ∧ s = st) :=
  hc.mono fun r s hr => by
    obtain ⟨rfl, hr⟩ := hr
    rcases hr with ⟨h1, h2⟩ | ⟨h1, h2⟩
    · exact ⟨st, hb, rfl, .inl ⟨h2, h1.symm, rfl, rfl⟩⟩
    · exact ⟨st, hb, rfl, .inr ⟨c, 0, h2, rfl, rfl, rfl⟩⟩
theorem h_impl_SimpleCheck (cs : List Ty) (ctx holes : List Tr) (t a : Tr) (st : St) : HCalls prog n_impl_SimpleCheck [typeds cs, trees ctx, trees holes, tree t, tree a] st (Just (.int .i64 (checkT cs ctx holes t a)) st) := by
  apply c_impl_SimpleCheck
  unfold b_impl_SimpleCheck
  generalize hv : checkT cs ctx holes t a = v
  unfold checkT at hv
  refine e_box_ref rfl ?_
  refine e_box_ref (tree_isJunk _) ?_
  refine e_box_ref (tree_isJunk _) ?_
  try simp
  refine callK_just (h_impl_longLists (cs.length : Int) [(ctx.length : Int), (holes.length : Int)] (by simp) _) ?_
  try simp
  refine br_of (fun h => Just.int (by rw [← hv, if_pos]; simp at h; omega)) (fun h => ?_)
  rw [if_neg (by simp at h; omega)] at hv
  simp at h
  refine callK_just (h_impl_constsOK cs _) ?_
  try simp
  refine br_of (fun g1 => ?_) (fun g1 => Just.int (by rw [← hv, g1]; rfl))
  refine callK_just (h_impl_simplesOK ctx 40 _) ?_
  try simp
  refine br_of (fun g2 => ?_) (fun g2 => Just.int (by rw [← hv, g1, g2]; rfl))
  refine callK_just (h_impl_simplesOK holes 20 _) ?_
  try simp
  refine br_of (fun g3 => ?_) (fun g3 => Just.int (by rw [← hv, g1, g2, g3]; rfl))
  refine callK_just (h_impl_badTerm t _) ?_
  try simp
  refine br_of (fun g4 => ?_) (fun g4 => Just.int (by rw [← hv, g1, g2, g3, g4]; rfl))
  refine callK_just (h_impl_badSimple a _) ?_
  try simp
  refine br_of (fun g5 => ?_) (fun g5 => Just.int (by rw [← hv, g1, g2, g3, g4, g5]; rfl))
  rw [g1, g2, g3, g4, g5] at hv
  simp at hv
  have ht := termOK_of g4
  unfold Tr.simpleOK at g5
  simp only [Bool.and_eq_true] at g5
  rw [show q_struct [PV.sl 0 true [], PV.sl 0 true []] [(0, 1, PV.sl 5 false (List.map typed cs)), (1, 1, PV.sl 4 false (List.map tree holes))] = some (.agg [.sl 5 false (cs.map typed), .sl 4 false (holes.map tree)]) from rfl]
  simp only [qb_some]
  refine e_box_ref rfl ?_
  intro b11 hb11
  try simp
  rw [show setRange [PV.nilp] 0 [PV.ref [PV.sl 5 false (List.map typed cs), PV.sl 4 false (List.map tree holes)]] = [simplerP cs holes] from rfl]
  refine callK_of (h_impl_caught n_impl_SimpleCheck_1 [.ptr b11 0, .ref [trees ctx], .ref (tree t).cells, .ref (tree a).cells] _ (fun c' p' s => c' = typedT cs holes 1000000 ctx t a ∧ p' = 0 ∧ s = upd st b11 (.cells [simplerP cs holes])) (fun b hb => ?_)) (fun p s h => ?_) (fun p s h => ?_)
  · refine stops_caught hb (h_impl_SimpleCheck_1 cs ctx holes t a (tyEnv g1 g3 (by omega)) (by omega) (fun b hb => (simplesOK_mem g2 b hb).1) ht.1 (by omega) g5.2 _ b11 ?_)
    have hne : b11 ≠ b := fun e => by rw [← e, upd_same] at hb; cases hb
    rw [upd_ne _ _ hne, upd_same]
  · obtain ⟨c, p', h, rfl, rfl, rfl⟩ := h
    cases h
    try simp [q_field]
    exact Just.int hv ((Sub.refl _).put hb11)
  · obtain ⟨c, p', h, _⟩ := h
    cases h
theorem h_laws_FnExactSimpleCheck (cs : List Ty) (ctx holes : List Tr) (t a : Tr) (hb : Ty.bulks cs + Tr.bulks ctx + Tr.bulks holes + t.bulk + a.bulk ≤ 1048576) (st : St) : HCalls prog n_laws_FnExactSimpleCheck [typeds cs, trees ctx, trees holes, tree t, tree a] st (Just (.bool true) st) := by
  apply c_laws_FnExactSimpleCheck
  unfold b_laws_FnExactSimpleCheck
  refine e_box_ref (tree_isJunk _) ?_
  refine e_box_ref (tree_isJunk _) ?_
  refine callK_just (h_laws_szTypedS cs 1048576 (by omega) (by omega) _) ?_
  rw [show left 1048576 (Ty.bulks cs) = 1048576 - (Ty.bulks cs : Int) by unfold left; rw [if_pos (by omega)]]
  try simp
  refine br_of (fun h => by simp at h; omega) (fun _ => ?_)
  refine callK_just (h_laws_szTreeS ctx _ (by omega) (by omega) _) ?_
  rw [show left (1048576 - (Ty.bulks cs : Int)) (Tr.bulks ctx) = 1048576 - (Ty.bulks cs : Int) - Tr.bulks ctx by unfold left; rw [if_pos (by omega)]]
  try simp
  refine br_of (fun h => by simp at h; omega) (fun _ => ?_)
  refine callK_just (h_laws_szTreeS holes _ (by omega) (by omega) _) ?_
  rw [show left (1048576 - (Ty.bulks cs : Int) - Tr.bulks ctx) (Tr.bulks holes) = 1048576 - (Ty.bulks cs : Int) - Tr.bulks ctx - Tr.bulks holes by unfold left; rw [if_pos (by omega)]]
  try simp
  refine br_of (fun h => by simp at h; omega) (fun _ => ?_)
  refine callK_just (h_laws_szTree t _ (by omega) (by omega) _) ?_
  rw [show left (1048576 - (Ty.bulks cs : Int) - Tr.bulks ctx - Tr.bulks holes) t.bulk = 1048576 - (Ty.bulks cs : Int) - Tr.bulks ctx - Tr.bulks holes - t.bulk by unfold left; rw [if_pos (by omega)]]
  try simp
  refine br_of (fun h => by simp at h; omega) (fun _ => ?_)
  refine callK_just (h_laws_szTree a _ (by omega) (by omega) _) ?_
  rw [show left (1048576 - (Ty.bulks cs : Int) - Tr.bulks ctx - Tr.bulks holes - t.bulk) a.bulk = 1048576 - (Ty.bulks cs : Int) - Tr.bulks ctx - Tr.bulks holes - t.bulk - a.bulk by unfold left; rw [if_pos (by omega)]]
  try simp
  refine br_of (fun h => by simp at h; omega) (fun _ => ?_)
  refine callK_just (h_laws_toTypedS cs (by omega) _) ?_
  try simp
  refine callK_just (h_laws_toTreeS ctx (by omega) _) ?_
  try simp
  refine callK_just (h_laws_toTreeS holes (by omega) _) ?_
  try simp
  refine callK_just (h_laws_toTree t (by omega) _) ?_
  try simp
  refine callK_just (h_laws_toTree a (by omega) _) ?_
  refine callK_just (h_spec_SimpleCheck cs ctx holes t a _) ?_
  refine callK_just (h_laws_toTypedS cs (by omega) _) ?_
  refine callK_just (h_laws_toTreeS ctx (by omega) _) ?_
  refine callK_just (h_laws_toTreeS holes (by omega) _) ?_
  try simp
  refine callK_just (h_laws_toTree t (by omega) _) ?_
  intro b16 hb16
  try simp
  refine callK_just (h_laws_toTree a (by omega) _) ?_
  intro b17 hb17
  have hne : b16 ≠ b17 := fun e => by rw [← e, upd_same] at hb17; cases hb17
  try simp
  generalize hs : upd (upd st b16 (.cells (tree t).cells)) b17 (.cells (tree a).cells) = s
  have e17 : s b17 = some (.cells (tree a).cells) := by rw [← hs]; exact upd_same _ _ _
  have e16 : s b16 = some (.cells (tree t).cells) := by rw [← hs, upd_ne _ _ hne]; exact upd_same _ _ _
  have hsub : Sub st s := by
    rw [← hs]
    refine ((Sub.refl st).put hb16).put ?_
    rw [upd_ne _ _ hne.symm] at hb17
    exact hb17
  try simp [q_load_p e16, q_load_p e17]
  refine callK_just (h_impl_SimpleCheck cs ctx holes t a _) ?_
  try simp
  refine callK_just (h_laws_toTypedS cs (by omega) _) ?_
  refine callK_just (h_laws_eqTypedS cs cs _) ?_
  try simp
  refine callK_just (h_laws_toTreeS ctx (by omega) _) ?_
  refine callK_just (h_laws_eqTreeS ctx ctx _) ?_
  try simp
  refine callK_just (h_laws_toTreeS holes (by omega) _) ?_
  refine callK_just (h_laws_eqTreeS holes holes _) ?_
  try simp [q_load_p e16, q_load_p e17]
  refine callK_just (h_laws_toTree t (by omega) _) ?_
  try simp [q_load_p e16, q_load_p e17]
  refine callK_just (h_laws_eqTree t t _) ?_
  try simp [q_load_p e16, q_load_p e17]
  refine callK_just (h_laws_toTree a (by omega) _) ?_
  try simp [q_load_p e16, q_load_p e17]
  refine callK_just (h_laws_eqTree a a _) ?_
  try simp
  exact Just.bool rfl hsub
end Go.H.Tryd
