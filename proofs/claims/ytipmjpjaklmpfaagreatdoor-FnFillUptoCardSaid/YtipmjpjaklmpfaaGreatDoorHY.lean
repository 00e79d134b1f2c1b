/- Part of a proof that the program answers as the reference does: ZGC18, ZGC21, ZGC9, ZGC10, ZGC14, ZGC15, ZGC17, ZGC20, ZGC22, ZGC23, ZGC25, ZGC12, ZGC13, ZGC16, ZGC24. -/
import Derived.Defers
import Derived.Recover
import Derived.Test.YtipmjpjaklmpfaaGreatDoorHS0
import Derived.Test.YtipmjpjaklmpfaaGreatDoorHS1
import Derived.Test.YtipmjpjaklmpfaaGreatDoorHS2
import Derived.Test.YtipmjpjaklmpfaaGreatDoorHS3
import Derived.Test.YtipmjpjaklmpfaaGreatDoorHS4
import Derived.Test.YtipmjpjaklmpfaaGreatDoorHS5
import Derived.Test.YtipmjpjaklmpfaaGreatDoorHS6
import Derived.Test.YtipmjpjaklmpfaaGreatDoorHS7
import Derived.Test.YtipmjpjaklmpfaaGreatDoorHP
import Derived.Test.YtipmjpjaklmpfaaGreatDoorHX
set_option linter.unusedVariables false
set_option linter.unusedSimpArgs false
namespace Go.H.Tryz
open Go Go.H

theorem h_laws_same (a b : Tr) (st : St) : HCalls prog n_laws_same [tree a, tree b] st (Just (.bool (decide (a = b))) st) := by
  induction a using Tr.ind generalizing b st with
  | _ a ih =>
  refine HCalls.wf e_laws_same fun hw => ?_
  have hw := (tree_wf hw.1).1
  apply c_laws_same
  unfold b_laws_same
  generalize hv : decide (a = b) = v
  refine e_box_ref (tree_isJunk _) ?_
  refine e_box_ref (tree_isJunk _) ?_
  have he := Tr.ext_iff a b
  have no : ¬ (a.kind = b.kind ∧ a.n = b.n ∧ a.name = b.name ∧ a.kids = b.kids) → false = v := fun h => by rw [← hv, decide_eq_false (by rw [he]; exact h)]
  try simp
  refine br_dec (fun h1 => ?_) (fun h1 => Just.bool (no fun h => h1 h.1))
  refine br_dec (fun h2 => ?_) (fun h2 => Just.bool (no fun h => h2 h.2.1))
  refine br_dec (fun h3 => ?_) (fun h3 => Just.bool (no fun h => h3 h.2.2.1))
  refine br_dec (fun h4 => ?_) (fun h4 => Just.bool (no fun h => h4 (by rw [h.2.2.2])))
  refine loop_idx (β := Unit) a.kids (fun _ i => [.int .i64 (i : Int)]) (fun _ => st) (fun _ i rest => (a.kids = b.kids ↔ rest = b.kids.drop i)) ?_ ?_ () (by simp)
  · intro i x rest _ hi hx hq kk
    obtain ⟨y, hy⟩ : ∃ y, b.kids[i]? = some y := ⟨b.kids[i]'(by omega), List.getElem?_eq_getElem _⟩
    try simp [hi, ia_tree _ hx, ia_tree _ hy]
    refine callK_just (ih x (List.mem_of_getElem? hx) y _) ?_
    try simp
    rw [drop_some hy, List.cons.injEq] at hq
    refine br_dec (fun h => ?_) (fun h => Just.bool (no fun hh => h (hq.1 hh.2.2.2).1))
    rw [W_idx hi hw]
    exact kk () (by rw [hq]; simp [h])
  · intro _ hq
    try simp
    refine Just.bool ?_
    rw [← hv, decide_eq_true (he.2 ⟨h1, h2, h3, hq.2 ?_⟩)]
    rw [List.drop_of_length_le (by omega)]
theorem h_spec_l00Source (bs : List UInt8) (hl : bs.length ≤ 1000000000) (st : St) : HCalls prog n_spec_l00Source [bytesP bs] st (Begun bs st) := by
  apply c_spec_l00Source
  unfold b_spec_l00Source
  try simp
  rw [show q_int BinOp.rem IntKind.i64 (bs.length : Int) 1000 = some (.int .i64 (((bs.length % 1000 : Nat)) : Int)) from by
    have := q_rem_nat (i := (bs.length : Int)) (L := 1000) (by omega) (by omega)
    simpa using this]
  simp only [qb_some]
  rw [sourceLit]
  simp only [qb_some]
  refine e_box_own rfl fun b hb => ?_
  refine retR_sub (Sub.refl _) ⟨b, _, hb, rfl, rfl, ?_⟩
  have : bs.length % 1000 < 1000 := Nat.mod_lt _ (by omega)
  exact ⟨0, _, upd_same _ _ _, by omega, by omega, by omega, by omega⟩
theorem h_spec_l00Src_byte (bs : List UInt8) (hl : bs.length ≤ 1000000000) (M : Int) (hM : M ≤ 1000000000) (b : Nat) (st : St) (hs : Src bs M b st) : HCalls prog n_spec_l00Src_byte [.ptr b 0] st (Drew bs (M + 1) b (fun p => ∃ k : Int, p = .int .i64 k ∧ 0 ≤ k ∧ k ≤ 255) st) := by
  apply c_spec_l00Src_byte
  unfold b_spec_l00Src_byte
  obtain ⟨a, s, h1, h2, h3, h4, h5⟩ := hs.is
  try simp [q_nil, q_load_p h1]
  rw [wrap64 (by omega) (by omega), e_store_p _ _ _ _ _ _ _ h1]
  try simp [q_load_p (upd_same _ _ _)]
  refine br_dec (fun hle => ?_) (fun hle => ?_)
  · have hi : a.toNat < bs.length := by omega
    have ea : IntKind.i64.wrap a = ((a.toNat : Nat) : Int) := by rw [wrap64 (by omega) (by omega)]; omega
    rw [ea, bytesP_ia hi]
    have b1 := byte_le bs[a.toNat]
    have b0 : (0 : Int) ≤ (bs[a.toNat].toNat : Int) := Int.natCast_nonneg _
    try simp [q_conv]
    generalize hx : (bs[a.toNat].toNat : Int) = x at b1 b0
    rw [wrap64 (n := x) (by omega) (by omega), wrap64 (n := s * 31) (by omega) (by omega), wrap64 (n := s * 31 + x) (by omega) (by omega), wrap64 (n := s * 31 + x + 7) (by omega) (by omega), q_rem (by omega)]
    try simp [q_load_p (upd_same _ _ _)]
    rw [ea, bytesP_ia hi]
    try simp
    rw [hx, wrap64 (n := x) (by omega) (by omega)]
    refine Drew.mk ⟨x, rfl, b0, b1⟩ (Src.mk' (by omega) (by omega) (Int.tmod_nonneg _ (show (0 : Int) ≤ s * 31 + x + 7 by omega)) (Int.tmod_lt_of_pos _ (by omega))) (Sub.refl _)
  · refine br_dec (fun hgt => Drew.mk ⟨0, rfl, by omega, by omega⟩ (Src.mk' (by omega) (by omega) h4 h5) (Sub.refl _)) (fun hgt => ?_)
    rw [wrap64 (n := s * 1103515245) (by omega) (by omega), wrap64 (n := s * 1103515245 + 12345) (by omega) (by omega), q_rem (by omega)]
    have t0 := Int.tmod_nonneg 2147483648 (show (0 : Int) ≤ s * 1103515245 + 12345 by omega)
    have t1 := Int.tmod_lt_of_pos (s * 1103515245 + 12345) (show (0 : Int) < 2147483648 by omega)
    generalize (s * 1103515245 + 12345).tmod 2147483648 = y at t0 t1
    try simp [q_load_p (upd_same _ _ _)]
    rw [show (65536 : Int) = ((65536 : Nat) : Int) from rfl, q_quo_nat t0 (by omega) (by omega)]
    simp only [qb_some, q_bin_int]
    have d0 : (0 : Int) ≤ ((y.toNat / 65536 : Nat) : Int) := Int.natCast_nonneg _
    generalize ((y.toNat / 65536 : Nat) : Int) = z at d0
    rw [q_rem (by omega)]
    try simp
    have u0 := Int.tmod_nonneg 256 d0
    have u1 := Int.tmod_lt_of_pos z (show (0 : Int) < 256 by omega)
    exact Drew.mk ⟨_, rfl, u0, by omega⟩ (Src.mk' (by omega) (by omega) t0 t1) (Sub.refl _)
theorem h_spec_l00Src_next (bs : List UInt8) (hl : bs.length ≤ 1000000000) (M : Int) (hM : M ≤ 100000000) (n : Int) (hn : n ≤ 256) (b : Nat) (st : St) (hs : Src bs M b st) : HCalls prog n_spec_l00Src_next [.ptr b 0, .int .i64 n] st (Drew bs (M + 1) b (OneOf n) st) := by
  apply c_spec_l00Src_next
  unfold b_spec_l00Src_next
  try simp
  have keep : Src bs (M + 1) b (upd st b (.cells [bytesP bs, .int .i64 (hs.is.choose), .int .i64 hs.is.choose_spec.choose])) := by
    obtain ⟨h1, h2, h3, h4, h5⟩ := hs.is.choose_spec.choose_spec
    exact Src.mk' h2 (by omega) h4 h5
  refine br_dec (fun h => Drew.mk ⟨0, rfl, by omega, .inr rfl⟩ keep (by rw [upd_fold hs.is.choose_spec.choose_spec.1]; exact Sub.refl _)) (fun h => ?_)
  refine br_dec (fun h2 => ?_) (fun h2 => by omega)
  refine callK_drew (h_spec_l00Src_byte bs hl M (by omega) b st hs) (fun p o hp hs' => ?_)
  obtain ⟨k, rfl, k0, k1⟩ := hp
  simp only [q_bin_int]
  rw [q_rem (by omega)]
  try simp
  exact Drew.mk ⟨_, rfl, Int.tmod_nonneg _ k0, .inl (Int.tmod_lt_of_pos _ (by omega))⟩ hs' (Sub.refl _)
theorem h_spec_l00Src_chance (bs : List UInt8) (hl : bs.length ≤ 1000000000) (M : Int) (hM : M ≤ 100000000) (n : Int) (hn : n ≤ 256 ∧ 0 ≤ n) (b : Nat) (st : St) (hs : Src bs M b st) : HCalls prog n_spec_l00Src_chance [.ptr b 0, .int .i64 n] st (Drew bs (M + 1) b ABool st) := by
  apply c_spec_l00Src_chance
  unfold b_spec_l00Src_chance
  refine callK_drew (h_spec_l00Src_next bs hl M hM n hn.1 b st hs) (fun p o hp hs' => ?_)
  obtain ⟨k, rfl, k0, k1⟩ := hp
  try simp
  exact Drew.mk ⟨_, rfl⟩ hs' (Sub.refl _)
theorem h_spec_l01Base (s : List UInt8) (st : St) : HCalls prog n_spec_l01Base [.str s] st (Just (tree (Tr.base s)) st) := by
  apply c_spec_l01Base
  unfold b_spec_l01Base
  intro b hb
  rw [show q_struct [PV.int IntKind.i64 0, PV.int IntKind.i64 0, PV.str [], PV.sl 0 true []] [(0, 1, PV.int IntKind.i64 9), (2, 1, PV.str s)] = some (.agg [.int .i64 9, .int .i64 0, .str s, .sl 0 true []]) from rfl]
  try simp
  try simp [q_load_p (upd_same _ _ _)]
  exact Just.tree (t := Tr.base s) rfl (.inr rfl) rfl rfl rfl ((Sub.refl _).put hb)
theorem h_spec_l01Arrow (x y : Tr) (st : St) : HCalls prog n_spec_l01Arrow [tree x, tree y] st (Just (tree (Tr.arrow x y)) st) := by
  apply c_spec_l01Arrow
  unfold b_spec_l01Arrow
  refine e_box_ref (tree_isJunk _) ?_
  refine e_box_ref (tree_isJunk _) ?_
  intro b hb
  try simp
  rw [show q_struct [PV.int IntKind.i64 0, PV.int IntKind.i64 0, PV.str [], PV.sl 0 true []] [(0, 1, PV.int IntKind.i64 10), (3, 1, PV.sl 4 true [tree x, tree y])] = some (.agg [.int .i64 10, .int .i64 0, .str [], .sl 4 true [tree x, tree y]]) from rfl]
  try simp
  try simp [q_load_p (upd_same _ _ _)]
  exact Just.tree (t := Tr.arrow x y) rfl (.inl rfl) rfl rfl rfl ((Sub.refl _).put hb)
theorem h_spec_l01High (t : Tr) (st : St) : HCalls prog n_spec_l01High [tree t] st (Just (.bool t.high) st) := by
  induction t using Tr.ind generalizing st with
  | _ t ih =>
  refine HCalls.wf e_spec_l01High fun hw => ?_
  have hw := (tree_wf hw.1).1
  apply c_spec_l01High
  unfold b_spec_l01High
  generalize hv : t.high = v
  rw [Tr.high_eq] at hv
  refine e_box_ref (tree_isJunk _) ?_
  refine hJ_of fun J hJ => ?_
  have key : ∀ w : Bool, (w || t.kids.any Tr.high) = v → J [.bool w] st := by
    intro w hw2
    refine hJ _ _ ?_
    try simp
    refine br_of (fun h => Just.bool (by rw [← hw2, h]; rfl)) (fun h => ?_)
    rw [h, Bool.false_or] at hw2
    refine loop_idx (β := Unit) t.kids (fun _ i => [.int .i64 (i : Int)]) (fun _ => st) (fun _ i rest => rest.any Tr.high = v) ?_ ?_ () hw2
    · intro i x rest _ hi hx hq kk
      try simp [hi, ia_tree _ hx]
      refine callK_just (ih x (List.mem_of_getElem? hx) _) ?_
      try simp
      rw [List.any_cons] at hq
      refine br_of (fun h => Just.bool (by rw [← hq, h]; rfl)) (fun h => ?_)
      rw [W_idx hi hw]
      exact kk () (by rw [← hq, h]; rfl)
    · intro _ hq
      try simp
      exact Just.bool hq
  try simp
  refine br_dec (fun h5 => key _ (by rw [← hv, decide_eq_true h5]; rfl)) (fun h5 => key _ (by rw [← hv, decide_eq_false h5]; rfl))
theorem h_spec_l03Big (t : Tr) (st : St) : HCalls prog n_spec_l03Big [tree t] st (Just (.bool t.big) st) := by
  apply c_spec_l03Big
  unfold b_spec_l03Big
  generalize hv : t.big = v
  unfold Tr.big at hv
  refine e_box_ref (tree_isJunk _) ?_
  try simp
  refine callK_just (h_spec_l01Small t _) ?_
  try simp
  refine br_of (fun h => ?_) (fun h => Just.bool (by rw [← hv, h]; rfl))
  refine callK_just (h_spec_l01High t _) ?_
  exact Just.bool (by rw [← hv, h]; rfl)
def ResultS (x : Int ⊕ Tr) (st : St) : Res → St → Prop := match x with
  | .inr t => Just (.tup [tree t, .int .i64 0]) st
  | .inl c => Just (.tup [tree noTree, .int .i64 c]) st
theorem ResultS.zero {x : Int ⊕ Tr} {c : Int} {st st1 : St} (e : x = .inl c) (hs : Sub st st1) : retR (ResultS x st) (.tup [.agg [.int .i64 0, .int .i64 0, .str [], .sl 0 true []], .int .i64 c]) st1 := by
  subst e
  exact Just.conv (Conv.trans (Conv.tup (Conv.cons (conv_tree _ 0 0 [] 0 true [] (.inr rfl)) (Conv.refl _ _))) (Conv.sub hs))
theorem ResultS.ok {x : Int ⊕ Tr} {t : Tr} {st st1 : St} (e : x = .inr t) (hs : Sub st st1) : retR (ResultS x st) (.tup [tree t, .int .i64 0]) st1 := by
  subst e
  exact Just.ret hs
theorem h_spec_l03Some (st : St) : HCalls prog n_spec_l03Some [] st (Just (typeds someConsts) st) := by
  apply c_spec_l03Some
  unfold b_spec_l03Some
  refine callK_just (h_spec_l01Base [110, 97, 116] _) ?_
  intro b1 hb1
  try simp
  refine callK_just (h_spec_l01Base [111] _) ?_
  intro b2 hb2
  have hne : b1 ≠ b2 := fun e => by rw [← e, upd_same] at hb2; cases hb2
  rw [upd_ne _ _ hne.symm] at hb2
  try simp
  generalize hs : upd (upd st b1 (.cells (tree (Tr.base [110, 97, 116])).cells)) b2 (.cells (tree (Tr.base [111])).cells) = s
  have e1 : s b1 = some (.cells (tree (Tr.base [110, 97, 116])).cells) := by rw [← hs, upd_ne _ _ hne]; exact upd_same _ _ _
  have e2 : s b2 = some (.cells (tree (Tr.base [111])).cells) := by rw [← hs]; exact upd_same _ _ _
  have hsub : Sub st s := by rw [← hs]; exact ((Sub.refl st).put hb1).put hb2
  clear hs
  try simp [q_load_p e1, q_load_p e2, typedLit]
  refine callK_just (h_spec_l01Arrow _ _ _) ?_
  try simp [q_load_p e1, q_load_p e2, typedLit]
  refine callK_just (h_spec_l01Arrow _ _ _) ?_
  try simp [q_load_p e1, q_load_p e2, typedLit]
  refine callK_just (h_spec_l01Arrow _ _ _) ?_
  try simp [q_load_p e1, q_load_p e2, typedLit]
  refine callK_just (h_spec_l01Arrow _ _ _) ?_
  try simp [q_load_p e1, q_load_p e2, typedLit]
  refine callK_just (h_spec_l01Arrow _ _ _) ?_
  try simp [q_load_p e1, q_load_p e2, typedLit]
  refine callK_just (h_spec_l01Arrow _ _ _) ?_
  try simp [q_load_p e1, q_load_p e2, typedLit]
  refine callK_just (h_spec_l01Arrow _ _ _) ?_
  try simp [q_load_p e1, q_load_p e2, typedLit]
  refine callK_just (h_spec_l01Arrow _ _ _) ?_
  try simp [q_load_p e1, q_load_p e2, typedLit]
  refine Just.conv (Conv.trans Conv.unfull (Conv.sub hsub))
theorem h_spec_Consts (st : St) : HCalls prog n_spec_Consts [] st (Just (typeds someConsts) st) := by
  apply c_spec_Consts
  unfold b_spec_Consts
  refine callK_just (h_spec_l03Some _) ?_
  exact Just.ret (Sub.refl _)
end Go.H.Tryz
set_option linter.unusedVariables false
set_option linter.unusedSimpArgs false
namespace Go.H.Tryz
open Go Go.H

theorem zeroT : q_struct [PV.int IntKind.i64 0, PV.int IntKind.i64 0, PV.str [], PV.sl 0 true []] [] = some (.agg [.int .i64 0, .int .i64 0, .str [], .sl 0 true []]) := rfl
theorem h_spec_l01Copy (t : Tr) (hsz : t.size ≤ 1000000000) (st : St) : HCalls prog n_spec_l01Copy [tree t] st (Just (tree t) st) := by
  induction t using Tr.ind generalizing st with
  | _ t ih =>
  have hl := t.kids_len
  apply c_spec_l01Copy
  unfold b_spec_l01Copy
  refine e_box_ref (tree_isJunk _) ?_
  intro b2 hb2
  try simp
  refine hJ_of fun J hJ => ?_
  generalize hs : upd st b2 (.cells [.int .i64 0, .int .i64 0, .str [], .sl 0 true []]) = s0
  have e2 : s0 b2 = some (.cells [.int .i64 0, .int .i64 0, .str [], .sl 0 true []]) := by rw [← hs]; exact upd_same _ _ _
  have hsub : Sub st s0 := by rw [← hs]; exact (Sub.refl st).put hb2
  clear hs
  refine loop_idx (β := PV × St) t.kids (fun z i => [z.1, .int .i64 (i : Int)]) (fun z => z.2) (fun z i rest => Grow s0 4 ((t.kids.take i).map tree) z.1 z.2) ?_ ?_ (_, s0) (Grow.nil _ _ _)
  · rintro i x rest ⟨p, s1⟩ hi hx hg kk
    simp only at hg
    have hxm := List.mem_of_getElem? hx
    try simp [hi, ia_tree _ hx]
    refine callK_just (ih x hxm (by have := Tr.kid_size hxm; omega) _) ?_
    try simp
    refine hg.append (elems_sl _ _ _ _) (by simp; omega) fun p' s' hg' => ?_
    try simp
    rw [W_idx hi (by unfold maxLen; omega)]
    refine kk (p', s') ?_
    rw [List.take_add_one, hx]
    simpa using hg'
  · rintro ⟨p, s1⟩ hg
    simp only at hg
    rw [List.take_length] at hg
    try simp
    refine hJ _ _ ?_
    try simp
    refine callK_conv (us' := [tree t, trees t.kids]) (st' := s0) (Conv.cons (Conv.sub hg.sub) hg.freeze) ?_
    refine callK_just (h_spec_l01With t t.kids _) ?_
    rw [← Tr.eta, e_store_p _ _ _ _ _ _ _ e2]
    try simp [q_load_p (upd_same _ _ _)]
    exact Just.ret (hsub.put hb2)
def SubsOK (b : Nat) (lo : Int) (sub : Tr → Tr → Tr → Int → (Int ⊕ Tr) × Int) : Prop := ∀ (x c g : Tr) (k : Int) (s : St), x.lamy = true → x.size ≤ 1000000 → c.isSimple = true → g.lamy = true → g.size ≤ 150 → lo < k → k ≤ 20000 → s b = some (cnt k) →
  HCalls prog n_spec_l03Run_sub [.ptr b 0, tree x, tree c, tree g, .int .i64 0] s (WorksS b (sub x c g k) s) ∧ FineT (sub x c g k) k
theorem h_spec_l03Run_reduce (b : Nat) (sub : Tr → Tr → Tr → Int → (Int ⊕ Tr) × Int) (f a : Tr) (args : List Tr) (k : Int) (hsub : SubsOK b k sub) (hk : 0 ≤ k ∧ k ≤ 20000) (ha : a.isSimple = true) (hf : f.lamy = true) (hfb : f.big = false) (hargs : ∀ x ∈ args, x.lamy = true ∧ x.size ≤ 1000000) (hl : args.length ≤ 1000000) (st : St) (hb : st b = some (cnt k)) :
    HCalls prog n_spec_l03Run_reduce [.ptr b 0, tree f, tree a, trees args] st (WorksS b (redT sub f a args k) st) := by
  apply c_spec_l03Run_reduce
  unfold b_spec_l03Run_reduce
  generalize hv : redT sub f a args k = v
  refine e_box_own (tree_isJunk _) fun b5 hb5 => ?_
  have n5 : b5 ≠ b := fun e => by rw [e, hb] at hb5; cases hb5
  refine e_box_own (tree_isJunk _) fun b6 hb6 => ?_
  have n65 : b6 ≠ b5 := fun e => by rw [e, upd_same] at hb6; cases hb6
  rw [upd_ne _ _ n65] at hb6
  have n6 : b6 ≠ b := fun e => by rw [e, hb] at hb6; cases hb6
  intro b8 hb8
  have n86 : b8 ≠ b6 := fun e => by rw [e, upd_same] at hb8; cases hb8
  rw [upd_ne _ _ n86] at hb8
  have n85 : b8 ≠ b5 := fun e => by rw [e, upd_same] at hb8; cases hb8
  rw [upd_ne _ _ n85] at hb8
  have n8 : b8 ≠ b := fun e => by rw [e, hb] at hb8; cases hb8
  generalize hs0 : upd (upd (upd st b5 (.cells (tree f).cells)) b6 (.cells (tree a).cells)) b8 (.cells [.int .i64 0, .int .i64 0, .str [], .sl 0 true []]) = s0
  have e5 : s0 b5 = some (.cells (tree f).cells) := by rw [← hs0, upd_ne _ _ n85.symm, upd_ne _ _ n65.symm]; exact upd_same _ _ _
  have e6 : s0 b6 = some (.cells (tree a).cells) := by rw [← hs0, upd_ne _ _ n86.symm]; exact upd_same _ _ _
  have e8 : s0 b8 = some (.cells [.int .i64 0, .int .i64 0, .str [], .sl 0 true []]) := by rw [← hs0]; exact upd_same _ _ _
  have eb : s0 b = some (cnt k) := by rw [← hs0, upd_ne _ _ n8.symm, upd_ne _ _ n6.symm, upd_ne _ _ n5.symm]; exact hb
  have ar : Around b st s0 := by rw [← hs0]; exact (((Around.refl b st).put hb5 _).put hb6 _).put hb8 _
  clear hs0
  refine hJ_of fun J0 hJ0 => ?_
  have fail : ∀ (c k' : Int) (s : St), (.inl c, k') = v → Around b st s → s b = some (cnt k') → s b8 = some (.cells [.int .i64 0, .int .i64 0, .str [], .sl 0 true []]) →
      qb (q_struct [PV.int IntKind.i64 0, PV.int IntKind.i64 0, PV.str [], PV.sl 0 true []] []) fun v27 => e_store s 4 (PV.ptr b8 0) v27 fun st_2 => qb (q_load st_2 true 4 (PV.ptr b8 0)) fun r_1 => retR (WorksS b v st) (.tup [r_1, .int .i64 c]) st_2 := by
    intro c k' s hv' har hsb hs8
    rw [zeroT]
    simp only [qb_some]
    rw [e_store_p _ _ _ _ _ _ _ hs8]
    try simp [q_load_p (upd_same _ _ _)]
    exact WorksS.zero hv' (har.put hb8 _) (by rw [upd_ne _ _ n8.symm]; exact hsb)
  try simp
  refine loop_idx (β := Tr × Tr × Int × St) args (fun _ i => [.int .i64 (i : Int)]) (fun z => z.2.2.2)
    (fun z i rest => z.2.2.2 b5 = some (.cells (tree z.1).cells) ∧ z.2.2.2 b6 = some (.cells (tree z.2.1).cells) ∧ z.2.2.2 b8 = some (.cells [.int .i64 0, .int .i64 0, .str [], .sl 0 true []]) ∧ z.2.2.2 b = some (cnt z.2.2.1) ∧ Around b st z.2.2.2 ∧
      k ≤ z.2.2.1 ∧ z.2.2.1 ≤ 20000 ∧ z.2.1.isSimple = true ∧ z.1.lamy = true ∧ z.1.big = false ∧ redT sub z.1 z.2.1 rest z.2.2.1 = v) ?_ ?_ (f, a, k, s0) ⟨e5, e6, e8, eb, ar, by simp, hk.2, ha, hf, hfb, hv⟩
  · rintro i x rest ⟨f, a, k1, s1⟩ hi hx ⟨f5, f6, f8, fb, ar1, k0, k2, ha, hf, hfb, hq⟩ kk
    simp only at f5 f6 f8 fb ar1 k0 k2 ha hf hfb hq
    rw [redT] at hq
    try simp [hi]
    refine hJ_of fun J hJ => ?_
    have bad : ¬ (a.kind = 10 ∧ f.kind = 4) → J [.bool true] s1 := fun h => by
      rw [if_neg h] at hq
      refine hJ _ _ ?_
      exact fail 12 k1 s1 hq ar1 fb f8
    have good : a.kind = 10 ∧ f.kind = 4 → J [.bool false] s1 := fun h => by
      rw [if_pos h] at hq
      obtain ⟨y, z, hyz, hy, hz⟩ := simple_kids ha h.1
      obtain ⟨g, hg, hgl⟩ := Tr.lamy_lam hf h.2
      have y0 : a.kids[0]? = some y := by rw [hyz]; rfl
      have y1 : a.kids[1]? = some z := by rw [hyz]; rfl
      have g0 : f.kids[0]? = some g := by rw [hg]; rfl
      rw [kid0 hyz, kid1 hyz, kid0 hg] at hq
      have hgs : g.size ≤ 150 := by
        have h1 : g.size < f.size := Tr.kid_size (by rw [hg]; simp)
        unfold Tr.big Tr.small at hfb
        simp only [Bool.or_eq_false_iff, Bool.not_eq_false', decide_eq_true_eq] at hfb
        omega
      refine hJ _ _ ?_
      try simp [q_nil, q_load_p fb, cnt]
      rw [wrap64 (by omega) (by omega), e_store_p _ _ _ _ _ _ _ fb]
      try simp [q_load_p (upd_same _ _ _), cnt]
      generalize hs2 : upd s1 b (.cells [.int .i64 (k1 + 1)]) = s2
      have h5 : s2 b5 = some (.cells (tree f).cells) := by rw [← hs2, upd_ne _ _ n5]; exact f5
      have h6 : s2 b6 = some (.cells (tree a).cells) := by rw [← hs2, upd_ne _ _ n6]; exact f6
      have h8 : s2 b8 = some (.cells [.int .i64 0, .int .i64 0, .str [], .sl 0 true []]) := by rw [← hs2, upd_ne _ _ n8]; exact f8
      have hb' : s2 b = some (cnt (k1 + 1)) := by rw [← hs2]; exact upd_same _ _ _
      have ar2 : Around b st s2 := by rw [← hs2]; exact ar1.draw _
      clear hs2
      refine br_dec (fun hgt => ?_) (fun hgt => ?_)
      · rw [if_pos (by omega)] at hq
        exact fail 17 (k1 + 1) s2 hq ar2 hb' h8
      · rw [if_neg (by omega)] at hq
        have hxx := hargs x (List.mem_of_getElem? hx)
        refine hJ_of fun J3 hJ3 => ?_
        have errJ : ∀ (s : St) (p : PV) (c k3 : Int), sub x y g (k1 + 1) = (.inl c, k3) → c ≠ 0 → s b8 = some (.cells [.int .i64 0, .int .i64 0, .str [], .sl 0 true []]) → s b = some (cnt k3) → Around b st s → J3 [p, .int .i64 c] s := fun s p c k3 hc hc0 hs8 hsb har => by
          rw [hc] at hq
          refine hJ3 _ _ ?_
          try simp [hc0]
          exact fail c k3 s hq har hsb hs8
        have okJ : ∀ (s : St) (b11 : Nat) (t : Tr) (k3 : Int), sub x y g (k1 + 1) = (.inr t, k3) → k1 + 1 ≤ k3 ∧ k3 ≤ 20000 → t.lamy = true → t.big = false → s b5 = some (.cells (tree f).cells) → s b6 = some (.cells (tree a).cells) → s b8 = some (.cells [.int .i64 0, .int .i64 0, .str [], .sl 0 true []]) → s b = some (cnt k3) → Around b st s → s b11 = some (.cells (tree t).cells) → J3 [.ptr b11 0, .int .i64 0] s := fun s b11 t k3 ht hk3 htl htb g5 g6 g8 gb gar g11 => by
          rw [ht] at hq
          simp only at hq
          refine hJ3 _ _ ?_
          try simp [q_load_p g11]
          rw [e_store_p _ _ _ _ _ _ _ g5]
          try simp
          have j6 : (upd s b5 (.cells (tree t).cells)) b6 = some (.cells (tree a).cells) := by rw [upd_ne _ _ n65]; exact g6
          try simp [q_load_p j6, ia_tree1 _ y1]
          rw [e_store_p _ _ _ _ _ _ _ j6]
          try simp
          rw [W_idx hi (by unfold maxLen; omega)]
          generalize hs3 : upd (upd s b5 (.cells (tree t).cells)) b6 (.cells (tree z).cells) = s3
          have l5 : s3 b5 = some (.cells (tree t).cells) := by rw [← hs3, upd_ne _ _ n65.symm]; exact upd_same _ _ _
          have l6 : s3 b6 = some (.cells (tree z).cells) := by rw [← hs3]; exact upd_same _ _ _
          have l8 : s3 b8 = some (.cells [.int .i64 0, .int .i64 0, .str [], .sl 0 true []]) := by rw [← hs3, upd_ne _ _ n86, upd_ne _ _ n85]; exact g8
          have lb : s3 b = some (cnt k3) := by rw [← hs3, upd_ne _ _ n6.symm, upd_ne _ _ n5.symm]; exact gb
          have lar : Around b st s3 := by rw [← hs3]; exact (gar.put hb5 _).put hb6 _
          exact kk (t, z, k3, s3) ⟨l5, l6, l8, lb, lar, (by simp only; omega), hk3.2, hz, htl, htb, hq⟩
        try simp [hi, ia_tree _ hx, q_load_p h5, q_load_p h6, ia_tree0 _ y0, ia_tree0 _ g0]
        -- a place is made in a state
        have place : ∀ (s4 : St) (k3 : Int) (b11 : Nat) (o : HObj), s4 b11 = none → s4 b5 = some (.cells (tree f).cells) → s4 b6 = some (.cells (tree a).cells) → s4 b8 = some (.cells [.int .i64 0, .int .i64 0, .str [], .sl 0 true []]) → s4 b = some (cnt k3) → Around b st s4 →
            (upd s4 b11 o) b5 = some (.cells (tree f).cells) ∧ (upd s4 b11 o) b6 = some (.cells (tree a).cells) ∧ (upd s4 b11 o) b8 = some (.cells [.int .i64 0, .int .i64 0, .str [], .sl 0 true []]) ∧ (upd s4 b11 o) b = some (cnt k3) ∧ Around b st (upd s4 b11 o) := fun s4 k3 b11 o hb11 i5 i6 i8 ib iar =>
          ⟨by rw [upd_ne _ _ (ne_of i5 hb11)]; exact i5, by rw [upd_ne _ _ (ne_of i6 hb11)]; exact i6, by rw [upd_ne _ _ (ne_of i8 hb11)]; exact i8, by rw [upd_ne _ _ (ne_of ib hb11)]; exact ib, iar.put (iar.isNone (ne_of ib hb11).symm hb11) _⟩
        have drew : ∀ (s4 : St) (k3 : Int), s4 b5 = some (.cells (tree f).cells) → s4 b6 = some (.cells (tree a).cells) → s4 b8 = some (.cells [.int .i64 0, .int .i64 0, .str [], .sl 0 true []]) → Around b st s4 →
            (upd s4 b (cnt k3)) b5 = some (.cells (tree f).cells) ∧ (upd s4 b (cnt k3)) b6 = some (.cells (tree a).cells) ∧ (upd s4 b (cnt k3)) b8 = some (.cells [.int .i64 0, .int .i64 0, .str [], .sl 0 true []]) ∧ (upd s4 b (cnt k3)) b = some (cnt k3) ∧ Around b st (upd s4 b (cnt k3)) := fun s4 k3 i5 i6 i8 iar =>
          ⟨by rw [upd_ne _ _ n5]; exact i5, by rw [upd_ne _ _ n6]; exact i6, by rw [upd_ne _ _ n8]; exact i8, upd_same _ _ _, iar.draw _⟩
        refine ⟨?_, ?_⟩
        · obtain ⟨hc, hfine⟩ := hsub x y g (k1 + 1) s2 hxx.1 hxx.2 hy hgl hgs (by omega) (by omega) hb'
          refine callK_worksS hc (fun t k3 ht => ?_) (fun c k3 hc => ?_)
          · rw [ht] at hfine
            obtain ⟨p1, p2, p3, p4⟩ := hfine
            obtain ⟨q1, q2, q3⟩ := p4 t rfl
            simp only at p1 q3
            obtain ⟨i5, i6, i8, ib, iar⟩ := drew s2 k3 h5 h6 h8 ar2
            generalize upd s2 b (cnt k3) = s4 at i5 i6 i8 ib iar
            try simp
            intro b11 hb11
            obtain ⟨m5, m6, m8, mb, mar⟩ := place s4 k3 b11 (.cells (tree t).cells) hb11 i5 i6 i8 ib iar
            obtain ⟨u5, u6, _⟩ := place s4 k3 b11 (.cells [.int .i64 0, .int .i64 0, .str [], .sl 0 true []]) hb11 i5 i6 i8 ib iar
            try simp [q_load_p u5, q_load_p u6]
            exact okJ _ b11 t k3 ht ⟨p1, q3⟩ q1 q2 m5 m6 m8 mb mar (upd_same _ _ _)
          · rw [hc] at hfine
            obtain ⟨p1, p2, p3, p4⟩ := hfine
            have hc0 := p3 c rfl
            obtain ⟨i5, i6, i8, ib, iar⟩ := drew s2 k3 h5 h6 h8 ar2
            generalize upd s2 b (cnt k3) = s4 at i5 i6 i8 ib iar
            try simp
            intro b11 hb11
            obtain ⟨m5, m6, m8, mb, mar⟩ := place s4 k3 b11 (.cells (tree noTree).cells) hb11 i5 i6 i8 ib iar
            obtain ⟨u5, u6, _⟩ := place s4 k3 b11 (.cells [.int .i64 0, .int .i64 0, .str [], .sl 0 true []]) hb11 i5 i6 i8 ib iar
            try simp [q_load_p u5, q_load_p u6]
            exact errJ _ _ c k3 hc hc0 m8 mb mar
        · intro b11 hb11
          obtain ⟨u5, u6, u8, ub, uar⟩ := place s2 (k1 + 1) b11 (.cells [.int .i64 0, .int .i64 0, .str [], .sl 0 true []]) hb11 h5 h6 h8 hb' ar2
          have nb11 : b11 ≠ b := (ne_of hb' hb11).symm
          have u11 : (upd s2 b11 (.cells [.int .i64 0, .int .i64 0, .str [], .sl 0 true []])) b11 = some (.cells [.int .i64 0, .int .i64 0, .str [], .sl 0 true []]) := upd_same _ _ _
          have n115 := ne_of h5 hb11
          have n116 := ne_of h6 hb11
          have n118 := ne_of h8 hb11
          generalize upd s2 b11 (.cells [.int .i64 0, .int .i64 0, .str [], .sl 0 true []]) = s4 at u5 u6 u8 ub uar u11
          try simp [q_load_p u5, q_load_p u6]
          obtain ⟨hc, hfine⟩ := hsub x y g (k1 + 1) s4 hxx.1 hxx.2 hy hgl hgs (by omega) (by omega) ub
          have over : ∀ (k3 : Int) (T : Tr), (upd (upd s4 b (cnt k3)) b11 (.cells (tree T).cells)) b5 = some (.cells (tree f).cells) ∧ (upd (upd s4 b (cnt k3)) b11 (.cells (tree T).cells)) b6 = some (.cells (tree a).cells) ∧ (upd (upd s4 b (cnt k3)) b11 (.cells (tree T).cells)) b8 = some (.cells [.int .i64 0, .int .i64 0, .str [], .sl 0 true []]) ∧ (upd (upd s4 b (cnt k3)) b11 (.cells (tree T).cells)) b = some (cnt k3) ∧ Around b st (upd (upd s4 b (cnt k3)) b11 (.cells (tree T).cells)) := fun k3 T => by
            obtain ⟨i5, i6, i8, ib, iar⟩ := drew s4 k3 u5 u6 u8 uar
            exact ⟨by rw [upd_ne _ _ n115]; exact i5, by rw [upd_ne _ _ n116]; exact i6, by rw [upd_ne _ _ n118]; exact i8, by rw [upd_ne _ _ nb11.symm]; exact ib, iar.put (ar2.isNone nb11 hb11) _⟩
          refine callK_worksS hc (fun t k3 ht => ?_) (fun c k3 hc => ?_)
          · rw [ht] at hfine
            obtain ⟨p1, p2, p3, p4⟩ := hfine
            obtain ⟨q1, q2, q3⟩ := p4 t rfl
            simp only at p1 q3
            obtain ⟨m5, m6, m8, mb, mar⟩ := over k3 t
            have i11 : (upd s4 b (cnt k3)) b11 = some (.cells [.int .i64 0, .int .i64 0, .str [], .sl 0 true []]) := by rw [upd_ne _ _ nb11]; exact u11
            try simp
            rw [e_store_p _ _ _ _ _ _ _ i11]
            try simp
            exact okJ _ b11 t k3 ht ⟨p1, q3⟩ q1 q2 m5 m6 m8 mb mar (upd_same _ _ _)
          · rw [hc] at hfine
            obtain ⟨p1, p2, p3, p4⟩ := hfine
            have hc0 := p3 c rfl
            obtain ⟨m5, m6, m8, mb, mar⟩ := over k3 noTree
            have i11 : (upd s4 b (cnt k3)) b11 = some (.cells [.int .i64 0, .int .i64 0, .str [], .sl 0 true []]) := by rw [upd_ne _ _ nb11]; exact u11
            try simp
            rw [e_store_p _ _ _ _ _ _ _ i11]
            try simp
            exact errJ _ _ c k3 hc hc0 m8 mb mar
    try simp [q_load_p f5, q_load_p f6]
    refine br_dec (fun h10 => ?_) (fun h10 => bad fun h => h10 h.1)
    by_cases h4 : f.kind = 4
    · simp [h4]
      exact good ⟨h10, h4⟩
    · simp [h4]
      exact bad fun h => h4 h.2
  · rintro ⟨f, a, k1, s⟩ ⟨e5, e6, e8, eb, ar, k0, k2, ha, hf, hfb, hq⟩
    simp only at e5 e6 e8 eb ar k0 k2 ha hf hfb hq
    rw [redT] at hq
    try simp
    refine hJ0 _ _ ?_
    try simp [q_load_p e5]
    refine callK_just (h_spec_l01Copy f (by have := small_size hfb; omega) _) ?_
    rw [e_store_p _ _ _ _ _ _ _ e8]
    try simp [q_load_p (upd_same _ _ _)]
    exact WorksS.ok hq (ar.put hb8 _) (by rw [upd_ne _ _ n8.symm]; exact eb)
theorem h_spec_l03Run_sub (b : Nat) : ∀ (N : Nat) (m a t : Tr) (n k : Int) (st : St), m.lamy = true → m.size ≤ 1000000 → a.isSimple = true → t.lamy = true → t.size ≤ 1000000 → 0 ≤ k → k ≤ 20000 → (20001 - k) * 1000 + t.size ≤ N → st b = some (cnt k) →
    HCalls prog n_spec_l03Run_sub [.ptr b 0, tree m, tree a, tree t, .int .i64 n] st (WorksS b (subT N m a t n k) st) := by
  intro N
  induction N with
  | zero => intro m a t n k st _ _ _ _ _ h0 h1 hN _; have := t.size_pos; omega
  | succ N ih =>
    intro m a t n k st hm hms ha ht hts h0 h1 hN hb
    have hlen := t.kids_len
    apply c_spec_l03Run_sub
    unfold b_spec_l03Run_sub
    generalize hv : subT (N + 1) m a t n k = v
    rw [subT_rest] at hv
    refine e_box_ref (tree_isJunk _) ?_
    refine e_box_ref (tree_isJunk _) ?_
    refine e_box_ref (tree_isJunk _) ?_
    intro b10 hb10
    have n10 : b10 ≠ b := fun e => by rw [e, hb] at hb10; cases hb10
    generalize hs0 : upd st b10 (.cells [.int .i64 0, .int .i64 0, .str [], .sl 0 true []]) = s0
    have e10 : s0 b10 = some (.cells [.int .i64 0, .int .i64 0, .str [], .sl 0 true []]) := by rw [← hs0]; exact upd_same _ _ _
    have eb : s0 b = some (cnt k) := by rw [← hs0, upd_ne _ _ n10.symm]; exact hb
    have ar : Around b st s0 := by rw [← hs0]; exact (Around.refl b st).put hb10 _
    clear hs0
    have fail : ∀ (c k' : Int) (s : St), (.inl c, k') = v → Around b st s → s b = some (cnt k') → s b10 = some (.cells [.int .i64 0, .int .i64 0, .str [], .sl 0 true []]) →
        qb (q_struct [PV.int IntKind.i64 0, PV.int IntKind.i64 0, PV.str [], PV.sl 0 true []] []) fun v27 => e_store s 4 (PV.ptr b10 0) v27 fun st_2 => qb (q_load st_2 true 4 (PV.ptr b10 0)) fun r_1 => retR (WorksS b v st) (.tup [r_1, .int .i64 c]) st_2 := by
      intro c k' s hv' har hsb hs8
      rw [zeroT]
      simp only [qb_some]
      rw [e_store_p _ _ _ _ _ _ _ hs8]
      try simp [q_load_p (upd_same _ _ _)]
      exact WorksS.zero hv' (har.put hb10 _) (by rw [upd_ne _ _ n10.symm]; exact hsb)
    try simp
    refine hJ_of fun J hJ => ?_
    refine loop_idx (β := PV × List Tr × Int × St × St) t.kids (fun z i => [z.1, .int .i64 (i : Int)]) (fun z => z.2.2.2.2)
      (fun z i rest => Grow z.2.2.2.1 4 (z.2.1.map tree) z.1 z.2.2.2.2 ∧ z.2.2.2.1 b10 = some (.cells [.int .i64 0, .int .i64 0, .str [], .sl 0 true []]) ∧ z.2.2.2.1 b = some (cnt z.2.2.1) ∧ Around b st z.2.2.2.1 ∧
        k ≤ z.2.2.1 ∧ z.2.2.1 ≤ 20000 ∧ z.2.1.length = i ∧ (∀ y ∈ z.2.1, y.lamy = true ∧ y.big = false) ∧ restT N m a t n i z.2.1 rest z.2.2.1 = v) ?_ ?_ (_, [], k, s0, s0) ⟨Grow.nil _ _ _, e10, eb, ar, by simp, h1, rfl, by simp, hv⟩
    · rintro i x rest ⟨p, ys, k1, sb, s⟩ hi hx ⟨hg, e10, eb, ar, k0, k2, hyl, hys, hq⟩ kk
      simp only at hg e10 eb ar k0 k2 hyl hys hq
      rw [restT_cons] at hq
      have hxm := List.mem_of_getElem? hx
      have hxs := Tr.kid_size hxm
      have hfine := subT_fine N m a x (W (n + t.under i)) k1 hm (Tr.lamy_kids ht hxm) ha (by omega) k2 (by omega)
      have call : ∀ (s' : St), s' b = some (cnt k1) → HCalls prog n_spec_l03Run_sub [.ptr b 0, tree m, tree a, tree x, .int .i64 (W (n + t.under i))] s' (WorksS b (subT N m a x (W (n + t.under i)) k1) s') := fun s' hs' => ih m a x _ k1 s' hm hms ha (Tr.lamy_kids ht hxm) (by omega) (by omega) k2 (by omega) hs'
      try simp [hi]
      refine hJ_of fun J4 hJ4 => ?_
      have errJ : ∀ (s' : St) (q : PV) (c k3 : Int), subT N m a x (W (n + t.under i)) k1 = (.inl c, k3) → s' b10 = some (.cells [.int .i64 0, .int .i64 0, .str [], .sl 0 true []]) → s' b = some (cnt k3) → Around b st s' → J4 [q, .int .i64 c] s' := fun s' q c k3 hc hs8 hsb har => by
        rw [hc] at hq hfine
        have hc0 := hfine.2.2.1 c rfl
        refine hJ4 _ _ ?_
        try simp [hc0]
        exact fail c k3 s' hq har hsb hs8
      have okJ : ∀ (sb' s' : St) (b14 : Nat) (y : Tr) (k3 : Int), subT N m a x (W (n + t.under i)) k1 = (.inr y, k3) → Grow sb' 4 (ys.map tree) p s' → sb' b10 = some (.cells [.int .i64 0, .int .i64 0, .str [], .sl 0 true []]) → sb' b = some (cnt k3) → Around b st sb' → s' b14 = some (.cells (tree y).cells) → J4 [.ptr b14 0, .int .i64 0] s' := fun sb' s' b14 y k3 hy gg g10 gb gar g14 => by
        rw [hy] at hq hfine
        simp only at hq
        obtain ⟨p1, _, _, p4⟩ := hfine
        obtain ⟨q1, q2, q3⟩ := p4 y rfl
        simp only at p1 q3
        refine hJ4 _ _ ?_
        try simp [q_load_p g14]
        refine gg.append (elems_sl _ _ _ _) (by simp; omega) fun p' s'' hg' => ?_
        try simp
        rw [W_idx hi (by unfold maxLen; omega)]
        refine kk (p', ys ++ [y], k3, sb', s'') ⟨by simpa using hg', g10, gb, gar, (by simp only; omega), q3, by simp [hyl], ?_, hq⟩
        intro z hz
        rcases List.mem_append.1 hz with h | h
        · exact hys z h
        · simp at h; subst h; exact ⟨q1, q2⟩
      try simp [ia_tree _ hx]
      have gb := hg.sub.get eb
      have g10 := hg.sub.get e10
      -- a place first, then the call
      have late : ∀ (b14 : Nat), s b14 = none → callK prog n_spec_l03Run_sub [.ptr b 0, tree m, tree a, tree x, .int .i64 (W (n + t.under i))] (upd s b14 (.cells [.int .i64 0, .int .i64 0, .str [], .sl 0 true []])) (fun v40 st => qb (q_ex v40 0) fun v41 => qb (q_ex v40 1) fun v42 => e_store st 4 (.ptr b14 0) v41 fun st => J4 [.ptr b14 0, v42] st) (panR (WorksS b v st)) := fun b14 hb14 => by
        have hgb := hg.beside (.cells [.int .i64 0, .int .i64 0, .str [], .sl 0 true []]) hb14
        have hb14' := hg.sub.isNone hb14
        have n1 := ne_of e10 hb14'
        have n2 := ne_of eb hb14'
        have ub : (upd s b14 (.cells [.int .i64 0, .int .i64 0, .str [], .sl 0 true []])) b = some (cnt k1) := by rw [upd_ne _ _ n2]; exact gb
        have uar : Around b st (upd sb b14 (.cells [.int .i64 0, .int .i64 0, .str [], .sl 0 true []])) := ar.put (ar.isNone n2.symm hb14') _
        have i14 : ∀ k3, (upd (upd s b14 (.cells [.int .i64 0, .int .i64 0, .str [], .sl 0 true []])) b (cnt k3)) b14 = some (.cells [.int .i64 0, .int .i64 0, .str [], .sl 0 true []]) := fun k3 => by rw [upd_ne _ _ n2.symm]; exact upd_same _ _ _
        have j14 : ∀ k3, (upd (upd sb b14 (.cells [.int .i64 0, .int .i64 0, .str [], .sl 0 true []])) b (cnt k3)) b14 = some (.cells [.int .i64 0, .int .i64 0, .str [], .sl 0 true []]) := fun k3 => by rw [upd_ne _ _ n2.symm]; exact upd_same _ _ _
        have vb : (upd sb b14 (.cells [.int .i64 0, .int .i64 0, .str [], .sl 0 true []])) b = some (cnt k1) := by rw [upd_ne _ _ n2]; exact eb
        refine callK_worksS (call _ ub) (fun y k3 hy => ?_) (fun c k3 hc => ?_)
        · simp
          rw [e_store_p _ _ _ _ _ _ _ (i14 k3)]
          try simp
          have g4 := (hgb.store (cnt k3) vb).store (.cells (tree y).cells) (j14 k3)
          exact okJ _ _ b14 y k3 hy g4 (by rw [upd_ne _ _ n1, upd_ne _ _ n10, upd_ne _ _ n1]; exact e10) (by rw [upd_ne _ _ n2]; exact upd_same _ _ _) ((uar.draw _).put (ar.isNone n2.symm hb14') _) (upd_same _ _ _)
        · simp
          rw [e_store_p _ _ _ _ _ _ _ (i14 k3)]
          try simp
          have g4 := (hgb.store (cnt k3) vb).store (.cells (tree noTree).cells) (j14 k3)
          exact errJ _ _ c k3 hc (g4.sub.get (by rw [upd_ne _ _ n1, upd_ne _ _ n10, upd_ne _ _ n1]; exact e10)) (by rw [upd_ne _ _ n2]; exact upd_same _ _ _) (((uar.draw _).put (ar.isNone n2.symm hb14') _).more g4.sub)
      refine ⟨?_, ?_⟩
      · refine callK_just (h_spec_l01Under t i _) ?_
        try simp
        refine ⟨?_, ?_⟩
        · refine callK_worksS (call _ gb) (fun y k3 hy => ?_) (fun c k3 hc => ?_)
          · simp
            have hg3 := hg.store (cnt k3) eb
            intro b14 hb14
            have hg4 := hg3.beside (.cells (tree y).cells) hb14
            have hb14' := hg3.sub.isNone hb14
            have hsbn : sb b14 = none := by
              by_cases e : b14 = b
              · subst e; rw [upd_same] at hb14'; cases hb14'
              · rw [upd_ne _ _ e] at hb14'; exact hb14'
            have n1 := ne_of e10 hsbn
            have n2 := ne_of eb hsbn
            try simp
            exact okJ _ _ b14 y k3 hy hg4 (by rw [upd_ne _ _ n1, upd_ne _ _ n10]; exact e10) (by rw [upd_ne _ _ n2]; exact upd_same _ _ _) ((ar.draw _).put (ar.isNone n2.symm hsbn) _) (upd_same _ _ _)
          · simp
            have hg3 := hg.store (cnt k3) eb
            intro b14 hb14
            have hg4 := hg3.beside (.cells (tree noTree).cells) hb14
            have hb14' := hg3.sub.isNone hb14
            have hsbn : sb b14 = none := by
              by_cases e : b14 = b
              · subst e; rw [upd_same] at hb14'; cases hb14'
              · rw [upd_ne _ _ e] at hb14'; exact hb14'
            have n1 := ne_of e10 hsbn
            have n2 := ne_of eb hsbn
            try simp
            exact errJ _ _ c k3 hc (hg4.sub.get (by rw [upd_ne _ _ n1, upd_ne _ _ n10]; exact e10)) (by rw [upd_ne _ _ n2]; exact upd_same _ _ _) (((ar.draw _).put (ar.isNone n2.symm hsbn) _).more hg4.sub)
        · exact fun b14 hb14 => late b14 hb14
      · intro b14 hb14
        refine callK_just (h_spec_l01Under t i _) ?_
        try simp
        exact late b14 hb14
    · rintro ⟨p, ys, k1, sb, s⟩ ⟨hg, e10, eb, ar, k0, k2, hyl, hys, hq⟩
      simp only at hg e10 eb ar k0 k2 hyl hys hq
      rw [restT_nil, finT] at hq
      try simp
      refine hJ _ _ ?_
      have g10 := hg.sub.get e10
      have gb := hg.sub.get eb
      refine hJ_of fun J1 hJ1 => ?_
      have hput : t.kind = 5 ∧ t.n = n → J1 [.bool true] s := fun h => by
        rw [if_pos h] at hq
        refine hJ1 _ _ ?_
        try simp
        refine callK_just (h_spec_l01Lift m 0 n (by omega) _) ?_
        intro b16 hb16
        have hg16 := hg.beside (.cells (tree (m.lift 0 n)).cells) hb16
        have hb16' := hg.sub.isNone hb16
        have m10 := ne_of e10 hb16'
        have mb := ne_of eb hb16'
        try simp [q_load_p (upd_same _ _ _)]
        have i10 : (upd sb b16 (.cells (tree (m.lift 0 n)).cells)) b10 = some (.cells [.int .i64 0, .int .i64 0, .str [], .sl 0 true []]) := by rw [upd_ne _ _ m10]; exact e10
        have ib : (upd sb b16 (.cells (tree (m.lift 0 n)).cells)) b = some (cnt k1) := by rw [upd_ne _ _ mb]; exact eb
        have i16 : (upd s b16 (.cells (tree (m.lift 0 n)).cells)) b16 = some (.cells (tree (m.lift 0 n)).cells) := upd_same _ _ _
        have iar : Around b st (upd sb b16 (.cells (tree (m.lift 0 n)).cells)) := ar.put (ar.isNone mb.symm hb16') _
        generalize upd sb b16 (.cells (tree (m.lift 0 n)).cells) = sb1 at hg16 i10 ib iar
        generalize upd s b16 (.cells (tree (m.lift 0 n)).cells) = s1 at hg16 i16
        refine callK_just (h_spec_l03Big _ _) ?_
        try simp
        refine br_of (fun hbig => ?_) (fun hbig => ?_)
        · rw [if_pos hbig] at hq
          exact fail 11 k1 s1 hq (iar.more hg16.sub) (hg16.sub.get ib) (hg16.sub.get i10)
        · rw [if_neg (by rw [hbig]; simp)] at hq
          try simp [q_load_p i16]
          refine callK_conv (us' := [.ptr b 0, tree (m.lift 0 n), tree a, trees ys]) (st' := sb1) (Conv.cons (Conv.sub hg16.sub) (Conv.cons (Conv.sub hg16.sub) (Conv.cons (Conv.sub hg16.sub) hg16.freeze))) ?_
          refine callK_worksS (h_spec_l03Run_reduce b (fun x a f s => subT N x a f 0 s) (m.lift 0 n) a ys k1 (fun x c g k' s' p1 p2 p3 p4 p5 p6 p7 p8 => ⟨ih x c g 0 k' s' p1 p2 p3 p4 (by omega) (by omega) p7 (by have := t.size_pos; omega) p8, subT_fine N x c g 0 k' p1 p4 p3 (by omega) p7 (by have := t.size_pos; omega)⟩) ⟨by omega, k2⟩ ha (lift_lamy m 0 n hm) hbig (fun x hx => ⟨(hys x hx).1, by have := small_size (hys x hx).2; omega⟩) (by omega) sb1 ib) (fun r k3 hr => ?_) (fun c k3 hc => ?_)
          · have j10 : (upd sb1 b (cnt k3)) b10 = some (.cells [.int .i64 0, .int .i64 0, .str [], .sl 0 true []]) := by rw [upd_ne _ _ n10]; exact i10
            try simp
            rw [e_store_p _ _ _ _ _ _ _ j10]
            try simp [q_load_p (upd_same _ _ _)]
            rw [hr] at hq
            exact WorksS.ok hq ((iar.draw _).put hb10 _) (by rw [upd_ne _ _ n10.symm]; exact upd_same _ _ _)
          · have j10 : (upd sb1 b (cnt k3)) b10 = some (.cells [.int .i64 0, .int .i64 0, .str [], .sl 0 true []]) := by rw [upd_ne _ _ n10]; exact i10
            try simp
            rw [e_store_p _ _ _ _ _ _ _ j10]
            try simp [q_load_p (upd_same _ _ _)]
            rw [hc] at hq
            exact WorksS.fail hq ((iar.draw _).put hb10 _) (by rw [upd_ne _ _ n10.symm]; exact upd_same _ _ _)
      have hkeep : ¬ (t.kind = 5 ∧ t.n = n) → J1 [.bool false] s := fun h => by
        rw [if_neg h] at hq
        refine hJ1 _ _ ?_
        try simp
        refine callK_conv (us' := [tree t, trees ys]) (st' := sb) (Conv.cons (Conv.sub hg.sub) hg.freeze) ?_
        refine callK_just (h_spec_l01With t ys _) ?_
        intro b17 hb17
        have m10 := ne_of e10 hb17
        have mb := ne_of eb hb17
        try simp
        refine hJ_of fun J2 hJ2 => ?_
        have last : ∀ (n' : Int) (s' : St), s' b17 = some (.cells (tree (.mk t.kind n' t.name ys)).cells) → s' b10 = some (.cells [.int .i64 0, .int .i64 0, .str [], .sl 0 true []]) → s' b = some (cnt k1) → Around b st s' →
            (if (Tr.mk t.kind n' t.name ys).big = true then ((.inl 11, k1) : (Int ⊕ Tr) × Int) else (.inr (Tr.mk t.kind n' t.name ys), k1)) = v →
            qb (q_load s' true 4 (PV.ptr b17 0)) fun v89 => callK prog n_spec_l03Big [v89] s' (fun v90 st_1 => cb v90 fun b_3 => br b_3 (qb (q_struct [PV.int IntKind.i64 0, PV.int IntKind.i64 0, PV.str [], PV.sl 0 true []] []) fun v91 => e_store st_1 4 (PV.ptr b10 0) v91 fun st_2 => qb (q_load st_2 true 4 (PV.ptr b10 0)) fun r_2 => retR (WorksS b v st) (.tup [r_2, .int .i64 11]) st_2) (qb (q_load st_1 true 4 (PV.ptr b17 0)) fun v92 => e_store st_1 4 (PV.ptr b10 0) v92 fun st_2 => qb (q_load st_2 true 4 (PV.ptr b10 0)) fun r_3 => retR (WorksS b v st) (.tup [r_3, .int .i64 0]) st_2)) (panR (WorksS b v st)) := by
          intro n' s' i17 i10 ib iar hq'
          try simp [q_load_p i17]
          refine callK_just (h_spec_l03Big _ _) ?_
          simp only [cb_bool]
          refine br_of (fun hbig => ?_) (fun hbig => ?_)
          · rw [if_pos hbig] at hq'
            exact fail 11 k1 s' hq' iar ib i10
          · rw [if_neg (by rw [hbig]; simp)] at hq'
            try simp [q_load_p i17]
            rw [e_store_p _ _ _ _ _ _ _ i10]
            try simp [q_load_p (upd_same _ _ _)]
            exact WorksS.ok hq' (iar.put hb10 _) (by rw [upd_ne _ _ n10.symm]; exact ib)
        generalize hs1 : upd sb b17 (.cells (tree (.mk t.kind t.n t.name ys)).cells) = s1
        have i17 : s1 b17 = some (.cells (tree (.mk t.kind t.n t.name ys)).cells) := by rw [← hs1]; exact upd_same _ _ _
        have i10 : s1 b10 = some (.cells [.int .i64 0, .int .i64 0, .str [], .sl 0 true []]) := by rw [← hs1, upd_ne _ _ m10]; exact e10
        have ib : s1 b = some (cnt k1) := by rw [← hs1, upd_ne _ _ mb]; exact eb
        have iar : Around b st s1 := by rw [← hs1]; exact ar.put (ar.isNone mb.symm hb17) _
        clear hs1
        have hlow : ¬ (t.kind = 5 ∧ n < t.n) → J2 [.bool false] s1 := fun hl => by
          rw [if_neg hl] at hq
          refine hJ2 _ _ ?_
          refine hJ_of fun J3 hJ3 => ?_
          try simp
          refine hJ3 _ _ ?_
          exact last t.n s1 i17 i10 ib iar hq
        have hhigh : t.kind = 5 ∧ n < t.n → J2 [.bool true] s1 := fun hh => by
          rw [if_pos hh] at hq
          refine hJ2 _ _ ?_
          refine hJ_of fun J3 hJ3 => ?_
          try simp [q_load_p i17]
          rw [e_store_p _ _ _ _ _ _ _ i17]
          try simp
          refine hJ3 _ _ ?_
          refine last (W (t.n - 1)) _ (by rw [tree_cells]; exact upd_same _ _ _) (by rw [upd_ne _ _ m10]; exact i10) (by rw [upd_ne _ _ mb]; exact ib) (iar.put (ar.isNone mb.symm hb17) _) hq
        try simp
        refine br_dec (fun h5 => ?_) (fun h5 => hlow fun h => h5 h.1)
        by_cases hn : n < t.n
        · simp [hn]; exact hhigh ⟨h5, hn⟩
        · simp [hn]; exact hlow fun h => hn h.2
      try simp
      refine br_dec (fun h5 => ?_) (fun h5 => hkeep fun h => h5 h.1)
      by_cases hn : t.n = n
      · simp [hn]; exact hput ⟨h5, hn⟩
      · simp [hn]; exact hkeep fun h => hn h.2
end Go.H.Tryz
set_option linter.unusedVariables false
set_option linter.unusedSimpArgs false
namespace Go.H.Tryz
open Go Go.H

theorem h_impl_Tree_under (t : Tr) (i : Int) {p : PV} {st : St} (hp : PT st (tree t).cells p) : HCalls prog n_impl_Tree_under [p, .int .i64 i] st (Just (.int .i64 (t.under i)) st) := by
  have hb : HCalls prog n_impl_Tree_binds [p, .int .i64 i] st (Just (.bool (decide (t.under i = 1))) st) := by
    apply c_impl_Tree_binds
    unfold b_impl_Tree_binds
    obtain ⟨q0, g0, g0'⟩ := hp.at_ 0 (by simp)
    try simp [hp.nil, g0, g0']
    refine br_dec (fun h => Just.bool (by simp [Tr.under, h])) (fun h => ?_)
    try simp [hp.nil, g0, g0']
    refine br_dec (fun h2 => ?_) (fun h2 => Just.bool (by simp [Tr.under, h, h2]))
    exact Just.bool (by simp [Tr.under, h2])
  apply c_impl_Tree_under
  unfold b_impl_Tree_under
  refine callK_just hb ?_
  try simp
  refine br_dec (fun h => Just.int h.symm) (fun h => Just.int ?_)
  unfold Tr.under at h ⊢
  split <;> simp_all
theorem h_impl_same (a b : Tr) (st : St) : HCalls prog n_impl_same [tree a, tree b] st (Just (.bool (decide (a = b))) st) := by
  induction a using Tr.ind generalizing b st with
  | _ a ih =>
  refine HCalls.wf e_impl_same fun hw => ?_
  have hl := (tree_wf hw.1).1
  apply c_impl_same
  unfold b_impl_same
  refine e_box_ref (tree_isJunk _) ?_
  refine e_box_ref (tree_isJunk _) ?_
  generalize hv : decide (a = b) = v
  have he := Tr.ext_iff a b
  try simp
  refine br_dec (fun h1 => ?_) (fun h1 => Just.bool (by rw [← hv, decide_eq_false (by rw [he]; simp [h1])]))
  refine br_dec (fun h2 => ?_) (fun h2 => Just.bool (by rw [← hv, decide_eq_false (by rw [he]; simp [h2])]))
  refine br_dec (fun h3 => ?_) (fun h3 => Just.bool (by rw [← hv, decide_eq_false (by rw [he]; simp [h3])]))
  refine br_dec (fun h4 => ?_) (fun h4 => Just.bool (by rw [← hv, decide_eq_false (by rw [he]; intro e; rw [e.2.2.2] at h4; exact h4 rfl)]))
  have hl4 : a.kids.length = b.kids.length := by omega
  refine loop_idx (β := Unit) a.kids (fun _ i => [.int .i64 (i : Int)]) (fun _ => st) (fun _ i rest => decide (rest = b.kids.drop i) = v) ?_ ?_ () (by rw [← hv, decide_eq_decide, he]; simp [h1, h2, h3])
  · intro i x rest _ hi hx hq k
    obtain ⟨y, hy⟩ : ∃ y, b.kids[i]? = some y := ⟨b.kids[i]'(by omega), List.getElem?_eq_getElem _⟩
    rw [drop_some hy] at hq
    try simp [hi, ia_tree _ hx, ia_tree _ hy]
    refine callK_just (ih x (List.mem_of_getElem? hx) y _) ?_
    try simp
    refine br_dec (fun h => ?_) (fun h => Just.bool (by rw [← hq, decide_eq_false (by simp [h])]))
    rw [W_idx hi hl]
    exact k () (by rw [← hq, h, decide_eq_decide]; simp)
  · intro _ hq
    try simp
    exact Just.bool (by rw [← hq, hl4, List.drop_length]; rfl)
theorem h_impl_turned (F : Int → Int → Int) (g : FuncId) (us vs : List PV)
    (hg : ∀ (n d : Int) (s : List UInt8) (q : PV) (st : St), q.cellOK = true → HCalls prog g (us ++ [.agg [.int .i64 5, .int .i64 n, .str s, q], .int .i64 d] ++ vs) st (Just (.agg [.int .i64 5, .int .i64 (F n d), .str s, q]) st))
    (t : Tr) (d : Int) (hsz : t.size ≤ 1000000000000) (st : St) : HCalls prog n_impl_turned [tree t, .int .i64 d, .fn (.func g) us vs] st (OwnTree (turnedT F t d) st) := by
  induction t using Tr.ind generalizing d st with
  | _ t ih =>
  have hl := t.kids_len
  apply c_impl_turned
  unfold b_impl_turned
  refine e_box_own (tree_isJunk _) fun b3 hb3 => ?_
  intro b6 hb6
  simp only [upd_none] at hb6
  generalize hv : turnedT F t d = v
  rw [turnedT_eq] at hv
  try simp [q_load_p, upd_apply, hb6]
  generalize hst1 : upd (upd st b3 (HObj.cells (tree t).cells)) b6 (HObj.cells [PV.int IntKind.i64 0, PV.int IntKind.i64 0, PV.str [], PV.sl 0 true []]) = st1
  have g3 : st1 b3 = some (.cells (tree t).cells) := by subst hst1; simp [upd_apply, hb6]
  have g6 : st1 b6 = some (HObj.cells [PV.int IntKind.i64 0, PV.int IntKind.i64 0, PV.str [], PV.sl 0 true []]) := by subst hst1; simp [upd_apply]
  have gs : Sub st st1 := by subst hst1; exact (Sub.refl _).fresh hb3 |>.fresh hb6.2.2
  have n36 : b3 ≠ b6 := fun e => hb6.1 e.symm
  clear hst1
  refine hJ_of fun J hJ => ?_
  refine loop_idx (β := PV × St × St) t.kids (fun z i => [z.1, .int .i64 (i : Int)]) (fun z => z.2.1) (fun z i rest => Grow z.2.2 4 (((t.kids.mapIdx fun i x => turnedT F x (W (d + t.under i))).take i).map tree) z.1 z.2.1 ∧ z.2.2 b3 = some (.cells (tree t).cells) ∧ z.2.2 b6 = some (HObj.cells [PV.int IntKind.i64 0, PV.int IntKind.i64 0, PV.str [], PV.sl 0 true []]) ∧ Sub st z.2.2) ?_ ?_ (_, st1, st1) ⟨Grow.nil _ _ _, g3, g6, gs⟩
  · rintro i x rest ⟨p, s, sb⟩ hi hx ⟨q0, q3, q6, qs⟩ k
    simp only at q0 q3 q6 qs
    try simp [hi, ia_tree _ hx]
    intro c hc
    have hc2 := q0.sub.isNone hc
    try simp [q_load_p, upd_apply]
    have e3 := q0.sub.get q3
    have n3c := ne_of e3 hc
    refine callK_just (h_impl_Tree_under t i (PT.ptr (by simp [upd_apply, n3c, e3]))) ?_
    try simp [q_load_p, upd_apply]
    refine callK_just (OwnTree.just (ih x (List.mem_of_getElem? hx) _ (by have := Tr.kid_size (List.mem_of_getElem? hx); omega) _)) ?_
    try simp
    have q0' := q0.beside (c := c) (.cells (tree x).cells) hc
    refine q0'.append (elems_sl _ _ _ _) (by simp; omega) fun p' st' hg' => ?_
    rw [W_idx hi (by unfold maxLen; omega)]
    refine k (p', st', upd sb c (.cells (tree x).cells)) ⟨?_, ?_, ?_, qs.put (qs.isNone hc2)⟩
    · simp only
      rw [mapIdx_snoc _ _ _ hx]
      simpa using hg'
    · simp [upd_apply, n3c, q3]
    · simp [upd_apply, ne_of q6 hc2, q6]
  · rintro ⟨p, s, sb⟩ ⟨q0, q3, q6, qs⟩
    simp only at q0 q3 q6 qs
    try simp
    refine hJ _ _ ?_
    rw [List.take_of_length_le (by simp)] at q0
    have e3 := q0.sub.get q3
    have e6 := q0.sub.get q6
    try simp
    rw [e_store_p _ _ _ _ _ _ _ e3]
    have hqc := q0.cellOK
    have hqj : p.cells = [p] ∧ p.ncells = 1 ∧ p.isJunk = false := by
      rcases q0 with ⟨_, ⟨e, rfl⟩, _⟩ | ⟨b, cap, rfl, _⟩ <;> exact ⟨rfl, rfl, rfl⟩
    try simp [hqj, hqc, q_load_p, upd_apply]
    have q1 := q0.store (.cells [.int .i64 t.kind, .int .i64 t.n, .str t.name, p]) q3
    have e6' : upd s b3 (.cells [.int .i64 t.kind, .int .i64 t.n, .str t.name, p]) b6 = some (HObj.cells [PV.int IntKind.i64 0, PV.int IntKind.i64 0, PV.str [], PV.sl 0 true []]) := by simp [upd_apply, n36.symm, e6]
    have fin : ∀ nn : Int, v = .mk t.kind nn t.name (t.kids.mapIdx fun i x => turnedT F x (W (d + t.under i))) → ∀ cs, retR (OwnTree v st) (.agg [.int .i64 t.kind, .int .i64 nn, .str t.name, p]) (upd (upd s b3 (.cells [.int .i64 t.kind, .int .i64 t.n, .str t.name, p])) b6 cs) := fun nn hnn cs => by
      subst hnn
      have q2 := q1.store (c := b6) cs (o := HObj.cells [PV.int IntKind.i64 0, PV.int IntKind.i64 0, PV.str [], PV.sl 0 true []]) (by simp [upd_apply, n36.symm, q6])
      have hsub : Sub st (upd (upd sb b3 (.cells [.int .i64 t.kind, .int .i64 t.n, .str t.name, p])) b6 cs) := (qs.put hb3).put hb6.2.2
      -- the row goes out, the rest stays behind
      rcases q2 with ⟨h1, ⟨e, rfl⟩, h3⟩ | ⟨b, cap, h1, h2, h3, h4⟩
      · exact retR_sub (by rw [h3]; exact hsub) ⟨_, rfl, .inl ⟨h1, ⟨e, rfl⟩, rfl⟩⟩
      · refine retR_sub (st' := upd st b (.vec 4 ((t.kids.mapIdx fun i x => turnedT F x (W (d + t.under i))).map tree) cap)) ?_ ⟨p, rfl, .inr ⟨b, cap, h1, h2, hsub.isNone h3, rfl⟩⟩
        rw [h4]
        exact hsub.upd b _
    refine br_dec (fun h5 => ?_) (fun h5 => ?_)
    · rw [if_pos h5] at hv
      rw [h5] at fin ⊢
      refine callK_just (by simpa using hg t.n d t.name p _ hqc) ?_
      rw [h5] at e6'
      rw [e_store_p _ _ _ _ _ _ _ e6']
      try simp [q_load_p, upd_apply, hqc]
      exact fin _ (by rw [← hv, h5]) _
    · rw [if_neg h5] at hv
      rw [e_store_p _ _ _ _ _ _ _ e6']
      try simp [q_load_p, upd_apply, hqc]
      exact fin _ hv.symm _
theorem h_impl_lift_1 (frm b n d : Int) (s : List UInt8) (q : PV) (st : St) (hq : q.cellOK = true) :
    HCalls prog n_impl_lift_1 [.agg [.int .i64 5, .int .i64 n, .str s, q], .int .i64 d, .ref [.int .i64 frm], .ref [.int .i64 b]] st (Just (.agg [.int .i64 5, .int .i64 (liftF frm b n d), .str s, q]) st) := by
  apply c_impl_lift_1
  unfold b_impl_lift_1
  refine e_box_own rfl fun b4 hb4 => ?_
  intro b6 hb6
  simp only [upd_none] at hb6
  generalize hv : liftF frm b n d = v
  unfold liftF at hv
  try simp [q_load_p, upd_apply, hb6]
  refine br_dec (fun h => ?_) (fun h => ?_)
  · rw [if_pos h] at hv
    try simp [q_load_p, upd_apply, hb6, hq]
    refine Just.same (by rw [← hv]) ?_
    exact ((Sub.refl _).fresh hb4 |>.fresh hb6.2.2 |>.fresh hb4 |>.fresh hb6.2.2)
  · rw [if_neg h] at hv
    try simp [q_load_p, upd_apply, hb6, hq]
    refine Just.same (by rw [← hv]) ?_
    exact ((Sub.refl _).fresh hb4 |>.fresh hb6.2.2)
theorem h_impl_lift_own (t : Tr) (frm b : Int) (hf : W frm = frm) (hsz : t.size ≤ 1000000000000) (st : St) : HCalls prog n_impl_lift [tree t, .int .i64 frm, .int .i64 b] st (OwnTree (t.lift frm b) st) := by
  apply c_impl_lift
  unfold b_impl_lift
  refine e_box_ref (tree_isJunk _) ?_
  refine e_box_ref rfl ?_
  refine e_box_ref rfl ?_
  intro b6 hb6
  have hv : turnedT (liftF frm b) t 0 = t.lift frm b := by rw [turned_lift, Int.add_zero, hf]
  rw [← hv]
  try simp
  refine callK_own (h_impl_turned (liftF frm b) n_impl_lift_1 [] [.ref [.int .i64 frm], .ref [.int .i64 b]] (fun n d s q st hq => by simpa using h_impl_lift_1 frm b n d s q st hq) t 0 hsz _) fun q s' hg => ?_
  have e6 : s' b6 = some (HObj.cells [PV.int IntKind.i64 0, PV.int IntKind.i64 0, PV.str [], PV.sl 0 true []]) := hg.sub.get (upd_same _ _ _)
  have hqc := hg.cellOK
  rw [e_store_p _ _ _ _ _ _ _ e6]
  try simp [q_load_p, upd_apply, hqc]
  have q2 := hg.store (.cells [.int .i64 (turnedT (liftF frm b) t 0).kind, .int .i64 (turnedT (liftF frm b) t 0).n, .str (turnedT (liftF frm b) t 0).name, q]) (upd_same _ _ _)
  rcases q2 with ⟨h1, ⟨e, rfl⟩, h3⟩ | ⟨b, cap, h1, h2, h3, h4⟩
  · exact retR_sub (by rw [h3]; simpa using (Sub.refl st).fresh hb6) ⟨_, rfl, .inl ⟨h1, ⟨e, rfl⟩, rfl⟩⟩
  · refine retR_sub (st' := upd st b _) ?_ ⟨q, rfl, .inr ⟨b, cap, h1, h2, (Sub.isNone (by simpa using (Sub.refl st).fresh hb6) h3), rfl⟩⟩
    rw [h4]
    exact Sub.upd (by simpa using (Sub.refl st).fresh hb6) b _
theorem h_impl_lift (t : Tr) (frm b : Int) (hf : W frm = frm) (hsz : t.size ≤ 1000000000000) (st : St) : HCalls prog n_impl_lift [tree t, .int .i64 frm, .int .i64 b] st (Just (tree (t.lift frm b)) st) := OwnTree.just (h_impl_lift_own t frm b hf hsz st)
end Go.H.Tryz
set_option linter.unusedVariables false
set_option linter.unusedSimpArgs false
namespace Go.H.Tryz
open Go Go.H

theorem h_impl_Tree_each (p : Tr → Int → Bool) (g : FuncId) (us vs : List PV) (t : Tr) (d : Int) (hsz : t.size ≤ 1000000000000) (I : Tr → Prop) (hI : ∀ t, I t → ∀ x ∈ t.kids, I x) (hit : I t) (st : St)
    (hg : ∀ (t : Tr) (d : Int), I t → HCalls prog g (us ++ [.ref (tree t).cells, .int .i64 d] ++ vs) st (Just (.bool (p t d)) st)) :
    HCalls prog n_impl_Tree_each [.ref (tree t).cells, .int .i64 d, .fn (.func g) us vs] st (Just (.bool (eachT p t d)) st) := by
  induction t using Tr.ind generalizing d with
  | _ t ih =>
  have hl := t.kids_len
  apply c_impl_Tree_each
  unfold b_impl_Tree_each
  generalize hv : eachT p t d = v
  rw [eachT_eq] at hv
  try simp
  refine callK_just (by simpa using hg t d hit) ?_
  try simp
  refine br_of (fun h => Just.bool (by rw [← hv, h]; rfl)) (fun h => ?_)
  rw [h, Bool.false_or] at hv
  refine loop_idx (β := Unit) t.kids (fun _ i => [.int .i64 (i : Int)]) (fun _ => st) (fun _ i rest => ((t.kids.mapIdx fun i x => eachT p x (W (d + t.under i))).drop i).any id = v) ?_ ?_ () hv
  · intro i x rest _ hi hx hq k
    have hxm := List.mem_of_getElem? hx
    rw [drop_mapIdx _ _ _ hx, List.any_cons] at hq
    try simp [hi, ia_tree _ hx]
    refine callK_just (h_impl_Tree_under t i (PT.ref _ _)) ?_
    try simp
    refine callK_just (ih x hxm _ (by have := Tr.kid_size hxm; omega) (hI t hit x hxm)) ?_
    try simp
    refine br_of (fun h => Just.bool (by rw [← hq]; simp [h])) (fun h => ?_)
    rw [W_idx hi (by unfold maxLen; omega)]
    exact k () (by rw [← hq]; simp [h])
  · intro _ hq
    try simp
    refine Just.bool ?_
    rw [← hq, List.drop_of_length_le (by simp)]
    rfl
end Go.H.Tryz
set_option linter.unusedVariables false
set_option linter.unusedSimpArgs false
namespace Go.H.Tryz
open Go Go.H

theorem h_slices_Max (x : Int) (r : List Int) (hn : r.length ≤ 1000000) (st : St) : HCalls prog n_slices_Max_int_int [.sl 1 true (.int .i64 x :: r.map (.int .i64))] st (Just (.int .i64 (most x r)) st) := by
  apply c_slices_Max_int_int
  unfold b_slices_Max_int_int
  generalize hv : most x r = v
  try simp
  refine br_dec (fun h => by omega) (fun h => ?_)
  try simp [q_ia]
  refine hFix_rec (σ := Int × Nat) (fun s => r.length + 1 - s.2) (fun s => [.int .i64 s.1, .int .i64 (s.2 : Int)]) (fun _ => st) (fun s => 1 ≤ s.2 ∧ s.2 ≤ r.length + 1 ∧ most s.1 (r.drop (s.2 - 1)) = v) ?_ (x, 1) ⟨by omega, by simp, by simpa using hv⟩
  rintro ⟨c, i⟩ ⟨h1, h2, h3⟩ ih
  simp only at h1 h2 h3 ih
  obtain ⟨i, rfl⟩ : ∃ j, i = j + 1 := ⟨i - 1, by omega⟩
  try simp
  refine br_dec (fun hlt => ?_) (fun hlt => Just.int (by rw [← h3, List.drop_of_length_le (by omega)]; rfl))
  have e1 : r[i]? = some r[i] := List.getElem?_eq_getElem hlt
  have e2 : (0 : Int) ≤ (i : Int) + 1 := by omega
  simp only [Nat.add_sub_cancel, List.drop_eq_getElem_cons hlt, most] at h3
  rw [if_pos e2, e1]
  try simp [q_max, PV.cells]
  rw [show IntKind.i64.wrap ((i : Int) + 1 + 1) = ((i + 1 + 1 : Nat) : Int) from by rw [wrap64 (by omega) (by omega)]; omega]
  exact ih (if r[i] > c then r[i] else c, i + 1 + 1) (by simp; omega) ⟨by simp, by simp; omega, by simpa using h3⟩
theorem h_impl_longLists (x : Int) (r : List Int) (hn : r.length ≤ 1000000) (st : St) : HCalls prog n_impl_longLists [.sl 1 true (.int .i64 x :: r.map (.int .i64))] st (Just (.bool ((x :: r).any fun y => decide (y > 4096))) st) := by
  apply c_impl_longLists
  unfold b_impl_longLists
  generalize hv : ((x :: r).any fun y => decide (y > 4096)) = v
  refine callK_just (h_slices_Max x r hn _) ?_
  try simp
  refine Just.bool ?_
  rw [← hv, Bool.eq_iff_iff, decide_eq_true_eq]
  exact most_any r x 4096
theorem h_impl_constsOK (xs : List Ty) (st : St) : HCalls prog n_impl_constsOK [typeds xs] st (Just (.bool (tysOK xs)) st) := by
  apply c_impl_constsOK
  unfold b_impl_constsOK
  generalize hv : tysOK xs = v
  unfold tysOK at hv
  try simp [typeds]
  refine br_dec (fun h => Just.bool (by rw [← hv, decide_eq_false (by omega)]; rfl)) (fun h => ?_)
  rw [decide_eq_true (by omega), Bool.true_and] at hv
  intro bm hbm
  refine loop_idx (β := St) xs (fun _ i => [.int .i64 (i : Int)]) (fun s => s) (fun s i rest => tysGo xs i rest = v ∧ Sub st s ∧ s bm = some (.map (seen (xs.take i)))) ?_ ?_ _ ⟨hv, (Sub.refl _).put hbm, by simp [seen]⟩
  · rintro i x rest s hi hx ⟨hq, hs, hm⟩ kk
    try simp [hi, ia_typed _ hx]
    rw [tysGo] at hq
    intro b5 hb5
    have hne : b5 ≠ bm := fun e => by rw [e, hm] at hb5; cases hb5
    try simp [q_load_p, upd_apply, hb5]
    have hs5 : Sub st (upd s b5 (.cells (typed x).cells)) := hs.put (hs.isNone hb5)
    have hm5 : (upd s b5 (.cells (typed x).cells)) bm = some (.map (seen (xs.take i))) := by rw [upd_ne _ _ hne.symm]; exact hm
    refine callK_just (h_impl_NameOK _ _) ?_
    try simp
    refine br_of (fun g1 => ?_) (fun g1 => Just.bool (by rw [← hq, g1]; rfl) hs5)
    rw [g1, Bool.true_and] at hq
    try simp [q_load_p, upd_apply]
    rw [lookup_seen hm5]
    try simp
    have ha := tyAt_any (xs := xs.take i) (n := x.name)
    refine br_of (fun g2 => Just.bool (by rw [← hq, decide_eq_false (by rw [ha, g2]; simp)]; simp) hs5) (fun g2 => ?_)
    rw [decide_eq_true (ha.2 g2), Bool.and_true] at hq
    refine callK_just (h_impl_badSimple _ _) ?_
    try simp
    refine br_of (fun g3 => ?_) (fun g3 => Just.bool (by rw [← hq, g3]; rfl) hs5)
    rw [g3, Bool.true_and] at hq
    try simp [q_load_p, upd_apply]
    refine mapset_seen hm5 g2 ?_
    try simp
    rw [W_idx hi (by unfold maxLen; omega)]
    refine kk _ ⟨hq, hs5.put hbm, ?_⟩
    rw [upd_same, List.take_add_one, hx]
    rfl
  · rintro s ⟨hq, hs, hm⟩
    try simp
    rw [tysGo] at hq
    exact Just.bool hq hs
theorem h_slices_IndexFunc_impl_Typed_impl_Typed (ts : List Ty) (n : List UInt8) (g : FuncId) (us vs : List PV) (hl : ts.length ≤ 1000000) (st : St) (hg : ∀ t ∈ ts, HCalls prog g (us ++ [typed t] ++ vs) st (Just (.bool (decide (t.name = n))) st)) :
    HCalls prog n_slices_IndexFunc_impl_Typed_impl_Typed [typeds ts, .fn (.func g) us vs] st (Just (.int .i64 (tyAt ts n)) st) := by
  apply c_slices_IndexFunc_impl_Typed_impl_Typed
  unfold b_slices_IndexFunc_impl_Typed_impl_Typed
  generalize hv : tyAt ts n = v
  try simp
  refine loop_idx (β := Unit) ts (fun _ i => [.int .i64 (i : Int)]) (fun _ => st) (fun _ i rest => tyGo n i rest = v) ?_ ?_ () hv
  · intro i x rest _ hi hx hq k
    rw [tyGo] at hq
    try simp [hi, ia_typed _ hx]
    refine callK_just (by simpa using hg x (List.mem_of_getElem? hx)) ?_
    try simp
    refine br_dec (fun h => Just.int (by rw [← hq, if_pos h])) (fun h => ?_)
    rw [W_idx hi (by unfold maxLen; omega)]
    exact k () (by rw [← hq, if_neg h])
  · intro _ hq
    try simp
    exact Just.int hq
theorem h_slices_Clip_impl_Tree_impl_Tree (ts : List Tr) (f : Bool) (st : St) : HCalls prog n_slices_Clip_impl_Tree_impl_Tree [.sl 4 f (ts.map tree)] st (Just (.sl 4 true (ts.map tree)) st) := by
  apply c_slices_Clip_impl_Tree_impl_Tree
  unfold b_slices_Clip_impl_Tree_impl_Tree
  have := sliceE_clip (e := 4) (f := f) (xs := ts.map tree) .i64 .i64
  simp at this
  try simp [this]
  exact Just.ret (Sub.refl _)
theorem h_impl_stop (c p : Int) (hc : c ≠ 0) (st : St) : HCalls prog n_impl_stop [.int .i64 c, .int .i64 p] st (Stops ty_impl_halt c p st) := by
  apply c_impl_stop
  unfold b_impl_stop
  try simp [q_iface]
  exact Stops.pan hc rfl rfl (Sub.refl _)
theorem h_impl_simpler_typeOf_1 (x : Ty) (t : Tr) (st : St) : HCalls prog n_impl_simpler_typeOf_1 [typed x, .ref (tree t).cells] st (Just (.bool (decide (x.name = t.name))) st) := by
  apply c_impl_simpler_typeOf_1
  unfold b_impl_simpler_typeOf_1
  generalize hv : decide (x.name = t.name) = v
  refine e_box_ref (typed_isJunk _) ?_
  try simp
  exact Just.bool hv
def simplerP (cs : List Ty) (holes : List Tr) : PV := .ref [.sl 5 false (cs.map typed), .sl 4 false (holes.map tree)]
theorem h_impl_simpler_typeOf (cs : List Ty) (ctx holes : List Tr) (he : TyEnv cs holes) (hlen : ctx.length ≤ 2000000) (t : Tr) (ht : t.isTerm false = true) (st : St) :
    HCalls prog n_impl_simpler_typeOf [simplerP cs holes, trees ctx, tree t] st (Heads ty_impl_halt (headType cs ctx holes t) st) := by
  apply c_impl_simpler_typeOf
  unfold b_impl_simpler_typeOf simplerP
  generalize hv : headType cs ctx holes t = v
  unfold headType at hv
  refine e_box_ref (tree_isJunk _) ?_
  intro b6 hb
  have hsub : ∀ o, Sub st (upd st b6 o) := fun o => (Sub.refl _).put hb
  try simp
  refine br_dec (fun h5 => ?_) (fun h5 => ?_)
  · have hn := var_n ht (.inl h5)
    rw [if_pos h5] at hv
    refine hJ_of fun J hJ => ?_
    refine br_dec (fun hge => ?_) (fun hge => ?_)
    · rw [if_pos (by omega)] at hv
      refine callK_stops (h_impl_stop 7 0 (by omega) _) (fun h => by omega) (fun _ => Heads.pan hv.symm (hsub _))
    · rw [if_neg (by omega)] at hv
      refine hJ _ _ ?_
      have hi : ((ctx.length : Int) - 1 - t.n).toNat < ctx.length := by omega
      have e1 : IntKind.i64.wrap (IntKind.i64.wrap ((ctx.length : Int) - 1) - t.n) = ((((ctx.length : Int) - 1 - t.n).toNat : Nat) : Int) := by
        rw [wrap64 (n := (ctx.length : Int) - 1) (by omega) (by omega), wrap64 (by omega) (by omega)]
        omega
      rw [e1, ia_trees hi]
      try simp [q_load_p, upd_apply]
      exact Heads.ret (by rw [← hv, getD_of hi]) (hsub _)
  · rw [if_neg h5] at hv
    refine br_dec (fun h7 => ?_) (fun h7 => ?_)
    · have hn := var_n ht (.inr h7)
      rw [if_pos h7] at hv
      refine hJ_of fun J hJ => ?_
      refine br_dec (fun hge => ?_) (fun hge => ?_)
      · rw [if_pos (by omega)] at hv
        refine callK_stops (h_impl_stop 15 0 (by omega) _) (fun h => by omega) (fun _ => Heads.pan hv.symm (hsub _))
      · rw [if_neg (by omega)] at hv
        refine hJ _ _ ?_
        have hi : t.n.toNat < holes.length := by omega
        have e1 : t.n = ((t.n.toNat : Nat) : Int) := by omega
        rw [e1, ia_trees hi]
        try simp [q_load_p, upd_apply]
        exact Heads.ret (by rw [← hv, getD_of hi]) (hsub _)
    · rw [if_neg h7] at hv
      refine callK_just (h_slices_IndexFunc_impl_Typed_impl_Typed cs t.name n_impl_simpler_typeOf_1 [] [.ref (tree t).cells] (by have := he.cl; omega) _ (fun x hx => h_impl_simpler_typeOf_1 x t _)) ?_
      try simp
      refine hJ_of fun J hJ => ?_
      refine br_dec (fun hlt => ?_) (fun hlt => ?_)
      · rw [if_pos hlt] at hv
        refine callK_stops (h_impl_stop 5 0 (by omega) _) (fun h => by omega) (fun _ => Heads.pan hv.symm (hsub _))
      · rw [if_neg hlt] at hv
        refine hJ _ _ ?_
        rcases tyAt_cases cs t.name with ⟨e1, _⟩ | ⟨j, hj, e1, _⟩
        · omega
        · rw [e1, ia_typeds hj]
          try simp [q_load_p, upd_apply]
          exact Heads.ret (by rw [← hv, e1]; simp [hj]) (hsub _)
theorem h_impl_simpler_check (cs : List Ty) (holes : List Tr) (he : TyEnv cs holes) : ∀ (m : Nat) (ctx : List Tr) (t a : Tr), ctx.length + m ≤ 2000000 → (∀ a ∈ ctx, a.isSimple = true) → t.isTerm false = true → t.size ≤ m → a.isSimple = true → ∀ st,
    HCalls prog n_impl_simpler_check [simplerP cs holes, trees ctx, tree t, tree a] st (Stops ty_impl_halt (typedT cs holes m ctx t a) 0 st)
  | 0, ctx, t, a, _, _, _, hsz, _, st => by have := Tr.size_kids t; omega
  | m + 1, ctx, t, a, hlen, hctx, ht, hsz, ha, st => by
    apply c_impl_simpler_check
    unfold b_impl_simpler_check
    generalize hv : typedT cs holes (m + 1) ctx t a = v
    rw [typedT] at hv
    refine e_box_ref (tree_isJunk _) ?_
    refine e_box_ref (tree_isJunk _) ?_
    try simp
    refine hJ_of fun J hJ => ?_
    refine br_of (fun hd => ?_) (fun hd => ?_)
    · have e9 : (9 : Int) = v := by rw [← hv]; by_cases h4 : t.kind = 4 <;> by_cases h10 : a.kind = 10 <;> simp_all
      exact callK_stops (h_impl_stop 9 0 (by omega) _) (fun h => by omega) (fun h => Stops.pan h e9 rfl (Sub.refl _))
    · refine hJ _ _ ?_
      refine br_dec (fun h4 => ?_) (fun h4 => ?_)
      · have h10 : a.kind = 10 := by simpa [h4] using hd
        rw [if_pos h4, if_pos h10] at hv
        obtain ⟨x, hx, hxt⟩ := lam_kid ht h4
        obtain ⟨y, z, hyz, hy, hz⟩ := simple_kids ha h10
        rw [kid0 hx, kid0 hyz, kid1 hyz] at hv
        have hxs : x.size < t.size := Tr.kid_size (by rw [hx]; simp)
        have x0 : t.kids[0]? = some x := by rw [hx]; rfl
        have y0 : a.kids[0]? = some y := by rw [hyz]; rfl
        have y1 : a.kids[1]? = some z := by rw [hyz]; rfl
        try simp [ia_tree0 _ x0, ia_tree0 _ y0, ia_tree1 _ y1]
        refine callK_just (h_slices_Clip_impl_Tree_impl_Tree ctx false _) ?_
        try simp
        refine append_full (elems_sl _ _ _ _) (by simp) (by simp; omega) fun p2 s2 hg2 => ?_
        try simp
        refine callK_conv (us' := [simplerP cs holes, trees (ctx ++ [y]), tree x, tree z]) (st' := st) (Conv.cons (Conv.sub hg2.sub) (Conv.cons (by simpa using hg2.freeze) (Conv.sub hg2.sub))) ?_
        exact callK_stops (h_impl_simpler_check cs holes he m _ _ _ (by simp; omega) (fun b hb => by
          rcases List.mem_append.1 hb with h | h
          · exact hctx b h
          · simp at h; rw [h]; exact hy) hxt (by omega) hz st) (fun h => Stops.ret (by rw [← hv]; exact h) (Sub.refl _)) (fun h => Stops.pan h hv rfl (Sub.refl _))
      · have h10 : a.kind ≠ 10 := by simpa [h4] using hd
        rw [if_neg h4, if_neg h10] at hv
        refine callK_heads (h_impl_simpler_typeOf cs ctx holes he (by omega) t ht _) (fun b hhb => ?_) (fun c hc => Stops.pan (headType_ne hc) (by rw [← hv, hc]) rfl (Sub.refl _))
        have hbs := headType_simple he hctx ht hhb
        rw [hhb] at hv
        intro b8 hb8
        try simp
        refine hJ_of fun J1 hJ1 => ?_
        refine loop_idx (β := Tr × St) t.kids (fun _ i => [.int .i64 (i : Int)]) (fun z => z.2) (fun z i rest => z.1.isSimple = true ∧ Sub st z.2 ∧ z.2 b8 = some (.cells (tree z.1).cells) ∧ (match argsType (typedT cs holes m ctx) rest z.1 with | .inl c => c | .inr b => endType a b) = v) ?_ ?_ (b, _) ⟨hbs, (Sub.refl _).put hb8, upd_same _ _ _, hv⟩
        · rintro i x rest ⟨b, s⟩ hi hx ⟨hbs, hs, hb, hq⟩ kk
          simp only at hbs hs hb hq
          rw [argsType] at hq
          try simp [hi, ia_tree _ hx]
          intro b10 hb10
          have hne : b8 ≠ b10 := fun e => by rw [← e, hb] at hb10; cases hb10
          have hs2 : Sub st (upd s b10 (.cells (tree x).cells)) := hs.put (hs.isNone hb10)
          have hb2 : (upd s b10 (.cells (tree x).cells)) b8 = some (.cells (tree b).cells) := by rw [upd_ne _ _ hne]; exact hb
          have hb3 : (upd s b10 (.cells (tree x).cells)) b10 = some (.cells (tree x).cells) := upd_same _ _ _
          try simp
          generalize upd s b10 (.cells (tree x).cells) = s2 at hs2 hb2 hb3
          try simp [q_load_p hb2, q_load_p hb3]
          refine hJ_of fun J2 hJ2 => ?_
          refine br_dec (fun k10 => ?_) (fun k10 => ?_)
          · rw [if_pos k10] at hq
            refine hJ2 _ _ ?_
            obtain ⟨y, z, hyz, hy, hz⟩ := simple_kids hbs k10
            have y0 : b.kids[0]? = some y := by rw [hyz]; rfl
            have y1 : b.kids[1]? = some z := by rw [hyz]; rfl
            rw [kid0 hyz, kid1 hyz] at hq
            try simp [q_load_p hb2, q_load_p hb3, ia_tree0 _ y0]
            have hxm := List.mem_of_getElem? hx
            refine callK_stops (h_impl_simpler_check cs holes he m ctx x y (by omega) hctx (Tr.kids_lams ht hxm) (by have := Tr.kid_size hxm; omega) hy _) (fun hc => ?_) (fun hc => Stops.pan hc (by rw [← hq, if_neg hc]) rfl hs2)
            rw [if_pos hc] at hq
            try simp [q_load_p hb2, ia_tree1 _ y1]
            rw [W_idx hi (by unfold maxLen; have := Tr.kids_len t; omega)]
            rw [e_store_p _ _ _ _ _ _ _ hb2]
            try simp
            exact kk (z, _) ⟨hz, hs2.put hb8, upd_same _ _ _, hq⟩
          · rw [if_neg k10] at hq
            exact callK_stops (h_impl_stop 8 0 (by omega) _) (fun h => by omega) (fun h => Stops.pan h hq rfl hs2)
        · rintro ⟨b, s⟩ ⟨hbs, hs, hb, hq⟩
          simp only at hbs hs hb hq
          simp only [argsType] at hq
          try simp
          refine hJ1 _ _ ?_
          try simp [q_load_p hb]
          unfold endType at hq
          refine br_dec (fun k10 => ?_) (fun k10 => ?_)
          · rw [if_pos k10] at hq
            exact callK_stops (h_impl_stop 8 0 (by omega) _) (fun h => by omega) (fun h => Stops.pan h hq rfl hs)
          · rw [if_neg k10] at hq
            refine callK_just (h_impl_same _ _ _) ?_
            try simp
            have hsame := endType_same ha hbs h10 k10
            refine br_dec (fun k => ?_) (fun k => ?_)
            · rw [if_pos (hsame.2 k)] at hq
              exact Stops.ret hq.symm hs
            · rw [if_neg (fun e => k (hsame.1 e))] at hq
              exact callK_stops (h_impl_stop 10 0 (by omega) _) (fun h => by omega) (fun h => Stops.pan h hq rfl hs)
end Go.H.Tryz
set_option linter.unusedVariables false
set_option linter.unusedSimpArgs false
namespace Go.H.Tryz
open Go Go.H

theorem fnCaught : prog.funcs[n_impl_caught]? = some Go.Proofs.Tryz.f40 := by kernel_rfl
theorem fnCaught1 : prog.funcs[n_impl_caught_1]? = some Go.Proofs.Tryz.f86 := by kernel_rfl
theorem ntCaught1 : Go.Proofs.Tryz.f86.ntmps = 11 := by kernel_rfl
theorem reCaught1 : Go.Proofs.Tryz.f86.results = #[] := by kernel_rfl

theorem catch_idle (p : Addr) (w : World) :
    CallsD prog n_impl_caught_1 #[.pointer (some p)] .returning w fun e u' w' => e = .returned (.tuple #[]) ∧ u' = .returning ∧ w' = w := by
  have hnil : ∀ w : World, (binOp BinOp.eql 20 .nilIface .nilIface).run prog w = .ok (.bool true) w := fun _ => by kernel_rfl
  refine callsD_of_wpS fnCaught1 rfl fun c₀ cs hu => ?_
  apply wpS_seq
  apply wpS_region
  try simp [wpOpsS, go_sem, recoverD, hu, ntCaught1, Exit.thenS]
  refine wpS_of_wp (wp_block (wp_seq (wp_region ?_)))
  try simp [wpOps, Oper.wp, Oper.upon, go_sem, Exit.then, hnil]
  left
  refine wp_cond (t := true) ?_ ?_
  · simp [Act.eval, Array.replicate]
  simp only [if_true]
  refine wp_region ?_
  try simp [wpOps, Oper.wp, Oper.upon, go_sem, Exit.then]
  left
  cases c₀
  simp_all [bodyPostS, results, reCaught1]
theorem catch_halt (b : Nat) (c p : Int) (w : World) (st : St) (z : List PV) (hb : st b = some (.cells z)) (hz : z.length = 2) (hg : Good w st) :
    CallsD prog n_impl_caught_1 #[.pointer (some ⟨b, 0, none⟩)] (.panicking [{ v := .iface ty_impl_halt (.agg #[.int .i64 c, .int .i64 p]), recovered := false }]) w fun e u' w' => e = .returned (.tuple #[]) ∧ u' = .panicking [{ v := .iface ty_impl_halt (.agg #[.int .i64 c, .int .i64 p]), recovered := true }] ∧ Evo w st w' (upd st b (.cells [.int .i64 c, .int .i64 p])) ∧ Good w' (upd st b (.cells [.int .i64 c, .int .i64 p])) := by
  have hnil : ∀ w : World, (binOp BinOp.eql 20 (.iface ty_impl_halt (.agg #[.int .i64 c, .int .i64 p])) .nilIface).run prog w = .ok (.bool false) w := fun _ => by kernel_rfl
  have hta : ∀ w : World, (Instr.typeAssert (.iface ty_impl_halt (.agg #[.int .i64 c, .int .i64 p])) 20 ty_impl_halt true).run prog w = .ok (.tuple #[.agg #[.int .i64 c, .int .i64 p], .bool true]) w := fun _ => by kernel_rfl
  refine callsD_of_wpS fnCaught1 rfl fun c₀ cs hu => ?_
  apply wpS_seq
  apply wpS_region
  try simp [wpOpsS, go_sem, recoverD, hu, ntCaught1, Exit.thenS]
  refine wpS_of_wp (wp_block (wp_seq (wp_region ?_)))
  try simp [wpOps, Oper.wp, Oper.upon, go_sem, Exit.then, hnil]
  left
  refine wp_cond (t := false) ?_ ?_
  · simp [Act.eval, Array.replicate]
  simp only [Bool.false_eq_true, if_false]
  refine wp_seq (wp_region ?_)
  try simp [wpOps, Oper.wp, Oper.upon, go_sem, Exit.then, hnil, hta]
  refine .inl (.inl (.inl ?_))
  refine wp_mono (hCode_sound tyOK mixed (ann := []) (d0 := []) (w0 := w) (st0 := st) _ [.ptr b 0, .junk, .junk, .junk, .junk, .junk, .junk, .junk, .bool true, .agg [.int .i64 c, .int .i64 p], .junk] st
    (fun e _ s => e = .normal ∧ ∃ b2, st b2 = none ∧ s = upd (upd st b2 (.cells [.int .i64 c, .int .i64 p])) b (.cells [.int .i64 c, .int .i64 p])) _ w (by kernel_rfl) ?_ ?_) ?_
  · generalize hQ : (fun e (_ : List PV) s => e = HExit.normal ∧ ∃ b2, st b2 = none ∧ s = upd (upd st b2 (.cells [.int .i64 c, .int .i64 p])) b (.cells [.int .i64 c, .int .i64 p])) = Q
    refine Eq.mp (α := e_alloc st [.int .i64 0, .int .i64 0] fun v2 st => e_store st 2 v2 (.agg [.int .i64 c, .int .i64 p]) fun st => qb (q_load st true 2 v2) fun v10 => e_store st 2 (.ptr b 0) v10 fun st => Q .normal [.ptr b 0, .junk, v2, .junk, .junk, .junk, .junk, .junk, .bool true, .agg [.int .i64 c, .int .i64 p], v10] st) (by kernel_rfl) ?_
    intro b2 hb2
    have hne : b ≠ b2 := fun e => by rw [← e, hb] at hb2; cases hb2
    try simp
    have hb3 : (upd st b2 (.cells [.int .i64 c, .int .i64 p])) b = some (.cells z) := by rw [upd_ne _ _ hne]; exact hb
    try simp [q_load_p (upd_same _ _ _)]
    rw [e_store_p _ _ _ _ _ _ _ hb3]
    try simp [hz]
    rw [← hQ]
    refine ⟨rfl, b2, hb2, ?_⟩
    match z, hz with
    | [z1, z2], _ => rfl
  · refine ⟨Evo.refl w st, hg, ?_, rfl⟩
    refine ⟨_, _, rfl, .inr ⟨rfl, by simp [RX, Value.cells]⟩, _, _, rfl, RO_junk _ _, _, _, rfl, RO_junk _ _, _, _, rfl, RO_junk _ _, _, _, rfl, RO_junk _ _, _, _, rfl, RO_junk _ _, _, _, rfl, RO_junk _ _, _, _, rfl, RO_junk _ _, _, _, rfl, .inr ⟨rfl, by simp [RX, Value.cells]⟩, _, _, rfl, .inr ⟨rfl, ?_⟩, _, _, rfl, RO_junk _ _, rfl⟩
    try simp [RX, RCs, Value.cells]
  · intro e a w' hq
    cases e with
    | normal =>
      obtain ⟨env', st', ⟨_, b2, hb2, rfl⟩, _, hs⟩ := hq
      have hsub : Sub (upd st b (.cells [.int .i64 c, .int .i64 p])) (upd (upd st b2 (.cells [.int .i64 c, .int .i64 p])) b (.cells [.int .i64 c, .int .i64 p])) := Sub.upd ((Sub.refl st).put hb2) _ _
      refine ⟨hs.defers, _, rfl, .tuple #[], ?_, rfl, rfl, hs.evo.trans (Evo.sub hsub), hs.good.sub hsub⟩
      try simp [results, reCaught1]
    | panic ch => obtain ⟨_, _, _, _, ⟨h, _⟩, _⟩ := hq; cases h
    | outgrown => exact hq.elim
    | _ => obtain ⟨_, _, ⟨h, _⟩, _⟩ := hq; cases h
theorem rvs_ros {C : Nat → Nat → Value → Prop} : ∀ {ps : List PV} {vs : List Value}, RVs C ps vs → ROs C ps vs
  | [], _, h => h
  | _ :: _, _, ⟨v, vs', e, h1, h2⟩ => ⟨v, vs', e, h1, rvs_ros h2⟩
theorem callsD_mono {P : Program} {f : FuncId} {args : Array Value} {u : FrameMode} {w : World} {R R' : Ending → FrameMode → World → Prop} (h : CallsD P f args u w R) (hr : ∀ e u' w', R e u' w' → R' e u' w') : CallsD P f args u w R' := fun c cs hc =>
  let ⟨e, u', w', fr, h1, h2⟩ := h c cs hc
  ⟨e, u', w', fr, hr _ _ _ h1, h2⟩
def Caught (h : TypeId) (b : Nat) (Q : Int → Int → St → Prop) : Res → St → Prop := fun r s => ∃ s0, s0 b = none ∧ s = upd s0 b (.cells [.int .i64 0, .int .i64 0]) ∧ ((r = .ret (.tup []) ∧ Q 0 0 s0) ∨ ∃ c p, r = .pan (halt h c p) ∧ Q c p s0)
theorem h_impl_caught (g : FuncId) (caps : List PV) (st : St) (Q : Int → Int → St → Prop) (hc : ∀ b, st b = none → HCalls prog g caps (upd st b (.cells [.int .i64 0, .int .i64 0])) (Caught ty_impl_halt b Q)) :
    HCalls prog n_impl_caught [.fn (.func g) [] caps] st (fun r s => ∃ c p, r = .ret (.agg [.int .i64 c, .int .i64 p]) ∧ Q c p s) := by
  refine ⟨⟨Go.Proofs.Tryz.f40, fnCaught, by kernel_rfl, by kernel_rfl⟩, fun w vals hg hv => ?_⟩
  obtain ⟨v0, vs, rfl, h0, rfl⟩ := hv
  refine calls_of_wp_defers fnCaught rfl ?_
  refine wp_seq ?_
  refine wp_mono (hCode_sound tyOK mixed (ann := []) (d0 := []) (w0 := w) (st0 := st) _ [.fn (.func g) [] caps, .junk, .junk, .junk, .junk, .junk, .junk] st
    (fun e env s => e = .normal ∧ ∃ b, st b = none ∧ env = [.fn (.func g) [] caps, .junk, .ptr b 0, .junk, .junk, .junk, .junk] ∧ s = upd st b (.cells [.int .i64 0, .int .i64 0])) _ w (by kernel_rfl) ?_ ?_) ?_
  · generalize hQ : (fun e env s => e = HExit.normal ∧ ∃ b, st b = none ∧ env = [PV.fn (.func g) [] caps, .junk, .ptr b 0, .junk, .junk, .junk, .junk] ∧ s = upd st b (.cells [.int .i64 0, .int .i64 0])) = Q
    refine Eq.mp (α := e_alloc st [.int .i64 0, .int .i64 0] fun v2 st => Q .normal [.fn (.func g) [] caps, .junk, v2, .junk, .junk, .junk, .junk] st) (by kernel_rfl) ?_
    intro b hb
    rw [← hQ]
    exact ⟨rfl, b, hb, rfl, rfl⟩
  · refine ⟨Evo.refl w st, hg, ?_, rfl⟩
    exact ⟨_, _, rfl, h0, _, _, rfl, RO_junk _ _, _, _, rfl, RO_junk _ _, _, _, rfl, RO_junk _ _, _, _, rfl, RO_junk _ _, _, _, rfl, RO_junk _ _, _, _, rfl, RO_junk _ _, rfl⟩
  intro e a1 w1 hq
  cases e with
  | normal =>
    obtain ⟨env1, st1, ⟨_, b, hb, rfl, rfl⟩, _, hs1⟩ := hq
    obtain ⟨hev1, hg1, hsl, hd1⟩ := hs1
    obtain ⟨tmps1, defers1⟩ := a1
    simp only at hd1 hsl
    subst hd1
    obtain ⟨u0, l0, e0, r0, u1, l1, rfl, _, u2, l2, rfl, r2, u3, l3, rfl, _, u4, l4, rfl, _, u5, l5, rfl, _, u6, l6, rfl, _, rfl⟩ := hsl
    have hu2 := RO_ptr r2
    subst hu2
    obtain rfl : tmps1 = #[u0, u1, .pointer (some ⟨b, 0, none⟩), u3, u4, u5, u6] := by cases tmps1; simp_all
    show Code.wp prog _ _ _ _
    refine wp_seq (wp_region ?_)
    try simp [wpOps, Oper.wp, Oper.upon, go_sem, Exit.then]
    refine .inl (.inl ?_)
    obtain ⟨vf, vc, rfl, rf, rc⟩ := RO_fn r0
    obtain rfl : vf = [] := by simpa [RVs] using rf
    refine wp_seq (wp_region ?_)
    try simp [wpOps, Oper.wp, Oper.upon, go_sem, Exit.then]
    have hent := (hc b hb).1
    rw [enter_run hent]
    refine .inl (.inl ?_)
    refine ((hc b hb).2 w1 vc hg1 ?_).mono ?_
    · exact rvs_ros rc
    rintro e w2 ⟨r, s, hev2, hg2, ⟨s0, hs0, rfl, hq⟩, hm⟩
    cases e with
    | returned v =>
      rcases hq with ⟨rfl, hq⟩ | ⟨c, p, rfl, _⟩
      · refine wp_mono (hCode_sound tyOK mixed (ann := []) (d0 := [{ target := .fn (.func n_impl_caught_1) #[.pointer (some ⟨b, 0, none⟩)], args := #[] }]) (w0 := w) (st0 := st) _ [.junk, .junk, .ptr b 0, .junk, .junk, .junk, .junk] (upd s0 b (.cells [.int .i64 0, .int .i64 0]))
          (fun e env s => e = .ret ∧ s = upd s0 b (.cells [.int .i64 0, .int .i64 0]) ∧ env = [.junk, .junk, .ptr b 0, .junk, .junk, .junk, .agg [.int .i64 0, .int .i64 0]]) _ w2 (by kernel_rfl) ?_ ?_) ?_
        · generalize hQ : (fun e env s => e = HExit.ret ∧ s = upd s0 b (.cells [.int .i64 0, .int .i64 0]) ∧ env = [PV.junk, .junk, .ptr b 0, .junk, .junk, .junk, .agg [.int .i64 0, .int .i64 0]]) = Q2
          refine Eq.mp (α := e_store (upd s0 b (.cells [.int .i64 0, .int .i64 0])) 2 (.ptr b 0) (.agg [.int .i64 0, .int .i64 0]) fun st => Q2 .ret [.junk, .junk, .ptr b 0, .junk, .junk, .junk, .agg [.int .i64 0, .int .i64 0]] st) (by kernel_rfl) ?_
          rw [e_store_p _ _ _ _ _ _ _ (upd_same _ _ _)]
          try simp
          rw [← hQ]
          exact ⟨rfl, rfl, rfl⟩
        · refine ⟨hev1.trans hev2, hg2, ?_, rfl⟩
          exact ⟨_, _, rfl, RO_junk _ _, _, _, rfl, RO_junk _ _, _, _, rfl, .inr ⟨rfl, by simp [RX, Value.cells]⟩, _, _, rfl, RO_junk _ _, _, _, rfl, RO_junk _ _, _, _, rfl, RO_junk _ _, _, _, rfl, RO_junk _ _, rfl⟩
        intro e a3 w3 hq3
        cases e with
        | ret =>
          obtain ⟨env', st', ⟨_, rfl, rfl⟩, _, hs3⟩ := hq3
          show Leaves prog _ a3.tmps _ a3.defers .returning w3
          rw [show a3.defers = _ from hs3.defers]
          refine leaves_cons (by simp) ?_ (callsD_mono (catch_idle ⟨b, 0, none⟩ w3) ?_)
          · simp [invoke, go_sem]
          · rintro e u' w' ⟨rfl, rfl, rfl⟩
            refine fin_post tyOK (fn := Go.Proofs.Tryz.f40) hs3.evo hs3.good hs3.slots ?_
            refine Eq.mp (α := qb (q_load (upd s0 b (.cells [.int .i64 0, .int .i64 0])) true 2 (.ptr b 0)) fun p => retR (fun r s => ∃ c p, r = Res.ret (.agg [.int .i64 c, .int .i64 p]) ∧ Q c p s) p (upd s0 b (.cells [.int .i64 0, .int .i64 0]))) (by kernel_rfl) ?_
            try simp [q_load_p (upd_same _ _ _)]
            exact retR_sub ((Sub.refl _).put hs0) ⟨0, 0, rfl, hq⟩
        | panic ch => obtain ⟨_, _, _, _, ⟨h, _⟩, _⟩ := hq3; cases h
        | outgrown => exact hq3.elim
        | _ => obtain ⟨_, _, ⟨h, _⟩, _⟩ := hq3; cases h
      · exact hm.elim
    | panicked ch =>
      rcases hq with ⟨rfl, _⟩ | ⟨c, p, rfl, hq⟩
      · exact hm.elim
      · obtain ⟨v, rfl, hro⟩ := hm
        obtain ⟨u, rfl, hu⟩ := RO_iface hro
        obtain ⟨vs, rfl, hvs⟩ := RO_agg (.inr hu)
        obtain rfl : vs = #[.int .i64 c, .int .i64 p] := by
          cases vs
          simpa [RCs, RX] using hvs
        refine leaves_cons (by simp) ?_ (callsD_mono (catch_halt b c p w2 _ _ (upd_same s0 b (.cells [.int .i64 0, .int .i64 0])) rfl hg2) ?_)
        · simp [invoke, go_sem]
        · rintro e u' w' ⟨rfl, rfl, hev3, hg3⟩
          refine fin_post tyOK (fn := Go.Proofs.Tryz.f40) (env := [.junk, .junk, .ptr b 0, .junk, .junk, .junk, .junk]) ((hev1.trans hev2).trans hev3) hg3 ?_ ?_
          · exact ⟨_, _, rfl, RO_junk _ _, _, _, rfl, RO_junk _ _, _, _, rfl, .inr ⟨rfl, by simp [RX, Value.cells]⟩, _, _, rfl, RO_junk _ _, _, _, rfl, RO_junk _ _, _, _, rfl, RO_junk _ _, _, _, rfl, RO_junk _ _, rfl⟩
          · refine Eq.mp (α := qb (q_load (upd (upd s0 b (.cells [.int .i64 0, .int .i64 0])) b (.cells [.int .i64 c, .int .i64 p])) true 2 (.ptr b 0)) fun q => retR (fun r s => ∃ c p, r = Res.ret (.agg [.int .i64 c, .int .i64 p]) ∧ Q c p s) q (upd (upd s0 b (.cells [.int .i64 0, .int .i64 0])) b (.cells [.int .i64 c, .int .i64 p]))) (by kernel_rfl) ?_
            try simp [q_load_p (upd_same _ _ _)]
            exact retR_sub ((Sub.refl _).put hs0) ⟨c, p, rfl, hq⟩
    | outgrown => exact hm.elim
  | panic ch => obtain ⟨_, _, _, _, ⟨h, _⟩, _⟩ := hq; cases h
  | outgrown => exact hq.elim
  | _ => obtain ⟨_, _, ⟨h, _⟩, _⟩ := hq; cases h
end Go.H.Tryz
set_option linter.unusedVariables false
set_option linter.unusedSimpArgs false
namespace Go.H.Tryz
open Go Go.H

def Cnt (b : Nat) (c : Int) (v : Bool) (st : St) : Res → St → Prop := fun r s => s = upd st b (.cells [.int .i64 c]) ∧ r = .ret (.bool v)
theorem Cnt.mk {b : Nat} {c : Int} {v w : Bool} {st st1 : St} (e : w = v) (h : Sub (upd st b (.cells [.int .i64 c])) st1) : retR (Cnt b c v st) (.bool w) st1 := by subst e; exact retR_sub h ⟨rfl, rfl⟩
theorem h_impl_tooBig_1 (t : Tr) (d c : Int) (hc : 0 ≤ c ∧ c ≤ 1000) (b : Nat) (st : St) (hb : st b = some (.cells [.int .i64 c])) :
    HCalls prog n_impl_tooBig_1 [.ref (tree t).cells, .int .i64 d, .ptr b 0] st (Cnt b (c + 1) (decide (150 < c + 1) || (decide (t.kind = 5) && decide (100 < t.n))) st) := by
  apply c_impl_tooBig_1
  unfold b_impl_tooBig_1
  generalize hv : (decide (150 < c + 1) || (decide (t.kind = 5) && decide (100 < t.n))) = v
  have hw : IntKind.i64.wrap (c + 1) = c + 1 := wrap64 (by omega) (by omega)
  try simp [q_load_p hb]
  rw [hw, e_store_p _ _ _ _ _ _ _ hb]
  try simp [q_load_p (upd_same _ _ _)]
  refine br_dec (fun h => Cnt.mk (by rw [← hv, decide_eq_true h]; rfl) (Sub.refl _)) (fun h => ?_)
  rw [decide_eq_false h, Bool.false_or] at hv
  refine br_dec (fun h5 => Cnt.mk (by rw [← hv, decide_eq_true h5]; rfl) (Sub.refl _)) (fun h5 => Cnt.mk (by rw [← hv, decide_eq_false h5]; rfl) (Sub.refl _))
def Counts (b : Nat) (c : Int) (t : Tr) (st : St) : Res → St → Prop := fun r s => ∃ c', s = upd st b (.cells [.int .i64 c']) ∧ ((countOK c t ∧ c' = c + t.size ∧ r = .ret (.bool false)) ∨ (¬ countOK c t ∧ r = .ret (.bool true)))
theorem h_impl_Tree_count (t : Tr) (d c : Int) (hc : 0 ≤ c ∧ c ≤ 150) (hsz : t.size ≤ 1000000000) (b : Nat) (st : St) (hb : st b = some (.cells [.int .i64 c])) :
    HCalls prog n_impl_Tree_each [.ref (tree t).cells, .int .i64 d, .fn (.func n_impl_tooBig_1) [] [.ptr b 0]] st (Counts b c t st) := by
  induction t using Tr.ind generalizing d c st with
  | _ t ih =>
  have hl := t.kids_len
  apply c_impl_Tree_each
  unfold b_impl_Tree_each
  generalize hR : Counts b c t st = R
  try simp
  refine callK_of (h_impl_tooBig_1 t d c (by omega) b st hb) (fun p s h => ?_) (fun p s h => by cases h.2)
  obtain ⟨rfl, h⟩ := h
  cases h
  try simp
  have hpos := t.size_pos
  have yes : ∀ c', ¬ countOK c t → retR R (.bool true) (upd st b (.cells [.int .i64 c'])) := fun c' h => by
    rw [← hR]
    exact retR_sub (Sub.refl _) ⟨c', rfl, .inr ⟨h, rfl⟩⟩
  refine br_of (fun h => yes _ ?_) (fun h => ?_)
  · simp only [Bool.or_eq_true, Bool.and_eq_true, decide_eq_true_eq] at h
    rintro ⟨h1, h2⟩
    rw [Tr.high_eq] at h2
    simp only [Bool.or_eq_false_iff, Bool.and_eq_false_iff, decide_eq_false_iff_not] at h2
    omega
  · simp only [Bool.or_eq_false_iff, Bool.and_eq_false_iff, decide_eq_false_iff_not] at h
    refine loop_idx (β := Int) t.kids (fun _ i => [.int .i64 (i : Int)]) (fun c' => upd st b (.cells [.int .i64 c'])) (fun c' i rest => 0 ≤ c' ∧ c' ≤ 150 ∧ c' + Tr.sizes rest = c + t.size ∧ (t.kids.any Tr.high = rest.any Tr.high)) ?_ ?_ (c + 1) ⟨by omega, by omega, by rw [Tr.size_kids t]; omega, rfl⟩
    · rintro i x rest c' hi hx ⟨h1, h2, h3, h4⟩ kk
      have hxm := List.mem_of_getElem? hx
      try simp [hi, ia_tree _ hx]
      refine callK_just (h_impl_Tree_under t i (PT.ref _ _)) ?_
      try simp
      refine callK_of (ih x hxm _ c' ⟨h1, h2⟩ (by have := Tr.kid_size hxm; omega) _ (upd_same _ _ _)) (fun p s hp => ?_) (fun p s hp => ?_)
      · obtain ⟨c2, rfl, hp⟩ := hp
        simp only [Tr.sizes, List.map_cons, List.sum_cons] at h3
        simp only [List.any_cons] at h4
        rcases hp with ⟨⟨g1, g2⟩, rfl, hp⟩ | ⟨g, hp⟩
        · cases hp
          try simp
          rw [W_idx hi (by unfold maxLen; omega)]
          exact kk (c' + x.size) ⟨by omega, by omega, by simp only [Tr.sizes]; omega, by rw [h4, g2, Bool.false_or]⟩
        · cases hp
          try simp
          refine yes _ ?_
          rintro ⟨k1, k2⟩
          rw [Tr.high_eq, h4] at k2
          simp only [Bool.or_eq_false_iff] at k2
          exact g ⟨by omega, k2.2.1⟩
      · obtain ⟨_, _, ⟨_, _, hp⟩ | ⟨_, hp⟩⟩ := hp <;> cases hp
    · rintro c' ⟨h1, h2, h3, h4⟩
      try simp
      rw [← hR]
      refine retR_sub (Sub.refl _) ⟨c', rfl, .inl ⟨⟨?_, ?_⟩, ?_, rfl⟩⟩
      · simp [Tr.sizes] at h3; omega
      · rw [Tr.high_eq, h4]; simp
        intro h5
        rcases h.2 with g | g
        · exact absurd h5 g
        · omega
      · simp [Tr.sizes] at h3; omega
theorem h_impl_tooBig (t : Tr) (hsz : t.size ≤ 1000000000) (st : St) : HCalls prog n_impl_tooBig [tree t] st (Just (.bool t.big) st) := by
  apply c_impl_tooBig
  unfold b_impl_tooBig
  refine e_box_ref (tree_isJunk _) ?_
  intro b hb
  try simp
  refine callK_of (h_impl_Tree_count t 0 0 (by omega) hsz b _ (upd_same _ _ _)) (fun p s h => ?_) (fun p s h => ?_)
  · obtain ⟨c', rfl, ⟨⟨h1, h2⟩, _, h⟩ | ⟨h1, h⟩⟩ := h
    · cases h
      exact Just.bool (by unfold Tr.big Tr.small; rw [h2, decide_eq_true (by omega)]; rfl) (by simpa using (Sub.refl st).put hb)
    · cases h
      refine Just.bool ?_ (by simpa using (Sub.refl st).put hb)
      unfold Tr.big Tr.small
      by_cases hs : t.size ≤ 150
      · rw [decide_eq_true hs]
        cases hh : t.high with
        | true => rfl
        | false => exact absurd ⟨by omega, hh⟩ h1
      · rw [decide_eq_false hs]; rfl
  · obtain ⟨_, _, ⟨_, _, hp⟩ | ⟨_, hp⟩⟩ := h <;> cases hp
theorem h_impl_clone (t : Tr) (hsz : t.size ≤ 1000000000) (st : St) : HCalls prog n_impl_clone [tree t] st (Just (tree t) st) := by
  induction t using Tr.ind generalizing st with
  | _ t ih =>
  have hl := t.kids_len
  apply c_impl_clone
  unfold b_impl_clone
  refine e_box_own (tree_isJunk _) fun b1 hb1 => ?_
  intro b2 hb2
  have hne : b1 ≠ b2 := fun e => by rw [← e, upd_same] at hb2; cases hb2
  rw [upd_ne _ _ hne.symm] at hb2
  generalize hs : upd (upd st b1 (.cells (tree t).cells)) b2 (.cells [.int .i64 0, .int .i64 0, .str [], .sl 0 true []]) = s
  have e1 : s b1 = some (.cells (tree t).cells) := by rw [← hs, upd_ne _ _ hne]; exact upd_same _ _ _
  have e2 : s b2 = some (.cells [.int .i64 0, .int .i64 0, .str [], .sl 0 true []]) := by rw [← hs]; exact upd_same _ _ _
  have hsub : Sub st s := by
    rw [← hs]
    refine ((Sub.refl st).put hb1).put hb2
  clear hs
  try simp [q_load_p e1]
  have hall : HCalls prog n_impl_cloneAll [trees t.kids] s (Just (trees t.kids) s) := by
    apply c_impl_cloneAll
    unfold b_impl_cloneAll
    try simp
    refine loop_idx (β := PV × St × St) t.kids (fun z i => [z.1, .int .i64 (i : Int)]) (fun z => z.2.1) (fun z i rest => Grow z.2.2 4 ((t.kids.take i).map tree) z.1 z.2.1 ∧ Sub s z.2.2) ?_ ?_ (_, s, s) ⟨Grow.nil _ _ _, Sub.refl _⟩
    · rintro i x rest ⟨p, s1, s0⟩ hi hx ⟨q0, qs⟩ kk
      simp only at q0 qs
      have hxm := List.mem_of_getElem? hx
      try simp [hi, ia_tree _ hx]
      intro b5 hb5
      have q1 := q0.beside (.cells (tree x).cells) hb5
      try simp [q_load_p (upd_same _ _ _)]
      refine callK_just (ih x hxm (by have := Tr.kid_size hxm; omega) _) ?_
      try simp
      refine q1.append (elems_sl _ _ _ _) (by simp; omega) fun p' s' hg => ?_
      try simp
      rw [W_idx hi (by unfold maxLen; omega)]
      refine kk (p', s', upd s0 b5 (.cells (tree x).cells)) ⟨?_, qs.put (qs.isNone (q0.sub.isNone hb5))⟩
      rw [List.take_add_one, hx]
      simpa using hg
    · rintro ⟨p, s1, s0⟩ ⟨q0, qs⟩
      try simp
      rw [List.take_length] at q0
      exact Just.conv (Conv.trans q0.freeze (Conv.sub qs))
  refine callK_just hall ?_
  try simp
  rw [e_store_p _ _ _ _ _ _ _ e1]
  try simp [q_load_p (upd_same _ _ _)]
  rw [← Tr.eta]
  have hne2 : b2 ≠ b1 := fun e => hne e.symm
  have e3 : ∀ o, upd s b1 o b2 = some (.cells [.int .i64 0, .int .i64 0, .str [], .sl 0 true []]) := fun o => by rw [upd_ne _ _ hne2]; exact e2
  rw [e_store_p _ _ _ _ _ _ _ (e3 _)]
  try simp [q_load_p (upd_same _ _ _)]
  refine Just.ret ?_
  refine (hsub.put hb1).put hb2
theorem h_impl_formed (t : Tr) (hsz : t.size ≤ 1000000000) (st : St) : HCalls prog n_impl_formed [tree t] st (Heads ty_impl_halt (if t.big = true then .inl 11 else .inr t) st) := by
  apply c_impl_formed
  unfold b_impl_formed
  generalize hv : (if t.big = true then (Sum.inl 11 : Int ⊕ Tr) else .inr t) = v
  refine e_box_ref (tree_isJunk _) ?_
  intro b2 hb2
  have hsub : ∀ o, Sub st (upd st b2 o) := fun o => (Sub.refl st).put hb2
  try simp
  refine callK_just (h_impl_tooBig t hsz _) ?_
  try simp
  refine br_of (fun h => ?_) (fun h => ?_)
  · rw [if_pos h] at hv
    exact callK_stops (h_impl_stop 11 0 (by omega) _) (fun h => by omega) (fun _ => Heads.pan hv.symm (hsub _))
  · rw [if_neg (by rw [h]; simp)] at hv
    try simp [q_load_p (upd_same _ _ _)]
    exact Heads.ret hv.symm (hsub _)
def Result (x : Int ⊕ Tr) (st : St) : Res → St → Prop := match x with
  | .inr t => Just (.tup [tree t, .int .i64 0]) st
  | .inl c => Just (.tup [tree noTree, .int .i64 c]) st
def SetTo (h : TypeId) (b : Nat) (x : Int ⊕ Tr) (s : St) : Res → St → Prop := fun r s' => (∃ t, x = .inr t ∧ r = .ret (.tup []) ∧ s' = upd s b (.cells (tree t).cells)) ∨ (∃ c, x = .inl c ∧ r = .pan (halt h c 0) ∧ s' = s)
theorem h_impl_result_1 (g : FuncId) (caps : List PV) (x : Int ⊕ Tr) (b : Nat) (s : St) (z : List PV) (hb : s b = some (.cells z)) (hz : z.length = 4) (hc : HCalls prog g caps s (Heads ty_impl_halt x s)) :
    HCalls prog n_impl_result_1 [.ref [.fn (.func g) [] caps], .ptr b 0] s (SetTo ty_impl_halt b x s) := by
  apply c_impl_result_1
  unfold b_impl_result_1
  have e1 : takeV false 1 [PV.fn (.func g) [] caps] = some (.fn (.func g) [] caps) := rfl
  try simp [e1]
  refine callK_heads hc (fun t ht => ?_) (fun c hc => ?_)
  · rw [e_store_p _ _ _ _ _ _ _ hb]
    have e2 : setRange z 0 (tree t).cells = (tree t).cells := by
      match z, hz with
      | [z0, z1, z2, z3], _ => simp
    try simp [hz, e2]
    exact retR_sub (Sub.refl _) (.inl ⟨t, ht, rfl, rfl⟩)
  · exact panR_conv (Conv.sub (Sub.refl _)) (.inr ⟨c, hc, rfl, rfl⟩)
theorem h_impl_result (g : FuncId) (caps : List PV) (x : Int ⊕ Tr) (hx : ∀ c, x = .inl c → c ≠ 0) (hsz : ∀ t, x = .inr t → t.size ≤ 1000000000) (st : St) (hc : ∀ s, Sub st s → HCalls prog g caps s (Heads ty_impl_halt x s)) :
    HCalls prog n_impl_result [.fn (.func g) [] caps] st (Result x st) := by
  apply c_impl_result
  unfold b_impl_result
  refine e_box_ref rfl ?_
  intro b2 hb2
  try simp
  intro b4 hb4
  have hne : b2 ≠ b4 := fun e => by rw [← e, upd_same] at hb4; cases hb4
  rw [upd_ne _ _ hne.symm] at hb4
  try simp
  generalize hs : upd (upd st b2 (.cells [.int .i64 0, .int .i64 0, .str [], .sl 0 true []])) b4 (.cells [.int .i64 0, .int .i64 0, .str [], .sl 0 true []]) = s
  have e2 : s b2 = some (.cells [.int .i64 0, .int .i64 0, .str [], .sl 0 true []]) := by rw [← hs, upd_ne _ _ hne]; exact upd_same _ _ _
  have e4 : s b4 = some (.cells [.int .i64 0, .int .i64 0, .str [], .sl 0 true []]) := by rw [← hs]; exact upd_same _ _ _
  have hsub : Sub st s := by rw [← hs]; exact ((Sub.refl st).put hb2).put hb4
  clear hs
  refine callK_of (h_impl_caught n_impl_result_1 [.ref [.fn (.func g) [] caps], .ptr b4 0] s (fun c p s' => (∃ t, x = .inr t ∧ c = 0 ∧ s' = upd s b4 (.cells (tree t).cells)) ∨ (x = .inl c ∧ s' = s)) (fun b hb => ?_)) (fun p s' h => ?_) (fun p s' h => ?_)
  · have hne4 : b4 ≠ b := fun e => by rw [← e, e4] at hb; cases hb
    refine (h_impl_result_1 g caps x b4 _ _ (by rw [upd_ne _ _ hne4]; exact e4) rfl (hc _ (hsub.put (hsub.isNone hb)))).mono fun r s' h => ?_
    rcases h with ⟨t, ht, rfl, rfl⟩ | ⟨c, hc, rfl, rfl⟩
    · exact ⟨upd s b4 (.cells (tree t).cells), by rw [upd_ne _ _ hne4.symm]; exact hb, upd_comm _ _ _ hne4.symm, .inl ⟨rfl, .inl ⟨t, ht, rfl, rfl⟩⟩⟩
    · exact ⟨s, hb, rfl, .inr ⟨c, 0, rfl, .inr ⟨hc, rfl⟩⟩⟩
  · obtain ⟨c, p', h, hq⟩ := h
    cases h
    rcases hq with ⟨t, ht, rfl, rfl⟩ | ⟨hc0, rfl⟩
    · intro b5 hb5
      have hne5 : b4 ≠ b5 := fun e => by rw [← e, upd_same] at hb5; cases hb5
      rw [upd_ne _ _ hne5.symm] at hb5
      have hne25 : b2 ≠ b5 := fun e => by rw [← e, e2] at hb5; cases hb5
      generalize hs2 : upd (upd s b4 (.cells (tree t).cells)) b5 (.cells [.int .i64 0, .int .i64 p']) = s2
      have f5 : s2 b5 = some (.cells [.int .i64 0, .int .i64 p']) := by rw [← hs2]; exact upd_same _ _ _
      have f4 : s2 b4 = some (.cells (tree t).cells) := by rw [← hs2, upd_ne _ _ hne5]; exact upd_same _ _ _
      have f2 : s2 b2 = some (.cells [.int .i64 0, .int .i64 0, .str [], .sl 0 true []]) := by rw [← hs2, upd_ne _ _ hne25, upd_ne _ _ hne]; exact e2
      have hsub2 : Sub st s2 := by rw [← hs2]; exact (hsub.put hb4).put (hsub.isNone hb5)
      try simp
      rw [hs2]
      try simp [q_load_p f5, q_load_p f4]
      refine callK_just (h_impl_clone t (hsz t ht) _) ?_
      rw [e_store_p _ _ _ _ _ _ _ f2]
      try simp [q_load_p (upd_same _ _ _)]
      unfold Result
      rw [ht]
      exact Just.ret (hsub2.put hb2)
    · intro b5 hb5
      have hne25 : b2 ≠ b5 := fun e => by rw [← e, e2] at hb5; cases hb5
      generalize hs2 : upd s' b5 (.cells [.int .i64 c, .int .i64 p']) = s2
      have f5 : s2 b5 = some (.cells [.int .i64 c, .int .i64 p']) := by rw [← hs2]; exact upd_same _ _ _
      have f2 : s2 b2 = some (.cells [.int .i64 0, .int .i64 0, .str [], .sl 0 true []]) := by rw [← hs2, upd_ne _ _ hne25]; exact e2
      have hsub2 : Sub st s2 := by rw [← hs2]; exact hsub.put (hsub.isNone hb5)
      have hc00 := hx c hc0
      try simp
      rw [hs2]
      try simp [q_load_p f5, hc00]
      rw [show q_struct [PV.int IntKind.i64 0, PV.int IntKind.i64 0, PV.str [], PV.sl 0 true []] [] = some (.agg [.int .i64 0, .int .i64 0, .str [], .sl 0 true []]) from rfl]
      try simp
      rw [e_store_p _ _ _ _ _ _ _ f2]
      have f5' : ∀ o, upd s2 b2 o b5 = some (.cells [.int .i64 c, .int .i64 p']) := fun o => by rw [upd_ne _ _ hne25.symm]; exact f5
      try simp [q_load_p (upd_same _ _ _), q_load_p (f5' _)]
      unfold Result
      rw [hc0]
      refine Just.conv (Conv.trans (Conv.tup (Conv.cons (conv_tree _ 0 0 [] 0 true [] (.inr rfl)) (Conv.refl _ _))) (Conv.sub (hsub2.put hb2)))
  · obtain ⟨c, p', h, _⟩ := h
    cases h
theorem Result.zero {x : Int ⊕ Tr} {c : Int} {st st1 : St} (e : x = .inl c) (hs : Sub st st1) : retR (Result x st) (.tup [.agg [.int .i64 0, .int .i64 0, .str [], .sl 0 true []], .int .i64 c]) st1 := by
  subst e
  exact Just.conv (Conv.trans (Conv.tup (Conv.cons (conv_tree _ 0 0 [] 0 true [] (.inr rfl)) (Conv.refl _ _))) (Conv.sub hs))
theorem Result.ok {x : Int ⊕ Tr} {t : Tr} {st st1 : St} (e : x = .inr t) (hs : Sub st st1) : retR (Result x st) (.tup [tree t, .int .i64 0]) st1 := by
  subst e
  exact Just.ret hs
theorem Result.fail {x : Int ⊕ Tr} {c : Int} {st st1 : St} (e : x = .inl c) (hs : Sub st st1) : retR (Result x st) (.tup [tree noTree, .int .i64 c]) st1 := by
  subst e
  exact Just.ret hs
theorem callK_result {P : Program} {g : FuncId} {us : List PV} {st : St} {K Kp : PV → St → Prop} {x : Int ⊕ Tr} (hc : HCalls P g us st (Result x st)) (hy : ∀ t, x = .inr t → K (.tup [tree t, .int .i64 0]) st) (hn : ∀ c, x = .inl c → K (.tup [tree noTree, .int .i64 c]) st) : callK P g us st K Kp := by
  cases x with
  | inr t => exact callK_just hc (hy t rfl)
  | inl c => exact callK_just hc (hn c rfl)
end Go.H.Tryz
set_option linter.unusedVariables false
set_option linter.unusedSimpArgs false
namespace Go.H.Tryz
open Go Go.H

def PutsOK (mo : List PV) (b : Nat) (lo : Int) (sub : Tr → Tr → Tr → Int → (Int ⊕ Tr) × Int) : Prop := ∀ (x c g : Tr) (k : Int) (s : St), x.lamy = true → x.size ≤ 1000000 → c.isSimple = true → g.lamy = true → g.size ≤ 150 → lo < k → k ≤ 20000 → s b = some (cntR mo k) →
  HCalls prog n_impl_work_put [.ptr b 0, tree x, tree c, .int .i64 0, tree g] s (WorksR mo ty_impl_halt b (sub x c g k) s) ∧ FineT (sub x c g k) k
theorem h_impl_work_applyR (mo : List PV) (b : Nat) (sub : Tr → Tr → Tr → Int → (Int ⊕ Tr) × Int) (f a : Tr) (args : List Tr) (k : Int) (hsub : PutsOK mo b k sub) (hk : 0 ≤ k ∧ k ≤ 20000) (ha : a.isSimple = true) (hf : f.lamy = true) (hfb : f.big = false) (hargs : ∀ x ∈ args, x.lamy = true ∧ x.size ≤ 1000000) (hl : args.length ≤ 1000000) (st : St) (hb : st b = some (cntR mo k)) :
    HCalls prog n_impl_work_apply [.ptr b 0, tree f, tree a, trees args] st (WorksR mo ty_impl_halt b (redT sub f a args k) st) := by
  apply c_impl_work_apply
  unfold b_impl_work_apply
  generalize hv : redT sub f a args k = v
  refine e_box_own (tree_isJunk _) fun b5 hb5 => ?_
  have n5 : b5 ≠ b := fun e => by rw [e, hb] at hb5; cases hb5
  refine e_box_own (tree_isJunk _) fun b6 hb6 => ?_
  have n65 : b6 ≠ b5 := fun e => by rw [e, upd_same] at hb6; cases hb6
  rw [upd_ne _ _ n65] at hb6
  have n6 : b6 ≠ b := fun e => by rw [e, hb] at hb6; cases hb6
  intro b8 hb8
  have n86 : b8 ≠ b6 := fun e => by rw [e, upd_same] at hb8; cases hb8
  rw [upd_ne _ _ n86] at hb8
  have n85 : b8 ≠ b5 := fun e => by rw [e, upd_same] at hb8; cases hb8
  rw [upd_ne _ _ n85] at hb8
  have n8 : b8 ≠ b := fun e => by rw [e, hb] at hb8; cases hb8
  try simp
  generalize hs0 : upd (upd (upd st b5 (.cells (tree f).cells)) b6 (.cells (tree a).cells)) b8 (.cells [.int .i64 0, .int .i64 0, .str [], .sl 0 true []]) = s0
  have e5 : s0 b5 = some (.cells (tree f).cells) := by rw [← hs0, upd_ne _ _ n85.symm, upd_ne _ _ n65.symm]; exact upd_same _ _ _
  have e6 : s0 b6 = some (.cells (tree a).cells) := by rw [← hs0, upd_ne _ _ n86.symm]; exact upd_same _ _ _
  have e8 : s0 b8 = some (.cells [.int .i64 0, .int .i64 0, .str [], .sl 0 true []]) := by rw [← hs0]; exact upd_same _ _ _
  have eb : s0 b = some (cntR mo k) := by rw [← hs0, upd_ne _ _ n8.symm, upd_ne _ _ n6.symm, upd_ne _ _ n5.symm]; exact hb
  have ar : Around b st s0 := by rw [← hs0]; exact (((Around.refl b st).put hb5 _).put hb6 _).put hb8 _
  clear hs0
  refine loop_idx (β := Tr × Tr × Int × St) args (fun _ i => [.int .i64 (i : Int)]) (fun z => z.2.2.2)
    (fun z i rest => z.2.2.2 b5 = some (.cells (tree z.1).cells) ∧ z.2.2.2 b6 = some (.cells (tree z.2.1).cells) ∧ z.2.2.2 b8 = some (.cells [.int .i64 0, .int .i64 0, .str [], .sl 0 true []]) ∧ z.2.2.2 b = some (cntR mo z.2.2.1) ∧ Around b st z.2.2.2 ∧
      k ≤ z.2.2.1 ∧ z.2.2.1 ≤ 20000 ∧ z.2.1.isSimple = true ∧ z.1.lamy = true ∧ z.1.big = false ∧ redT sub z.1 z.2.1 rest z.2.2.1 = v) ?_ ?_ (f, a, k, s0) ⟨e5, e6, e8, eb, ar, by simp, hk.2, ha, hf, hfb, hv⟩
  · rintro i x rest ⟨f, a, k1, s⟩ hi hx ⟨e5, e6, e8, eb, ar, k0, k2, ha, hf, hfb, hq⟩ kk
    simp only at e5 e6 e8 eb ar k0 k2 ha hf hfb hq
    rw [redT] at hq
    try simp [hi, ia_tree _ hx]
    intro b10 hb10
    have m5 : b5 ≠ b10 := fun e => by rw [← e, e5] at hb10; cases hb10
    have m6 : b6 ≠ b10 := fun e => by rw [← e, e6] at hb10; cases hb10
    have m8 : b8 ≠ b10 := fun e => by rw [← e, e8] at hb10; cases hb10
    have mb : b ≠ b10 := fun e => by rw [← e, eb] at hb10; cases hb10
    try simp
    generalize hs1 : upd s b10 (.cells (tree x).cells) = s1
    have f5 : s1 b5 = some (.cells (tree f).cells) := by rw [← hs1, upd_ne _ _ m5]; exact e5
    have f6 : s1 b6 = some (.cells (tree a).cells) := by rw [← hs1, upd_ne _ _ m6]; exact e6
    have f8 : s1 b8 = some (.cells [.int .i64 0, .int .i64 0, .str [], .sl 0 true []]) := by rw [← hs1, upd_ne _ _ m8]; exact e8
    have fb : s1 b = some (cntR mo k1) := by rw [← hs1, upd_ne _ _ mb]; exact eb
    have f10 : s1 b10 = some (.cells (tree x).cells) := by rw [← hs1]; exact upd_same _ _ _
    have ar1 : Around b st s1 := by rw [← hs1]; exact ar.put (ar.isNone mb.symm hb10) _
    clear hs1
    refine hJ_of fun J hJ => ?_
    have bad : ¬ (a.kind = 10 ∧ f.kind = 4) → J [.bool true] s1 := fun h => by
      rw [if_neg h] at hq
      refine hJ _ _ ?_
      exact callK_stops (h_impl_stop 12 0 (by omega) _) (fun h => by omega) (fun _ => WorksR.pan hq ar1 fb)
    have good : a.kind = 10 ∧ f.kind = 4 → J [.bool false] s1 := fun h => by
      rw [if_pos h] at hq
      obtain ⟨y, z, hyz, hy, hz⟩ := simple_kids ha h.1
      obtain ⟨g, hg, hgl⟩ := Tr.lamy_lam hf h.2
      have y0 : a.kids[0]? = some y := by rw [hyz]; rfl
      have y1 : a.kids[1]? = some z := by rw [hyz]; rfl
      have g0 : f.kids[0]? = some g := by rw [hg]; rfl
      rw [kid0 hyz, kid1 hyz, kid0 hg] at hq
      have hgs : g.size ≤ 150 := by
        have h1 : g.size < f.size := Tr.kid_size (by rw [hg]; simp)
        unfold Tr.big Tr.small at hfb
        simp only [Bool.or_eq_false_iff, Bool.not_eq_false', decide_eq_true_eq] at hfb
        omega
      refine hJ _ _ ?_
      try simp [q_nil, q_load_p fb, cntR, setRange_head]
      rw [wrap64 (by omega) (by omega), e_store_p _ _ _ _ _ _ _ fb]
      try simp [q_load_p (upd_same _ _ _), cntR, setRange_head]
      generalize hs2 : upd s1 b (.cells (.int .i64 (k1 + 1) :: mo)) = s2
      have h5 : s2 b5 = some (.cells (tree f).cells) := by rw [← hs2, upd_ne _ _ n5]; exact f5
      have h6 : s2 b6 = some (.cells (tree a).cells) := by rw [← hs2, upd_ne _ _ n6]; exact f6
      have h8 : s2 b8 = some (.cells [.int .i64 0, .int .i64 0, .str [], .sl 0 true []]) := by rw [← hs2, upd_ne _ _ n8]; exact f8
      have h10 : s2 b10 = some (.cells (tree x).cells) := by rw [← hs2, upd_ne _ _ mb.symm]; exact f10
      have hb' : s2 b = some (cntR mo (k1 + 1)) := by rw [← hs2]; exact upd_same _ _ _
      have ar2 : Around b st s2 := by rw [← hs2]; exact ar1.draw _
      clear hs2
      refine hJ_of fun J2 hJ2 => ?_
      refine br_dec (fun hgt => ?_) (fun hgt => ?_)
      · rw [if_pos (by omega)] at hq
        exact callK_stops (h_impl_stop 17 0 (by omega) _) (fun h => by omega) (fun _ => WorksR.pan hq ar2 hb')
      · rw [if_neg (by omega)] at hq
        refine hJ2 _ _ ?_
        try simp [q_load_p h5, q_load_p h6, q_load_p h10, ia_tree0 _ y0, ia_tree0 _ g0]
        obtain ⟨hc, hfine⟩ := hsub x y g (k1 + 1) s2 (hargs x (List.mem_of_getElem? hx)).1 (hargs x (List.mem_of_getElem? hx)).2 hy hgl hgs (by omega) (by omega) hb'
        refine callK_worksR hc (fun t k3 ht => ?_) (fun c k3 hc => ?_)
        · rw [ht] at hq hfine
          simp only at hq
          obtain ⟨p1, p2, p3, p4⟩ := hfine
          obtain ⟨q1, q2, q3⟩ := p4 t rfl
          simp only at p1 q3
          have i5 : (upd s2 b (cntR mo k3)) b5 = some (.cells (tree f).cells) := by rw [upd_ne _ _ n5]; exact h5
          rw [e_store_p _ _ _ _ _ _ _ i5]
          try simp
          generalize hs3 : upd (upd s2 b (cntR mo k3)) b5 (.cells (tree t).cells) = s3
          have j5 : s3 b5 = some (.cells (tree t).cells) := by rw [← hs3]; exact upd_same _ _ _
          have j6 : s3 b6 = some (.cells (tree a).cells) := by rw [← hs3, upd_ne _ _ n65, upd_ne _ _ n6]; exact h6
          have j8 : s3 b8 = some (.cells [.int .i64 0, .int .i64 0, .str [], .sl 0 true []]) := by rw [← hs3, upd_ne _ _ n85, upd_ne _ _ n8]; exact h8
          have jb : s3 b = some (cntR mo k3) := by rw [← hs3, upd_ne _ _ n5.symm]; exact upd_same _ _ _
          have ar3 : Around b st s3 := by rw [← hs3]; exact (ar2.draw _).put hb5 _
          clear hs3
          try simp [q_load_p j6, ia_tree1 _ y1]
          rw [e_store_p _ _ _ _ _ _ _ j6]
          try simp
          rw [W_idx hi (by unfold maxLen; omega)]
          have l5 : (upd s3 b6 (.cells (tree z).cells)) b5 = some (.cells (tree t).cells) := by rw [upd_ne _ _ n65.symm]; exact j5
          have l6 : (upd s3 b6 (.cells (tree z).cells)) b6 = some (.cells (tree z).cells) := upd_same _ _ _
          have l8 : (upd s3 b6 (.cells (tree z).cells)) b8 = some (.cells [.int .i64 0, .int .i64 0, .str [], .sl 0 true []]) := by rw [upd_ne _ _ n86]; exact j8
          have lb : (upd s3 b6 (.cells (tree z).cells)) b = some (cntR mo k3) := by rw [upd_ne _ _ n6.symm]; exact jb
          exact kk (t, z, k3, upd s3 b6 (.cells (tree z).cells)) ⟨l5, l6, l8, lb, ar3.put hb6 _, (by simp only; omega), q3, hz, q1, q2, hq⟩
        · rw [hc] at hq
          exact WorksR.pan hq (ar2.draw _) (upd_same _ _ _)
    try simp [q_load_p f5, q_load_p f6]
    refine br_dec (fun h10 => ?_) (fun h10 => bad fun h => h10 h.1)
    by_cases h4 : f.kind = 4
    · simp [h4]
      exact good ⟨h10, h4⟩
    · simp [h4]
      exact bad fun h => h4 h.2
  · rintro ⟨f, a, k1, s⟩ ⟨e5, e6, e8, eb, ar, k0, k2, ha, hf, hfb, hq⟩
    simp only at e5 e6 e8 eb ar k0 k2 ha hf hfb hq
    rw [redT] at hq
    try simp [q_load_p e5]
    rw [e_store_p _ _ _ _ _ _ _ e8]
    try simp [q_load_p (upd_same _ _ _)]
    exact WorksR.ret hq (ar.put hb8 _) (by rw [upd_ne _ _ n8.symm]; exact eb)
theorem h_impl_work_putR (mo : List PV) (b : Nat) : ∀ (N : Nat) (m a t : Tr) (n k : Int) (st : St), m.lamy = true → m.size ≤ 1000000 → a.isSimple = true → t.lamy = true → t.size ≤ 1000000 → 0 ≤ k → k ≤ 20000 → (20001 - k) * 1000 + t.size ≤ N → st b = some (cntR mo k) →
    HCalls prog n_impl_work_put [.ptr b 0, tree m, tree a, .int .i64 n, tree t] st (WorksR mo ty_impl_halt b (subT N m a t n k) st) := by
  intro N
  induction N with
  | zero => intro m a t n k st _ _ _ _ _ h0 h1 hN _; have := t.size_pos; omega
  | succ N ih =>
    intro m a t n k st hm hms ha ht hts h0 h1 hN hb
    have hlen := t.kids_len
    apply c_impl_work_put
    unfold b_impl_work_put
    generalize hv : subT (N + 1) m a t n k = v
    rw [subT_rest] at hv
    refine e_box_ref (tree_isJunk _) ?_
    refine e_box_ref (tree_isJunk _) ?_
    refine e_box_own (tree_isJunk _) fun b9 hb9 => ?_
    have n9 : b9 ≠ b := fun e => by rw [e, hb] at hb9; cases hb9
    intro b10 hb10
    have n109 : b10 ≠ b9 := fun e => by rw [e, upd_same] at hb10; cases hb10
    rw [upd_ne _ _ n109] at hb10
    have n10 : b10 ≠ b := fun e => by rw [e, hb] at hb10; cases hb10
    try simp
    generalize hs0 : upd (upd st b9 (.cells (tree t).cells)) b10 (.cells [.int .i64 0, .int .i64 0, .str [], .sl 0 true []]) = s0
    have e9 : s0 b9 = some (.cells (tree t).cells) := by rw [← hs0, upd_ne _ _ n109.symm]; exact upd_same _ _ _
    have e10 : s0 b10 = some (.cells [.int .i64 0, .int .i64 0, .str [], .sl 0 true []]) := by rw [← hs0]; exact upd_same _ _ _
    have eb : s0 b = some (cntR mo k) := by rw [← hs0, upd_ne _ _ n10.symm, upd_ne _ _ n9.symm]; exact hb
    have ar : Around b st s0 := by rw [← hs0]; exact ((Around.refl b st).put hb9 _).put hb10 _
    clear hs0
    try simp [q_load_p e9]
    refine hJ_of fun J hJ => ?_
    refine loop_idx (β := PV × List Tr × Int × St × St) t.kids (fun z i => [z.1, .int .i64 (i : Int)]) (fun z => z.2.2.2.2)
      (fun z i rest => Grow z.2.2.2.1 4 (z.2.1.map tree) z.1 z.2.2.2.2 ∧ z.2.2.2.1 b9 = some (.cells (tree t).cells) ∧ z.2.2.2.1 b10 = some (.cells [.int .i64 0, .int .i64 0, .str [], .sl 0 true []]) ∧ z.2.2.2.1 b = some (cntR mo z.2.2.1) ∧ Around b st z.2.2.2.1 ∧
        k ≤ z.2.2.1 ∧ z.2.2.1 ≤ 20000 ∧ z.2.1.length = i ∧ (∀ y ∈ z.2.1, y.lamy = true ∧ y.big = false) ∧ restT N m a t n i z.2.1 rest z.2.2.1 = v) ?_ ?_ (_, [], k, s0, s0) ⟨Grow.nil _ _ _, e9, e10, eb, ar, by simp, h1, rfl, by simp, hv⟩
    · rintro i x rest ⟨p, ys, k1, sb, s⟩ hi hx ⟨hg, e9, e10, eb, ar, k0, k2, hyl, hys, hq⟩ kk
      simp only at hg e9 e10 eb ar k0 k2 hyl hys hq
      rw [restT_cons] at hq
      have hxm := List.mem_of_getElem? hx
      try simp [hi, ia_tree _ hx]
      intro b13 hb13
      have hg2 := hg.beside (.cells (tree x).cells) hb13
      have hb13' := hg.sub.isNone hb13
      have m9 : b9 ≠ b13 := fun e => by rw [← e, e9] at hb13'; cases hb13'
      have m10 : b10 ≠ b13 := fun e => by rw [← e, e10] at hb13'; cases hb13'
      have mb : b ≠ b13 := fun e => by rw [← e, eb] at hb13'; cases hb13'
      try simp
      generalize hsb : upd sb b13 (.cells (tree x).cells) = sb1 at hg2
      have f9 : sb1 b9 = some (.cells (tree t).cells) := by rw [← hsb, upd_ne _ _ m9]; exact e9
      have f10 : sb1 b10 = some (.cells [.int .i64 0, .int .i64 0, .str [], .sl 0 true []]) := by rw [← hsb, upd_ne _ _ m10]; exact e10
      have fb : sb1 b = some (cntR mo k1) := by rw [← hsb, upd_ne _ _ mb]; exact eb
      have f13 : sb1 b13 = some (.cells (tree x).cells) := by rw [← hsb]; exact upd_same _ _ _
      have ar1 : Around b st sb1 := by rw [← hsb]; exact ar.put (ar.isNone mb.symm hb13') _
      clear hsb
      generalize upd s b13 (.cells (tree x).cells) = s1 at hg2
      have g9 := hg2.sub.get f9
      have g13 := hg2.sub.get f13
      have gb := hg2.sub.get fb
      try simp [q_load_p g13]
      refine callK_just (h_impl_Tree_under t i (PT.ptr g9)) ?_
      try simp [q_load_p g13]
      refine callK_worksR (ih m a x _ k1 s1 hm hms ha (Tr.lamy_kids ht hxm) (by have := Tr.kid_size hxm; omega) (by omega) k2 (by have := Tr.kid_size hxm; omega) gb) (fun y k3 hy => ?_) (fun c k3 hc => ?_)
      · have hy' : subT N m a x (W (n + t.under i)) k1 = (.inr y, k3) := hy
        have hfine := subT_fine N m a x (W (n + t.under i)) k1 hm (Tr.lamy_kids ht hxm) ha (by omega) k2 (by have := Tr.kid_size hxm; omega)
        rw [hy'] at hq hfine
        simp only at hq
        obtain ⟨p1, _, _, p4⟩ := hfine
        obtain ⟨q1, q2, q3⟩ := p4 y rfl
        simp only at p1 q3
        try simp
        have hg3 := hg2.store (cntR mo k3) fb
        refine hg3.append (elems_sl _ _ _ _) (by simp; omega) fun p' s' hg' => ?_
        try simp
        rw [W_idx hi (by unfold maxLen; omega)]
        have j9 : (upd sb1 b (cntR mo k3)) b9 = some (.cells (tree t).cells) := by rw [upd_ne _ _ n9]; exact f9
        have j10 : (upd sb1 b (cntR mo k3)) b10 = some (.cells [.int .i64 0, .int .i64 0, .str [], .sl 0 true []]) := by rw [upd_ne _ _ n10]; exact f10
        have jb : (upd sb1 b (cntR mo k3)) b = some (cntR mo k3) := upd_same _ _ _
        refine kk (p', ys ++ [y], k3, upd sb1 b (cntR mo k3), s') ⟨by simpa using hg', j9, j10, jb, ar1.draw _, (by simp only; omega), q3, by simp [hyl], ?_, hq⟩
        intro z hz
        rcases List.mem_append.1 hz with h | h
        · exact hys z h
        · simp at h; subst h; exact ⟨q1, q2⟩
      · have hc' : subT N m a x (W (n + t.under i)) k1 = (.inl c, k3) := hc
        rw [hc'] at hq
        exact WorksR.pan hq ((ar1.more hg2.sub).draw _) (upd_same _ _ _)
    · rintro ⟨p, ys, k1, sb, s⟩ ⟨hg, e9, e10, eb, ar, k0, k2, hyl, hys, hq⟩
      simp only at hg e9 e10 eb ar k0 k2 hyl hys hq
      rw [restT_nil, finT] at hq
      try simp
      refine hJ _ _ ?_
      have g9 := hg.sub.get e9
      have g10 := hg.sub.get e10
      have gb := hg.sub.get eb
      refine hJ_of fun J1 hJ1 => ?_
      have hput : t.kind = 5 ∧ t.n = n → J1 [.bool true] s := fun h => by
        rw [if_pos h] at hq
        refine hJ1 _ _ ?_
        try simp
        refine callK_just (h_impl_lift m 0 n (by decide) (by omega) _) ?_
        try simp
        refine callK_heads (h_impl_formed (m.lift 0 n) (by rw [lift_size]; omega) _) (fun f hf => ?_) (fun c hc => ?_)
        · split at hf
          · cases hf
          · rename_i hbig
            cases hf
            rw [if_neg hbig] at hq
            try simp
            refine callK_conv (us' := [.ptr b 0, tree (m.lift 0 n), tree a, trees ys]) (st' := sb) (Conv.cons (Conv.sub hg.sub) (Conv.cons (Conv.sub hg.sub) (Conv.cons (Conv.sub hg.sub) hg.freeze))) ?_
            refine callK_worksR (h_impl_work_applyR mo b (fun x a f s => subT N x a f 0 s) (m.lift 0 n) a ys k1 (fun x c g k' s' p1 p2 p3 p4 p5 p6 p7 p8 => ⟨ih x c g 0 k' s' p1 p2 p3 p4 (by omega) (by omega) p7 (by have := t.size_pos; omega) p8, subT_fine N x c g 0 k' p1 p4 p3 (by omega) p7 (by have := t.size_pos; omega)⟩) ⟨by omega, k2⟩ ha (lift_lamy m 0 n hm) (by simpa using hbig) (fun x hx => ⟨(hys x hx).1, by have := small_size (hys x hx).2; omega⟩) (by omega) sb eb) (fun r k3 hr => ?_) (fun c k3 hc => ?_)
            · have j10 : (upd sb b (cntR mo k3)) b10 = some (.cells [.int .i64 0, .int .i64 0, .str [], .sl 0 true []]) := by rw [upd_ne _ _ n10]; exact e10
              rw [e_store_p _ _ _ _ _ _ _ j10]
              try simp [q_load_p (upd_same _ _ _)]
              rw [hr] at hq
              exact WorksR.ret hq ((ar.draw _).put hb10 _) (by rw [upd_ne _ _ n10.symm]; exact upd_same _ _ _)
            · rw [hc] at hq
              exact WorksR.pan hq (ar.draw _) (upd_same _ _ _)
        · split at hc
          · rename_i hbig
            cases hc
            rw [if_pos hbig] at hq
            exact WorksR.pan hq (ar.more hg.sub) gb
          · cases hc
      have hkeep : ¬ (t.kind = 5 ∧ t.n = n) → J1 [.bool false] s := fun h => by
        rw [if_neg h] at hq
        refine hJ1 _ _ ?_
        try simp
        refine hJ_of fun J2 hJ2 => ?_
        obtain ⟨o1, o2, o3, o4⟩ := hg.one
        have last : ∀ (n' : Int) (sb' s' : St), Grow sb' 4 (ys.map tree) p s' → sb' b9 = some (.cells [.int .i64 t.kind, .int .i64 n', .str t.name, .sl 4 false (t.kids.map tree)]) → sb' b10 = some (.cells [.int .i64 0, .int .i64 0, .str [], .sl 0 true []]) → sb' b = some (cntR mo k1) → Around b st sb' →
            (if (Tr.mk t.kind n' t.name ys).big = true then ((.inl 11, k1) : (Int ⊕ Tr) × Int) else (.inr (Tr.mk t.kind n' t.name ys), k1)) = v →
            e_store s' 1 (PV.ptr b9 3) p fun st_3 => qb (q_load st_3 true 4 (PV.ptr b9 0)) fun v68 => callK prog n_impl_formed [v68] st_3 (fun v52 st_4 => e_store st_4 4 (PV.ptr b10 0) v52 fun st_5 => qb (q_load st_5 true 4 (PV.ptr b10 0)) fun r => retR (WorksR mo ty_impl_halt b v st) r st_5) (panR (WorksR mo ty_impl_halt b v st)) := by
          intro n' sb' s' hg' i9 i10 ib iar hq'
          have k9 := hg'.sub.get i9
          rw [e_store_p _ _ _ _ _ _ _ k9, o1]
          try simp [o2, o3, o4]
          have hst := hg'.store (.cells [.int .i64 t.kind, .int .i64 n', .str t.name, p]) i9
          try simp [q_load_p (upd_same _ _ _)]
          refine callK_conv (us' := [tree (.mk t.kind n' t.name ys)]) (GrowF.tree (t := .mk t.kind n' t.name ys) (.inl hst)) ?_
          generalize hs4 : upd sb' b9 (.cells [.int .i64 t.kind, .int .i64 n', .str t.name, p]) = s4
          have l10 : s4 b10 = some (.cells [.int .i64 0, .int .i64 0, .str [], .sl 0 true []]) := by rw [← hs4, upd_ne _ _ n109]; exact i10
          have lb : s4 b = some (cntR mo k1) := by rw [← hs4, upd_ne _ _ n9.symm]; exact ib
          have lar : Around b st s4 := by rw [← hs4]; exact iar.put hb9 _
          have hsz : (Tr.mk t.kind n' t.name ys).size ≤ 1000000000 := by
            rw [Tr.size_kids, Tr.kids_mk]
            have := sizes_small ys (fun y hy => (hys y hy).2)
            omega
          refine callK_heads (h_impl_formed _ hsz _) (fun f hf => ?_) (fun c hc => ?_)
          · split at hf
            · cases hf
            · rename_i hbig
              cases hf
              rw [if_neg hbig] at hq'
              rw [e_store_p _ _ _ _ _ _ _ l10]
              try simp [q_load_p (upd_same _ _ _)]
              exact WorksR.ret hq' (lar.put hb10 _) (by rw [upd_ne _ _ n10.symm]; exact lb)
          · split at hc
            · rename_i hbig
              cases hc
              rw [if_pos hbig] at hq'
              exact WorksR.pan hq' lar lb
            · cases hc
        have i9 : sb b9 = some (.cells [.int .i64 t.kind, .int .i64 t.n, .str t.name, .sl 4 false (t.kids.map tree)]) := by rw [e9, tree_cells]
        have hlow : ¬ (t.kind = 5 ∧ n < t.n) → J2 [.bool false] s := fun hl => by
          rw [if_neg hl] at hq
          refine hJ2 _ _ ?_
          refine hJ_of fun J3 hJ3 => ?_
          try simp
          refine hJ3 _ _ ?_
          exact last t.n sb s hg i9 e10 eb ar hq
        have hhigh : t.kind = 5 ∧ n < t.n → J2 [.bool true] s := fun hh => by
          rw [if_pos hh] at hq
          refine hJ2 _ _ ?_
          refine hJ_of fun J3 hJ3 => ?_
          try simp [q_load_p (hg.sub.get i9)]
          rw [e_store_p _ _ _ _ _ _ _ (hg.sub.get i9)]
          try simp
          refine hJ3 _ _ ?_
          refine last (W (t.n - 1)) (upd sb b9 (.cells [.int .i64 t.kind, .int .i64 (W (t.n - 1)), .str t.name, .sl 4 false (t.kids.map tree)])) _ (hg.store _ i9) (upd_same _ _ _) (by rw [upd_ne _ _ n109]; exact e10) (by rw [upd_ne _ _ n9.symm]; exact eb) (ar.put hb9 _) hq
        try simp [q_load_p g9]
        refine br_dec (fun h5 => ?_) (fun h5 => hlow fun h => h5 h.1)
        by_cases hn : n < t.n
        · simp [hn]; exact hhigh ⟨h5, hn⟩
        · simp [hn]; exact hlow fun h => hn h.2
      try simp [q_load_p g9]
      refine br_dec (fun h5 => ?_) (fun h5 => hkeep fun h => h5 h.1)
      by_cases hn : t.n = n
      · simp [hn]; exact hput ⟨h5, hn⟩
      · simp [hn]; exact hkeep fun h => hn h.2
end Go.H.Tryz
set_option linter.unusedVariables false
set_option linter.unusedSimpArgs false
namespace Go.H.Tryz
open Go Go.H

end Go.H.Tryz
set_option linter.unusedVariables false
set_option linter.unusedSimpArgs false
namespace Go.H.Tryz
open Go Go.H

theorem ResultS.fail {x : Int ⊕ Tr} {c : Int} {st st1 : St} (e : x = .inl c) (hs : Sub st st1) : retR (ResultS x st) (.tup [tree noTree, .int .i64 c]) st1 := by
  subst e
  exact Just.ret hs
end Go.H.Tryz
set_option linter.unusedVariables false
set_option linter.unusedSimpArgs false
namespace Go.H.Tryz
open Go Go.H

end Go.H.Tryz
set_option linter.unusedVariables false
set_option linter.unusedSimpArgs false
namespace Go.H.Tryz
open Go Go.H

end Go.H.Tryz
set_option linter.unusedVariables false
set_option linter.unusedSimpArgs false
namespace Go.H.Tryz
open Go Go.H

theorem h_spec_l03Const (xs : List Ty) (n : List UInt8) (hl : xs.length ≤ 1000000) (st : St) : HCalls prog n_spec_l03Const [typeds xs, .str n] st (Just (.int .i64 (tyAt xs n)) st) := by
  apply c_spec_l03Const
  unfold b_spec_l03Const
  generalize hv : tyAt xs n = v
  try simp [typeds]
  refine loop_idx (β := Unit) xs (fun _ i => [.int .i64 (i : Int)]) (fun _ => st) (fun _ i rest => tyGo n i rest = v) ?_ ?_ () hv
  · intro i x rest _ hi hx hq kk
    try simp [hi, ia_typed _ hx]
    rw [tyGo] at hq
    refine br_dec (fun h => Just.int ?_) (fun h => ?_)
    · rw [← hq, if_pos h]
    · rw [if_neg h] at hq
      rw [W_idx hi (by unfold maxLen; omega)]
      exact kk () hq
  · intro _ hq
    try simp
    exact Just.int hq
theorem tysGo_simple (xs : List Ty) : ∀ (i : Nat) (r : List Ty), tysGo xs i r = true → ∀ x ∈ r, x.type.isSimple = true
  | _, [], _, _, h => by cases h
  | i, y :: r, h, x, hx => by
    rw [tysGo] at h
    simp only [Bool.and_eq_true, Tr.simpleOK] at h
    rcases List.mem_cons.1 hx with e | e
    · subst e; exact h.1.1.2.2
    · exact tysGo_simple xs (i + 1) r h.2 x e
theorem tyEnv {cs : List Ty} {holes : List Tr} {m : Int} (h1 : tysOK cs = true) (h2 : simplesOK holes m = true) (hl : holes.length ≤ 4096) : TyEnv cs holes := by
  unfold tysOK at h1
  simp only [Bool.and_eq_true, decide_eq_true_eq] at h1
  exact ⟨tysGo_simple cs 0 cs h1.2, fun a ha => (simplesOK_mem h2 a ha).1, by omega, hl⟩
end Go.H.Tryz
set_option linter.unusedVariables false
set_option linter.unusedSimpArgs false
namespace Go.H.Tryz
open Go Go.H

theorem h_impl_SimpleCheck_1 (cs : List Ty) (ctx holes : List Tr) (t a : Tr) (he : TyEnv cs holes) (hlen : ctx.length ≤ 1000000) (hctx : ∀ a ∈ ctx, a.isSimple = true) (ht : t.isTerm false = true) (hsz : t.size ≤ 1000000) (ha : a.isSimple = true) (s : St) (b : Nat) (hb : s b = some (.cells [simplerP cs holes])) :
    HCalls prog n_impl_SimpleCheck_1 [.ptr b 0, .ref [trees ctx], .ref (tree t).cells, .ref (tree a).cells] s (Stops ty_impl_halt (typedT cs holes 1000000 ctx t a) 0 s) := by
  apply c_impl_SimpleCheck_1
  unfold b_impl_SimpleCheck_1
  try simp [q_load_p hb]
  have e1 : takeV false 1 [simplerP cs holes] = some (simplerP cs holes) := rfl
  try simp [e1]
  refine callK_just (h_slices_Clip_impl_Tree_impl_Tree ctx false _) ?_
  try simp [q_load_p hb, e1]
  refine callK_conv (us' := [simplerP cs holes, trees ctx, tree t, tree a]) (st' := s) (Conv.cons (Conv.refl _ _) (Conv.cons Conv.unfull (Conv.refl _ _))) ?_
  exact callK_stops (h_impl_simpler_check cs holes he 1000000 ctx t a (by omega) hctx ht hsz ha s) (fun h => Stops.ret h (Sub.refl _)) (fun h => Stops.pan h rfl rfl (Sub.refl _))
theorem stops_caught {P : Program} {g : FuncId} {us : List PV} {h : TypeId} {c : Int} {st : St} {b : Nat} (hb : st b = none) (hc : HCalls P g us (upd st b (.cells [.int .i64 0, .int .i64 0])) (Stops h c 0 (upd st b (.cells [.int .i64 0, .int .i64 0])))) :
    HCalls P g us (upd st b (.cells [.int .i64 0, .int .i64 0])) (Caught h b fun c' p' s => c' = c ∧ p' = 0 ∧ s = st) :=
  hc.mono fun r s hr => by
    obtain ⟨rfl, hr⟩ := hr
    rcases hr with ⟨h1, h2⟩ | ⟨h1, h2⟩
    · exact ⟨st, hb, rfl, .inl ⟨h2, h1.symm, rfl, rfl⟩⟩
    · exact ⟨st, hb, rfl, .inr ⟨c, 0, h2, rfl, rfl, rfl⟩⟩
theorem h_impl_SimpleCheck (cs : List Ty) (ctx holes : List Tr) (t a : Tr) (st : St) : HCalls prog n_impl_SimpleCheck [typeds cs, trees ctx, trees holes, tree t, tree a] st (Just (.int .i64 (checkT cs ctx holes t a)) st) := by
  apply c_impl_SimpleCheck
  unfold b_impl_SimpleCheck
  generalize hv : checkT cs ctx holes t a = v
  unfold checkT at hv
  refine e_box_ref rfl ?_
  refine e_box_ref (tree_isJunk _) ?_
  refine e_box_ref (tree_isJunk _) ?_
  try simp
  refine callK_just (h_impl_longLists (cs.length : Int) [(ctx.length : Int), (holes.length : Int)] (by simp) _) ?_
  try simp
  refine br_of (fun h => Just.int (by rw [← hv, if_pos]; simp at h; omega)) (fun h => ?_)
  rw [if_neg (by simp at h; omega)] at hv
  simp at h
  refine callK_just (h_impl_constsOK cs _) ?_
  try simp
  refine br_of (fun g1 => ?_) (fun g1 => Just.int (by rw [← hv, g1]; rfl))
  refine callK_just (h_impl_simplesOK ctx 40 _) ?_
  try simp
  refine br_of (fun g2 => ?_) (fun g2 => Just.int (by rw [← hv, g1, g2]; rfl))
  refine callK_just (h_impl_simplesOK holes 20 _) ?_
  try simp
  refine br_of (fun g3 => ?_) (fun g3 => Just.int (by rw [← hv, g1, g2, g3]; rfl))
  refine callK_just (h_impl_badTerm t _) ?_
  try simp
  refine br_of (fun g4 => ?_) (fun g4 => Just.int (by rw [← hv, g1, g2, g3, g4]; rfl))
  refine callK_just (h_impl_badSimple a _) ?_
  try simp
  refine br_of (fun g5 => ?_) (fun g5 => Just.int (by rw [← hv, g1, g2, g3, g4, g5]; rfl))
  rw [g1, g2, g3, g4, g5] at hv
  simp at hv
  have ht := termOK_of g4
  unfold Tr.simpleOK at g5
  simp only [Bool.and_eq_true] at g5
  rw [show q_struct [PV.sl 0 true [], PV.sl 0 true []] [(0, 1, PV.sl 5 false (List.map typed cs)), (1, 1, PV.sl 4 false (List.map tree holes))] = some (.agg [.sl 5 false (cs.map typed), .sl 4 false (holes.map tree)]) from rfl]
  simp only [qb_some]
  refine e_box_ref rfl ?_
  intro b11 hb11
  try simp
  rw [show [PV.ref [PV.sl 5 false (List.map typed cs), PV.sl 4 false (List.map tree holes)]] = [simplerP cs holes] from rfl]
  refine callK_of (h_impl_caught n_impl_SimpleCheck_1 [.ptr b11 0, .ref [trees ctx], .ref (tree t).cells, .ref (tree a).cells] _ (fun c' p' s => c' = typedT cs holes 1000000 ctx t a ∧ p' = 0 ∧ s = upd st b11 (.cells [simplerP cs holes])) (fun b hb => ?_)) (fun p s h => ?_) (fun p s h => ?_)
  · refine stops_caught hb (h_impl_SimpleCheck_1 cs ctx holes t a (tyEnv g1 g3 (by omega)) (by omega) (fun b hb => (simplesOK_mem g2 b hb).1) ht.1 (by omega) g5.2 _ b11 ?_)
    have hne : b11 ≠ b := fun e => by rw [← e, upd_same] at hb; cases hb
    rw [upd_ne _ _ hne, upd_same]
  · obtain ⟨c, p', h, rfl, rfl, rfl⟩ := h
    cases h
    try simp [q_field]
    exact Just.int hv ((Sub.refl _).put hb11)
  · obtain ⟨c, p', h, _⟩ := h
    cases h
end Go.H.Tryz
set_option linter.unusedVariables false
set_option linter.unusedSimpArgs false
namespace Go.H.Tryz
open Go Go.H

theorem h_laws_full (c : Int) (st : St) : HCalls prog n_laws_full [.int .i64 c] st (Just (.bool (decide (c = 11) || decide (c = 17))) st) := by
  apply c_laws_full
  unfold b_laws_full
  generalize hv : (decide (c = 11) || decide (c = 17)) = v
  try simp
  exact br_dec (fun h => Just.bool (by rw [← hv, decide_eq_true h]; rfl)) (fun h => Just.bool (by rw [← hv, decide_eq_false h]; rfl))
end Go.H.Tryz
