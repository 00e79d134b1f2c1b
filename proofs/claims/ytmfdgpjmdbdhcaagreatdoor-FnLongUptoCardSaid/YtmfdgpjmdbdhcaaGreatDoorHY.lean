/- Part of a proof that the program answers as the reference does: ZDC12, ZDC13, ZDC9, ZDC14, ZDC15, ZDC16, ZDC10, ZDC17, ZDC18, ZDC19. -/
import Derived.Defers
import Derived.Recover
import Derived.Test.YtmfdgpjmdbdhcaaGreatDoorHS0
import Derived.Test.YtmfdgpjmdbdhcaaGreatDoorHS1
import Derived.Test.YtmfdgpjmdbdhcaaGreatDoorHS2
import Derived.Test.YtmfdgpjmdbdhcaaGreatDoorHS3
import Derived.Test.YtmfdgpjmdbdhcaaGreatDoorHS4
import Derived.Test.YtmfdgpjmdbdhcaaGreatDoorHS5
import Derived.Test.YtmfdgpjmdbdhcaaGreatDoorHS6
import Derived.Test.YtmfdgpjmdbdhcaaGreatDoorHS7
import Derived.Test.YtmfdgpjmdbdhcaaGreatDoorHS8
import Derived.Test.YtmfdgpjmdbdhcaaGreatDoorHP
import Derived.Test.YtmfdgpjmdbdhcaaGreatDoorHX
/- Contracts: what the laws' own functions do with constants and their types. -/
set_option linter.unusedVariables false
set_option linter.unusedSimpArgs false
namespace Go.H.Tryz
open Go Go.H

end Go.H.Tryz
/- Contracts: the reference's check of long terms at simple types. -/
set_option linter.unusedVariables false
set_option linter.unusedSimpArgs false
namespace Go.H.Tryz
open Go Go.H

theorem tysGo_simple (xs : List Ty) : ∀ (i : Nat) (r : List Ty), tysGo xs i r = true → ∀ x ∈ r, x.type.isSimple = true
  | _, [], _, _, h => by cases h
  | i, y :: r, h, x, hx => by
    rw [tysGo] at h
    simp only [Bool.and_eq_true, Tr.simpleOK] at h
    rcases List.mem_cons.1 hx with e | e
    · subst e; exact h.1.1.2.2
    · exact tysGo_simple xs (i + 1) r h.2 x e
theorem tyEnv {cs : List Ty} {holes : List Tr} {m : Int} (h1 : tysOK cs = true) (h2 : simplesOK holes m = true) (hl : holes.length ≤ 4096) : TyEnv cs holes := by
  unfold tysOK at h1
  simp only [Bool.and_eq_true, decide_eq_true_eq] at h1
  exact ⟨tysGo_simple cs 0 cs h1.2, fun a ha => (simplesOK_mem h2 a ha).1, by omega, hl⟩
end Go.H.Tryz
/- Contracts: the program lifts, makes long forms and looks at patterns. -/
set_option linter.unusedVariables false
set_option linter.unusedSimpArgs false
namespace Go.H.Tryz
open Go Go.H

theorem h_impl_Tree_under (t : Tr) (i : Int) {p : PV} {st : St} (hp : PT st (tree t).cells p) : HCalls prog n_impl_Tree_under [p, .int .i64 i] st (Just (.int .i64 (t.under i)) st) := by
  have hb : HCalls prog n_impl_Tree_binds [p, .int .i64 i] st (Just (.bool (decide (t.under i = 1))) st) := by
    apply c_impl_Tree_binds
    unfold b_impl_Tree_binds
    obtain ⟨q0, g0, g0'⟩ := hp.at_ 0 (by simp)
    try simp [hp.nil, g0, g0']
    refine br_dec (fun h => Just.bool (by simp [Tr.under, h])) (fun h => ?_)
    try simp [hp.nil, g0, g0']
    refine br_dec (fun h2 => ?_) (fun h2 => Just.bool (by simp [Tr.under, h, h2]))
    exact Just.bool (by simp [Tr.under, h2])
  apply c_impl_Tree_under
  unfold b_impl_Tree_under
  refine callK_just hb ?_
  try simp
  refine br_dec (fun h => Just.int h.symm) (fun h => Just.int ?_)
  unfold Tr.under at h ⊢
  split <;> simp_all
theorem h_impl_same (a b : Tr) (st : St) : HCalls prog n_impl_same [tree a, tree b] st (Just (.bool (decide (a = b))) st) := by
  induction a using Tr.ind generalizing b st with
  | _ a ih =>
  refine HCalls.wf e_impl_same fun hw => ?_
  have hl := (tree_wf hw.1).1
  apply c_impl_same
  unfold b_impl_same
  refine e_box_ref (tree_isJunk _) ?_
  refine e_box_ref (tree_isJunk _) ?_
  generalize hv : decide (a = b) = v
  have he := Tr.ext_iff a b
  try simp
  refine br_dec (fun h1 => ?_) (fun h1 => Just.bool (by rw [← hv, decide_eq_false (by rw [he]; simp [h1])]))
  refine br_dec (fun h2 => ?_) (fun h2 => Just.bool (by rw [← hv, decide_eq_false (by rw [he]; simp [h2])]))
  refine br_dec (fun h3 => ?_) (fun h3 => Just.bool (by rw [← hv, decide_eq_false (by rw [he]; simp [h3])]))
  refine br_dec (fun h4 => ?_) (fun h4 => Just.bool (by rw [← hv, decide_eq_false (by rw [he]; intro e; rw [e.2.2.2] at h4; exact h4 rfl)]))
  have hl4 : a.kids.length = b.kids.length := by omega
  refine loop_idx (β := Unit) a.kids (fun _ i => [.int .i64 (i : Int)]) (fun _ => st) (fun _ i rest => decide (rest = b.kids.drop i) = v) ?_ ?_ () (by rw [← hv, decide_eq_decide, he]; simp [h1, h2, h3])
  · intro i x rest _ hi hx hq k
    obtain ⟨y, hy⟩ : ∃ y, b.kids[i]? = some y := ⟨b.kids[i]'(by omega), List.getElem?_eq_getElem _⟩
    rw [drop_some hy] at hq
    try simp [hi, ia_tree _ hx, ia_tree _ hy]
    refine callK_just (ih x (List.mem_of_getElem? hx) y _) ?_
    try simp
    refine br_dec (fun h => ?_) (fun h => Just.bool (by rw [← hq, decide_eq_false (by simp [h])]))
    rw [W_idx hi hl]
    exact k () (by rw [← hq, h, decide_eq_decide]; simp)
  · intro _ hq
    try simp
    exact Just.bool (by rw [← hq, hl4, List.drop_length]; rfl)
theorem h_impl_lam (t : Tr) (st : St) : HCalls prog n_impl_lam [tree t] st (Just (tree (Tr.lam t)) st) := by
  apply c_impl_lam
  unfold b_impl_lam
  refine e_box_ref (tree_isJunk _) ?_
  intro b hb
  try simp [q_struct, fillL, upd_apply, q_load_p]
  exact Just.tree rfl (.inl rfl) rfl rfl rfl (Sub.fresh (Sub.refl _) hb)
theorem h_impl_variable (n : Int) (e : Nat) (f : Bool) (ks : List Tr) (he : e = 4 ∨ ks = []) (st : St) : HCalls prog n_impl_variable [.int .i64 n, .sl e f (ks.map tree)] st (Just (tree (Tr.var n ks)) st) := by
  apply c_impl_variable
  unfold b_impl_variable
  intro b hb
  try simp [q_struct, fillL, upd_apply, q_load_p]
  exact Just.tree rfl (by rcases he with h | h; exact .inl h; exact .inr (by simp [h])) rfl rfl rfl (Sub.fresh (Sub.refl _) hb)
theorem h_impl_variable0 (n : Int) (st : St) : HCalls prog n_impl_variable [.int .i64 n, .sl 0 true []] st (Just (tree (Tr.var n [])) st) := h_impl_variable n 0 true [] (.inr rfl) st
/-- A tree whose variables are turned by a function value. -/
theorem h_impl_turned (F : Int → Int → Int) (g : FuncId) (us vs : List PV)
    (hg : ∀ (n d : Int) (s : List UInt8) (q : PV) (st : St), q.cellOK = true → HCalls prog g (us ++ [.agg [.int .i64 5, .int .i64 n, .str s, q], .int .i64 d] ++ vs) st (Just (.agg [.int .i64 5, .int .i64 (F n d), .str s, q]) st))
    (t : Tr) (d : Int) (hsz : t.size ≤ 1000000000000) (st : St) : HCalls prog n_impl_turned [tree t, .int .i64 d, .fn (.func g) us vs] st (OwnTree (turnedT F t d) st) := by
  induction t using Tr.ind generalizing d st with
  | _ t ih =>
  have hl := t.kids_len
  apply c_impl_turned
  unfold b_impl_turned
  refine e_box_own (tree_isJunk _) fun b3 hb3 => ?_
  intro b6 hb6
  simp only [upd_none] at hb6
  generalize hv : turnedT F t d = v
  rw [turnedT_eq] at hv
  try simp [q_load_p, upd_apply, hb6]
  generalize hst1 : upd (upd st b3 (HObj.cells (tree t).cells)) b6 (HObj.cells [PV.int IntKind.i64 0, PV.int IntKind.i64 0, PV.str [], PV.sl 0 true []]) = st1
  have g3 : st1 b3 = some (.cells (tree t).cells) := by subst hst1; simp [upd_apply, hb6]
  have g6 : st1 b6 = some (HObj.cells [PV.int IntKind.i64 0, PV.int IntKind.i64 0, PV.str [], PV.sl 0 true []]) := by subst hst1; simp [upd_apply]
  have gs : Sub st st1 := by subst hst1; exact (Sub.refl _).fresh hb3 |>.fresh hb6.2.2
  have n36 : b3 ≠ b6 := fun e => hb6.1 e.symm
  clear hst1
  refine hJ_of fun J hJ => ?_
  refine loop_idx (β := PV × St × St) t.kids (fun z i => [z.1, .int .i64 (i : Int)]) (fun z => z.2.1) (fun z i rest => Grow z.2.2 4 (((t.kids.mapIdx fun i x => turnedT F x (W (d + t.under i))).take i).map tree) z.1 z.2.1 ∧ z.2.2 b3 = some (.cells (tree t).cells) ∧ z.2.2 b6 = some (HObj.cells [PV.int IntKind.i64 0, PV.int IntKind.i64 0, PV.str [], PV.sl 0 true []]) ∧ Sub st z.2.2) ?_ ?_ (_, st1, st1) ⟨Grow.nil _ _ _, g3, g6, gs⟩
  · rintro i x rest ⟨p, s, sb⟩ hi hx ⟨q0, q3, q6, qs⟩ k
    simp only at q0 q3 q6 qs
    try simp [hi, ia_tree _ hx]
    intro c hc
    have hc2 := q0.sub.isNone hc
    try simp [q_load_p, upd_apply]
    have e3 := q0.sub.get q3
    have n3c := ne_of e3 hc
    refine callK_just (h_impl_Tree_under t i (PT.ptr (by simp [upd_apply, n3c, e3]))) ?_
    try simp [q_load_p, upd_apply]
    refine callK_just (OwnTree.just (ih x (List.mem_of_getElem? hx) _ (by have := Tr.kid_size (List.mem_of_getElem? hx); omega) _)) ?_
    try simp
    have q0' := q0.beside (c := c) (.cells (tree x).cells) hc
    refine q0'.append (elems_sl _ _ _ _) (by simp; omega) fun p' st' hg' => ?_
    rw [W_idx hi (by unfold maxLen; omega)]
    refine k (p', st', upd sb c (.cells (tree x).cells)) ⟨?_, ?_, ?_, qs.put (qs.isNone hc2)⟩
    · simp only
      rw [mapIdx_snoc _ _ _ hx]
      simpa using hg'
    · simp [upd_apply, n3c, q3]
    · simp [upd_apply, ne_of q6 hc2, q6]
  · rintro ⟨p, s, sb⟩ ⟨q0, q3, q6, qs⟩
    simp only at q0 q3 q6 qs
    try simp
    refine hJ _ _ ?_
    rw [List.take_of_length_le (by simp)] at q0
    have e3 := q0.sub.get q3
    have e6 := q0.sub.get q6
    try simp
    rw [e_store_p _ _ _ _ _ _ _ e3]
    have hqc := q0.cellOK
    have hqj : p.cells = [p] ∧ p.ncells = 1 ∧ p.isJunk = false := by
      rcases q0 with ⟨_, ⟨e, rfl⟩, _⟩ | ⟨b, cap, rfl, _⟩ <;> exact ⟨rfl, rfl, rfl⟩
    try simp [hqj, hqc, q_load_p, upd_apply]
    have q1 := q0.store (.cells [.int .i64 t.kind, .int .i64 t.n, .str t.name, p]) q3
    have e6' : upd s b3 (.cells [.int .i64 t.kind, .int .i64 t.n, .str t.name, p]) b6 = some (HObj.cells [PV.int IntKind.i64 0, PV.int IntKind.i64 0, PV.str [], PV.sl 0 true []]) := by simp [upd_apply, n36.symm, e6]
    have fin : ∀ nn : Int, v = .mk t.kind nn t.name (t.kids.mapIdx fun i x => turnedT F x (W (d + t.under i))) → ∀ cs, retR (OwnTree v st) (.agg [.int .i64 t.kind, .int .i64 nn, .str t.name, p]) (upd (upd s b3 (.cells [.int .i64 t.kind, .int .i64 t.n, .str t.name, p])) b6 cs) := fun nn hnn cs => by
      subst hnn
      have q2 := q1.store (c := b6) cs (o := HObj.cells [PV.int IntKind.i64 0, PV.int IntKind.i64 0, PV.str [], PV.sl 0 true []]) (by simp [upd_apply, n36.symm, q6])
      have hsub : Sub st (upd (upd sb b3 (.cells [.int .i64 t.kind, .int .i64 t.n, .str t.name, p])) b6 cs) := (qs.put hb3).put hb6.2.2
      -- the row goes out, the rest stays behind
      rcases q2 with ⟨h1, ⟨e, rfl⟩, h3⟩ | ⟨b, cap, h1, h2, h3, h4⟩
      · exact retR_sub (by rw [h3]; exact hsub) ⟨_, rfl, .inl ⟨h1, ⟨e, rfl⟩, rfl⟩⟩
      · refine retR_sub (st' := upd st b (.vec 4 ((t.kids.mapIdx fun i x => turnedT F x (W (d + t.under i))).map tree) cap)) ?_ ⟨p, rfl, .inr ⟨b, cap, h1, h2, hsub.isNone h3, rfl⟩⟩
        rw [h4]
        exact hsub.upd b _
    refine br_dec (fun h5 => ?_) (fun h5 => ?_)
    · rw [if_pos h5] at hv
      rw [h5] at fin ⊢
      refine callK_just (by simpa using hg t.n d t.name p _ hqc) ?_
      rw [h5] at e6'
      rw [e_store_p _ _ _ _ _ _ _ e6']
      try simp [q_load_p, upd_apply, hqc]
      exact fin _ (by rw [← hv, h5]) _
    · rw [if_neg h5] at hv
      rw [e_store_p _ _ _ _ _ _ _ e6']
      try simp [q_load_p, upd_apply, hqc]
      exact fin _ hv.symm _
theorem h_impl_lift_1 (frm b n d : Int) (s : List UInt8) (q : PV) (st : St) (hq : q.cellOK = true) :
    HCalls prog n_impl_lift_1 [.agg [.int .i64 5, .int .i64 n, .str s, q], .int .i64 d, .ref [.int .i64 frm], .ref [.int .i64 b]] st (Just (.agg [.int .i64 5, .int .i64 (liftF frm b n d), .str s, q]) st) := by
  apply c_impl_lift_1
  unfold b_impl_lift_1
  refine e_box_own rfl fun b4 hb4 => ?_
  intro b6 hb6
  simp only [upd_none] at hb6
  generalize hv : liftF frm b n d = v
  unfold liftF at hv
  try simp [q_load_p, upd_apply, hb6]
  refine br_dec (fun h => ?_) (fun h => ?_)
  · rw [if_pos h] at hv
    try simp [q_load_p, upd_apply, hb6, hq]
    refine Just.same (by rw [← hv]) ?_
    exact ((Sub.refl _).fresh hb4 |>.fresh hb6.2.2 |>.fresh hb4 |>.fresh hb6.2.2)
  · rw [if_neg h] at hv
    try simp [q_load_p, upd_apply, hb6, hq]
    refine Just.same (by rw [← hv]) ?_
    exact ((Sub.refl _).fresh hb4 |>.fresh hb6.2.2)
theorem h_impl_lift_own (t : Tr) (frm b : Int) (hf : W frm = frm) (hsz : t.size ≤ 1000000000000) (st : St) : HCalls prog n_impl_lift [tree t, .int .i64 frm, .int .i64 b] st (OwnTree (t.lift frm b) st) := by
  apply c_impl_lift
  unfold b_impl_lift
  refine e_box_ref (tree_isJunk _) ?_
  refine e_box_ref rfl ?_
  refine e_box_ref rfl ?_
  intro b6 hb6
  have hv : turnedT (liftF frm b) t 0 = t.lift frm b := by rw [turned_lift, Int.add_zero, hf]
  rw [← hv]
  try simp
  refine callK_own (h_impl_turned (liftF frm b) n_impl_lift_1 [] [.ref [.int .i64 frm], .ref [.int .i64 b]] (fun n d s q st hq => by simpa using h_impl_lift_1 frm b n d s q st hq) t 0 hsz _) fun q s' hg => ?_
  have e6 : s' b6 = some (HObj.cells [PV.int IntKind.i64 0, PV.int IntKind.i64 0, PV.str [], PV.sl 0 true []]) := hg.sub.get (upd_same _ _ _)
  have hqc := hg.cellOK
  rw [e_store_p _ _ _ _ _ _ _ e6]
  try simp [q_load_p, upd_apply, hqc]
  have q2 := hg.store (.cells [.int .i64 (turnedT (liftF frm b) t 0).kind, .int .i64 (turnedT (liftF frm b) t 0).n, .str (turnedT (liftF frm b) t 0).name, q]) (upd_same _ _ _)
  rcases q2 with ⟨h1, ⟨e, rfl⟩, h3⟩ | ⟨b, cap, h1, h2, h3, h4⟩
  · exact retR_sub (by rw [h3]; simpa using (Sub.refl st).fresh hb6) ⟨_, rfl, .inl ⟨h1, ⟨e, rfl⟩, rfl⟩⟩
  · refine retR_sub (st' := upd st b _) ?_ ⟨q, rfl, .inr ⟨b, cap, h1, h2, (Sub.isNone (by simpa using (Sub.refl st).fresh hb6) h3), rfl⟩⟩
    rw [h4]
    exact Sub.upd (by simpa using (Sub.refl st).fresh hb6) b _
theorem h_impl_lift (t : Tr) (frm b : Int) (hf : W frm = frm) (hsz : t.size ≤ 1000000000000) (st : St) : HCalls prog n_impl_lift [tree t, .int .i64 frm, .int .i64 b] st (Just (tree (t.lift frm b)) st) := OwnTree.just (h_impl_lift_own t frm b hf hsz st)
end Go.H.Tryz
/- Contracts: the program's check of long terms at simple types. -/
set_option linter.unusedVariables false
set_option linter.unusedSimpArgs false
namespace Go.H.Tryz
open Go Go.H

theorem h_slices_Max (x : Int) (r : List Int) (hn : r.length ≤ 1000000) (st : St) : HCalls prog n_slices_Max_int_int [.sl 1 true (.int .i64 x :: r.map (.int .i64))] st (Just (.int .i64 (most x r)) st) := by
  apply c_slices_Max_int_int
  unfold b_slices_Max_int_int
  generalize hv : most x r = v
  try simp
  refine br_dec (fun h => by omega) (fun h => ?_)
  try simp [q_ia]
  refine hFix_rec (σ := Int × Nat) (fun s => r.length + 1 - s.2) (fun s => [.int .i64 s.1, .int .i64 (s.2 : Int)]) (fun _ => st) (fun s => 1 ≤ s.2 ∧ s.2 ≤ r.length + 1 ∧ most s.1 (r.drop (s.2 - 1)) = v) ?_ (x, 1) ⟨by omega, by simp, by simpa using hv⟩
  rintro ⟨c, i⟩ ⟨h1, h2, h3⟩ ih
  simp only at h1 h2 h3 ih
  obtain ⟨i, rfl⟩ : ∃ j, i = j + 1 := ⟨i - 1, by omega⟩
  try simp
  refine br_dec (fun hlt => ?_) (fun hlt => Just.int (by rw [← h3, List.drop_of_length_le (by omega)]; rfl))
  have e1 : r[i]? = some r[i] := List.getElem?_eq_getElem hlt
  have e2 : (0 : Int) ≤ (i : Int) + 1 := by omega
  simp only [Nat.add_sub_cancel, List.drop_eq_getElem_cons hlt, most] at h3
  rw [if_pos e2, e1]
  try simp [q_max, PV.cells]
  rw [show IntKind.i64.wrap ((i : Int) + 1 + 1) = ((i + 1 + 1 : Nat) : Int) from by rw [wrap64 (by omega) (by omega)]; omega]
  exact ih (if r[i] > c then r[i] else c, i + 1 + 1) (by simp; omega) ⟨by simp, by simp; omega, by simpa using h3⟩
theorem h_impl_longLists (x : Int) (r : List Int) (hn : r.length ≤ 1000000) (st : St) : HCalls prog n_impl_longLists [.sl 1 true (.int .i64 x :: r.map (.int .i64))] st (Just (.bool ((x :: r).any fun y => decide (y > 4096))) st) := by
  apply c_impl_longLists
  unfold b_impl_longLists
  generalize hv : ((x :: r).any fun y => decide (y > 4096)) = v
  refine callK_just (h_slices_Max x r hn _) ?_
  try simp
  refine Just.bool ?_
  rw [← hv, Bool.eq_iff_iff, decide_eq_true_eq]
  exact most_any r x 4096
theorem h_impl_constsOK (xs : List Ty) (st : St) : HCalls prog n_impl_constsOK [typeds xs] st (Just (.bool (tysOK xs)) st) := by
  apply c_impl_constsOK
  unfold b_impl_constsOK
  generalize hv : tysOK xs = v
  unfold tysOK at hv
  try simp [typeds]
  refine br_dec (fun h => Just.bool (by rw [← hv, decide_eq_false (by omega)]; rfl)) (fun h => ?_)
  rw [decide_eq_true (by omega), Bool.true_and] at hv
  intro bm hbm
  refine loop_idx (β := St) xs (fun _ i => [.int .i64 (i : Int)]) (fun s => s) (fun s i rest => tysGo xs i rest = v ∧ Sub st s ∧ s bm = some (.map (seen (xs.take i)))) ?_ ?_ _ ⟨hv, (Sub.refl _).put hbm, by simp [seen]⟩
  · rintro i x rest s hi hx ⟨hq, hs, hm⟩ kk
    try simp [hi, ia_typed _ hx]
    rw [tysGo] at hq
    intro b5 hb5
    have hne : b5 ≠ bm := fun e => by rw [e, hm] at hb5; cases hb5
    try simp [q_load_p, upd_apply, hb5]
    have hs5 : Sub st (upd s b5 (.cells (typed x).cells)) := hs.put (hs.isNone hb5)
    have hm5 : (upd s b5 (.cells (typed x).cells)) bm = some (.map (seen (xs.take i))) := by rw [upd_ne _ _ hne.symm]; exact hm
    refine callK_just (h_impl_NameOK _ _) ?_
    try simp
    refine br_of (fun g1 => ?_) (fun g1 => Just.bool (by rw [← hq, g1]; rfl) hs5)
    rw [g1, Bool.true_and] at hq
    try simp [q_load_p, upd_apply]
    rw [lookup_seen hm5]
    try simp
    have ha := tyAt_any (xs := xs.take i) (n := x.name)
    refine br_of (fun g2 => Just.bool (by rw [← hq, decide_eq_false (by rw [ha, g2]; simp)]; simp) hs5) (fun g2 => ?_)
    rw [decide_eq_true (ha.2 g2), Bool.and_true] at hq
    refine callK_just (h_impl_badSimple _ _) ?_
    try simp
    refine br_of (fun g3 => ?_) (fun g3 => Just.bool (by rw [← hq, g3]; rfl) hs5)
    rw [g3, Bool.true_and] at hq
    try simp [q_load_p, upd_apply]
    refine mapset_seen hm5 g2 ?_
    try simp
    rw [W_idx hi (by unfold maxLen; omega)]
    refine kk _ ⟨hq, hs5.put hbm, ?_⟩
    rw [upd_same, List.take_add_one, hx]
    rfl
  · rintro s ⟨hq, hs, hm⟩
    try simp
    rw [tysGo] at hq
    exact Just.bool hq hs
theorem h_slices_IndexFunc_impl_Typed_impl_Typed (ts : List Ty) (n : List UInt8) (g : FuncId) (us vs : List PV) (hl : ts.length ≤ 1000000) (st : St) (hg : ∀ t ∈ ts, HCalls prog g (us ++ [typed t] ++ vs) st (Just (.bool (decide (t.name = n))) st)) :
    HCalls prog n_slices_IndexFunc_impl_Typed_impl_Typed [typeds ts, .fn (.func g) us vs] st (Just (.int .i64 (tyAt ts n)) st) := by
  apply c_slices_IndexFunc_impl_Typed_impl_Typed
  unfold b_slices_IndexFunc_impl_Typed_impl_Typed
  generalize hv : tyAt ts n = v
  try simp
  refine loop_idx (β := Unit) ts (fun _ i => [.int .i64 (i : Int)]) (fun _ => st) (fun _ i rest => tyGo n i rest = v) ?_ ?_ () hv
  · intro i x rest _ hi hx hq k
    rw [tyGo] at hq
    try simp [hi, ia_typed _ hx]
    refine callK_just (by simpa using hg x (List.mem_of_getElem? hx)) ?_
    try simp
    refine br_dec (fun h => Just.int (by rw [← hq, if_pos h])) (fun h => ?_)
    rw [W_idx hi (by unfold maxLen; omega)]
    exact k () (by rw [← hq, if_neg h])
  · intro _ hq
    try simp
    exact Just.int hq
theorem h_slices_Clip_impl_Tree_impl_Tree (ts : List Tr) (f : Bool) (st : St) : HCalls prog n_slices_Clip_impl_Tree_impl_Tree [.sl 4 f (ts.map tree)] st (Just (.sl 4 true (ts.map tree)) st) := by
  apply c_slices_Clip_impl_Tree_impl_Tree
  unfold b_slices_Clip_impl_Tree_impl_Tree
  have := sliceE_clip (e := 4) (f := f) (xs := ts.map tree) .i64 .i64
  simp at this
  try simp [this]
  exact Just.ret (Sub.refl _)
theorem h_impl_stop (c p : Int) (hc : c ≠ 0) (st : St) : HCalls prog n_impl_stop [.int .i64 c, .int .i64 p] st (Stops ty_impl_halt c p st) := by
  apply c_impl_stop
  unfold b_impl_stop
  try simp [q_iface]
  exact Stops.pan hc rfl rfl (Sub.refl _)
theorem h_impl_simpler_typeOf_1 (x : Ty) (t : Tr) (st : St) : HCalls prog n_impl_simpler_typeOf_1 [typed x, .ref (tree t).cells] st (Just (.bool (decide (x.name = t.name))) st) := by
  apply c_impl_simpler_typeOf_1
  unfold b_impl_simpler_typeOf_1
  generalize hv : decide (x.name = t.name) = v
  refine e_box_ref (typed_isJunk _) ?_
  try simp
  exact Just.bool hv
def simplerP (cs : List Ty) (holes : List Tr) : PV := .ref [.sl 5 false (cs.map typed), .sl 4 false (holes.map tree)]
theorem h_impl_simpler_typeOf (cs : List Ty) (ctx holes : List Tr) (he : TyEnv cs holes) (hlen : ctx.length ≤ 2000000) (t : Tr) (ht : t.isTerm false = true) (st : St) :
    HCalls prog n_impl_simpler_typeOf [simplerP cs holes, trees ctx, tree t] st (Heads ty_impl_halt (headType cs ctx holes t) st) := by
  apply c_impl_simpler_typeOf
  unfold b_impl_simpler_typeOf simplerP
  generalize hv : headType cs ctx holes t = v
  unfold headType at hv
  refine e_box_ref (tree_isJunk _) ?_
  intro b6 hb
  have hsub : ∀ o, Sub st (upd st b6 o) := fun o => (Sub.refl _).put hb
  try simp
  refine br_dec (fun h5 => ?_) (fun h5 => ?_)
  · have hn := var_n ht (.inl h5)
    rw [if_pos h5] at hv
    refine hJ_of fun J hJ => ?_
    refine br_dec (fun hge => ?_) (fun hge => ?_)
    · rw [if_pos (by omega)] at hv
      refine callK_stops (h_impl_stop 7 0 (by omega) _) (fun h => by omega) (fun _ => Heads.pan hv.symm (hsub _))
    · rw [if_neg (by omega)] at hv
      refine hJ _ _ ?_
      have hi : ((ctx.length : Int) - 1 - t.n).toNat < ctx.length := by omega
      have e1 : IntKind.i64.wrap (IntKind.i64.wrap ((ctx.length : Int) - 1) - t.n) = ((((ctx.length : Int) - 1 - t.n).toNat : Nat) : Int) := by
        rw [wrap64 (n := (ctx.length : Int) - 1) (by omega) (by omega), wrap64 (by omega) (by omega)]
        omega
      rw [e1, ia_trees hi]
      try simp [q_load_p, upd_apply]
      exact Heads.ret (by rw [← hv, getD_of hi]) (hsub _)
  · rw [if_neg h5] at hv
    refine br_dec (fun h7 => ?_) (fun h7 => ?_)
    · have hn := var_n ht (.inr h7)
      rw [if_pos h7] at hv
      refine hJ_of fun J hJ => ?_
      refine br_dec (fun hge => ?_) (fun hge => ?_)
      · rw [if_pos (by omega)] at hv
        refine callK_stops (h_impl_stop 15 0 (by omega) _) (fun h => by omega) (fun _ => Heads.pan hv.symm (hsub _))
      · rw [if_neg (by omega)] at hv
        refine hJ _ _ ?_
        have hi : t.n.toNat < holes.length := by omega
        have e1 : t.n = ((t.n.toNat : Nat) : Int) := by omega
        rw [e1, ia_trees hi]
        try simp [q_load_p, upd_apply]
        exact Heads.ret (by rw [← hv, getD_of hi]) (hsub _)
    · rw [if_neg h7] at hv
      refine callK_just (h_slices_IndexFunc_impl_Typed_impl_Typed cs t.name n_impl_simpler_typeOf_1 [] [.ref (tree t).cells] (by have := he.cl; omega) _ (fun x hx => h_impl_simpler_typeOf_1 x t _)) ?_
      try simp
      refine hJ_of fun J hJ => ?_
      refine br_dec (fun hlt => ?_) (fun hlt => ?_)
      · rw [if_pos hlt] at hv
        refine callK_stops (h_impl_stop 5 0 (by omega) _) (fun h => by omega) (fun _ => Heads.pan hv.symm (hsub _))
      · rw [if_neg hlt] at hv
        refine hJ _ _ ?_
        rcases tyAt_cases cs t.name with ⟨e1, _⟩ | ⟨j, hj, e1, _⟩
        · omega
        · rw [e1, ia_typeds hj]
          try simp [q_load_p, upd_apply]
          exact Heads.ret (by rw [← hv, e1]; simp [hj]) (hsub _)
theorem h_impl_simpler_check (cs : List Ty) (holes : List Tr) (he : TyEnv cs holes) : ∀ (m : Nat) (ctx : List Tr) (t a : Tr), ctx.length + m ≤ 2000000 → (∀ a ∈ ctx, a.isSimple = true) → t.isTerm false = true → t.size ≤ m → a.isSimple = true → ∀ st,
    HCalls prog n_impl_simpler_check [simplerP cs holes, trees ctx, tree t, tree a] st (Stops ty_impl_halt (typedT cs holes m ctx t a) 0 st)
  | 0, ctx, t, a, _, _, _, hsz, _, st => by have := Tr.size_kids t; omega
  | m + 1, ctx, t, a, hlen, hctx, ht, hsz, ha, st => by
    apply c_impl_simpler_check
    unfold b_impl_simpler_check
    generalize hv : typedT cs holes (m + 1) ctx t a = v
    rw [typedT] at hv
    refine e_box_ref (tree_isJunk _) ?_
    refine e_box_ref (tree_isJunk _) ?_
    try simp
    refine hJ_of fun J hJ => ?_
    refine br_of (fun hd => ?_) (fun hd => ?_)
    · have e9 : (9 : Int) = v := by rw [← hv]; by_cases h4 : t.kind = 4 <;> by_cases h10 : a.kind = 10 <;> simp_all
      exact callK_stops (h_impl_stop 9 0 (by omega) _) (fun h => by omega) (fun h => Stops.pan h e9 rfl (Sub.refl _))
    · refine hJ _ _ ?_
      refine br_dec (fun h4 => ?_) (fun h4 => ?_)
      · have h10 : a.kind = 10 := by simpa [h4] using hd
        rw [if_pos h4, if_pos h10] at hv
        obtain ⟨x, hx, hxt⟩ := lam_kid ht h4
        obtain ⟨y, z, hyz, hy, hz⟩ := simple_kids ha h10
        rw [kid0 hx, kid0 hyz, kid1 hyz] at hv
        have hxs : x.size < t.size := Tr.kid_size (by rw [hx]; simp)
        have x0 : t.kids[0]? = some x := by rw [hx]; rfl
        have y0 : a.kids[0]? = some y := by rw [hyz]; rfl
        have y1 : a.kids[1]? = some z := by rw [hyz]; rfl
        try simp [ia_tree0 _ x0, ia_tree0 _ y0, ia_tree1 _ y1]
        refine callK_just (h_slices_Clip_impl_Tree_impl_Tree ctx false _) ?_
        try simp
        refine append_full (elems_sl _ _ _ _) (by simp) (by simp; omega) fun p2 s2 hg2 => ?_
        try simp
        refine callK_conv (us' := [simplerP cs holes, trees (ctx ++ [y]), tree x, tree z]) (st' := st) (Conv.cons (Conv.sub hg2.sub) (Conv.cons (by simpa using hg2.freeze) (Conv.sub hg2.sub))) ?_
        exact callK_stops (h_impl_simpler_check cs holes he m _ _ _ (by simp; omega) (fun b hb => by
          rcases List.mem_append.1 hb with h | h
          · exact hctx b h
          · simp at h; rw [h]; exact hy) hxt (by omega) hz st) (fun h => Stops.ret (by rw [← hv]; exact h) (Sub.refl _)) (fun h => Stops.pan h hv rfl (Sub.refl _))
      · have h10 : a.kind ≠ 10 := by simpa [h4] using hd
        rw [if_neg h4, if_neg h10] at hv
        refine callK_heads (h_impl_simpler_typeOf cs ctx holes he (by omega) t ht _) (fun b hhb => ?_) (fun c hc => Stops.pan (headType_ne hc) (by rw [← hv, hc]) rfl (Sub.refl _))
        have hbs := headType_simple he hctx ht hhb
        rw [hhb] at hv
        intro b8 hb8
        try simp
        refine hJ_of fun J1 hJ1 => ?_
        refine loop_idx (β := Tr × St) t.kids (fun _ i => [.int .i64 (i : Int)]) (fun z => z.2) (fun z i rest => z.1.isSimple = true ∧ Sub st z.2 ∧ z.2 b8 = some (.cells (tree z.1).cells) ∧ (match argsType (typedT cs holes m ctx) rest z.1 with | .inl c => c | .inr b => endType a b) = v) ?_ ?_ (b, _) ⟨hbs, (Sub.refl _).put hb8, upd_same _ _ _, hv⟩
        · rintro i x rest ⟨b, s⟩ hi hx ⟨hbs, hs, hb, hq⟩ kk
          simp only at hbs hs hb hq
          rw [argsType] at hq
          try simp [hi, ia_tree _ hx]
          intro b10 hb10
          have hne : b8 ≠ b10 := fun e => by rw [← e, hb] at hb10; cases hb10
          have hs2 : Sub st (upd s b10 (.cells (tree x).cells)) := hs.put (hs.isNone hb10)
          have hb2 : (upd s b10 (.cells (tree x).cells)) b8 = some (.cells (tree b).cells) := by rw [upd_ne _ _ hne]; exact hb
          have hb3 : (upd s b10 (.cells (tree x).cells)) b10 = some (.cells (tree x).cells) := upd_same _ _ _
          try simp
          generalize upd s b10 (.cells (tree x).cells) = s2 at hs2 hb2 hb3
          try simp [q_load_p hb2, q_load_p hb3]
          refine hJ_of fun J2 hJ2 => ?_
          refine br_dec (fun k10 => ?_) (fun k10 => ?_)
          · rw [if_pos k10] at hq
            refine hJ2 _ _ ?_
            obtain ⟨y, z, hyz, hy, hz⟩ := simple_kids hbs k10
            have y0 : b.kids[0]? = some y := by rw [hyz]; rfl
            have y1 : b.kids[1]? = some z := by rw [hyz]; rfl
            rw [kid0 hyz, kid1 hyz] at hq
            try simp [q_load_p hb2, q_load_p hb3, ia_tree0 _ y0]
            have hxm := List.mem_of_getElem? hx
            refine callK_stops (h_impl_simpler_check cs holes he m ctx x y (by omega) hctx (Tr.kids_lams ht hxm) (by have := Tr.kid_size hxm; omega) hy _) (fun hc => ?_) (fun hc => Stops.pan hc (by rw [← hq, if_neg hc]) rfl hs2)
            rw [if_pos hc] at hq
            try simp [q_load_p hb2, ia_tree1 _ y1]
            rw [W_idx hi (by unfold maxLen; have := Tr.kids_len t; omega)]
            rw [e_store_p _ _ _ _ _ _ _ hb2]
            try simp
            exact kk (z, _) ⟨hz, hs2.put hb8, upd_same _ _ _, hq⟩
          · rw [if_neg k10] at hq
            exact callK_stops (h_impl_stop 8 0 (by omega) _) (fun h => by omega) (fun h => Stops.pan h hq rfl hs2)
        · rintro ⟨b, s⟩ ⟨hbs, hs, hb, hq⟩
          simp only at hbs hs hb hq
          simp only [argsType] at hq
          try simp
          refine hJ1 _ _ ?_
          try simp [q_load_p hb]
          unfold endType at hq
          refine br_dec (fun k10 => ?_) (fun k10 => ?_)
          · rw [if_pos k10] at hq
            exact callK_stops (h_impl_stop 8 0 (by omega) _) (fun h => by omega) (fun h => Stops.pan h hq rfl hs)
          · rw [if_neg k10] at hq
            refine callK_just (h_impl_same _ _ _) ?_
            try simp
            have hsame := endType_same ha hbs h10 k10
            refine br_dec (fun k => ?_) (fun k => ?_)
            · rw [if_pos (hsame.2 k)] at hq
              exact Stops.ret hq.symm hs
            · rw [if_neg (fun e => k (hsame.1 e))] at hq
              exact callK_stops (h_impl_stop 10 0 (by omega) _) (fun h => by omega) (fun h => Stops.pan h hq rfl hs)
end Go.H.Tryz
/- The contract of what is caught: a halt that ends a call is told as its result. By hand, at the machine's level: deferred calls and recover. -/
set_option linter.unusedVariables false
set_option linter.unusedSimpArgs false
namespace Go.H.Tryz
open Go Go.H

theorem fnCaught : prog.funcs[n_impl_caught]? = some Go.Proofs.Tryz.f44 := by kernel_rfl
theorem fnCaught1 : prog.funcs[n_impl_caught_1]? = some Go.Proofs.Tryz.f92 := by kernel_rfl
theorem ntCaught1 : Go.Proofs.Tryz.f92.ntmps = 11 := by kernel_rfl
theorem reCaught1 : Go.Proofs.Tryz.f92.results = #[] := by kernel_rfl

theorem eCaught1 : Enters prog n_impl_caught_1 := ⟨_, fnCaught1, by kernel_rfl, by kernel_rfl⟩
theorem catch_idle (p : Addr) (w : World) :
    CallsD prog n_impl_caught_1 #[.pointer (some p)] .returning w fun e u' w' => e = .returned (.tuple #[]) ∧ u' = .returning ∧ w' = w := by
  have hnil : ∀ w : World, (binOp BinOp.eql 20 .nilIface .nilIface).run prog w = .ok (.bool true) w := fun _ => by kernel_rfl
  refine callsD_of_wpS fnCaught1 rfl fun c₀ cs hu => ?_
  apply wpS_seq
  apply wpS_region
  try simp [wpOpsS, go_sem, recoverD, hu, ntCaught1, Exit.thenS]
  refine wpS_of_wp (wp_block (wp_seq (wp_region ?_)))
  try simp [wpOps, Oper.wp, Oper.upon, go_sem, Exit.then, hnil]
  left
  refine wp_cond (t := true) ?_ ?_
  · simp [Act.eval, Array.replicate]
  simp only [if_true]
  refine wp_region ?_
  try simp [wpOps, Oper.wp, Oper.upon, go_sem, Exit.then]
  left
  cases c₀
  simp_all [bodyPostS, results, reCaught1]
theorem catch_halt (b : Nat) (c p : Int) (w : World) (st : St) (z : List PV) (hb : st b = some (.cells z)) (hz : z.length = 2) (hg : Good w st) :
    CallsD prog n_impl_caught_1 #[.pointer (some ⟨b, 0, none⟩)] (.panicking [{ v := .iface ty_impl_halt (.agg #[.int .i64 c, .int .i64 p]), recovered := false }]) w fun e u' w' => e = .returned (.tuple #[]) ∧ u' = .panicking [{ v := .iface ty_impl_halt (.agg #[.int .i64 c, .int .i64 p]), recovered := true }] ∧ Evo w st w' (upd st b (.cells [.int .i64 c, .int .i64 p])) ∧ Good w' (upd st b (.cells [.int .i64 c, .int .i64 p])) := by
  have hnil : ∀ w : World, (binOp BinOp.eql 20 (.iface ty_impl_halt (.agg #[.int .i64 c, .int .i64 p])) .nilIface).run prog w = .ok (.bool false) w := fun _ => by kernel_rfl
  have hta : ∀ w : World, (Instr.typeAssert (.iface ty_impl_halt (.agg #[.int .i64 c, .int .i64 p])) 20 ty_impl_halt true).run prog w = .ok (.tuple #[.agg #[.int .i64 c, .int .i64 p], .bool true]) w := fun _ => by kernel_rfl
  refine callsD_of_wpS fnCaught1 rfl fun c₀ cs hu => ?_
  apply wpS_seq
  apply wpS_region
  try simp [wpOpsS, go_sem, recoverD, hu, ntCaught1, Exit.thenS]
  refine wpS_of_wp (wp_block (wp_seq (wp_region ?_)))
  try simp [wpOps, Oper.wp, Oper.upon, go_sem, Exit.then, hnil]
  left
  refine wp_cond (t := false) ?_ ?_
  · simp [Act.eval, Array.replicate]
  simp only [Bool.false_eq_true, if_false]
  refine wp_seq (wp_region ?_)
  try simp [wpOps, Oper.wp, Oper.upon, go_sem, Exit.then, hnil, hta]
  refine .inl (.inl (.inl ?_))
  refine wp_mono (hCode_sound tyOK mixed (ann := []) (d0 := []) (w0 := w) (st0 := st) _ [.ptr b 0, .junk, .junk, .junk, .junk, .junk, .junk, .junk, .bool true, .agg [.int .i64 c, .int .i64 p], .junk] st
    (fun e _ s => e = .normal ∧ ∃ b2, st b2 = none ∧ s = upd (upd st b2 (.cells [.int .i64 c, .int .i64 p])) b (.cells [.int .i64 c, .int .i64 p])) _ w ?_ ?_) ?_
  · generalize hQ : (fun e (_ : List PV) s => e = HExit.normal ∧ ∃ b2, st b2 = none ∧ s = upd (upd st b2 (.cells [.int .i64 c, .int .i64 p])) b (.cells [.int .i64 c, .int .i64 p])) = Q
    refine Eq.mp (α := e_alloc st [.int .i64 0, .int .i64 0] fun v2 st => e_store st 2 v2 (.agg [.int .i64 c, .int .i64 p]) fun st => qb (q_load st true 2 v2) fun v10 => e_store st 2 (.ptr b 0) v10 fun st => Q .normal [.ptr b 0, .junk, v2, .junk, .junk, .junk, .junk, .junk, .bool true, .agg [.int .i64 c, .int .i64 p], v10] st) (by kernel_rfl) ?_
    intro b2 hb2
    have hne : b ≠ b2 := fun e => by rw [← e, hb] at hb2; cases hb2
    try simp
    have hb3 : (upd st b2 (.cells [.int .i64 c, .int .i64 p])) b = some (.cells z) := by rw [upd_ne _ _ hne]; exact hb
    try simp [q_load_p (upd_same _ _ _)]
    rw [e_store_p _ _ _ _ _ _ _ hb3]
    try simp [hz]
    rw [← hQ]
    refine ⟨rfl, b2, hb2, ?_⟩
    match z, hz with
    | [z1, z2], _ => rfl
  · refine ⟨Evo.refl w st, hg, ?_, rfl⟩
    refine ⟨_, _, rfl, .inr ⟨rfl, by simp [RX, Value.cells]⟩, _, _, rfl, RO_junk _ _, _, _, rfl, RO_junk _ _, _, _, rfl, RO_junk _ _, _, _, rfl, RO_junk _ _, _, _, rfl, RO_junk _ _, _, _, rfl, RO_junk _ _, _, _, rfl, RO_junk _ _, _, _, rfl, .inr ⟨rfl, by simp [RX, Value.cells]⟩, _, _, rfl, .inr ⟨rfl, ?_⟩, _, _, rfl, RO_junk _ _, rfl⟩
    try simp [RX, RCs, Value.cells]
  · intro e a w' hq
    cases e with
    | normal =>
      obtain ⟨env', st', ⟨_, b2, hb2, rfl⟩, _, hs⟩ := hq
      have hsub : Sub (upd st b (.cells [.int .i64 c, .int .i64 p])) (upd (upd st b2 (.cells [.int .i64 c, .int .i64 p])) b (.cells [.int .i64 c, .int .i64 p])) := Sub.upd ((Sub.refl st).put hb2) _ _
      refine ⟨hs.defers, _, rfl, .tuple #[], ?_, rfl, rfl, hs.evo.trans (Evo.sub hsub), hs.good.sub hsub⟩
      try simp [results, reCaught1]
    | panic ch => obtain ⟨_, _, _, _, ⟨h, _⟩, _⟩ := hq; cases h
    | outgrown => exact hq.elim
    | _ => obtain ⟨_, _, ⟨h, _⟩, _⟩ := hq; cases h
theorem rvs_ros {C : Nat → Nat → Value → Prop} : ∀ {ps : List PV} {vs : List Value}, RVs C ps vs → ROs C ps vs
  | [], _, h => h
  | _ :: _, _, ⟨v, vs', e, h1, h2⟩ => ⟨v, vs', e, h1, rvs_ros h2⟩
theorem callsD_mono {P : Program} {f : FuncId} {args : Array Value} {u : FrameMode} {w : World} {R R' : Ending → FrameMode → World → Prop} (h : CallsD P f args u w R) (hr : ∀ e u' w', R e u' w' → R' e u' w') : CallsD P f args u w R' := fun c cs hc =>
  let ⟨e, u', w', fr, h1, h2⟩ := h c cs hc
  ⟨e, u', w', fr, hr _ _ _ h1, h2⟩
/-- What the closure does that is caught: it goes on, or ends by a halt; the place of the result is left alone. -/
def Caught (h : TypeId) (b : Nat) (Q : Int → Int → St → Prop) : Res → St → Prop := fun r s => ∃ s0, s0 b = none ∧ s = upd s0 b (.cells [.int .i64 0, .int .i64 0]) ∧ ((r = .ret (.tup []) ∧ Q 0 0 s0) ∨ ∃ c p, r = .pan (halt h c p) ∧ Q c p s0)
theorem h_impl_caught (g : FuncId) (caps : List PV) (st : St) (Q : Int → Int → St → Prop) (hc : ∀ b, st b = none → HCalls prog g caps (upd st b (.cells [.int .i64 0, .int .i64 0])) (Caught ty_impl_halt b Q)) :
    HCalls prog n_impl_caught [.fn (.func g) [] caps] st (fun r s => ∃ c p, r = .ret (.agg [.int .i64 c, .int .i64 p]) ∧ Q c p s) := by
  refine ⟨⟨Go.Proofs.Tryz.f44, fnCaught, by kernel_rfl, by kernel_rfl⟩, fun w vals hg hv => ?_⟩
  obtain ⟨v0, vs, rfl, h0, rfl⟩ := hv
  refine calls_of_wp_defers fnCaught rfl ?_
  refine wp_seq ?_
  refine wp_mono (hCode_sound tyOK mixed (ann := []) (d0 := []) (w0 := w) (st0 := st) _ [.fn (.func g) [] caps, .junk, .junk, .junk, .junk, .junk, .junk] st
    (fun e env s => e = .normal ∧ ∃ b, st b = none ∧ env = [.fn (.func g) [] caps, .junk, .ptr b 0, .junk, .junk, .junk, .junk] ∧ s = upd st b (.cells [.int .i64 0, .int .i64 0])) _ w ?_ ?_) ?_
  · generalize hQ : (fun e env s => e = HExit.normal ∧ ∃ b, st b = none ∧ env = [PV.fn (.func g) [] caps, .junk, .ptr b 0, .junk, .junk, .junk, .junk] ∧ s = upd st b (.cells [.int .i64 0, .int .i64 0])) = Q
    refine Eq.mp (α := e_alloc st [.int .i64 0, .int .i64 0] fun v2 st => Q .normal [.fn (.func g) [] caps, .junk, v2, .junk, .junk, .junk, .junk] st) (by kernel_rfl) ?_
    intro b hb
    rw [← hQ]
    exact ⟨rfl, b, hb, rfl, rfl⟩
  · refine ⟨Evo.refl w st, hg, ?_, rfl⟩
    exact ⟨_, _, rfl, h0, _, _, rfl, RO_junk _ _, _, _, rfl, RO_junk _ _, _, _, rfl, RO_junk _ _, _, _, rfl, RO_junk _ _, _, _, rfl, RO_junk _ _, _, _, rfl, RO_junk _ _, rfl⟩
  intro e a1 w1 hq
  cases e with
  | normal =>
    obtain ⟨env1, st1, ⟨_, b, hb, rfl, rfl⟩, _, hs1⟩ := hq
    obtain ⟨hev1, hg1, hsl, hd1⟩ := hs1
    obtain ⟨tmps1, defers1⟩ := a1
    simp only at hd1 hsl
    subst hd1
    obtain ⟨u0, l0, e0, r0, u1, l1, rfl, _, u2, l2, rfl, r2, u3, l3, rfl, _, u4, l4, rfl, _, u5, l5, rfl, _, u6, l6, rfl, _, rfl⟩ := hsl
    have hu2 := RO_ptr r2
    subst hu2
    obtain rfl : tmps1 = #[u0, u1, .pointer (some ⟨b, 0, none⟩), u3, u4, u5, u6] := by cases tmps1; simp_all
    show Code.wp prog _ _ _ _
    refine wp_seq (wp_region ?_)
    try simp [wpOps, Oper.wp, Oper.upon, go_sem, Exit.then]
    refine .inl (.inl ?_)
    obtain ⟨vf, vc, rfl, rf, rc⟩ := RO_fn r0
    obtain rfl : vf = [] := by simpa [RVs] using rf
    refine wp_seq (wp_region ?_)
    try simp [wpOps, Oper.wp, Oper.upon, go_sem, Exit.then]
    have hent := (hc b hb).1
    rw [enter_run hent]
    refine .inl (.inl ?_)
    refine ((hc b hb).2 w1 vc hg1 ?_).mono ?_
    · exact rvs_ros rc
    rintro e w2 ⟨r, s, hev2, hg2, ⟨s0, hs0, rfl, hq⟩, hm⟩
    cases e with
    | returned v =>
      rcases hq with ⟨rfl, hq⟩ | ⟨c, p, rfl, _⟩
      · refine wp_mono (hCode_sound tyOK mixed (ann := []) (d0 := [{ target := .fn (.func n_impl_caught_1) #[.pointer (some ⟨b, 0, none⟩)], args := #[] }]) (w0 := w) (st0 := st) _ [.junk, .junk, .ptr b 0, .junk, .junk, .junk, .junk] (upd s0 b (.cells [.int .i64 0, .int .i64 0]))
          (fun e env s => e = .ret ∧ s = upd s0 b (.cells [.int .i64 0, .int .i64 0]) ∧ env = [.junk, .junk, .ptr b 0, .junk, .junk, .junk, .agg [.int .i64 0, .int .i64 0]]) _ w2 ?_ ?_) ?_
        · generalize hQ : (fun e env s => e = HExit.ret ∧ s = upd s0 b (.cells [.int .i64 0, .int .i64 0]) ∧ env = [PV.junk, .junk, .ptr b 0, .junk, .junk, .junk, .agg [.int .i64 0, .int .i64 0]]) = Q2
          refine Eq.mp (α := e_store (upd s0 b (.cells [.int .i64 0, .int .i64 0])) 2 (.ptr b 0) (.agg [.int .i64 0, .int .i64 0]) fun st => Q2 .ret [.junk, .junk, .ptr b 0, .junk, .junk, .junk, .agg [.int .i64 0, .int .i64 0]] st) (by kernel_rfl) ?_
          rw [e_store_p _ _ _ _ _ _ _ (upd_same _ _ _)]
          try simp
          rw [← hQ]
          exact ⟨rfl, rfl, rfl⟩
        · refine ⟨hev1.trans hev2, hg2, ?_, rfl⟩
          exact ⟨_, _, rfl, RO_junk _ _, _, _, rfl, RO_junk _ _, _, _, rfl, .inr ⟨rfl, by simp [RX, Value.cells]⟩, _, _, rfl, RO_junk _ _, _, _, rfl, RO_junk _ _, _, _, rfl, RO_junk _ _, _, _, rfl, RO_junk _ _, rfl⟩
        intro e a3 w3 hq3
        cases e with
        | ret =>
          obtain ⟨env', st', ⟨_, rfl, rfl⟩, _, hs3⟩ := hq3
          show Leaves prog _ a3.tmps _ a3.defers .returning w3
          rw [hs3.defers]
          refine leaves_cons (by simp) ?_ (callsD_mono (catch_idle ⟨b, 0, none⟩ w3) ?_)
          · simp [invoke, go_sem]
          · rintro e u' w' ⟨rfl, rfl, rfl⟩
            refine fin_post tyOK (fn := Go.Proofs.Tryz.f44) hs3.evo hs3.good hs3.slots ?_
            refine Eq.mp (α := qb (q_load (upd s0 b (.cells [.int .i64 0, .int .i64 0])) true 2 (.ptr b 0)) fun p => retR (fun r s => ∃ c p, r = Res.ret (.agg [.int .i64 c, .int .i64 p]) ∧ Q c p s) p (upd s0 b (.cells [.int .i64 0, .int .i64 0]))) (by kernel_rfl) ?_
            try simp [q_load_p (upd_same _ _ _)]
            exact retR_sub ((Sub.refl _).put hs0) ⟨0, 0, rfl, hq⟩
        | panic ch => obtain ⟨_, _, _, _, ⟨h, _⟩, _⟩ := hq3; cases h
        | outgrown => exact hq3.elim
        | _ => obtain ⟨_, _, ⟨h, _⟩, _⟩ := hq3; cases h
      · exact hm.elim
    | panicked ch =>
      rcases hq with ⟨rfl, _⟩ | ⟨c, p, rfl, hq⟩
      · exact hm.elim
      · obtain ⟨v, rfl, hro⟩ := hm
        obtain ⟨u, rfl, hu⟩ := RO_iface hro
        obtain ⟨vs, rfl, hvs⟩ := RO_agg (.inr hu)
        obtain rfl : vs = #[.int .i64 c, .int .i64 p] := by
          cases vs
          simpa [RCs, RX] using hvs
        refine leaves_cons (by simp) ?_ (callsD_mono (catch_halt b c p w2 _ _ (upd_same s0 b (.cells [.int .i64 0, .int .i64 0])) rfl hg2) ?_)
        · simp [invoke, go_sem]
        · rintro e u' w' ⟨rfl, rfl, hev3, hg3⟩
          refine fin_post tyOK (fn := Go.Proofs.Tryz.f44) (env := [.junk, .junk, .ptr b 0, .junk, .junk, .junk, .junk]) ((hev1.trans hev2).trans hev3) hg3 ?_ ?_
          · exact ⟨_, _, rfl, RO_junk _ _, _, _, rfl, RO_junk _ _, _, _, rfl, .inr ⟨rfl, by simp [RX, Value.cells]⟩, _, _, rfl, RO_junk _ _, _, _, rfl, RO_junk _ _, _, _, rfl, RO_junk _ _, _, _, rfl, RO_junk _ _, rfl⟩
          · refine Eq.mp (α := qb (q_load (upd (upd s0 b (.cells [.int .i64 0, .int .i64 0])) b (.cells [.int .i64 c, .int .i64 p])) true 2 (.ptr b 0)) fun q => retR (fun r s => ∃ c p, r = Res.ret (.agg [.int .i64 c, .int .i64 p]) ∧ Q c p s) q (upd (upd s0 b (.cells [.int .i64 0, .int .i64 0])) b (.cells [.int .i64 c, .int .i64 p]))) (by kernel_rfl) ?_
            try simp [q_load_p (upd_same _ _ _)]
            exact retR_sub ((Sub.refl _).put hs0) ⟨c, p, rfl, hq⟩
    | outgrown => exact hm.elim
  | panic ch => obtain ⟨_, _, _, _, ⟨h, _⟩, _⟩ := hq; cases h
  | outgrown => exact hq.elim
  | _ => obtain ⟨_, _, ⟨h, _⟩, _⟩ := hq; cases h
end Go.H.Tryz
/- Contracts: the program's SimpleCheck, and the law. -/
set_option linter.unusedVariables false
set_option linter.unusedSimpArgs false
namespace Go.H.Tryz
open Go Go.H

theorem h_impl_SimpleCheck_1 (cs : List Ty) (ctx holes : List Tr) (t a : Tr) (he : TyEnv cs holes) (hlen : ctx.length ≤ 1000000) (hctx : ∀ a ∈ ctx, a.isSimple = true) (ht : t.isTerm false = true) (hsz : t.size ≤ 1000000) (ha : a.isSimple = true) (s : St) (b : Nat) (hb : s b = some (.cells [simplerP cs holes])) :
    HCalls prog n_impl_SimpleCheck_1 [.ptr b 0, .ref [trees ctx], .ref (tree t).cells, .ref (tree a).cells] s (Stops ty_impl_halt (typedT cs holes 1000000 ctx t a) 0 s) := by
  apply c_impl_SimpleCheck_1
  unfold b_impl_SimpleCheck_1
  try simp [q_load_p hb]
  have e1 : takeV false 1 [simplerP cs holes] = some (simplerP cs holes) := rfl
  try simp [e1]
  refine callK_just (h_slices_Clip_impl_Tree_impl_Tree ctx false _) ?_
  try simp [q_load_p hb, e1]
  refine callK_conv (us' := [simplerP cs holes, trees ctx, tree t, tree a]) (st' := s) (Conv.cons (Conv.refl _ _) (Conv.cons Conv.unfull (Conv.refl _ _))) ?_
  exact callK_stops (h_impl_simpler_check cs holes he 1000000 ctx t a (by omega) hctx ht hsz ha s) (fun h => Stops.ret h (Sub.refl _)) (fun h => Stops.pan h rfl rfl (Sub.refl _))
theorem stops_caught {P : Program} {g : FuncId} {us : List PV} {h : TypeId} {c : Int} {st : St} {b : Nat} (hb : st b = none) (hc : HCalls P g us (upd st b (.cells [.int .i64 0, .int .i64 0])) (Stops h c 0 (upd st b (.cells [.int .i64 0, .int .i64 0])))) :
    HCalls P g us (upd st b (.cells [.int .i64 0, .int .i64 0])) (Caught h b fun c' p' s => c' = c ∧ p' = 0 ∧ s = st) :=
  hc.mono fun r s hr => by
    obtain ⟨rfl, hr⟩ := hr
    rcases hr with ⟨h1, h2⟩ | ⟨h1, h2⟩
    · exact ⟨st, hb, rfl, .inl ⟨h2, h1.symm, rfl, rfl⟩⟩
    · exact ⟨st, hb, rfl, .inr ⟨c, 0, h2, rfl, rfl, rfl⟩⟩
theorem h_impl_SimpleCheck (cs : List Ty) (ctx holes : List Tr) (t a : Tr) (st : St) : HCalls prog n_impl_SimpleCheck [typeds cs, trees ctx, trees holes, tree t, tree a] st (Just (.int .i64 (checkT cs ctx holes t a)) st) := by
  apply c_impl_SimpleCheck
  unfold b_impl_SimpleCheck
  generalize hv : checkT cs ctx holes t a = v
  unfold checkT at hv
  refine e_box_ref rfl ?_
  refine e_box_ref (tree_isJunk _) ?_
  refine e_box_ref (tree_isJunk _) ?_
  try simp
  refine callK_just (h_impl_longLists (cs.length : Int) [(ctx.length : Int), (holes.length : Int)] (by simp) _) ?_
  try simp
  refine br_of (fun h => Just.int (by rw [← hv, if_pos]; simp at h; omega)) (fun h => ?_)
  rw [if_neg (by simp at h; omega)] at hv
  simp at h
  refine callK_just (h_impl_constsOK cs _) ?_
  try simp
  refine br_of (fun g1 => ?_) (fun g1 => Just.int (by rw [← hv, g1]; rfl))
  refine callK_just (h_impl_simplesOK ctx 40 _) ?_
  try simp
  refine br_of (fun g2 => ?_) (fun g2 => Just.int (by rw [← hv, g1, g2]; rfl))
  refine callK_just (h_impl_simplesOK holes 20 _) ?_
  try simp
  refine br_of (fun g3 => ?_) (fun g3 => Just.int (by rw [← hv, g1, g2, g3]; rfl))
  refine callK_just (h_impl_badTerm t _) ?_
  try simp
  refine br_of (fun g4 => ?_) (fun g4 => Just.int (by rw [← hv, g1, g2, g3, g4]; rfl))
  refine callK_just (h_impl_badSimple a _) ?_
  try simp
  refine br_of (fun g5 => ?_) (fun g5 => Just.int (by rw [← hv, g1, g2, g3, g4, g5]; rfl))
  rw [g1, g2, g3, g4, g5] at hv
  simp at hv
  have ht := termOK_of g4
  unfold Tr.simpleOK at g5
  simp only [Bool.and_eq_true] at g5
  rw [show q_struct [PV.sl 0 true [], PV.sl 0 true []] [(0, 1, PV.sl 5 false (List.map typed cs)), (1, 1, PV.sl 4 false (List.map tree holes))] = some (.agg [.sl 5 false (cs.map typed), .sl 4 false (holes.map tree)]) from rfl]
  simp only [qb_some]
  refine e_box_ref rfl ?_
  intro b11 hb11
  try simp
  rw [show [PV.ref [PV.sl 5 false (List.map typed cs), PV.sl 4 false (List.map tree holes)]] = [simplerP cs holes] from rfl]
  refine callK_of (h_impl_caught n_impl_SimpleCheck_1 [.ptr b11 0, .ref [trees ctx], .ref (tree t).cells, .ref (tree a).cells] _ (fun c' p' s => c' = typedT cs holes 1000000 ctx t a ∧ p' = 0 ∧ s = upd st b11 (.cells [simplerP cs holes])) (fun b hb => ?_)) (fun p s h => ?_) (fun p s h => ?_)
  · refine stops_caught hb (h_impl_SimpleCheck_1 cs ctx holes t a (tyEnv g1 g3 (by omega)) (by omega) (fun b hb => (simplesOK_mem g2 b hb).1) ht.1 (by omega) g5.2 _ b11 ?_)
    have hne : b11 ≠ b := fun e => by rw [← e, upd_same] at hb; cases hb
    rw [upd_ne _ _ hne, upd_same]
  · obtain ⟨c, p', h, rfl, rfl, rfl⟩ := h
    cases h
    try simp [q_field]
    exact Just.int hv ((Sub.refl _).put hb11)
  · obtain ⟨c, p', h, _⟩ := h
    cases h
end Go.H.Tryz
/- Contracts: the program makes long forms and looks at patterns. -/
set_option linter.unusedVariables false
set_option linter.unusedSimpArgs false
namespace Go.H.Tryz
open Go Go.H

theorem h_impl_takes (a : Tr) (ha : a.isSimple = true) (hsz : a.size ≤ 1000000) (st : St) : HCalls prog n_impl_takes [tree a] st (Just (.tup [trees a.args, tree a.target]) st) := by
  apply c_impl_takes
  unfold b_impl_takes
  refine e_box_own (tree_isJunk _) fun b1 hb1 => ?_
  intro b3 hb3
  simp only [upd_none] at hb3
  have hargs := Tr.args_size a ha
  generalize hv : a.args = v at hargs
  generalize hw : a.target = wt
  try simp
  generalize hs1 : upd (upd st b1 (HObj.cells (tree a).cells)) b3 _ = s1
  refine hFix_rec (σ := PV × St × St × Tr × List Tr) (fun z => z.2.2.2.1.size) (fun z => [z.1]) (fun z => z.2.1)
    (fun z => Grow z.2.2.1 4 (z.2.2.2.2.map tree) z.1 z.2.1 ∧ z.2.2.1 b1 = some (.cells (tree z.2.2.2.1).cells) ∧ z.2.2.1 b3 = some (HObj.cells [PV.int IntKind.i64 0, PV.int IntKind.i64 0, PV.str [], PV.sl 0 true []]) ∧ Sub st z.2.2.1 ∧ z.2.2.2.1.isSimple = true ∧ z.2.2.2.2 ++ z.2.2.2.1.args = v ∧ z.2.2.2.1.target = wt) ?_ (_, s1, s1, a, [])
    ⟨Grow.nil _ _ _, by subst hs1; simp [upd_apply, hb3], by subst hs1; simp [upd_apply], by subst hs1; exact (Sub.refl _).fresh hb1 |>.fresh hb3.2.2, ha, by simpa using hv, hw⟩
  rintro ⟨p, s, sb, u, acc⟩ ⟨q0, q1, q3, qs, qu, qa, qt⟩ ihl
  simp only at q0 q1 q3 qs qu qa qt
  have e1 := q0.sub.get q1
  try simp [q_load_p e1]
  refine br_dec (fun hk => ?_) (fun hk => ?_)
  · rcases Tr.simple_cases qu with ⟨_, x, y, e, hx, hy, _⟩ | ⟨hk2, _⟩
    · simp [q_load_p e1, ia_tree0 (ts := u.kids) (t := x) _ (by rw [e]; rfl), ia_tree1 (ts := u.kids) (t := y) _ (by rw [e]; rfl)]
      have e2 := Tr.args_arrow hk e
      refine q0.append (elems_sl _ _ _ _) (by rw [e2] at qa; have := congrArg List.length qa; simp at this ⊢; omega) fun p2 s2 hg => ?_
      have e1' := hg.sub.get q1
      try simp [q_load_p e1', ia_tree1 (ts := u.kids) (t := y) _ (by rw [e]; rfl)]
      rw [e_store_p _ _ _ _ _ _ _ e1']
      try simp
      refine ihl (p2, upd s2 b1 (.cells (tree y).cells), upd sb b1 (.cells (tree y).cells), y, acc ++ [x]) (by simp only; exact Tr.kid_size (by rw [e]; simp)) ⟨?_, by simp [upd_apply], by simp [upd_apply, hb3, q3], qs.put hb1, hy, by simp only; rw [← qa, e2]; simp, by rw [← qt]; exact (Tr.target_arrow hk e).symm⟩
      simpa using hg.store (.cells (tree y).cells) q1
    · omega
  · rw [Tr.args_base hk, List.append_nil] at qa
    rw [Tr.target_base hk] at qt
    subst qa qt
    have e3 := q0.sub.get q3
    rw [e_store_p _ _ _ _ _ _ _ e3]
    try simp [q_load_p, upd_apply]
    have q4 := q0.store (.cells (tree u).cells) q3
    refine Just.conv (Conv.trans (Conv.tup (Conv.cons q4.freeze (Conv.sub q4.sub))) (Conv.sub (qs.put hb3.2.2)))
theorem h_impl_longForm (head a : Tr) (ha : a.isSimple = true) (hsz : a.size ≤ 1000000) (hh : head.size ≤ 1000000) (st : St) : HCalls prog n_impl_longForm [tree head, tree a] st (Just (tree (longForm head a)) st) := by
  induction hn : SizeOf.sizeOf a using Nat.strongRecOn generalizing head a st with
  | _ N ih =>
  have hargs := Tr.args_size a ha
  apply c_impl_longForm
  unfold b_impl_longForm
  refine e_box_ref (tree_isJunk _) ?_
  refine e_box_ref (tree_isJunk _) ?_
  intro b4 hb4
  generalize hv : longForm head a = v
  rw [longForm_eq] at hv
  try simp
  refine callK_just (h_impl_takes a ha hsz _) ?_
  try simp
  intro b6 hb6
  simp only [upd_none] at hb6
  try simp [q_load_p, upd_apply, hb6]
  refine callK_own (h_impl_lift_own head 0 _ (W_in (by omega)) (by omega) _) fun q s hg => ?_
  have hlk : (head.lift 0 (a.args.length : Int)).kids.length ≤ 1000000 := by have := head.kids_len; simp; omega
  generalize hout : head.lift 0 (a.args.length : Int) = out at hv hlk hg ⊢
  intro b8 hb8
  have hqc := hg.cellOK
  try simp [upd_apply, q_load_p, hqc]
  have hw : IntKind.i64.wrap ((a.args.length : Int) - 1) = (a.args.length : Int) - 1 := wrap64 (by omega) (by omega)
  have hz4 : (PV.sl 0 true []) = PV.sl 0 true [] := rfl
  generalize hs0 : upd (upd st b4 (HObj.cells [PV.int IntKind.i64 0, PV.int IntKind.i64 0, PV.str [], PV.sl 0 true []])) b6 (HObj.cells (tree a.target).cells) = s0 at hg
  have k4 : s0 b4 = some (HObj.cells [PV.int IntKind.i64 0, PV.int IntKind.i64 0, PV.str [], PV.sl 0 true []]) := by subst hs0; simp [upd_apply, hb6]
  have ks : Sub st s0 := by subst hs0; exact (Sub.refl _).fresh hb4 |>.fresh hb6.2.2
  have hb80 := hg.sub.isNone hb8
  have n48 := ne_of k4 hb80
  have g1 := hg.beside (c := b8) (.cells [.int .i64 out.kind, .int .i64 out.n, .str out.name, q]) hb8
  refine loop_idx (β := St × St × PV) a.args (fun z i => [.int .i64 (i : Int)]) (fun z => z.1)
    (fun z i rest => Grow z.2.1 4 ((out.kids ++ (a.args.mapIdx fun i b => longForm (Tr.var (W (W (a.args.length - 1) - i)) []) b).take i).map tree) z.2.2 z.1 ∧ z.2.1 b8 = some (.cells [.int .i64 out.kind, .int .i64 out.n, .str out.name, z.2.2]) ∧ z.2.1 b4 = some (HObj.cells [PV.int IntKind.i64 0, PV.int IntKind.i64 0, PV.str [], PV.sl 0 true []]) ∧ Sub st z.2.1) ?_ ?_
    (upd s b8 (.cells [.int .i64 out.kind, .int .i64 out.n, .str out.name, q]), upd s0 b8 (.cells [.int .i64 out.kind, .int .i64 out.n, .str out.name, q]), q) ⟨by simpa using g1, by simp [upd_apply], by simp [upd_apply, n48, k4], ks.put (ks.isNone hb80)⟩
  · rintro i x rest ⟨s, sb, q⟩ hi hx ⟨q0, q8, q4, qs⟩ k
    simp only at q0 q8 q4 qs
    try simp [hi, ia_tree _ hx]
    intro c hc
    have hc2 := q0.sub.isNone hc
    have e8 := q0.sub.get q8
    have n8c := ne_of e8 hc
    have n4c := ne_of q4 hc2
    have hqc := q0.cellOK
    have hq1 : q.isAgg = false ∧ takeV false 1 [q] = some q := by
      rcases q0 with ⟨_, ⟨e, rfl⟩, _⟩ | ⟨b, cap, rfl, _⟩ <;> exact ⟨rfl, rfl⟩
    have hwi : IntKind.i64.wrap ((a.args.length : Int) - 1 - (i : Int)) = (a.args.length : Int) - 1 - (i : Int) := wrap64 (by omega) (by omega)
    try simp [q_load_p, upd_apply, n8c, e8, hq1]
    refine callK_just (h_impl_variable0 _ _) ?_
    try simp [q_load_p, upd_apply, n8c, e8, hq1]
    have hxa : x ∈ a.args := List.mem_of_getElem? hx
    have hxs : x.size ≤ 1000000 := by have := Tr.sizes_mem hxa; omega
    refine callK_just (ih _ (by rw [← hn]; exact Tr.args_lt a x hxa) _ x (Tr.args_simple a ha x hxa) hxs (by simp [Tr.var, Tr.size_eq]) _ rfl) ?_
    try simp [q_load_p, upd_apply, n8c, e8, hq1]
    have q0' := q0.beside (c := c) (.cells (tree x).cells) hc
    refine q0'.append (elems_sl _ _ _ _) (by simp; omega) fun q2 s2 hg2 => ?_
    have q8' : upd sb c (.cells (tree x).cells) b8 = some (.cells [.int .i64 out.kind, .int .i64 out.n, .str out.name, q]) := by simp [upd_apply, n8c, q8]
    have e8' := hg2.sub.get q8'
    rw [e_store_p _ _ _ _ _ _ _ e8']
    have hqc2 := hg2.cellOK
    have hqj : q2.cells = [q2] ∧ q2.ncells = 1 ∧ q2.isJunk = false := by
      rcases hg2 with ⟨_, ⟨e, rfl⟩, _⟩ | ⟨b, cap, rfl, _⟩ <;> exact ⟨rfl, rfl, rfl⟩
    try simp [hqj, hqc2]
    rw [W_idx hi (by unfold maxLen; omega)]
    refine k (upd s2 b8 (.cells [.int .i64 out.kind, .int .i64 out.n, .str out.name, q2]), upd (upd sb c (.cells (tree x).cells)) b8 (.cells [.int .i64 out.kind, .int .i64 out.n, .str out.name, q2]), q2) ⟨?_, ?_, ?_, ?_⟩
    · have := hg2.store (.cells [.int .i64 out.kind, .int .i64 out.n, .str out.name, q2]) q8'
      simp only
      have hel : longForm (Tr.var (W (W ((a.args.length : Int) - 1) - (i : Int))) []) x = longForm (Tr.var (IntKind.i64.wrap (IntKind.i64.wrap ((a.args.length : Int) - 1) - (i : Int))) []) x := rfl
      rw [mapIdx_snoc _ _ _ hx, hel]
      simpa using this
    · simp [upd_apply]
    · simp [upd_apply, n4c, n48, q4]
    · exact (qs.put (qs.isNone hc2)).put (ks.isNone hb80)
  · rintro ⟨s, sb, q⟩ ⟨q0, q8, q4, qs⟩
    simp only at q0 q8 q4 qs
    try simp
    rw [List.take_of_length_le (by simp)] at q0
    generalize hT : Tr.mk out.kind out.n out.name (out.kids ++ List.mapIdx (fun i b => longForm (Tr.var (W (W (a.args.length - 1) - i)) []) b) a.args) = T
    have hout2 : lams a.args.length T = v := by
      rw [← hT, ← hv]
      congr 2
      · rw [← hout, Tr.lift_eq]; rfl
      · rw [← hout, Tr.lift_eq]; rfl
    have hTk : T.kind = out.kind ∧ T.n = out.n ∧ T.name = out.name ∧ T.kids = out.kids ++ List.mapIdx (fun i b => longForm (Tr.var (W (W (a.args.length - 1) - i)) []) b) a.args := by rw [← hT]; exact ⟨rfl, rfl, rfl, rfl⟩
    rw [← hTk.2.2.2] at q0
    rw [← hTk.1, ← hTk.2.1, ← hTk.2.2.1] at q8
    refine hFix_rec (σ := Nat × St × St × PV × Tr) (fun z => a.args.length - z.1) (fun z => [.int .i64 (z.1 : Int)]) (fun z => z.2.1)
      (fun z => z.1 ≤ a.args.length ∧ GrowF z.2.2.1 4 (z.2.2.2.2.kids.map tree) z.2.2.2.1 z.2.1 ∧ z.2.2.1 b8 = some (.cells [.int .i64 z.2.2.2.2.kind, .int .i64 z.2.2.2.2.n, .str z.2.2.2.2.name, z.2.2.2.1]) ∧ z.2.2.1 b4 = some (HObj.cells [PV.int IntKind.i64 0, PV.int IntKind.i64 0, PV.str [], PV.sl 0 true []]) ∧
        Sub st z.2.2.1 ∧ lams (a.args.length - z.1) z.2.2.2.2 = v) ?_
      (0, s, sb, q, T) ⟨by simp, .inl q0, q8, q4, qs, hout2⟩
    rintro ⟨m, s, sb, q, t⟩ ⟨rm, rg, r8, r4, rs, rl⟩ ihm
    simp only at rm rg r8 r4 rs rl
    have e8 := rg.sub.get r8
    have e4 := rg.sub.get r4
    have hqc := rg.cellOK
    try simp
    refine br_dec (fun hm => ?_) (fun hm => ?_)
    · simp [q_load_p e8]
      refine callK_conv rg.tree ?_
      refine callK_just (h_impl_lam t _) ?_
      rw [e_store_p _ _ _ _ _ _ _ r8]
      try simp
      rw [show IntKind.i64.wrap ((m : Int) + 1) = ((m + 1 : Nat) : Int) by rw [wrap64 (by omega) (by omega)]; omega]
      have hs : upd sb b8 (.cells (tree (Tr.lam t)).cells) b4 = some (HObj.cells [PV.int IntKind.i64 0, PV.int IntKind.i64 0, PV.str [], PV.sl 0 true []]) := by simp [upd_apply, n48, r4]
      refine ihm (m + 1, upd sb b8 (.cells (tree (Tr.lam t)).cells), upd sb b8 (.cells (tree (Tr.lam t)).cells), .sl 4 false ((Tr.lam t).kids.map tree), Tr.lam t) (by simp only; omega)
        ⟨by simp only; omega, .inr ⟨rfl, rfl⟩, by simp only; rw [upd_same, tree_cells], hs, rs.put (ks.isNone hb80), ?_⟩
      rw [← rl]
      simp only
      rw [show a.args.length - m = (a.args.length - (m + 1)) + 1 by omega]
      rfl
    · have : m = a.args.length := by omega
      subst this
      simp only [Nat.sub_self, lams] at rl
      subst rl
      try simp [q_load_p e8]
      rw [e_store_p _ _ _ _ _ _ _ e4]
      try simp [hqc, q_load_p, upd_apply]
      exact Just.conv (Conv.trans (GrowF.tree (rg.store _ r4)) (Conv.sub (rs.put hb4)))
/-- All nodes of a tree are asked. -/
theorem h_impl_Tree_each (p : Tr → Int → Bool) (g : FuncId) (us vs : List PV) (t : Tr) (d : Int) (hsz : t.size ≤ 1000000000000) (I : Tr → Prop) (hI : ∀ t, I t → ∀ x ∈ t.kids, I x) (hit : I t) (st : St)
    (hg : ∀ (t : Tr) (d : Int), I t → HCalls prog g (us ++ [.ref (tree t).cells, .int .i64 d] ++ vs) st (Just (.bool (p t d)) st)) :
    HCalls prog n_impl_Tree_each [.ref (tree t).cells, .int .i64 d, .fn (.func g) us vs] st (Just (.bool (eachT p t d)) st) := by
  induction t using Tr.ind generalizing d with
  | _ t ih =>
  have hl := t.kids_len
  apply c_impl_Tree_each
  unfold b_impl_Tree_each
  generalize hv : eachT p t d = v
  rw [eachT_eq] at hv
  try simp
  refine callK_just (by simpa using hg t d hit) ?_
  try simp
  refine br_of (fun h => Just.bool (by rw [← hv, h]; rfl)) (fun h => ?_)
  rw [h, Bool.false_or] at hv
  refine loop_idx (β := Unit) t.kids (fun _ i => [.int .i64 (i : Int)]) (fun _ => st) (fun _ i rest => ((t.kids.mapIdx fun i x => eachT p x (W (d + t.under i))).drop i).any id = v) ?_ ?_ () hv
  · intro i x rest _ hi hx hq k
    have hxm := List.mem_of_getElem? hx
    rw [drop_mapIdx _ _ _ hx, List.any_cons] at hq
    try simp [hi, ia_tree _ hx]
    refine callK_just (h_impl_Tree_under t i (PT.ref _ _)) ?_
    try simp
    refine callK_just (ih x hxm _ (by have := Tr.kid_size hxm; omega) (hI t hit x hxm)) ?_
    try simp
    refine br_of (fun h => Just.bool (by rw [← hq]; simp [h])) (fun h => ?_)
    rw [W_idx hi (by unfold maxLen; omega)]
    exact k () (by rw [← hq]; simp [h])
  · intro _ hq
    try simp
    refine Just.bool ?_
    rw [← hq, List.drop_of_length_le (by simp)]
    rfl
end Go.H.Tryz
/- Contracts: trees that are too big, copies, results that may be ended by a halt; long forms. -/
set_option linter.unusedVariables false
set_option linter.unusedSimpArgs false
namespace Go.H.Tryz
open Go Go.H

/-- A truth, and a counter. -/
def Cnt (b : Nat) (c : Int) (v : Bool) (st : St) : Res → St → Prop := fun r s => s = upd st b (.cells [.int .i64 c]) ∧ r = .ret (.bool v)
theorem Cnt.mk {b : Nat} {c : Int} {v w : Bool} {st st1 : St} (e : w = v) (h : Sub (upd st b (.cells [.int .i64 c])) st1) : retR (Cnt b c v st) (.bool w) st1 := by subst e; exact retR_sub h ⟨rfl, rfl⟩
theorem h_impl_tooBig_1 (t : Tr) (d c : Int) (hc : 0 ≤ c ∧ c ≤ 1000) (b : Nat) (st : St) (hb : st b = some (.cells [.int .i64 c])) :
    HCalls prog n_impl_tooBig_1 [.ref (tree t).cells, .int .i64 d, .ptr b 0] st (Cnt b (c + 1) (decide (150 < c + 1) || (decide (t.kind = 5) && decide (100 < t.n))) st) := by
  apply c_impl_tooBig_1
  unfold b_impl_tooBig_1
  generalize hv : (decide (150 < c + 1) || (decide (t.kind = 5) && decide (100 < t.n))) = v
  have hw : IntKind.i64.wrap (c + 1) = c + 1 := wrap64 (by omega) (by omega)
  try simp [q_load_p hb]
  rw [hw, e_store_p _ _ _ _ _ _ _ hb]
  try simp [q_load_p (upd_same _ _ _)]
  refine br_dec (fun h => Cnt.mk (by rw [← hv, decide_eq_true h]; rfl) (Sub.refl _)) (fun h => ?_)
  rw [decide_eq_false h, Bool.false_or] at hv
  refine br_dec (fun h5 => Cnt.mk (by rw [← hv, decide_eq_true h5]; rfl) (Sub.refl _)) (fun h5 => Cnt.mk (by rw [← hv, decide_eq_false h5]; rfl) (Sub.refl _))
/-- A tree is counted through. -/
def Counts (b : Nat) (c : Int) (t : Tr) (st : St) : Res → St → Prop := fun r s => ∃ c', s = upd st b (.cells [.int .i64 c']) ∧ ((countOK c t ∧ c' = c + t.size ∧ r = .ret (.bool false)) ∨ (¬ countOK c t ∧ r = .ret (.bool true)))
theorem h_impl_Tree_count (t : Tr) (d c : Int) (hc : 0 ≤ c ∧ c ≤ 150) (hsz : t.size ≤ 1000000000) (b : Nat) (st : St) (hb : st b = some (.cells [.int .i64 c])) :
    HCalls prog n_impl_Tree_each [.ref (tree t).cells, .int .i64 d, .fn (.func n_impl_tooBig_1) [] [.ptr b 0]] st (Counts b c t st) := by
  induction t using Tr.ind generalizing d c st with
  | _ t ih =>
  have hl := t.kids_len
  apply c_impl_Tree_each
  unfold b_impl_Tree_each
  generalize hR : Counts b c t st = R
  try simp
  refine callK_of (h_impl_tooBig_1 t d c (by omega) b st hb) (fun p s h => ?_) (fun p s h => by cases h.2)
  obtain ⟨rfl, h⟩ := h
  cases h
  try simp
  have hpos := t.size_pos
  have yes : ∀ c', ¬ countOK c t → retR R (.bool true) (upd st b (.cells [.int .i64 c'])) := fun c' h => by
    rw [← hR]
    exact retR_sub (Sub.refl _) ⟨c', rfl, .inr ⟨h, rfl⟩⟩
  refine br_of (fun h => yes _ ?_) (fun h => ?_)
  · simp only [Bool.or_eq_true, Bool.and_eq_true, decide_eq_true_eq] at h
    rintro ⟨h1, h2⟩
    rw [Tr.high_eq] at h2
    simp only [Bool.or_eq_false_iff, Bool.and_eq_false_iff, decide_eq_false_iff_not] at h2
    omega
  · simp only [Bool.or_eq_false_iff, Bool.and_eq_false_iff, decide_eq_false_iff_not] at h
    refine loop_idx (β := Int) t.kids (fun _ i => [.int .i64 (i : Int)]) (fun c' => upd st b (.cells [.int .i64 c'])) (fun c' i rest => 0 ≤ c' ∧ c' ≤ 150 ∧ c' + Tr.sizes rest = c + t.size ∧ (t.kids.any Tr.high = rest.any Tr.high)) ?_ ?_ (c + 1) ⟨by omega, by omega, by rw [Tr.size_kids t]; omega, rfl⟩
    · rintro i x rest c' hi hx ⟨h1, h2, h3, h4⟩ kk
      have hxm := List.mem_of_getElem? hx
      try simp [hi, ia_tree _ hx]
      refine callK_just (h_impl_Tree_under t i (PT.ref _ _)) ?_
      try simp
      refine callK_of (ih x hxm _ c' ⟨h1, h2⟩ (by have := Tr.kid_size hxm; omega) _ (upd_same _ _ _)) (fun p s hp => ?_) (fun p s hp => ?_)
      · obtain ⟨c2, rfl, hp⟩ := hp
        simp only [Tr.sizes, List.map_cons, List.sum_cons] at h3
        simp only [List.any_cons] at h4
        rcases hp with ⟨⟨g1, g2⟩, rfl, hp⟩ | ⟨g, hp⟩
        · cases hp
          try simp
          rw [W_idx hi (by unfold maxLen; omega)]
          exact kk (c' + x.size) ⟨by omega, by omega, by simp only [Tr.sizes]; omega, by rw [h4, g2, Bool.false_or]⟩
        · cases hp
          try simp
          refine yes _ ?_
          rintro ⟨k1, k2⟩
          rw [Tr.high_eq, h4] at k2
          simp only [Bool.or_eq_false_iff] at k2
          exact g ⟨by omega, k2.2.1⟩
      · obtain ⟨_, _, ⟨_, _, hp⟩ | ⟨_, hp⟩⟩ := hp <;> cases hp
    · rintro c' ⟨h1, h2, h3, h4⟩
      try simp
      rw [← hR]
      refine retR_sub (Sub.refl _) ⟨c', rfl, .inl ⟨⟨?_, ?_⟩, ?_, rfl⟩⟩
      · simp [Tr.sizes] at h3; omega
      · rw [Tr.high_eq, h4]; simp
        intro h5
        rcases h.2 with g | g
        · exact absurd h5 g
        · omega
      · simp [Tr.sizes] at h3; omega
theorem h_impl_tooBig (t : Tr) (hsz : t.size ≤ 1000000000) (st : St) : HCalls prog n_impl_tooBig [tree t] st (Just (.bool t.big) st) := by
  apply c_impl_tooBig
  unfold b_impl_tooBig
  refine e_box_ref (tree_isJunk _) ?_
  intro b hb
  try simp
  refine callK_of (h_impl_Tree_count t 0 0 (by omega) hsz b _ (upd_same _ _ _)) (fun p s h => ?_) (fun p s h => ?_)
  · obtain ⟨c', rfl, ⟨⟨h1, h2⟩, _, h⟩ | ⟨h1, h⟩⟩ := h
    · cases h
      exact Just.bool (by unfold Tr.big Tr.small; rw [h2, decide_eq_true (by omega)]; rfl) (by simpa using (Sub.refl st).put hb)
    · cases h
      refine Just.bool ?_ (by simpa using (Sub.refl st).put hb)
      unfold Tr.big Tr.small
      by_cases hs : t.size ≤ 150
      · rw [decide_eq_true hs]
        cases hh : t.high with
        | true => rfl
        | false => exact absurd ⟨by omega, hh⟩ h1
      · rw [decide_eq_false hs]; rfl
  · obtain ⟨_, _, ⟨_, _, hp⟩ | ⟨_, hp⟩⟩ := h <;> cases hp
theorem h_impl_clone (t : Tr) (hsz : t.size ≤ 1000000000) (st : St) : HCalls prog n_impl_clone [tree t] st (Just (tree t) st) := by
  induction t using Tr.ind generalizing st with
  | _ t ih =>
  have hl := t.kids_len
  apply c_impl_clone
  unfold b_impl_clone
  refine e_box_own (tree_isJunk _) fun b1 hb1 => ?_
  intro b2 hb2
  have hne : b1 ≠ b2 := fun e => by rw [← e, upd_same] at hb2; cases hb2
  rw [upd_ne _ _ hne.symm] at hb2
  generalize hs : upd (upd st b1 (.cells (tree t).cells)) b2 (.cells [.int .i64 0, .int .i64 0, .str [], .sl 0 true []]) = s
  have e1 : s b1 = some (.cells (tree t).cells) := by rw [← hs, upd_ne _ _ hne]; exact upd_same _ _ _
  have e2 : s b2 = some (.cells [.int .i64 0, .int .i64 0, .str [], .sl 0 true []]) := by rw [← hs]; exact upd_same _ _ _
  have hsub : Sub st s := by
    rw [← hs]
    refine ((Sub.refl st).put hb1).put hb2
  clear hs
  try simp [q_load_p e1]
  have hall : HCalls prog n_impl_cloneAll [trees t.kids] s (Just (trees t.kids) s) := by
    apply c_impl_cloneAll
    unfold b_impl_cloneAll
    try simp
    refine loop_idx (β := PV × St × St) t.kids (fun z i => [z.1, .int .i64 (i : Int)]) (fun z => z.2.1) (fun z i rest => Grow z.2.2 4 ((t.kids.take i).map tree) z.1 z.2.1 ∧ Sub s z.2.2) ?_ ?_ (_, s, s) ⟨Grow.nil _ _ _, Sub.refl _⟩
    · rintro i x rest ⟨p, s1, s0⟩ hi hx ⟨q0, qs⟩ kk
      simp only at q0 qs
      have hxm := List.mem_of_getElem? hx
      try simp [hi, ia_tree _ hx]
      intro b5 hb5
      have q1 := q0.beside (.cells (tree x).cells) hb5
      try simp [q_load_p (upd_same _ _ _)]
      refine callK_just (ih x hxm (by have := Tr.kid_size hxm; omega) _) ?_
      try simp
      refine q1.append (elems_sl _ _ _ _) (by simp; omega) fun p' s' hg => ?_
      try simp
      rw [W_idx hi (by unfold maxLen; omega)]
      refine kk (p', s', upd s0 b5 (.cells (tree x).cells)) ⟨?_, qs.put (qs.isNone (q0.sub.isNone hb5))⟩
      rw [List.take_add_one, hx]
      simpa using hg
    · rintro ⟨p, s1, s0⟩ ⟨q0, qs⟩
      try simp
      rw [List.take_length] at q0
      exact Just.conv (Conv.trans q0.freeze (Conv.sub qs))
  refine callK_just hall ?_
  try simp
  rw [e_store_p _ _ _ _ _ _ _ e1]
  try simp [q_load_p (upd_same _ _ _)]
  rw [← Tr.eta]
  have hne2 : b2 ≠ b1 := fun e => hne e.symm
  have e3 : ∀ o, upd s b1 o b2 = some (.cells [.int .i64 0, .int .i64 0, .str [], .sl 0 true []]) := fun o => by rw [upd_ne _ _ hne2]; exact e2
  rw [e_store_p _ _ _ _ _ _ _ (e3 _)]
  try simp [q_load_p (upd_same _ _ _)]
  refine Just.ret ?_
  refine (hsub.put hb1).put hb2
theorem h_impl_formed (t : Tr) (hsz : t.size ≤ 1000000000) (st : St) : HCalls prog n_impl_formed [tree t] st (Heads ty_impl_halt (if t.big = true then .inl 11 else .inr t) st) := by
  apply c_impl_formed
  unfold b_impl_formed
  generalize hv : (if t.big = true then (Sum.inl 11 : Int ⊕ Tr) else .inr t) = v
  refine e_box_ref (tree_isJunk _) ?_
  intro b2 hb2
  have hsub : ∀ o, Sub st (upd st b2 o) := fun o => (Sub.refl st).put hb2
  try simp
  refine callK_just (h_impl_tooBig t hsz _) ?_
  try simp
  refine br_of (fun h => ?_) (fun h => ?_)
  · rw [if_pos h] at hv
    exact callK_stops (h_impl_stop 11 0 (by omega) _) (fun h => by omega) (fun _ => Heads.pan hv.symm (hsub _))
  · rw [if_neg (by rw [h]; simp)] at hv
    try simp [q_load_p (upd_same _ _ _)]
    exact Heads.ret hv.symm (hsub _)
theorem h_impl_long (n : Int) (a : Tr) (ha : a.isSimple = true) (hsz : a.size ≤ 1000000) (hl : (longForm (Tr.var n []) a).size ≤ 1000000000) (st : St) :
    HCalls prog n_impl_long [.int .i64 n, tree a] st (Heads ty_impl_halt (if (longForm (Tr.var n []) a).big = true then .inl 11 else .inr (longForm (Tr.var n []) a)) st) := by
  apply c_impl_long
  unfold b_impl_long
  refine e_box_ref (tree_isJunk _) ?_
  intro b4 hb4
  have hsub : ∀ o, Sub st (upd st b4 o) := fun o => (Sub.refl st).put hb4
  try simp
  refine callK_just (h_impl_variable0 n _) ?_
  try simp
  refine callK_just (h_impl_longForm _ a ha hsz (by rw [Tr.size_eq]; simp [Tr.var]) _) ?_
  refine callK_heads (h_impl_formed _ hl _) (fun b hb => ?_) (fun c hc => Heads.pan hc (hsub _))
  try simp
  try simp [q_load_p (upd_same _ _ _)]
  exact Heads.ret hb (hsub _)
/-- What comes of something: a tree and nought, or an empty tree and what is wrong. -/
def Result (x : Int ⊕ Tr) (st : St) : Res → St → Prop := match x with
  | .inr t => Just (.tup [tree t, .int .i64 0]) st
  | .inl c => Just (.tup [tree noTree, .int .i64 c]) st
/-- A place is set, or it ends by a halt. -/
def SetTo (h : TypeId) (b : Nat) (x : Int ⊕ Tr) (s : St) : Res → St → Prop := fun r s' => (∃ t, x = .inr t ∧ r = .ret (.tup []) ∧ s' = upd s b (.cells (tree t).cells)) ∨ (∃ c, x = .inl c ∧ r = .pan (halt h c 0) ∧ s' = s)
theorem h_impl_result_1 (g : FuncId) (caps : List PV) (x : Int ⊕ Tr) (b : Nat) (s : St) (z : List PV) (hb : s b = some (.cells z)) (hz : z.length = 4) (hc : HCalls prog g caps s (Heads ty_impl_halt x s)) :
    HCalls prog n_impl_result_1 [.ref [.fn (.func g) [] caps], .ptr b 0] s (SetTo ty_impl_halt b x s) := by
  apply c_impl_result_1
  unfold b_impl_result_1
  have e1 : takeV false 1 [PV.fn (.func g) [] caps] = some (.fn (.func g) [] caps) := rfl
  try simp [e1]
  refine callK_heads hc (fun t ht => ?_) (fun c hc => ?_)
  · rw [e_store_p _ _ _ _ _ _ _ hb]
    have e2 : setRange z 0 (tree t).cells = (tree t).cells := by
      match z, hz with
      | [z0, z1, z2, z3], _ => simp
    try simp [hz, e2]
    exact retR_sub (Sub.refl _) (.inl ⟨t, ht, rfl, rfl⟩)
  · exact panR_conv (Conv.sub (Sub.refl _)) (.inr ⟨c, hc, rfl, rfl⟩)
theorem h_impl_result (g : FuncId) (caps : List PV) (x : Int ⊕ Tr) (hx : ∀ c, x = .inl c → c ≠ 0) (hsz : ∀ t, x = .inr t → t.size ≤ 1000000000) (st : St) (hc : ∀ s, Sub st s → HCalls prog g caps s (Heads ty_impl_halt x s)) :
    HCalls prog n_impl_result [.fn (.func g) [] caps] st (Result x st) := by
  apply c_impl_result
  unfold b_impl_result
  refine e_box_ref rfl ?_
  intro b2 hb2
  try simp
  intro b4 hb4
  have hne : b2 ≠ b4 := fun e => by rw [← e, upd_same] at hb4; cases hb4
  rw [upd_ne _ _ hne.symm] at hb4
  try simp
  generalize hs : upd (upd st b2 (.cells [.int .i64 0, .int .i64 0, .str [], .sl 0 true []])) b4 (.cells [.int .i64 0, .int .i64 0, .str [], .sl 0 true []]) = s
  have e2 : s b2 = some (.cells [.int .i64 0, .int .i64 0, .str [], .sl 0 true []]) := by rw [← hs, upd_ne _ _ hne]; exact upd_same _ _ _
  have e4 : s b4 = some (.cells [.int .i64 0, .int .i64 0, .str [], .sl 0 true []]) := by rw [← hs]; exact upd_same _ _ _
  have hsub : Sub st s := by rw [← hs]; exact ((Sub.refl st).put hb2).put hb4
  clear hs
  refine callK_of (h_impl_caught n_impl_result_1 [.ref [.fn (.func g) [] caps], .ptr b4 0] s (fun c p s' => (∃ t, x = .inr t ∧ c = 0 ∧ s' = upd s b4 (.cells (tree t).cells)) ∨ (x = .inl c ∧ s' = s)) (fun b hb => ?_)) (fun p s' h => ?_) (fun p s' h => ?_)
  · have hne4 : b4 ≠ b := fun e => by rw [← e, e4] at hb; cases hb
    refine (h_impl_result_1 g caps x b4 _ _ (by rw [upd_ne _ _ hne4]; exact e4) rfl (hc _ (hsub.put (hsub.isNone hb)))).mono fun r s' h => ?_
    rcases h with ⟨t, ht, rfl, rfl⟩ | ⟨c, hc, rfl, rfl⟩
    · exact ⟨upd s b4 (.cells (tree t).cells), by rw [upd_ne _ _ hne4.symm]; exact hb, upd_comm _ _ _ hne4.symm, .inl ⟨rfl, .inl ⟨t, ht, rfl, rfl⟩⟩⟩
    · exact ⟨s, hb, rfl, .inr ⟨c, 0, rfl, .inr ⟨hc, rfl⟩⟩⟩
  · obtain ⟨c, p', h, hq⟩ := h
    cases h
    rcases hq with ⟨t, ht, rfl, rfl⟩ | ⟨hc0, rfl⟩
    · intro b5 hb5
      have hne5 : b4 ≠ b5 := fun e => by rw [← e, upd_same] at hb5; cases hb5
      rw [upd_ne _ _ hne5.symm] at hb5
      have hne25 : b2 ≠ b5 := fun e => by rw [← e, e2] at hb5; cases hb5
      generalize hs2 : upd (upd s b4 (.cells (tree t).cells)) b5 (.cells [.int .i64 0, .int .i64 p']) = s2
      have f5 : s2 b5 = some (.cells [.int .i64 0, .int .i64 p']) := by rw [← hs2]; exact upd_same _ _ _
      have f4 : s2 b4 = some (.cells (tree t).cells) := by rw [← hs2, upd_ne _ _ hne5]; exact upd_same _ _ _
      have f2 : s2 b2 = some (.cells [.int .i64 0, .int .i64 0, .str [], .sl 0 true []]) := by rw [← hs2, upd_ne _ _ hne25, upd_ne _ _ hne]; exact e2
      have hsub2 : Sub st s2 := by rw [← hs2]; exact (hsub.put hb4).put (hsub.isNone hb5)
      try simp
      rw [hs2]
      try simp [q_load_p f5, q_load_p f4]
      refine callK_just (h_impl_clone t (hsz t ht) _) ?_
      rw [e_store_p _ _ _ _ _ _ _ f2]
      try simp [q_load_p (upd_same _ _ _)]
      unfold Result
      rw [ht]
      exact Just.ret (hsub2.put hb2)
    · intro b5 hb5
      have hne25 : b2 ≠ b5 := fun e => by rw [← e, e2] at hb5; cases hb5
      generalize hs2 : upd s' b5 (.cells [.int .i64 c, .int .i64 p']) = s2
      have f5 : s2 b5 = some (.cells [.int .i64 c, .int .i64 p']) := by rw [← hs2]; exact upd_same _ _ _
      have f2 : s2 b2 = some (.cells [.int .i64 0, .int .i64 0, .str [], .sl 0 true []]) := by rw [← hs2, upd_ne _ _ hne25]; exact e2
      have hsub2 : Sub st s2 := by rw [← hs2]; exact hsub.put (hsub.isNone hb5)
      have hc00 := hx c hc0
      try simp
      rw [hs2]
      try simp [q_load_p f5, hc00]
      rw [show q_struct [PV.int IntKind.i64 0, PV.int IntKind.i64 0, PV.str [], PV.sl 0 true []] [] = some (.agg [.int .i64 0, .int .i64 0, .str [], .sl 0 true []]) from rfl]
      try simp
      rw [e_store_p _ _ _ _ _ _ _ f2]
      have f5' : ∀ o, upd s2 b2 o b5 = some (.cells [.int .i64 c, .int .i64 p']) := fun o => by rw [upd_ne _ _ hne25.symm]; exact f5
      try simp [q_load_p (upd_same _ _ _), q_load_p (f5' _)]
      unfold Result
      rw [hc0]
      refine Just.conv (Conv.trans (Conv.tup (Conv.cons (conv_tree _ 0 0 [] 0 true [] (.inr rfl)) (Conv.refl _ _))) (Conv.sub (hsub2.put hb2)))
  · obtain ⟨c, p', h, _⟩ := h
    cases h
theorem Result.zero {x : Int ⊕ Tr} {c : Int} {st st1 : St} (e : x = .inl c) (hs : Sub st st1) : retR (Result x st) (.tup [.agg [.int .i64 0, .int .i64 0, .str [], .sl 0 true []], .int .i64 c]) st1 := by
  subst e
  exact Just.conv (Conv.trans (Conv.tup (Conv.cons (conv_tree _ 0 0 [] 0 true [] (.inr rfl)) (Conv.refl _ _))) (Conv.sub hs))
theorem Result.ok {x : Int ⊕ Tr} {t : Tr} {st st1 : St} (e : x = .inr t) (hs : Sub st st1) : retR (Result x st) (.tup [tree t, .int .i64 0]) st1 := by
  subst e
  exact Just.ret hs
theorem Result.fail {x : Int ⊕ Tr} {c : Int} {st st1 : St} (e : x = .inl c) (hs : Sub st st1) : retR (Result x st) (.tup [tree noTree, .int .i64 c]) st1 := by
  subst e
  exact Just.ret hs
theorem callK_result {P : Program} {g : FuncId} {us : List PV} {st : St} {K Kp : PV → St → Prop} {x : Int ⊕ Tr} (hc : HCalls P g us st (Result x st)) (hy : ∀ t, x = .inr t → K (.tup [tree t, .int .i64 0]) st) (hn : ∀ c, x = .inl c → K (.tup [tree noTree, .int .i64 c]) st) : callK P g us st K Kp := by
  cases x with
  | inr t => exact callK_just hc (hy t rfl)
  | inl c => exact callK_just hc (hn c rfl)
theorem zeroTree : q_struct [PV.int IntKind.i64 0, PV.int IntKind.i64 0, PV.str [], PV.sl 0 true []] [] = some (.agg [.int .i64 0, .int .i64 0, .str [], .sl 0 true []]) := rfl
theorem h_impl_Long_1 (n : Int) (a : Tr) (ha : a.isSimple = true) (hsz : a.size ≤ 1000000) (st : St) :
    HCalls prog n_impl_Long_1 [.ref [.int .i64 n], .ref (tree a).cells] st (Heads ty_impl_halt (if (longForm (Tr.var n []) a).big = true then .inl 11 else .inr (longForm (Tr.var n []) a)) st) := by
  apply c_impl_Long_1
  unfold b_impl_Long_1
  intro b2 hb2
  try simp
  refine callK_heads (h_impl_long n a ha hsz (by rw [longV_size _ a rfl ha]; omega) _) (fun b hb => ?_) (fun c hc => Heads.pan hc ((Sub.refl st).put hb2))
  try simp [q_load_p (upd_same _ _ _)]
  exact Heads.ret hb ((Sub.refl st).put hb2)
theorem h_impl_Long (n : Int) (a : Tr) (st : St) : HCalls prog n_impl_Long [.int .i64 n, tree a] st (Result (longT n a) st) := by
  apply c_impl_Long
  unfold b_impl_Long
  generalize hv : longT n a = v
  unfold longT at hv
  refine e_box_ref rfl ?_
  refine e_box_ref (tree_isJunk _) ?_
  intro b4 hb4
  have hsub : ∀ o, Sub st (upd st b4 o) := fun o => (Sub.refl st).put hb4
  try simp
  refine callK_just (h_impl_badSimple a _) ?_
  try simp
  refine br_of (fun g => ?_) (fun g => ?_)
  · rw [g] at hv
    simp only [Bool.not_true, Bool.false_eq_true, if_false] at hv
    refine callK_just (h_impl_in n 0 100 _) ?_
    try simp
    refine br_of (fun h => ?_) (fun h => ?_)
    · rw [if_pos (by simp at h; omega)] at hv
      rw [zeroTree]
      try simp
      try simp [q_load_p (upd_same _ _ _)]
      exact Result.zero hv.symm (hsub _)
    · rw [if_neg (by simp at h; omega)] at hv
      have hs : a.isSimple = true ∧ a.size ≤ 150 := by
        unfold Tr.simpleOK Tr.small at g
        simp only [Bool.and_eq_true, decide_eq_true_eq] at g
        exact ⟨g.2, g.1⟩
      refine callK_result (h_impl_result n_impl_Long_1 [.ref [.int .i64 n], .ref (tree a).cells] v (fun c hc => ?_) (fun t ht => ?_) _ (fun s _ => ?_)) (fun t ht => ?_) (fun c hc => ?_)
      · rw [← hv] at hc
        split at hc <;> cases hc
        omega
      · rw [← hv] at ht
        split at ht <;> cases ht
        rw [longV_size _ a rfl hs.1]; omega
      · rw [← hv]; exact h_impl_Long_1 n a hs.1 (by omega) s
      · simp
        try simp [q_load_p (upd_same _ _ _)]
        exact Result.ok ht (hsub _)
      · simp
        try simp [q_load_p (upd_same _ _ _)]
        exact Result.fail hc (hsub _)
  · rw [g] at hv
    simp only [Bool.not_false, if_true] at hv
    rw [zeroTree]
    try simp
    try simp [q_load_p (upd_same _ _ _)]
    exact Result.zero hv.symm (hsub _)
end Go.H.Tryz
/- Contracts: what the reference and the laws draw out of bytes. -/
set_option linter.unusedVariables false
set_option linter.unusedSimpArgs false
namespace Go.H.Tryz
open Go Go.H

theorem h_laws_at (bs : List UInt8) (hl : bs.length ≤ 1000000000) (i n : Int) (hi : 0 ≤ i ∧ i ≤ 1000000) (hn : n ≤ 1000000) (st : St) : HCalls prog n_laws_at [bytesP bs, .int .i64 i, .int .i64 n] st (fun r s => s = st ∧ ∃ k : Int, r = .ret (.int .i64 k) ∧ 0 ≤ k ∧ (k < n ∨ k = 0)) := by
  apply c_laws_at
  unfold b_laws_at
  generalize hR : (fun (r : Res) (s : St) => s = st ∧ ∃ k : Int, r = .ret (.int .i64 k) ∧ 0 ≤ k ∧ (k < n ∨ k = 0)) = R
  have yes : ∀ k : Int, 0 ≤ k → (k < n ∨ k = 0) → retR R (.int .i64 k) st := fun k h1 h2 => by
    rw [← hR]; exact retR_sub (Sub.refl _) ⟨rfl, k, rfl, h1, h2⟩
  try simp
  refine br_dec (fun h => yes 0 (by omega) (by omega)) (fun h => ?_)
  have hn0 : n ≠ 0 := by omega
  refine br_dec (fun h0 => ?_) (fun h0 => ?_)
  · rw [wrap64 (by omega) (by omega)]
    rw [q_rem hn0]
    try simp
    exact yes _ (Int.tmod_nonneg _ (show (0:Int) ≤ i * 7 by omega)) (.inl (Int.tmod_lt_of_pos _ (by omega)))
  · have hpos : 0 < bs.length := by
      rcases Nat.eq_zero_or_pos bs.length with e | e
      · simp_all
      · exact e
    rw [q_rem_nat hi.1 hpos, wrap64 (by omega) (by omega), q_rem_nat (by omega) hpos, q_quo_nat hi.1 (by omega) hpos]
    have m1 := Nat.mod_lt i.toNat hpos
    have m2 := Nat.mod_lt (i + 1).toNat hpos
    simp only [qb_some, bytesP_ia m1, bytesP_ia m2]
    have b1 := byte_le bs[i.toNat % bs.length]
    have b2 := byte_le bs[(i + 1).toNat % bs.length]
    have c1 : (0 : Int) ≤ (bs[i.toNat % bs.length].toNat : Int) := Int.natCast_nonneg _
    have c2 : (0 : Int) ≤ (bs[(i + 1).toNat % bs.length].toNat : Int) := Int.natCast_nonneg _
    have c3 : (0 : Int) ≤ ((i.toNat / bs.length : Nat) : Int) := Int.natCast_nonneg _
    have d1 : i.toNat / bs.length ≤ i.toNat := Nat.div_le_self _ _
    have d2 : ((i.toNat / bs.length : Nat) : Int) ≤ (i.toNat : Int) := Int.ofNat_le.2 d1
    generalize (bs[i.toNat % bs.length].toNat : Int) = x at b1 c1
    generalize (bs[(i + 1).toNat % bs.length].toNat : Int) = y at b2 c2
    generalize ((i.toNat / bs.length : Nat) : Int) = z at d2 c3
    try simp [q_conv]
    rw [wrap64 (n := x) (by omega) (by omega), wrap64 (n := y) (by omega) (by omega), wrap64 (n := x * 31) (by omega) (by omega), wrap64 (n := x * 31 + y) (by omega) (by omega), wrap64 (n := x * 31 + y + z) (by omega) (by omega), q_rem hn0]
    try simp
    exact yes _ (Int.tmod_nonneg _ (show (0 : Int) ≤ x * 31 + y + z by omega)) (.inl (Int.tmod_lt_of_pos _ (by omega)))
theorem h_laws_same (a b : Tr) (st : St) : HCalls prog n_laws_same [tree a, tree b] st (Just (.bool (decide (a = b))) st) := by
  induction a using Tr.ind generalizing b st with
  | _ a ih =>
  refine HCalls.wf e_laws_same fun hw => ?_
  have hw := (tree_wf hw.1).1
  apply c_laws_same
  unfold b_laws_same
  generalize hv : decide (a = b) = v
  refine e_box_ref (tree_isJunk _) ?_
  refine e_box_ref (tree_isJunk _) ?_
  have he := Tr.ext_iff a b
  have no : ¬ (a.kind = b.kind ∧ a.n = b.n ∧ a.name = b.name ∧ a.kids = b.kids) → false = v := fun h => by rw [← hv, decide_eq_false (by rw [he]; exact h)]
  try simp
  refine br_dec (fun h1 => ?_) (fun h1 => Just.bool (no fun h => h1 h.1))
  refine br_dec (fun h2 => ?_) (fun h2 => Just.bool (no fun h => h2 h.2.1))
  refine br_dec (fun h3 => ?_) (fun h3 => Just.bool (no fun h => h3 h.2.2.1))
  refine br_dec (fun h4 => ?_) (fun h4 => Just.bool (no fun h => h4 (by rw [h.2.2.2])))
  refine loop_idx (β := Unit) a.kids (fun _ i => [.int .i64 (i : Int)]) (fun _ => st) (fun _ i rest => (a.kids = b.kids ↔ rest = b.kids.drop i)) ?_ ?_ () (by simp)
  · intro i x rest _ hi hx hq kk
    obtain ⟨y, hy⟩ : ∃ y, b.kids[i]? = some y := ⟨b.kids[i]'(by omega), List.getElem?_eq_getElem _⟩
    try simp [hi, ia_tree _ hx, ia_tree _ hy]
    refine callK_just (ih x (List.mem_of_getElem? hx) y _) ?_
    try simp
    rw [drop_some hy, List.cons.injEq] at hq
    refine br_dec (fun h => ?_) (fun h => Just.bool (no fun hh => h (hq.1 hh.2.2.2).1))
    rw [W_idx hi hw]
    exact kk () (by rw [hq]; simp [h])
  · intro _ hq
    try simp
    refine Just.bool ?_
    rw [← hv, decide_eq_true (he.2 ⟨h1, h2, h3, hq.2 ?_⟩)]
    rw [List.drop_of_length_le (by omega)]
theorem h_spec_l00Source (bs : List UInt8) (hl : bs.length ≤ 1000000000) (st : St) : HCalls prog n_spec_l00Source [bytesP bs] st (Begun bs st) := by
  apply c_spec_l00Source
  unfold b_spec_l00Source
  try simp
  rw [show q_int BinOp.rem IntKind.i64 (bs.length : Int) 1000 = some (.int .i64 (((bs.length % 1000 : Nat)) : Int)) from by
    have := q_rem_nat (i := (bs.length : Int)) (L := 1000) (by omega) (by omega)
    simpa using this]
  simp only [qb_some]
  rw [sourceLit]
  simp only [qb_some]
  refine e_box_own rfl fun b hb => ?_
  refine retR_sub (Sub.refl _) ⟨b, _, hb, rfl, rfl, ?_⟩
  have : bs.length % 1000 < 1000 := Nat.mod_lt _ (by omega)
  exact ⟨0, _, upd_same _ _ _, by omega, by omega, by omega, by omega⟩
theorem h_spec_l00Src_byte (bs : List UInt8) (hl : bs.length ≤ 1000000000) (M : Int) (hM : M ≤ 1000000000) (b : Nat) (st : St) (hs : Src bs M b st) : HCalls prog n_spec_l00Src_byte [.ptr b 0] st (Drew bs (M + 1) b (fun p => ∃ k : Int, p = .int .i64 k ∧ 0 ≤ k ∧ k ≤ 255) st) := by
  apply c_spec_l00Src_byte
  unfold b_spec_l00Src_byte
  obtain ⟨a, s, h1, h2, h3, h4, h5⟩ := hs.is
  try simp [q_nil, q_load_p h1]
  rw [wrap64 (by omega) (by omega), e_store_p _ _ _ _ _ _ _ h1]
  try simp [q_load_p (upd_same _ _ _)]
  refine br_dec (fun hle => ?_) (fun hle => ?_)
  · have hi : a.toNat < bs.length := by omega
    have ea : IntKind.i64.wrap a = ((a.toNat : Nat) : Int) := by rw [wrap64 (by omega) (by omega)]; omega
    rw [ea, bytesP_ia hi]
    have b1 := byte_le bs[a.toNat]
    have b0 : (0 : Int) ≤ (bs[a.toNat].toNat : Int) := Int.natCast_nonneg _
    try simp [q_conv]
    generalize hx : (bs[a.toNat].toNat : Int) = x at b1 b0
    rw [wrap64 (n := x) (by omega) (by omega), wrap64 (n := s * 31) (by omega) (by omega), wrap64 (n := s * 31 + x) (by omega) (by omega), wrap64 (n := s * 31 + x + 7) (by omega) (by omega), q_rem (by omega)]
    try simp [q_load_p (upd_same _ _ _)]
    rw [ea, bytesP_ia hi]
    try simp
    rw [hx, wrap64 (n := x) (by omega) (by omega)]
    refine Drew.mk ⟨x, rfl, b0, b1⟩ (Src.mk' (by omega) (by omega) (Int.tmod_nonneg _ (show (0 : Int) ≤ s * 31 + x + 7 by omega)) (Int.tmod_lt_of_pos _ (by omega))) (Sub.refl _)
  · refine br_dec (fun hgt => Drew.mk ⟨0, rfl, by omega, by omega⟩ (Src.mk' (by omega) (by omega) h4 h5) (Sub.refl _)) (fun hgt => ?_)
    rw [wrap64 (n := s * 1103515245) (by omega) (by omega), wrap64 (n := s * 1103515245 + 12345) (by omega) (by omega), q_rem (by omega)]
    have t0 := Int.tmod_nonneg 2147483648 (show (0 : Int) ≤ s * 1103515245 + 12345 by omega)
    have t1 := Int.tmod_lt_of_pos (s * 1103515245 + 12345) (show (0 : Int) < 2147483648 by omega)
    generalize (s * 1103515245 + 12345).tmod 2147483648 = y at t0 t1
    try simp [q_load_p (upd_same _ _ _)]
    rw [show (65536 : Int) = ((65536 : Nat) : Int) from rfl, q_quo_nat t0 (by omega) (by omega)]
    simp only [qb_some, q_bin_int]
    have d0 : (0 : Int) ≤ ((y.toNat / 65536 : Nat) : Int) := Int.natCast_nonneg _
    generalize ((y.toNat / 65536 : Nat) : Int) = z at d0
    rw [q_rem (by omega)]
    try simp
    have u0 := Int.tmod_nonneg 256 d0
    have u1 := Int.tmod_lt_of_pos z (show (0 : Int) < 256 by omega)
    exact Drew.mk ⟨_, rfl, u0, by omega⟩ (Src.mk' (by omega) (by omega) t0 t1) (Sub.refl _)
theorem h_spec_l00Src_next (bs : List UInt8) (hl : bs.length ≤ 1000000000) (M : Int) (hM : M ≤ 100000000) (n : Int) (hn : n ≤ 256) (b : Nat) (st : St) (hs : Src bs M b st) : HCalls prog n_spec_l00Src_next [.ptr b 0, .int .i64 n] st (Drew bs (M + 1) b (OneOf n) st) := by
  apply c_spec_l00Src_next
  unfold b_spec_l00Src_next
  try simp
  have keep : Src bs (M + 1) b (upd st b (.cells [bytesP bs, .int .i64 (hs.is.choose), .int .i64 hs.is.choose_spec.choose])) := by
    obtain ⟨h1, h2, h3, h4, h5⟩ := hs.is.choose_spec.choose_spec
    exact Src.mk' h2 (by omega) h4 h5
  refine br_dec (fun h => Drew.mk ⟨0, rfl, by omega, .inr rfl⟩ keep (by rw [upd_fold hs.is.choose_spec.choose_spec.1]; exact Sub.refl _)) (fun h => ?_)
  refine br_dec (fun h2 => ?_) (fun h2 => by omega)
  refine callK_drew (h_spec_l00Src_byte bs hl M (by omega) b st hs) (fun p o hp hs' => ?_)
  obtain ⟨k, rfl, k0, k1⟩ := hp
  simp only [q_bin_int]
  rw [q_rem (by omega)]
  try simp
  exact Drew.mk ⟨_, rfl, Int.tmod_nonneg _ k0, .inl (Int.tmod_lt_of_pos _ (by omega))⟩ hs' (Sub.refl _)
theorem h_spec_l00Src_chance (bs : List UInt8) (hl : bs.length ≤ 1000000000) (M : Int) (hM : M ≤ 100000000) (n : Int) (hn : n ≤ 256 ∧ 0 ≤ n) (b : Nat) (st : St) (hs : Src bs M b st) : HCalls prog n_spec_l00Src_chance [.ptr b 0, .int .i64 n] st (Drew bs (M + 1) b ABool st) := by
  apply c_spec_l00Src_chance
  unfold b_spec_l00Src_chance
  refine callK_drew (h_spec_l00Src_next bs hl M hM n hn.1 b st hs) (fun p o hp hs' => ?_)
  obtain ⟨k, rfl, k0, k1⟩ := hp
  try simp
  exact Drew.mk ⟨_, rfl⟩ hs' (Sub.refl _)
theorem h_spec_l00Src_pick (bs : List UInt8) (hl : bs.length ≤ 1000000000) (M : Int) (hM : M ≤ 100000000) (l : List (List UInt8)) (hne : l ≠ []) (hn : l.length ≤ 256) (f : Bool) (b : Nat) (st : St) (hs : Src bs M b st) : HCalls prog n_spec_l00Src_pick [.ptr b 0, .sl 1 f (l.map .str)] st (Drew bs (M + 1) b (AText l) st) := by
  apply c_spec_l00Src_pick
  unfold b_spec_l00Src_pick
  have hpos : 0 < l.length := List.length_pos_iff.2 hne
  try simp
  refine br_dec (fun h => absurd h hne) (fun h => ?_)
  refine callK_drew (h_spec_l00Src_next bs hl M hM l.length (by omega) b st hs) (fun p o hp hs' => ?_)
  obtain ⟨k, rfl, k0, k1⟩ := hp
  obtain ⟨j, rfl⟩ : ∃ j : Nat, k = (j : Int) := ⟨k.toNat, by omega⟩
  have hk : j < l.length := by omega
  try simp [q_ia, hk, PV.cells]
  exact Drew.mk (show AText l _ from ⟨_, List.getElem_mem hk, rfl⟩) hs' (Sub.refl _)
theorem h_spec_l01Base (s : List UInt8) (st : St) : HCalls prog n_spec_l01Base [.str s] st (Just (tree (Tr.base s)) st) := by
  apply c_spec_l01Base
  unfold b_spec_l01Base
  intro b hb
  rw [show q_struct [PV.int IntKind.i64 0, PV.int IntKind.i64 0, PV.str [], PV.sl 0 true []] [(0, 1, PV.int IntKind.i64 9), (2, 1, PV.str s)] = some (.agg [.int .i64 9, .int .i64 0, .str s, .sl 0 true []]) from rfl]
  try simp
  try simp [q_load_p (upd_same _ _ _)]
  exact Just.tree (t := Tr.base s) rfl (.inr rfl) rfl rfl rfl ((Sub.refl _).put hb)
theorem h_spec_l01Arrow (x y : Tr) (st : St) : HCalls prog n_spec_l01Arrow [tree x, tree y] st (Just (tree (Tr.arrow x y)) st) := by
  apply c_spec_l01Arrow
  unfold b_spec_l01Arrow
  refine e_box_ref (tree_isJunk _) ?_
  refine e_box_ref (tree_isJunk _) ?_
  intro b hb
  try simp
  rw [show q_struct [PV.int IntKind.i64 0, PV.int IntKind.i64 0, PV.str [], PV.sl 0 true []] [(0, 1, PV.int IntKind.i64 10), (3, 1, PV.sl 4 true [tree x, tree y])] = some (.agg [.int .i64 10, .int .i64 0, .str [], .sl 4 true [tree x, tree y]]) from rfl]
  try simp
  try simp [q_load_p (upd_same _ _ _)]
  exact Just.tree (t := Tr.arrow x y) rfl (.inl rfl) rfl rfl rfl ((Sub.refl _).put hb)
theorem h_spec_l00Src_rawSimple (bs : List UInt8) (hl : bs.length ≤ 1000000000) (b : Nat) : ∀ (d : Nat) (M : Int) (st : St), d ≤ 8 → M + drawnK d ≤ 100000000 → Src bs M b st →
    HCalls prog n_spec_l00Src_rawSimple [.ptr b 0, .int .i64 (d : Int)] st (Drew bs (M + drawnK d) b (ATree (drawnS d)) st) := by
  -- the leaf
  have leaf : ∀ (d : Nat) (M K : Int) (st s : St) (b4 : Nat), M + 1 ≤ K → K ≤ 100000000 → Src bs M b s → Around b st s → st b4 = none → s b4 = some (.cells [.int .i64 0, .int .i64 0, .str [], .sl 0 true []]) →
      qb (q_lit 1 2 0 [] [(0, PV.str [110, 97, 116]), (1, PV.str [111])]) fun v22 => callK prog n_spec_l00Src_pick [PV.ptr b 0, v22] s (fun v23 st_2 => callK prog n_spec_l01Base [v23] st_2 (fun v24 st_3 => e_store st_3 4 (PV.ptr b4 0) v24 fun st_4 => qb (q_load st_4 true 4 (PV.ptr b4 0)) fun r_1 => retR (Drew bs K b (ATree (drawnS d)) st) r_1 st_4) (panR (Drew bs K b (ATree (drawnS d)) st))) (panR (Drew bs K b (ATree (drawnS d)) st)) := by
    intro d M K st s b4 hK hK2 hs ha h4 e4
    have hne : b4 ≠ b := fun e => by obtain ⟨a, z, h1, _⟩ := hs.is; rw [← e, e4] at h1; cases h1
    try simp
    refine callK_drew (h_spec_l00Src_pick bs hl M (by omega) [sNat, sO] (by simp) (by simp) true b s hs) (fun p o hp hs' => ?_)
    obtain ⟨w, hw, rfl⟩ := hp
    refine callK_just (h_spec_l01Base w _) ?_
    have e4' : (upd s b o) b4 = some (.cells [.int .i64 0, .int .i64 0, .str [], .sl 0 true []]) := by rw [upd_ne _ _ hne]; exact e4
    rw [e_store_p _ _ _ _ _ _ _ e4']
    try simp [q_load_p (upd_same _ _ _)]
    refine Drew.fin (show ATree (drawnS d) _ from ⟨_, rfl, ?_⟩) ((hs'.mono hK).put hne.symm _) ((ha.draw _).put h4 _)
    simp only [List.mem_cons, List.mem_nil_iff, or_false] at hw
    cases d <;> rcases hw with rfl | rfl <;> simp [drawnS]
  intro d
  induction d with
  | zero =>
    intro M st hd hM hs
    apply c_spec_l00Src_rawSimple
    unfold b_spec_l00Src_rawSimple
    intro b4 hb4
    refine hJ_of fun J hJ => ?_
    try simp
    refine hJ _ _ ?_
    simp only [List.getD_cons_zero, cb_bool, br_false]
    exact leaf 0 M _ st _ b4 (by have := drawnK_pos 0; omega) (by omega) (hs.put (hs.ne hb4) _) ((Around.refl b st).put hb4 _) hb4 (upd_same _ _ _)
  | succ d ih =>
    intro M st hd hM hs
    have hK := drawnK_succ d
    have hK0 := drawnK_pos d
    apply c_spec_l00Src_rawSimple
    unfold b_spec_l00Src_rawSimple
    intro b4 hb4
    have hne := hs.ne hb4
    generalize hs0 : upd st b4 (.cells [.int .i64 0, .int .i64 0, .str [], .sl 0 true []]) = s0
    have i0 : Src bs M b s0 := by rw [← hs0]; exact hs.put hne _
    have a0 : Around b st s0 := by rw [← hs0]; exact (Around.refl b st).put hb4 _
    have e0 : s0 b4 = some (.cells [.int .i64 0, .int .i64 0, .str [], .sl 0 true []]) := by rw [← hs0]; exact upd_same _ _ _
    clear hs0
    refine hJ_of fun J hJ => ?_
    try simp
    refine callK_drew (h_spec_l00Src_chance bs hl M (by omega) 3 (by omega) b s0 i0) (fun p o hp hs1 => ?_)
    obtain ⟨v, rfl⟩ := hp
    try simp
    refine hJ _ _ ?_
    have a1 := a0.draw o
    have e1 : (upd s0 b o) b4 = some (.cells [.int .i64 0, .int .i64 0, .str [], .sl 0 true []]) := by rw [upd_ne _ _ hne.symm]; exact e0
    refine br_of (fun hv => ?_) (fun hv => leaf (d + 1) (M + 1) _ st _ b4 (by omega) (by omega) hs1 a1 hb4 e1)
    have ew : IntKind.i64.wrap (((d + 1 : Nat) : Int) - 1) = (d : Int) := by rw [wrap64 (by omega) (by omega)]; omega
    simp only [q_bin_int, q_int, qb_some, ew]
    refine callK_drew (ih (M + 1) _ (by omega) (by omega) hs1) (fun p o2 hp hs2 => ?_)
    obtain ⟨x, rfl, hx⟩ := hp
    refine callK_drew (ih (M + 1 + drawnK d) _ (by omega) (by omega) hs2) (fun p o3 hp hs3 => ?_)
    obtain ⟨y, rfl, hy⟩ := hp
    refine callK_just (h_spec_l01Arrow x y _) ?_
    have e3 : (upd (upd (upd s0 b o) b o2) b o3) b4 = some (.cells [.int .i64 0, .int .i64 0, .str [], .sl 0 true []]) := by rw [upd_ne _ _ hne.symm, upd_ne _ _ hne.symm]; exact e1
    rw [e_store_p _ _ _ _ _ _ _ e3]
    try simp [q_load_p (upd_same _ _ _)]
    refine Drew.fin (show ATree (drawnS (d + 1)) _ from ⟨_, rfl, .inr ⟨x, y, hx, hy, rfl⟩⟩) ?_ ?_
    · have := (hs3.mono (show M + 1 + drawnK d + drawnK d ≤ M + drawnK (d + 1) by omega)).put hne (.cells (tree (Tr.arrow x y)).cells)
      simpa using this
    · have := ((a1.draw o2).draw o3).put hb4 (.cells (tree (Tr.arrow x y)).cells)
      simpa using this
theorem h_spec_l00Src_simple (bs : List UInt8) (hl : bs.length ≤ 1000000000) (b : Nat) (d : Nat) (M : Int) (st : St) (hd : d ≤ 8) (hM : M + drawnK d ≤ 100000000) (hs : Src bs M b st) :
    HCalls prog n_spec_l00Src_simple [.ptr b 0, .int .i64 (d : Int)] st (Drew bs (M + drawnK d) b (ATree (drawnS d)) st) := by
  apply c_spec_l00Src_simple
  unfold b_spec_l00Src_simple
  intro b4 hb4
  have hne := hs.ne hb4
  refine callK_drew (h_spec_l00Src_rawSimple bs hl b d M _ hd hM (hs.put hne _)) (fun p o hp hs1 => ?_)
  obtain ⟨x, rfl, hx⟩ := hp
  have e1 : ∀ z, (upd (upd st b4 z) b o) b4 = some z := fun z => by rw [upd_ne _ _ hne.symm]; exact upd_same _ _ _
  rw [e_store_p _ _ _ _ _ _ _ (e1 _)]
  try simp [q_load_p (upd_same _ _ _)]
  exact Drew.fin (show ATree (drawnS d) _ from ⟨_, rfl, hx⟩) (hs1.put hne _) ((((Around.refl b st).put hb4 _).draw o).put hb4 _)
/-- A drawn simple type. -/
def GiveTree (C : Tr → Prop) (st : St) : Res → St → Prop := fun r s => s = st ∧ ∃ t, r = .ret (tree t) ∧ C t
theorem callK_give {P : Program} {g : FuncId} {us : List PV} {st : St} {K Kp : PV → St → Prop} {C : Tr → Prop} (hc : HCalls P g us st (GiveTree C st)) (hk : ∀ t, C t → K (tree t) st) : callK P g us st K Kp := by
  refine callK_of hc (fun p s h => ?_) (fun p s h => ?_)
  · obtain ⟨rfl, t, h, ht⟩ := h
    cases h
    exact hk t ht
  · obtain ⟨_, _, h, _⟩ := h
    cases h
theorem drawnS_mono : ∀ {d : Nat} {t : Tr}, drawnS d t → drawnS (d + 1) t
  | 0, t, h => .inl h
  | d + 1, t, h => by
    rcases h with h | ⟨x, y, hx, hy, rfl⟩
    · exact .inl h
    · exact .inr ⟨x, y, drawnS_mono hx, drawnS_mono hy, rfl⟩
theorem h_spec_SimpleOf (bs : List UInt8) (hl : bs.length ≤ 1000000000) (st : St) : HCalls prog n_spec_SimpleOf [bytesP bs] st (GiveTree (drawnS 3) st) := by
  apply c_spec_SimpleOf
  unfold b_spec_SimpleOf
  intro b2 hb2
  refine callK_begun (h_spec_l00Source bs hl _) (fun b o hb hs => ?_)
  have hne : b2 ≠ b := fun e => by rw [← e, upd_same] at hb; cases hb
  rw [upd_ne _ _ hne.symm] at hb
  refine callK_drew (h_spec_l00Src_next bs hl 0 (by omega) 3 (by omega) b _ hs) (fun p o1 hp hs1 => ?_)
  obtain ⟨k, rfl, k0, k1⟩ := hp
  simp only [q_bin_int, q_int, qb_some]
  rw [wrap64 (by omega) (by omega)]
  have fin : ∀ (d : Nat) (s : St), d ≤ 3 → Src bs 1 b s → Sub st s → s b2 = some (.cells [.int .i64 0, .int .i64 0, .str [], .sl 0 true []]) → st b = none → (∀ o, Sub st (upd s b o)) →
      callK prog n_spec_l00Src_simple [.ptr b 0, .int .i64 (d : Int)] s (fun v10 st_1 => e_store st_1 4 (.ptr b2 0) v10 fun st_2 => qb (q_load st_2 true 4 (.ptr b2 0)) fun r => retR (GiveTree (drawnS 3) st) r st_2) (panR (GiveTree (drawnS 3) st)) := by
    intro d s hd hs hsub he hb hsb
    have hK : drawnK d ≤ 640 := by
      unfold drawnK
      have : d = 0 ∨ d = 1 ∨ d = 2 ∨ d = 3 := by omega
      rcases this with rfl | rfl | rfl | rfl <;> decide
    refine callK_drew (h_spec_l00Src_simple bs hl b d 1 s (by omega) (by omega) hs) (fun p o hp hs2 => ?_)
    obtain ⟨x, rfl, hx⟩ := hp
    have e1 : (upd s b o) b2 = some (.cells [.int .i64 0, .int .i64 0, .str [], .sl 0 true []]) := by rw [upd_ne _ _ hne]; exact he
    rw [e_store_p _ _ _ _ _ _ _ e1]
    try simp [q_load_p (upd_same _ _ _)]
    refine retR_sub ((hsb o).put hb2) ⟨rfl, x, rfl, ?_⟩
    have : d = 0 ∨ d = 1 ∨ d = 2 ∨ d = 3 := by omega
    rcases this with rfl | rfl | rfl | rfl
    · exact drawnS_mono (drawnS_mono (drawnS_mono hx))
    · exact drawnS_mono (drawnS_mono hx)
    · exact drawnS_mono hx
    · exact hx
  have ek : (1 : Int) + k = (((1 + k).toNat : Nat) : Int) := by omega
  rw [ek]
  refine fin _ _ (by omega) hs1 ?_ ?_ hb (fun o' => ?_)
  · exact (((Sub.refl st).put hb2).put hb).put hb
  · rw [upd_ne _ _ hne, upd_ne _ _ hne]; exact upd_same _ _ _
  · exact ((((Sub.refl st).put hb2).put hb).put hb).put hb
theorem h_spec_l01High (t : Tr) (st : St) : HCalls prog n_spec_l01High [tree t] st (Just (.bool t.high) st) := by
  induction t using Tr.ind generalizing st with
  | _ t ih =>
  refine HCalls.wf e_spec_l01High fun hw => ?_
  have hw := (tree_wf hw.1).1
  apply c_spec_l01High
  unfold b_spec_l01High
  generalize hv : t.high = v
  rw [Tr.high_eq] at hv
  refine e_box_ref (tree_isJunk _) ?_
  refine hJ_of fun J hJ => ?_
  have key : ∀ w : Bool, (w || t.kids.any Tr.high) = v → J [.bool w] st := by
    intro w hw2
    refine hJ _ _ ?_
    try simp
    refine br_of (fun h => Just.bool (by rw [← hw2, h]; rfl)) (fun h => ?_)
    rw [h, Bool.false_or] at hw2
    refine loop_idx (β := Unit) t.kids (fun _ i => [.int .i64 (i : Int)]) (fun _ => st) (fun _ i rest => rest.any Tr.high = v) ?_ ?_ () hw2
    · intro i x rest _ hi hx hq kk
      try simp [hi, ia_tree _ hx]
      refine callK_just (ih x (List.mem_of_getElem? hx) _) ?_
      try simp
      rw [List.any_cons] at hq
      refine br_of (fun h => Just.bool (by rw [← hq, h]; rfl)) (fun h => ?_)
      rw [W_idx hi hw]
      exact kk () (by rw [← hq, h]; rfl)
    · intro _ hq
      try simp
      exact Just.bool hq
  try simp
  refine br_dec (fun h5 => key _ (by rw [← hv, decide_eq_true h5]; rfl)) (fun h5 => key _ (by rw [← hv, decide_eq_false h5]; rfl))
theorem h_spec_l03Big (t : Tr) (st : St) : HCalls prog n_spec_l03Big [tree t] st (Just (.bool t.big) st) := by
  apply c_spec_l03Big
  unfold b_spec_l03Big
  generalize hv : t.big = v
  unfold Tr.big at hv
  refine e_box_ref (tree_isJunk _) ?_
  try simp
  refine callK_just (h_spec_l01Small t _) ?_
  try simp
  refine br_of (fun h => ?_) (fun h => Just.bool (by rw [← hv, h]; rfl))
  refine callK_just (h_spec_l01High t _) ?_
  exact Just.bool (by rw [← hv, h]; rfl)
/-- What comes of something: a tree and nought, or an empty tree and what is wrong. -/
def ResultS (x : Int ⊕ Tr) (st : St) : Res → St → Prop := match x with
  | .inr t => Just (.tup [tree t, .int .i64 0]) st
  | .inl c => Just (.tup [tree noTree, .int .i64 c]) st
theorem ResultS.zero {x : Int ⊕ Tr} {c : Int} {st st1 : St} (e : x = .inl c) (hs : Sub st st1) : retR (ResultS x st) (.tup [.agg [.int .i64 0, .int .i64 0, .str [], .sl 0 true []], .int .i64 c]) st1 := by
  subst e
  exact Just.conv (Conv.trans (Conv.tup (Conv.cons (conv_tree _ 0 0 [] 0 true [] (.inr rfl)) (Conv.refl _ _))) (Conv.sub hs))
theorem ResultS.ok {x : Int ⊕ Tr} {t : Tr} {st st1 : St} (e : x = .inr t) (hs : Sub st st1) : retR (ResultS x st) (.tup [tree t, .int .i64 0]) st1 := by
  subst e
  exact Just.ret hs
theorem callK_resultS {P : Program} {g : FuncId} {us : List PV} {st : St} {K Kp : PV → St → Prop} {x : Int ⊕ Tr} (hc : HCalls P g us st (ResultS x st)) (hy : ∀ t, x = .inr t → K (.tup [tree t, .int .i64 0]) st) (hn : ∀ c, x = .inl c → K (.tup [tree noTree, .int .i64 c]) st) : callK P g us st K Kp := by
  cases x with
  | inr t => exact callK_just hc (hy t rfl)
  | inl c => exact callK_just hc (hn c rfl)
theorem h_spec_Long (n : Int) (a : Tr) (st : St) : HCalls prog n_spec_Long [.int .i64 n, tree a] st (ResultS (longT n a) st) := by
  apply c_spec_Long
  unfold b_spec_Long
  generalize hv : longT n a = v
  unfold longT at hv
  refine e_box_ref (tree_isJunk _) ?_
  intro b4 hb4
  have hsub : ∀ o, Sub st (upd st b4 o) := fun o => (Sub.refl st).put hb4
  try simp
  have zt : q_struct [PV.int IntKind.i64 0, PV.int IntKind.i64 0, PV.str [], PV.sl 0 true []] [] = some (.agg [.int .i64 0, .int .i64 0, .str [], .sl 0 true []]) := rfl
  refine callK_just (h_spec_SimpleOK a _) ?_
  try simp
  refine br_of (fun g => ?_) (fun g => ?_)
  · rw [g] at hv
    simp only [Bool.not_true, Bool.false_eq_true, if_false] at hv
    have hs : a.isSimple = true ∧ a.size ≤ 150 := by
      unfold Tr.simpleOK Tr.small at g
      simp only [Bool.and_eq_true, decide_eq_true_eq] at g
      exact ⟨g.2, g.1⟩
    refine hJ_of fun J hJ => ?_
    have no : (n < 0 ∨ 100 < n) → J [.bool true] (upd st b4 (.cells [.int .i64 0, .int .i64 0, .str [], .sl 0 true []])) := fun h => by
      rw [if_pos h] at hv
      refine hJ _ _ ?_
      rw [zt]
      try simp
      try simp [q_load_p (upd_same _ _ _)]
      exact ResultS.zero hv.symm (hsub _)
    have yes : ¬ (n < 0 ∨ 100 < n) → J [.bool false] (upd st b4 (.cells [.int .i64 0, .int .i64 0, .str [], .sl 0 true []])) := fun h => by
      rw [if_neg h] at hv
      refine hJ _ _ ?_
      try simp
      refine hJ_of fun J1 hJ1 => ?_
      have hh : (Tr.var n []).size ≤ 1000000 := by rw [Tr.size_eq]; simp [Tr.var]
      generalize hs0 : upd st b4 (.cells [.int .i64 0, .int .i64 0, .str [], .sl 0 true []]) = s0
      have e4 : s0 b4 = some (.cells [.int .i64 0, .int .i64 0, .str [], .sl 0 true []]) := by rw [← hs0]; exact upd_same _ _ _
      have hsub0 : Sub st s0 := by rw [← hs0]; exact hsub _
      have key : ∀ b6, s0 b6 = none → J1 [.ptr b6 0] (upd s0 b6 (.cells (tree (longForm (Tr.var n []) a)).cells)) := fun b6 hb6 => by
        have hne : b4 ≠ b6 := fun e => by rw [← e, e4] at hb6; cases hb6
        have f4 : (upd s0 b6 (.cells (tree (longForm (Tr.var n []) a)).cells)) b4 = some (.cells [.int .i64 0, .int .i64 0, .str [], .sl 0 true []]) := by rw [upd_ne _ _ hne]; exact e4
        have f6 : (upd s0 b6 (.cells (tree (longForm (Tr.var n []) a)).cells)) b6 = some (.cells (tree (longForm (Tr.var n []) a)).cells) := upd_same _ _ _
        have hsub6 : Sub st (upd s0 b6 (.cells (tree (longForm (Tr.var n []) a)).cells)) := hsub0.put (hsub0.isNone hb6)
        refine hJ1 _ _ ?_
        generalize upd s0 b6 (.cells (tree (longForm (Tr.var n []) a)).cells) = s1 at f4 f6 hsub6
        try simp [q_load_p f6]
        refine callK_just (h_spec_l03Big _ _) ?_
        try simp
        refine br_of (fun h => ?_) (fun h => ?_)
        · rw [h] at hv
          rw [zt]
          try simp
          rw [e_store_p _ _ _ _ _ _ _ f4]
          try simp [q_load_p (upd_same _ _ _)]
          exact ResultS.zero (by rw [← hv]; simp) (hsub6.put hb4)
        · rw [h] at hv
          try simp [q_load_p f6]
          rw [e_store_p _ _ _ _ _ _ _ f4]
          try simp [q_load_p (upd_same _ _ _)]
          exact ResultS.ok (by rw [← hv]; simp) (hsub6.put hb4)
      refine ⟨?_, ?_⟩
      · refine callK_just (h_spec_l01Var0 n _) ⟨?_, ?_⟩
        · refine callK_just (h_spec_l03Long _ a hs.1 (by omega) hh _) ?_
          intro b6 hb6
          try simp
          exact key b6 hb6
        · intro b6 hb6
          refine callK_just (h_spec_l03Long _ a hs.1 (by omega) hh _) ?_
          try simp
          exact key b6 hb6
      · intro b6 hb6
        refine callK_just (h_spec_l01Var0 n _) ?_
        refine callK_just (h_spec_l03Long _ a hs.1 (by omega) hh _) ?_
        try simp
        exact key b6 hb6
    try simp
    refine br_dec (fun h => no (.inl h)) (fun h => ?_)
    by_cases h2 : 100 < n
    · rw [decide_eq_true h2]; exact no (.inr h2)
    · rw [decide_eq_false h2]; exact yes (by omega)
  · rw [g] at hv
    simp only [Bool.not_false, if_true] at hv
    rw [zt]
    try simp
    try simp [q_load_p (upd_same _ _ _)]
    exact ResultS.zero hv.symm (hsub _)
theorem h_spec_Consts (st : St) : HCalls prog n_spec_Consts [] st (Just (typeds someConsts) st) := by
  apply c_spec_Consts
  unfold b_spec_Consts
  have h : HCalls prog n_spec_l03Some [] st (Just (typeds someConsts) st) := by
    apply c_spec_l03Some
    unfold b_spec_l03Some
    refine callK_just (h_spec_l01Base [110, 97, 116] _) ?_
    intro b1 hb1
    try simp
    refine callK_just (h_spec_l01Base [111] _) ?_
    intro b2 hb2
    have hne : b1 ≠ b2 := fun e => by rw [← e, upd_same] at hb2; cases hb2
    rw [upd_ne _ _ hne.symm] at hb2
    try simp
    generalize hs : upd (upd st b1 (.cells (tree (Tr.base [110, 97, 116])).cells)) b2 (.cells (tree (Tr.base [111])).cells) = s
    have e1 : s b1 = some (.cells (tree (Tr.base [110, 97, 116])).cells) := by rw [← hs, upd_ne _ _ hne]; exact upd_same _ _ _
    have e2 : s b2 = some (.cells (tree (Tr.base [111])).cells) := by rw [← hs]; exact upd_same _ _ _
    have hsub : Sub st s := by rw [← hs]; exact ((Sub.refl st).put hb1).put hb2
    clear hs
    try simp [q_load_p e1, q_load_p e2, typedLit]
    refine callK_just (h_spec_l01Arrow _ _ _) ?_
    try simp [q_load_p e1, q_load_p e2, typedLit]
    refine callK_just (h_spec_l01Arrow _ _ _) ?_
    try simp [q_load_p e1, q_load_p e2, typedLit]
    refine callK_just (h_spec_l01Arrow _ _ _) ?_
    try simp [q_load_p e1, q_load_p e2, typedLit]
    refine callK_just (h_spec_l01Arrow _ _ _) ?_
    try simp [q_load_p e1, q_load_p e2, typedLit]
    refine callK_just (h_spec_l01Arrow _ _ _) ?_
    try simp [q_load_p e1, q_load_p e2, typedLit]
    refine callK_just (h_spec_l01Arrow _ _ _) ?_
    try simp [q_load_p e1, q_load_p e2, typedLit]
    refine callK_just (h_spec_l01Arrow _ _ _) ?_
    try simp [q_load_p e1, q_load_p e2, typedLit]
    refine callK_just (h_spec_l01Arrow _ _ _) ?_
    try simp [q_load_p e1, q_load_p e2, typedLit]
    refine Just.conv (Conv.trans Conv.unfull (Conv.sub hsub))
  refine callK_just h ?_
  exact Just.ret (Sub.refl _)
end Go.H.Tryz
/- The contract of the law FnLong. -/
set_option linter.unusedVariables false
set_option linter.unusedSimpArgs false
namespace Go.H.Tryz
open Go Go.H

theorem h_laws_FnLong (code more : List UInt8) (hb : code.length + more.length ≤ 1048576) (st : St) : HCalls prog n_laws_FnLong [bytesP code, bytesP more] st (Just (.bool true) st) := by
  apply c_laws_FnLong
  unfold b_laws_FnLong
  try simp
  refine br_dec (fun h => by omega) (fun _ => ?_)
  refine br_dec (fun h => by omega) (fun _ => ?_)
  refine callK_give (h_spec_SimpleOf code (by omega) _) (fun a ha => ?_)
  obtain ⟨hs, hsz⟩ := drawnS_simple 3 a ha
  intro b5 hb5
  try simp
  have hsz2 : a.size ≤ 50 := by omega
  generalize hs0 : upd st b5 (.cells (tree a).cells) = s0
  have e5 : s0 b5 = some (.cells (tree a).cells) := by rw [← hs0]; exact upd_same _ _ _
  have hsub : Sub st s0 := by rw [← hs0]; exact (Sub.refl st).put hb5
  clear hs0
  refine callK_of (h_laws_at more (by omega) 0 3 (by omega) (by omega) s0) (fun p s h => ?_) (fun p s h => ?_)
  · obtain ⟨rfl, k, h, k0, k1⟩ := h
    cases h
    have hk : 0 ≤ k ∧ k < 3 := ⟨k0, by omega⟩
    refine hJ_of fun J hJ => ?_
    refine loop_idx (β := PV × St) [a, a, a] (fun z i => [z.1, .int .i64 (i : Int)]) (fun z => z.2) (fun z i rest => Grow s 4 (([a, a, a].take i).map tree) z.1 z.2) ?_ ?_ (_, s) (Grow.nil _ _ _)
    · rintro i x rest ⟨p, s1⟩ hi hx hg kk
      simp only at hg
      have hi3 : i < 3 := hi
      have hl : (([a, a, a].take i).map tree).length ≤ 3 := by simp; omega
      try simp
      refine br_dec (fun _ => ?_) (fun h => by omega)
      try simp [q_load_p (hg.sub.get e5)]
      refine hg.append (elems_sl _ _ _ _) (by simp; omega) fun p' s' hg' => ?_
      try simp
      rw [W_idx hi (by unfold maxLen; simp)]
      refine kk (p', s') ?_
      have hxa : x = a := by
        have : i = 0 ∨ i = 1 ∨ i = 2 := by omega
        rcases this with rfl | rfl | rfl <;> simp at hx <;> exact hx.symm
      rw [List.take_add_one, hx, hxa]
      simpa using hg'
    · rintro ⟨p, s1⟩ hg
      simp only at hg
      try simp
      refine hJ _ _ ?_
      have f5 := hg.sub.get e5
      have hl := longT_ok hs hsz2 hk
      try simp [q_load_p f5]
      have hI := h_impl_Long k a s1
      rw [hl] at hI
      refine callK_just hI ?_
      try simp
      intro b9 hb9
      have ne59 : b5 ≠ b9 := fun e => by rw [← e, f5] at hb9; cases hb9
      try simp
      have g5 : (upd s1 b9 (.cells (tree (longV k a)).cells)) b5 = some (.cells (tree a).cells) := by rw [upd_ne _ _ ne59]; exact f5
      try simp [q_load_p g5]
      have hS := h_spec_Long k a (upd s1 b9 (.cells (tree (longV k a)).cells))
      rw [hl] at hS
      refine callK_just hS ?_
      try simp
      intro b11 hb11
      have ne911 : b9 ≠ b11 := fun e => by rw [← e, upd_same] at hb11; cases hb11
      have ne511 : b5 ≠ b11 := fun e => by rw [← e, g5] at hb11; cases hb11
      rw [upd_ne _ _ ne911.symm] at hb11
      try simp
      generalize hs2 : upd (upd s1 b9 (.cells (tree (longV k a)).cells)) b11 (.cells (tree (longV k a)).cells) = s2
      have k5 : s2 b5 = some (.cells (tree a).cells) := by rw [← hs2, upd_ne _ _ ne511]; exact g5
      have k9 : s2 b9 = some (.cells (tree (longV k a)).cells) := by rw [← hs2, upd_ne _ _ ne911]; exact upd_same _ _ _
      have k11 : s2 b11 = some (.cells (tree (longV k a)).cells) := by rw [← hs2]; exact upd_same _ _ _
      have h12 : Sub s1 s2 := by rw [← hs2]; exact ((Sub.refl s1).put hb9).put hb11
      clear hs2
      try simp [q_load_p k9, q_load_p k11]
      refine callK_just (h_laws_same _ _ _) ?_
      try simp [q_load_p k9, q_load_p k5]
      refine callK_just (h_spec_Consts _) ?_
      try simp [q_load_p k9, q_load_p k5]
      refine callK_conv (us' := [typeds someConsts, trees [a, a, a], trees [], tree (longV k a), tree a]) (st' := st) ?_ ?_
      · refine Conv.trans (Conv.sub h12) (Conv.trans (Conv.cons (Conv.sub hg.sub) (Conv.cons (by simpa using hg.freeze) (Conv.cons (Conv.trans (conv_nil4 _ _ _) (Conv.sub hg.sub)) (Conv.sub hg.sub)))) (Conv.sub hsub))
      · refine callK_just (h_impl_SimpleCheck _ _ _ _ _ _) ?_
        rw [longV_check hs hsz2 hk]
        try simp
        exact Just.bool rfl
  · obtain ⟨_, _, h, _⟩ := h
    cases h
end Go.H.Tryz
