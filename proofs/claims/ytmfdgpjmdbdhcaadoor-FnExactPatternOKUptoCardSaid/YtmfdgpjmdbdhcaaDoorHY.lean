/- Part of a proof that the program answers as the reference does: DC9, DC10, DC11. -/
import Derived.Test.YtmfdgpjmdbdhcaaDoorHX
/- Contracts: the program lifts, makes long forms and looks at patterns. -/
set_option linter.unusedVariables false
set_option linter.unusedSimpArgs false
namespace Go.H.Tryd
open Go Go.H

theorem h_impl_Tree_under (t : Tr) (i : Int) {p : PV} {st : St} (hp : PT st (tree t).cells p) : HCalls prog n_impl_Tree_under [p, .int .i64 i] st (Just (.int .i64 (t.under i)) st) := by
  have hb : HCalls prog n_impl_Tree_binds [p, .int .i64 i] st (Just (.bool (decide (t.under i = 1))) st) := by
    apply c_impl_Tree_binds
    unfold b_impl_Tree_binds
    obtain ⟨q0, g0, g0'⟩ := hp.at_ 0 (by simp)
    try simp [hp.nil, g0, g0']
    refine br_dec (fun h => Just.bool (by simp [Tr.under, h])) (fun h => ?_)
    try simp [hp.nil, g0, g0']
    refine br_dec (fun h2 => ?_) (fun h2 => Just.bool (by simp [Tr.under, h, h2]))
    exact Just.bool (by simp [Tr.under, h2])
  apply c_impl_Tree_under
  unfold b_impl_Tree_under
  refine callK_just hb ?_
  try simp
  refine br_dec (fun h => Just.int h.symm) (fun h => Just.int ?_)
  unfold Tr.under at h ⊢
  split <;> simp_all
theorem h_impl_same (a b : Tr) (st : St) : HCalls prog n_impl_same [tree a, tree b] st (Just (.bool (decide (a = b))) st) := by
  induction a using Tr.ind generalizing b st with
  | _ a ih =>
  refine HCalls.wf e_impl_same fun hw => ?_
  have hl := (tree_wf hw.1).1
  apply c_impl_same
  unfold b_impl_same
  refine e_box_ref (tree_isJunk _) ?_
  refine e_box_ref (tree_isJunk _) ?_
  generalize hv : decide (a = b) = v
  have he := Tr.ext_iff a b
  try simp
  refine br_dec (fun h1 => ?_) (fun h1 => Just.bool (by rw [← hv, decide_eq_false (by rw [he]; simp [h1])]))
  refine br_dec (fun h2 => ?_) (fun h2 => Just.bool (by rw [← hv, decide_eq_false (by rw [he]; simp [h2])]))
  refine br_dec (fun h3 => ?_) (fun h3 => Just.bool (by rw [← hv, decide_eq_false (by rw [he]; simp [h3])]))
  refine br_dec (fun h4 => ?_) (fun h4 => Just.bool (by rw [← hv, decide_eq_false (by rw [he]; intro e; rw [e.2.2.2] at h4; exact h4 rfl)]))
  have hl4 : a.kids.length = b.kids.length := by omega
  refine loop_idx (β := Unit) a.kids (fun _ i => [.int .i64 (i : Int)]) (fun _ => st) (fun _ i rest => decide (rest = b.kids.drop i) = v) ?_ ?_ () (by rw [← hv, decide_eq_decide, he]; simp [h1, h2, h3])
  · intro i x rest _ hi hx hq k
    obtain ⟨y, hy⟩ : ∃ y, b.kids[i]? = some y := ⟨b.kids[i]'(by omega), List.getElem?_eq_getElem _⟩
    rw [drop_some hy] at hq
    try simp [hi, ia_tree _ hx, ia_tree _ hy]
    refine callK_just (ih x (List.mem_of_getElem? hx) y _) ?_
    try simp
    refine br_dec (fun h => ?_) (fun h => Just.bool (by rw [← hq, decide_eq_false (by simp [h])]))
    rw [W_idx hi hl]
    exact k () (by rw [← hq, h, decide_eq_decide]; simp)
  · intro _ hq
    try simp
    exact Just.bool (by rw [← hq, hl4, List.drop_length]; rfl)
theorem h_impl_lam (t : Tr) (st : St) : HCalls prog n_impl_lam [tree t] st (Just (tree (Tr.lam t)) st) := by
  apply c_impl_lam
  unfold b_impl_lam
  refine e_box_ref (tree_isJunk _) ?_
  intro b hb
  try simp [q_struct, fillL, upd_apply, q_load_p]
  exact Just.tree rfl (.inl rfl) rfl rfl rfl (Sub.fresh (Sub.refl _) hb)
theorem h_impl_variable (n : Int) (e : Nat) (f : Bool) (ks : List Tr) (he : e = 4 ∨ ks = []) (st : St) : HCalls prog n_impl_variable [.int .i64 n, .sl e f (ks.map tree)] st (Just (tree (Tr.var n ks)) st) := by
  apply c_impl_variable
  unfold b_impl_variable
  intro b hb
  try simp [q_struct, fillL, upd_apply, q_load_p]
  exact Just.tree rfl (by rcases he with h | h; exact .inl h; exact .inr (by simp [h])) rfl rfl rfl (Sub.fresh (Sub.refl _) hb)
theorem h_impl_variable0 (n : Int) (st : St) : HCalls prog n_impl_variable [.int .i64 n, .sl 0 true []] st (Just (tree (Tr.var n [])) st) := h_impl_variable n 0 true [] (.inr rfl) st
/-- A tree whose variables are turned by a function value. -/
theorem h_impl_turned (F : Int → Int → Int) (g : FuncId) (us vs : List PV)
    (hg : ∀ (n d : Int) (s : List UInt8) (q : PV) (st : St), q.cellOK = true → HCalls prog g (us ++ [.agg [.int .i64 5, .int .i64 n, .str s, q], .int .i64 d] ++ vs) st (Just (.agg [.int .i64 5, .int .i64 (F n d), .str s, q]) st))
    (t : Tr) (d : Int) (hsz : t.size ≤ 1000000000000) (st : St) : HCalls prog n_impl_turned [tree t, .int .i64 d, .fn (.func g) us vs] st (OwnTree (turnedT F t d) st) := by
  induction t using Tr.ind generalizing d st with
  | _ t ih =>
  have hl := t.kids_len
  apply c_impl_turned
  unfold b_impl_turned
  refine e_box_own (tree_isJunk _) fun b3 hb3 => ?_
  intro b6 hb6
  simp only [upd_none] at hb6
  generalize hv : turnedT F t d = v
  rw [turnedT_eq] at hv
  try simp [q_load_p, upd_apply, hb6]
  generalize hst1 : upd (upd st b3 (HObj.cells (tree t).cells)) b6 (HObj.cells [PV.int IntKind.i64 0, PV.int IntKind.i64 0, PV.str [], PV.sl 0 true []]) = st1
  have g3 : st1 b3 = some (.cells (tree t).cells) := by subst hst1; simp [upd_apply, hb6]
  have g6 : st1 b6 = some (HObj.cells [PV.int IntKind.i64 0, PV.int IntKind.i64 0, PV.str [], PV.sl 0 true []]) := by subst hst1; simp [upd_apply]
  have gs : Sub st st1 := by subst hst1; exact (Sub.refl _).fresh hb3 |>.fresh hb6.2.2
  have n36 : b3 ≠ b6 := fun e => hb6.1 e.symm
  clear hst1
  refine hJ_of fun J hJ => ?_
  refine loop_idx (β := PV × St × St) t.kids (fun z i => [z.1, .int .i64 (i : Int)]) (fun z => z.2.1) (fun z i rest => Grow z.2.2 4 (((t.kids.mapIdx fun i x => turnedT F x (W (d + t.under i))).take i).map tree) z.1 z.2.1 ∧ z.2.2 b3 = some (.cells (tree t).cells) ∧ z.2.2 b6 = some (HObj.cells [PV.int IntKind.i64 0, PV.int IntKind.i64 0, PV.str [], PV.sl 0 true []]) ∧ Sub st z.2.2) ?_ ?_ (_, st1, st1) ⟨Grow.nil _ _ _, g3, g6, gs⟩
  · rintro i x rest ⟨p, s, sb⟩ hi hx ⟨q0, q3, q6, qs⟩ k
    simp only at q0 q3 q6 qs
    try simp [hi, ia_tree _ hx]
    intro c hc
    have hc2 := q0.sub.isNone hc
    try simp [q_load_p, upd_apply]
    have e3 := q0.sub.get q3
    have n3c := ne_of e3 hc
    refine callK_just (h_impl_Tree_under t i (PT.ptr (by simp [upd_apply, n3c, e3]))) ?_
    try simp [q_load_p, upd_apply]
    refine callK_just (OwnTree.just (ih x (List.mem_of_getElem? hx) _ (by have := Tr.kid_size (List.mem_of_getElem? hx); omega) _)) ?_
    try simp
    have q0' := q0.beside (c := c) (.cells (tree x).cells) hc
    refine q0'.append (elems_sl _ _ _ _) (by simp; omega) fun p' st' hg' => ?_
    rw [W_idx hi (by unfold maxLen; omega)]
    refine k (p', st', upd sb c (.cells (tree x).cells)) ⟨?_, ?_, ?_, qs.put (qs.isNone hc2)⟩
    · simp only
      rw [mapIdx_snoc _ _ _ hx]
      simpa using hg'
    · simp [upd_apply, n3c, q3]
    · simp [upd_apply, ne_of q6 hc2, q6]
  · rintro ⟨p, s, sb⟩ ⟨q0, q3, q6, qs⟩
    simp only at q0 q3 q6 qs
    try simp
    refine hJ _ _ ?_
    rw [List.take_of_length_le (by simp)] at q0
    have e3 := q0.sub.get q3
    have e6 := q0.sub.get q6
    try simp
    rw [e_store_p _ _ _ _ _ _ _ e3]
    have hqc := q0.cellOK
    have hqj : p.cells = [p] ∧ p.ncells = 1 ∧ p.isJunk = false := by
      rcases q0 with ⟨_, ⟨e, rfl⟩, _⟩ | ⟨b, cap, rfl, _⟩ <;> exact ⟨rfl, rfl, rfl⟩
    try simp [hqj, hqc, q_load_p, upd_apply]
    have q1 := q0.store (.cells [.int .i64 t.kind, .int .i64 t.n, .str t.name, p]) q3
    have e6' : upd s b3 (.cells [.int .i64 t.kind, .int .i64 t.n, .str t.name, p]) b6 = some (HObj.cells [PV.int IntKind.i64 0, PV.int IntKind.i64 0, PV.str [], PV.sl 0 true []]) := by simp [upd_apply, n36.symm, e6]
    have fin : ∀ nn : Int, v = .mk t.kind nn t.name (t.kids.mapIdx fun i x => turnedT F x (W (d + t.under i))) → ∀ cs, retR (OwnTree v st) (.agg [.int .i64 t.kind, .int .i64 nn, .str t.name, p]) (upd (upd s b3 (.cells [.int .i64 t.kind, .int .i64 t.n, .str t.name, p])) b6 cs) := fun nn hnn cs => by
      subst hnn
      have q2 := q1.store (c := b6) cs (o := HObj.cells [PV.int IntKind.i64 0, PV.int IntKind.i64 0, PV.str [], PV.sl 0 true []]) (by simp [upd_apply, n36.symm, q6])
      have hsub : Sub st (upd (upd sb b3 (.cells [.int .i64 t.kind, .int .i64 t.n, .str t.name, p])) b6 cs) := (qs.put hb3).put hb6.2.2
      -- the row goes out, the rest stays behind
      rcases q2 with ⟨h1, ⟨e, rfl⟩, h3⟩ | ⟨b, cap, h1, h2, h3, h4⟩
      · exact retR_sub (by rw [h3]; exact hsub) ⟨_, rfl, .inl ⟨h1, ⟨e, rfl⟩, rfl⟩⟩
      · refine retR_sub (st' := upd st b (.vec 4 ((t.kids.mapIdx fun i x => turnedT F x (W (d + t.under i))).map tree) cap)) ?_ ⟨p, rfl, .inr ⟨b, cap, h1, h2, hsub.isNone h3, rfl⟩⟩
        rw [h4]
        exact hsub.upd b _
    refine br_dec (fun h5 => ?_) (fun h5 => ?_)
    · rw [if_pos h5] at hv
      rw [h5] at fin ⊢
      refine callK_just (by simpa using hg t.n d t.name p _ hqc) ?_
      rw [h5] at e6'
      rw [e_store_p _ _ _ _ _ _ _ e6']
      try simp [q_load_p, upd_apply, hqc]
      exact fin _ (by rw [← hv, h5]) _
    · rw [if_neg h5] at hv
      rw [e_store_p _ _ _ _ _ _ _ e6']
      try simp [q_load_p, upd_apply, hqc]
      exact fin _ hv.symm _
theorem h_impl_lift_1 (frm b n d : Int) (s : List UInt8) (q : PV) (st : St) (hq : q.cellOK = true) :
    HCalls prog n_impl_lift_1 [.agg [.int .i64 5, .int .i64 n, .str s, q], .int .i64 d, .ref [.int .i64 frm], .ref [.int .i64 b]] st (Just (.agg [.int .i64 5, .int .i64 (liftF frm b n d), .str s, q]) st) := by
  apply c_impl_lift_1
  unfold b_impl_lift_1
  refine e_box_own rfl fun b4 hb4 => ?_
  intro b6 hb6
  simp only [upd_none] at hb6
  generalize hv : liftF frm b n d = v
  unfold liftF at hv
  try simp [q_load_p, upd_apply, hb6]
  refine br_dec (fun h => ?_) (fun h => ?_)
  · rw [if_pos h] at hv
    try simp [q_load_p, upd_apply, hb6, hq]
    refine Just.same (by rw [← hv]) ?_
    exact ((Sub.refl _).fresh hb4 |>.fresh hb6.2.2 |>.fresh hb4 |>.fresh hb6.2.2)
  · rw [if_neg h] at hv
    try simp [q_load_p, upd_apply, hb6, hq]
    refine Just.same (by rw [← hv]) ?_
    exact ((Sub.refl _).fresh hb4 |>.fresh hb6.2.2)
theorem h_impl_lift_own (t : Tr) (frm b : Int) (hf : W frm = frm) (hsz : t.size ≤ 1000000000000) (st : St) : HCalls prog n_impl_lift [tree t, .int .i64 frm, .int .i64 b] st (OwnTree (t.lift frm b) st) := by
  apply c_impl_lift
  unfold b_impl_lift
  refine e_box_ref (tree_isJunk _) ?_
  refine e_box_ref rfl ?_
  refine e_box_ref rfl ?_
  intro b6 hb6
  have hv : turnedT (liftF frm b) t 0 = t.lift frm b := by rw [turned_lift, Int.add_zero, hf]
  rw [← hv]
  try simp
  refine callK_own (h_impl_turned (liftF frm b) n_impl_lift_1 [] [.ref [.int .i64 frm], .ref [.int .i64 b]] (fun n d s q st hq => by simpa using h_impl_lift_1 frm b n d s q st hq) t 0 hsz _) fun q s' hg => ?_
  have e6 : s' b6 = some (HObj.cells [PV.int IntKind.i64 0, PV.int IntKind.i64 0, PV.str [], PV.sl 0 true []]) := hg.sub.get (upd_same _ _ _)
  have hqc := hg.cellOK
  rw [e_store_p _ _ _ _ _ _ _ e6]
  try simp [q_load_p, upd_apply, hqc]
  have q2 := hg.store (.cells [.int .i64 (turnedT (liftF frm b) t 0).kind, .int .i64 (turnedT (liftF frm b) t 0).n, .str (turnedT (liftF frm b) t 0).name, q]) (upd_same _ _ _)
  rcases q2 with ⟨h1, ⟨e, rfl⟩, h3⟩ | ⟨b, cap, h1, h2, h3, h4⟩
  · exact retR_sub (by rw [h3]; simpa using (Sub.refl st).fresh hb6) ⟨_, rfl, .inl ⟨h1, ⟨e, rfl⟩, rfl⟩⟩
  · refine retR_sub (st' := upd st b _) ?_ ⟨q, rfl, .inr ⟨b, cap, h1, h2, (Sub.isNone (by simpa using (Sub.refl st).fresh hb6) h3), rfl⟩⟩
    rw [h4]
    exact Sub.upd (by simpa using (Sub.refl st).fresh hb6) b _
theorem h_impl_lift (t : Tr) (frm b : Int) (hf : W frm = frm) (hsz : t.size ≤ 1000000000000) (st : St) : HCalls prog n_impl_lift [tree t, .int .i64 frm, .int .i64 b] st (Just (tree (t.lift frm b)) st) := OwnTree.just (h_impl_lift_own t frm b hf hsz st)
end Go.H.Tryd
/- Contracts: the program makes long forms and looks at patterns. -/
set_option linter.unusedVariables false
set_option linter.unusedSimpArgs false
namespace Go.H.Tryd
open Go Go.H

theorem h_impl_takes (a : Tr) (ha : a.isSimple = true) (hsz : a.size ≤ 1000000) (st : St) : HCalls prog n_impl_takes [tree a] st (Just (.tup [trees a.args, tree a.target]) st) := by
  apply c_impl_takes
  unfold b_impl_takes
  refine e_box_own (tree_isJunk _) fun b1 hb1 => ?_
  intro b3 hb3
  simp only [upd_none] at hb3
  have hargs := Tr.args_size a ha
  generalize hv : a.args = v at hargs
  generalize hw : a.target = wt
  try simp
  generalize hs1 : upd (upd st b1 (HObj.cells (tree a).cells)) b3 _ = s1
  refine hFix_rec (σ := PV × St × St × Tr × List Tr) (fun z => z.2.2.2.1.size) (fun z => [z.1]) (fun z => z.2.1)
    (fun z => Grow z.2.2.1 4 (z.2.2.2.2.map tree) z.1 z.2.1 ∧ z.2.2.1 b1 = some (.cells (tree z.2.2.2.1).cells) ∧ z.2.2.1 b3 = some (HObj.cells [PV.int IntKind.i64 0, PV.int IntKind.i64 0, PV.str [], PV.sl 0 true []]) ∧ Sub st z.2.2.1 ∧ z.2.2.2.1.isSimple = true ∧ z.2.2.2.2 ++ z.2.2.2.1.args = v ∧ z.2.2.2.1.target = wt) ?_ (_, s1, s1, a, [])
    ⟨Grow.nil _ _ _, by subst hs1; simp [upd_apply, hb3], by subst hs1; simp [upd_apply], by subst hs1; exact (Sub.refl _).fresh hb1 |>.fresh hb3.2.2, ha, by simpa using hv, hw⟩
  rintro ⟨p, s, sb, u, acc⟩ ⟨q0, q1, q3, qs, qu, qa, qt⟩ ihl
  simp only at q0 q1 q3 qs qu qa qt
  have e1 := q0.sub.get q1
  try simp [q_load_p e1]
  refine br_dec (fun hk => ?_) (fun hk => ?_)
  · rcases Tr.simple_cases qu with ⟨_, x, y, e, hx, hy, _⟩ | ⟨hk2, _⟩
    · simp [q_load_p e1, ia_tree0 (ts := u.kids) (t := x) _ (by rw [e]; rfl), ia_tree1 (ts := u.kids) (t := y) _ (by rw [e]; rfl)]
      have e2 := Tr.args_arrow hk e
      refine q0.append (elems_sl _ _ _ _) (by rw [e2] at qa; have := congrArg List.length qa; simp at this ⊢; omega) fun p2 s2 hg => ?_
      have e1' := hg.sub.get q1
      try simp [q_load_p e1', ia_tree1 (ts := u.kids) (t := y) _ (by rw [e]; rfl)]
      rw [e_store_p _ _ _ _ _ _ _ e1']
      try simp
      refine ihl (p2, upd s2 b1 (.cells (tree y).cells), upd sb b1 (.cells (tree y).cells), y, acc ++ [x]) (by simp only; exact Tr.kid_size (by rw [e]; simp)) ⟨?_, by simp [upd_apply], by simp [upd_apply, hb3, q3], qs.put hb1, hy, by simp only; rw [← qa, e2]; simp, by rw [← qt]; exact (Tr.target_arrow hk e).symm⟩
      simpa using hg.store (.cells (tree y).cells) q1
    · omega
  · rw [Tr.args_base hk, List.append_nil] at qa
    rw [Tr.target_base hk] at qt
    subst qa qt
    have e3 := q0.sub.get q3
    rw [e_store_p _ _ _ _ _ _ _ e3]
    try simp [q_load_p, upd_apply]
    have q4 := q0.store (.cells (tree u).cells) q3
    refine Just.conv (Conv.trans (Conv.tup (Conv.cons q4.freeze (Conv.sub q4.sub))) (Conv.sub (qs.put hb3.2.2)))
theorem h_impl_longForm (head a : Tr) (ha : a.isSimple = true) (hsz : a.size ≤ 1000000) (hh : head.size ≤ 1000000) (st : St) : HCalls prog n_impl_longForm [tree head, tree a] st (Just (tree (longForm head a)) st) := by
  induction hn : SizeOf.sizeOf a using Nat.strongRecOn generalizing head a st with
  | _ N ih =>
  have hargs := Tr.args_size a ha
  apply c_impl_longForm
  unfold b_impl_longForm
  refine e_box_ref (tree_isJunk _) ?_
  refine e_box_ref (tree_isJunk _) ?_
  intro b4 hb4
  generalize hv : longForm head a = v
  rw [longForm_eq] at hv
  try simp
  refine callK_just (h_impl_takes a ha hsz _) ?_
  try simp
  intro b6 hb6
  simp only [upd_none] at hb6
  try simp [q_load_p, upd_apply, hb6]
  refine callK_own (h_impl_lift_own head 0 _ (W_in (by omega)) (by omega) _) fun q s hg => ?_
  have hlk : (head.lift 0 (a.args.length : Int)).kids.length ≤ 1000000 := by have := head.kids_len; simp; omega
  generalize hout : head.lift 0 (a.args.length : Int) = out at hv hlk hg ⊢
  intro b8 hb8
  have hqc := hg.cellOK
  try simp [upd_apply, q_load_p, hqc]
  have hw : IntKind.i64.wrap ((a.args.length : Int) - 1) = (a.args.length : Int) - 1 := wrap64 (by omega) (by omega)
  have hz4 : (PV.sl 0 true []) = PV.sl 0 true [] := rfl
  generalize hs0 : upd (upd st b4 (HObj.cells [PV.int IntKind.i64 0, PV.int IntKind.i64 0, PV.str [], PV.sl 0 true []])) b6 (HObj.cells (tree a.target).cells) = s0 at hg
  have k4 : s0 b4 = some (HObj.cells [PV.int IntKind.i64 0, PV.int IntKind.i64 0, PV.str [], PV.sl 0 true []]) := by subst hs0; simp [upd_apply, hb6]
  have ks : Sub st s0 := by subst hs0; exact (Sub.refl _).fresh hb4 |>.fresh hb6.2.2
  have hb80 := hg.sub.isNone hb8
  have n48 := ne_of k4 hb80
  have g1 := hg.beside (c := b8) (.cells [.int .i64 out.kind, .int .i64 out.n, .str out.name, q]) hb8
  refine loop_idx (β := St × St × PV) a.args (fun z i => [.int .i64 (i : Int)]) (fun z => z.1)
    (fun z i rest => Grow z.2.1 4 ((out.kids ++ (a.args.mapIdx fun i b => longForm (Tr.var (W (W (a.args.length - 1) - i)) []) b).take i).map tree) z.2.2 z.1 ∧ z.2.1 b8 = some (.cells [.int .i64 out.kind, .int .i64 out.n, .str out.name, z.2.2]) ∧ z.2.1 b4 = some (HObj.cells [PV.int IntKind.i64 0, PV.int IntKind.i64 0, PV.str [], PV.sl 0 true []]) ∧ Sub st z.2.1) ?_ ?_
    (upd s b8 (.cells [.int .i64 out.kind, .int .i64 out.n, .str out.name, q]), upd s0 b8 (.cells [.int .i64 out.kind, .int .i64 out.n, .str out.name, q]), q) ⟨by simpa using g1, by simp [upd_apply], by simp [upd_apply, n48, k4], ks.put (ks.isNone hb80)⟩
  · rintro i x rest ⟨s, sb, q⟩ hi hx ⟨q0, q8, q4, qs⟩ k
    simp only at q0 q8 q4 qs
    try simp [hi, ia_tree _ hx]
    intro c hc
    have hc2 := q0.sub.isNone hc
    have e8 := q0.sub.get q8
    have n8c := ne_of e8 hc
    have n4c := ne_of q4 hc2
    have hqc := q0.cellOK
    have hq1 : q.isAgg = false ∧ takeV false 1 [q] = some q := by
      rcases q0 with ⟨_, ⟨e, rfl⟩, _⟩ | ⟨b, cap, rfl, _⟩ <;> exact ⟨rfl, rfl⟩
    have hwi : IntKind.i64.wrap ((a.args.length : Int) - 1 - (i : Int)) = (a.args.length : Int) - 1 - (i : Int) := wrap64 (by omega) (by omega)
    try simp [q_load_p, upd_apply, n8c, e8, hq1]
    refine callK_just (h_impl_variable0 _ _) ?_
    try simp [q_load_p, upd_apply, n8c, e8, hq1]
    have hxa : x ∈ a.args := List.mem_of_getElem? hx
    have hxs : x.size ≤ 1000000 := by have := Tr.sizes_mem hxa; omega
    refine callK_just (ih _ (by rw [← hn]; exact Tr.args_lt a x hxa) _ x (Tr.args_simple a ha x hxa) hxs (by simp [Tr.var, Tr.size_eq]) _ rfl) ?_
    try simp [q_load_p, upd_apply, n8c, e8, hq1]
    have q0' := q0.beside (c := c) (.cells (tree x).cells) hc
    refine q0'.append (elems_sl _ _ _ _) (by simp; omega) fun q2 s2 hg2 => ?_
    have q8' : upd sb c (.cells (tree x).cells) b8 = some (.cells [.int .i64 out.kind, .int .i64 out.n, .str out.name, q]) := by simp [upd_apply, n8c, q8]
    have e8' := hg2.sub.get q8'
    rw [e_store_p _ _ _ _ _ _ _ e8']
    have hqc2 := hg2.cellOK
    have hqj : q2.cells = [q2] ∧ q2.ncells = 1 ∧ q2.isJunk = false := by
      rcases hg2 with ⟨_, ⟨e, rfl⟩, _⟩ | ⟨b, cap, rfl, _⟩ <;> exact ⟨rfl, rfl, rfl⟩
    try simp [hqj, hqc2]
    rw [W_idx hi (by unfold maxLen; omega)]
    refine k (upd s2 b8 (.cells [.int .i64 out.kind, .int .i64 out.n, .str out.name, q2]), upd (upd sb c (.cells (tree x).cells)) b8 (.cells [.int .i64 out.kind, .int .i64 out.n, .str out.name, q2]), q2) ⟨?_, ?_, ?_, ?_⟩
    · have := hg2.store (.cells [.int .i64 out.kind, .int .i64 out.n, .str out.name, q2]) q8'
      simp only
      have hel : longForm (Tr.var (W (W ((a.args.length : Int) - 1) - (i : Int))) []) x = longForm (Tr.var (IntKind.i64.wrap (IntKind.i64.wrap ((a.args.length : Int) - 1) - (i : Int))) []) x := rfl
      rw [mapIdx_snoc _ _ _ hx, hel]
      simpa using this
    · simp [upd_apply]
    · simp [upd_apply, n4c, n48, q4]
    · exact (qs.put (qs.isNone hc2)).put (ks.isNone hb80)
  · rintro ⟨s, sb, q⟩ ⟨q0, q8, q4, qs⟩
    simp only at q0 q8 q4 qs
    try simp
    rw [List.take_of_length_le (by simp)] at q0
    generalize hT : Tr.mk out.kind out.n out.name (out.kids ++ List.mapIdx (fun i b => longForm (Tr.var (W (W (a.args.length - 1) - i)) []) b) a.args) = T
    have hout2 : lams a.args.length T = v := by
      rw [← hT, ← hv]
      congr 2
      · rw [← hout, Tr.lift_eq]; rfl
      · rw [← hout, Tr.lift_eq]; rfl
    have hTk : T.kind = out.kind ∧ T.n = out.n ∧ T.name = out.name ∧ T.kids = out.kids ++ List.mapIdx (fun i b => longForm (Tr.var (W (W (a.args.length - 1) - i)) []) b) a.args := by rw [← hT]; exact ⟨rfl, rfl, rfl, rfl⟩
    rw [← hTk.2.2.2] at q0
    rw [← hTk.1, ← hTk.2.1, ← hTk.2.2.1] at q8
    refine hFix_rec (σ := Nat × St × St × PV × Tr) (fun z => a.args.length - z.1) (fun z => [.int .i64 (z.1 : Int)]) (fun z => z.2.1)
      (fun z => z.1 ≤ a.args.length ∧ GrowF z.2.2.1 4 (z.2.2.2.2.kids.map tree) z.2.2.2.1 z.2.1 ∧ z.2.2.1 b8 = some (.cells [.int .i64 z.2.2.2.2.kind, .int .i64 z.2.2.2.2.n, .str z.2.2.2.2.name, z.2.2.2.1]) ∧ z.2.2.1 b4 = some (HObj.cells [PV.int IntKind.i64 0, PV.int IntKind.i64 0, PV.str [], PV.sl 0 true []]) ∧
        Sub st z.2.2.1 ∧ lams (a.args.length - z.1) z.2.2.2.2 = v) ?_
      (0, s, sb, q, T) ⟨by simp, .inl q0, q8, q4, qs, hout2⟩
    rintro ⟨m, s, sb, q, t⟩ ⟨rm, rg, r8, r4, rs, rl⟩ ihm
    simp only at rm rg r8 r4 rs rl
    have e8 := rg.sub.get r8
    have e4 := rg.sub.get r4
    have hqc := rg.cellOK
    try simp
    refine br_dec (fun hm => ?_) (fun hm => ?_)
    · simp [q_load_p e8]
      refine callK_conv rg.tree ?_
      refine callK_just (h_impl_lam t _) ?_
      rw [e_store_p _ _ _ _ _ _ _ r8]
      try simp
      rw [show IntKind.i64.wrap ((m : Int) + 1) = ((m + 1 : Nat) : Int) by rw [wrap64 (by omega) (by omega)]; omega]
      have hs : upd sb b8 (.cells (tree (Tr.lam t)).cells) b4 = some (HObj.cells [PV.int IntKind.i64 0, PV.int IntKind.i64 0, PV.str [], PV.sl 0 true []]) := by simp [upd_apply, n48, r4]
      refine ihm (m + 1, upd sb b8 (.cells (tree (Tr.lam t)).cells), upd sb b8 (.cells (tree (Tr.lam t)).cells), .sl 4 false ((Tr.lam t).kids.map tree), Tr.lam t) (by simp only; omega)
        ⟨by simp only; omega, .inr ⟨rfl, rfl⟩, by simp only; rw [upd_same, tree_cells], hs, rs.put (ks.isNone hb80), ?_⟩
      rw [← rl]
      simp only
      rw [show a.args.length - m = (a.args.length - (m + 1)) + 1 by omega]
      rfl
    · have : m = a.args.length := by omega
      subst this
      simp only [Nat.sub_self, lams] at rl
      subst rl
      try simp [q_load_p e8]
      rw [e_store_p _ _ _ _ _ _ _ e4]
      try simp [hqc, q_load_p, upd_apply]
      exact Just.conv (Conv.trans (GrowF.tree (rg.store _ r4)) (Conv.sub (rs.put hb4)))
theorem h_impl_longVariable (t a : Tr) (ht : t.isTerm false = true) (ha : a.isSimple = true) (hsz : a.size ≤ 1000000) (htz : t.size ≤ 1000000) (st : St) :
    HCalls prog n_impl_longVariable [tree t, tree a] st (Just (.tup [.int .i64 (if 0 ≤ longVar t a then longVar t a else 0), .bool (decide (0 ≤ longVar t a))]) st) := by
  apply c_impl_longVariable
  unfold b_impl_longVariable
  refine e_box_ref (tree_isJunk _) ?_
  refine e_box_ref (tree_isJunk _) ?_
  have hss := Tr.strip_size t
  have hsn := Tr.strip_n t ht
  generalize hv : PV.tup [.int .i64 (if 0 ≤ longVar t a then longVar t a else 0), .bool (decide (0 ≤ longVar t a))] = v
  have no : ∀ s, longVar t a = -1 → Sub st s → retR (Just v st) (.tup [.int .i64 0, .bool false]) s := fun s h hs => Just.same (by rw [← hv, h]; rfl) hs
  try simp
  intro b6 hb6
  try simp [q_load_p, upd_apply]
  refine hJ_of fun J hJ => ?_
  refine hFix_rec (σ := Nat × St × Tr) (fun z => z.2.2.size) (fun z => [.int .i64 (z.1 : Int)]) (fun z => z.2.1)
    (fun z => z.2.1 b6 = some (.cells (tree z.2.2).cells) ∧ Sub st z.2.1 ∧ z.2.2.lamsOK = true ∧ z.1 + z.2.2.strip.1 = t.strip.1 ∧ z.2.2.strip.2 = t.strip.2) ?_ (0, upd st b6 (.cells (tree t).cells), t) ⟨by simp [upd_apply], (Sub.refl _).fresh hb6, Tr.isTerm_lams t _ ht, by simp, rfl⟩
  rintro ⟨n, s, u⟩ ⟨q6, qs, qu, qn, qb⟩ ihl
  simp only at q6 qs qu qn qb
  try simp [q_load_p q6]
  refine br_dec (fun hk => ?_) (fun hk => ?_)
  · obtain ⟨x, e, hx⟩ := Tr.lamsOK_cases qu hk
    have e2 := Tr.strip_lam hk e
    rw [e2] at qn qb
    simp only at qn qb
    try simp [q_load_p q6, ia_tree0 (ts := u.kids) (t := x) _ (by rw [e]; rfl)]
    rw [e_store_p _ _ _ _ _ _ _ q6]
    try simp
    rw [show IntKind.i64.wrap ((n : Int) + 1) = ((n + 1 : Nat) : Int) by rw [wrap64 (by omega) (by omega)]; omega]
    exact ihl (n + 1, upd s b6 (.cells (tree x).cells), x) (by simp only; exact Tr.kid_size (by rw [e]; simp)) ⟨by simp [upd_apply], qs.put hb6, hx, by simp only; omega, qb⟩
  · rw [Tr.strip_base hk] at qn qb
    simp only at qn qb
    rw [← qb] at hsn
    have hlv : longVar t a = if u.kind = 5 ∧ (n : Int) ≤ u.n then (if t = longForm (Tr.var (W (u.n - n)) []) a then W (u.n - n) else -1) else -1 := by
      unfold longVar; rw [← qb, ← qn]; simp
    have hwn : W (u.n - n) = u.n - n := W_in (by omega)
    refine hJ _ _ ?_
    try simp [q_load_p q6]
    refine br_dec (fun h5 => ?_) (fun h5 => no _ (by rw [hlv, if_neg (fun h => h5 h.1)]) qs)
    rw [show IntKind.i64.wrap (u.n - n) = u.n - n from hwn]
    refine br_dec (fun hn => no _ (by rw [hlv, if_neg (fun h => by omega)]) qs) (fun hn => ?_)
    rw [if_pos ⟨h5, by omega⟩, hwn] at hlv
    refine callK_just (h_impl_variable0 _ _) ?_
    try simp
    refine callK_just (h_impl_longForm _ a ha hsz (by simp [Tr.var, Tr.size_eq]) _) ?_
    try simp
    refine callK_just (h_impl_same _ _ _) ?_
    try simp
    refine br_dec (fun h => ?_) (fun h => no _ (by rw [hlv, if_neg (fun e => h e.symm)]) qs)
    rw [if_pos h.symm] at hlv
    exact Just.same (by rw [← hv, hlv, if_pos (by omega), decide_eq_true (by omega)]) qs
theorem h_slices_Index_int_int {l : List Int} (k : Int) {p : PV} {st : St} (hr : Reads st 1 (l.map (PV.int .i64)) p) (hl : l.length ≤ 1000000000) : HCalls prog n_slices_Index_int_int [p, .int .i64 k] st (Just (.int .i64 (place l k)) st) := by
  apply c_slices_Index_int_int
  unfold b_slices_Index_int_int
  generalize hv : place l k = v
  try simp [hr.len]
  refine loop_idx (β := Unit) l (fun _ i => [.int .i64 (i : Int)]) (fun _ => st) (fun _ i rest => placeGo k i rest = v) ?_ ?_ () hv
  · intro i x rest _ hi hx hq kk
    obtain ⟨a, h1, h2⟩ := hr.get i (.int .i64 x) .i64 (by simp [hx])
    try simp [hi, h1, h2]
    rw [placeGo] at hq
    refine br_dec (fun h => Just.int ?_) (fun h => ?_)
    · rw [← hq, if_pos h.symm]
    · rw [if_neg (fun e => h e.symm)] at hq
      rw [W_idx hi (by unfold maxLen; omega)]
      exact kk () hq
  · intro _ hq
    try simp
    exact Just.int hq
theorem h_slices_Contains_int_int {l : List Int} (k : Int) {p : PV} {st : St} (hr : Reads st 1 (l.map (PV.int .i64)) p) (hl : l.length ≤ 1000000000) : HCalls prog n_slices_Contains_int_int [p, .int .i64 k] st (Just (.bool (decide (k ∈ l))) st) := by
  apply c_slices_Contains_int_int
  unfold b_slices_Contains_int_int
  refine callK_just (h_slices_Index_int_int k hr hl) ?_
  try simp
  exact Just.bool (by rw [decide_eq_decide]; exact place_mem l k)
/-- What is said of a list that may be: the list, or no; the program's way. -/
theorem h_impl_pattern (holes : List Tr) (hh : ∀ a ∈ holes, a.isSimple = true ∧ a.size ≤ 1000000) (t : Tr) (ht : t.isTerm false = true) (hn : 0 ≤ t.n) (hsz : t.size ≤ 1000000) (st : St) :
    HCalls prog n_impl_pattern [trees holes, .ref (tree t).cells] st (MayList (match nth holes t.n with | some a => varsOf t.kids a.args | none => none) st) := by
  have hkl := t.kids_len
  apply c_impl_pattern
  unfold b_impl_pattern
  generalize hv : (match nth holes t.n with | some a => varsOf t.kids a.args | none => none) = v
  try simp
  refine br_dec (fun hg => ?_) (fun hg => ?_)
  · rw [nth_none (by omega)] at hv
    subst hv
    exact MayList.no (Sub.refl _)
  · obtain ⟨m, hm, a, hx, hnt⟩ := nth_some hn (show t.n < holes.length by omega)
    have hhm := hh a (List.mem_of_getElem? hx)
    have hargs := Tr.args_size _ hhm.1
    rw [hnt] at hv
    simp only at hv
    rw [hm]
    try simp [ia_tree _ hx]
    refine callK_just (h_impl_takes a hhm.1 hhm.2 _) ?_
    try simp
    intro b7 hb7
    try simp
    generalize hs1 : upd st b7 (HObj.cells (tree a.target).cells) = s1
    have hsub : Sub st s1 := by subst hs1; exact (Sub.refl _).fresh hb7
    refine br_dec (fun hl => ?_) (fun hl => ?_)
    · have hl : t.kids.length = a.args.length := by omega
      refine loop_idx (β := PV × St × St × List Int) t.kids (fun z i => [z.1, .int .i64 (i : Int)]) (fun z => z.2.1) (fun z i rest => Grow z.2.2.1 1 (z.2.2.2.map (PV.int .i64)) z.1 z.2.1 ∧ Sub st z.2.2.1 ∧ z.2.2.2.length = i ∧ varsGo z.2.2.2 rest (a.args.drop i) = v) ?_ ?_ (_, s1, s1, []) ⟨Grow.nil _ _ _, hsub, rfl, hv⟩
      · rintro i x rest ⟨p, s, sb, out⟩ hi hxx ⟨q0, qs, ql, qv⟩ kk
        simp only at q0 qs ql qv
        obtain ⟨b, hy⟩ : ∃ b, a.args[i]? = some b := ⟨a.args[i]'(by omega), List.getElem?_eq_getElem _⟩
        have hxm := List.mem_of_getElem? hxx
        have hbm := List.mem_of_getElem? hy
        have g1 := Tr.kids_lams ht hxm
        have g2 : x.size ≤ 1000000 := by have := Tr.kid_size hxm; omega
        have g4 : b.size ≤ 1000000 := by have := Tr.sizes_mem hbm; omega
        rw [drop_some hy, varsGo] at qv
        try simp [hi, ia_tree _ hxx]
        intro c hc
        have hc2 := q0.sub.isNone hc
        try simp [q_load_p, upd_apply, ia_tree _ hy]
        refine callK_just (h_impl_longVariable x b g1 (Tr.args_simple a hhm.1 b hbm) g4 g2 _) ?_
        try simp
        have q1 := q0.beside (c := c) (.cells (tree x).cells) hc
        have qs' : Sub st (upd sb c (.cells (tree x).cells)) := qs.put (qs.isNone hc2)
        refine br_dec (fun hneg => ?_) (fun hneg => ?_)
        · rw [if_neg (by omega)] at qv
          rw [if_pos hneg]
          refine callK_just (h_slices_Contains_int_int (l := out) _ q1.reads (by omega)) ?_
          try simp
          refine br_dec (fun hp => ?_) (fun hp => ?_)
          · rw [if_pos hp] at qv
            subst qv
            exact MayList.no (qs'.trans q1.sub)
          · rw [if_neg hp] at qv
            refine q1.append (elems_sl _ _ _ _) (by simp; omega) fun p2 s2 hg => ?_
            rw [W_idx hi (by unfold maxLen; omega)]
            exact kk (p2, s2, upd sb c (.cells (tree x).cells), out ++ [longVar x b]) ⟨by simpa using hg, qs', by simp [ql], qv⟩
        · rw [if_pos (by omega)] at qv
          subst qv
          exact MayList.no (qs'.trans q1.sub)
      · rintro ⟨p, s, sb, out⟩ ⟨q0, qs, ql, qv⟩
        simp only at q0 qs ql qv
        rw [hl, List.drop_length, varsGo] at qv
        subst qv
        try simp
        exact MayList.yes (Conv.trans q0.freeze (Conv.sub qs)) (qs.trans q0.sub)
    · have : v = none := by
        cases hvv : v with
        | none => rfl
        | some l => rw [hvv] at hv; exact absurd (varsGo_len hv) (by omega)
      subst this
      exact MayList.no hsub
/-- All nodes of a tree are asked. -/
theorem h_impl_Tree_each (p : Tr → Int → Bool) (g : FuncId) (us vs : List PV) (t : Tr) (d : Int) (hsz : t.size ≤ 1000000000000) (I : Tr → Prop) (hI : ∀ t, I t → ∀ x ∈ t.kids, I x) (hit : I t) (st : St)
    (hg : ∀ (t : Tr) (d : Int), I t → HCalls prog g (us ++ [.ref (tree t).cells, .int .i64 d] ++ vs) st (Just (.bool (p t d)) st)) :
    HCalls prog n_impl_Tree_each [.ref (tree t).cells, .int .i64 d, .fn (.func g) us vs] st (Just (.bool (eachT p t d)) st) := by
  induction t using Tr.ind generalizing d with
  | _ t ih =>
  have hl := t.kids_len
  apply c_impl_Tree_each
  unfold b_impl_Tree_each
  generalize hv : eachT p t d = v
  rw [eachT_eq] at hv
  try simp
  refine callK_just (by simpa using hg t d hit) ?_
  try simp
  refine br_of (fun h => Just.bool (by rw [← hv, h]; rfl)) (fun h => ?_)
  rw [h, Bool.false_or] at hv
  refine loop_idx (β := Unit) t.kids (fun _ i => [.int .i64 (i : Int)]) (fun _ => st) (fun _ i rest => ((t.kids.mapIdx fun i x => eachT p x (W (d + t.under i))).drop i).any id = v) ?_ ?_ () hv
  · intro i x rest _ hi hx hq k
    have hxm := List.mem_of_getElem? hx
    rw [drop_mapIdx _ _ _ hx, List.any_cons] at hq
    try simp [hi, ia_tree _ hx]
    refine callK_just (h_impl_Tree_under t i (PT.ref _ _)) ?_
    try simp
    refine callK_just (ih x hxm _ (by have := Tr.kid_size hxm; omega) (hI t hit x hxm)) ?_
    try simp
    refine br_of (fun h => Just.bool (by rw [← hq]; simp [h])) (fun h => ?_)
    rw [W_idx hi (by unfold maxLen; omega)]
    exact k () (by rw [← hq]; simp [h])
  · intro _ hq
    try simp
    refine Just.bool ?_
    rw [← hq, List.drop_of_length_le (by simp)]
    rfl
theorem h_impl_patterns (holes : List Tr) (hh : ∀ a ∈ holes, a.isSimple = true ∧ a.size ≤ 1000000) (t : Tr) (ht : t.isTerm false = true) (hsz : t.size ≤ 1000000) (st : St) :
    HCalls prog n_impl_patterns [trees holes, tree t] st (Just (.bool (patternsT holes t)) st) := by
  apply c_impl_patterns
  unfold b_impl_patterns
  refine e_box_ref rfl ?_
  refine e_box_ref (tree_isJunk _) ?_
  refine callK_just (h_impl_Tree_each (badHole holes) n_impl_patterns_1 [] [.ref [trees holes]] t 0 (by omega) (fun t => t.isTerm false = true ∧ t.size ≤ 1000000) (fun t ht x hx => ⟨Tr.kids_lams ht.1 hx, by have := Tr.kid_size hx; omega⟩) ⟨ht, hsz⟩ st ?_) ?_
  · intro t d ⟨ht, hsz⟩
    apply c_impl_patterns_1
    unfold b_impl_patterns_1
    generalize hv : badHole holes t d = v
    unfold badHole at hv
    try simp
    refine br_dec (fun h7 => ?_) (fun h7 => Just.bool (by rw [← hv, decide_eq_false h7]; rfl))
    rw [decide_eq_true h7, Bool.true_and] at hv
    have hn : 0 ≤ t.n := by
      rw [Tr.isTerm_eq, if_neg (by omega), if_pos (.inr h7)] at ht
      simp only [Bool.and_eq_true, decide_eq_true_eq] at ht
      exact ht.1.1.1
    have ht0 := ht
    refine callK_may (h_impl_pattern holes hh t ht0 hn hsz _) (fun l hl => ?_) (fun hl p => ?_)
    · simp
      refine Just.bool ?_
      rw [← hv]
      cases hnt : nth holes t.n with
      | none => rw [hnt] at hl; cases hl
      | some a => rw [hnt] at hl; simp only at hl; simp [hl]
    · simp
      refine Just.bool ?_
      rw [← hv]
      cases hnt : nth holes t.n with
      | none => simp
      | some a => rw [hnt] at hl; simp only at hl; simp [hl]
  · simp
    exact Just.bool (by rw [each_patterns]; simp)
theorem h_impl_PatternOK (holes : List Tr) (t : Tr) (st : St) : HCalls prog n_impl_PatternOK [trees holes, tree t] st (Just (.bool (patternOK holes t)) st) := by
  apply c_impl_PatternOK
  unfold b_impl_PatternOK
  refine e_box_ref (tree_isJunk _) ?_
  refine callK_just (h_impl_simplesOK holes 20 _) ?_
  try simp
  refine br_of (fun h1 => ?_) (fun h1 => Just.bool (by unfold patternOK; rw [h1]; rfl))
  refine callK_just (h_impl_TermOK t _) ?_
  try simp
  refine br_of (fun h2 => ?_) (fun h2 => Just.bool (by unfold patternOK; rw [h1, h2]; rfl))
  have := termOK_of h2
  refine callK_just (h_impl_patterns holes (simplesOK_mem h1) t this.1 (by omega) _) ?_
  exact Just.bool (by unfold patternOK; rw [h1, h2]; rfl)
end Go.H.Tryd
/- The contract of the law. -/
set_option linter.unusedVariables false
set_option linter.unusedSimpArgs false
namespace Go.H.Tryd
open Go Go.H

theorem h_laws_FnExactPatternOK (holes : List Tr) (t : Tr) (hb : Tr.bulks holes + t.bulk ≤ 1048576) (st : St) : HCalls prog n_laws_FnExactPatternOK [trees holes, tree t] st (Just (.bool true) st) := by
  apply c_laws_FnExactPatternOK
  unfold b_laws_FnExactPatternOK
  refine e_box_ref (tree_isJunk _) ?_
  refine callK_just (h_laws_szTreeS holes 1048576 (by omega) (by omega) _) ?_
  have e1 : left 1048576 (Tr.bulks holes) = 1048576 - (Tr.bulks holes : Int) := by unfold left; rw [if_pos (by omega)]
  rw [e1]
  try simp
  refine br_of (fun h => by simp at h; omega) (fun _ => ?_)
  refine callK_just (h_laws_szTree t _ (by omega) (by omega) _) ?_
  have e2 : left (1048576 - (Tr.bulks holes : Int)) t.bulk = 1048576 - (Tr.bulks holes : Int) - t.bulk := by unfold left; rw [if_pos (by omega)]
  rw [e2]
  try simp
  refine br_of (fun h => by simp at h; omega) (fun _ => ?_)
  refine callK_just (h_laws_toTreeS holes (by omega) _) ?_
  try simp
  refine callK_just (h_laws_toTree t (by omega) _) ?_
  refine callK_just (h_spec_PatternOK holes t _) ?_
  refine callK_just (h_laws_toTreeS holes (by omega) _) ?_
  try simp
  refine callK_just (h_laws_toTree t (by omega) _) ?_
  intro b8 hb8
  try simp [q_load_p, upd_apply, hb8]
  refine callK_just (h_impl_PatternOK holes t _) ?_
  try simp
  refine callK_just (h_laws_toTreeS holes (by omega) _) ?_
  refine callK_just (h_laws_eqTreeS holes holes _) ?_
  try simp [q_load_p, upd_apply, hb8]
  refine callK_just (h_laws_toTree t (by omega) _) ?_
  try simp [q_load_p, upd_apply, hb8]
  refine callK_just (h_laws_eqTree t t _) ?_
  try simp
  exact Just.bool rfl (Sub.fresh (Sub.refl _) hb8)
end Go.H.Tryd
