/- Part of a proof that the program answers as the reference does: EFC27, EFC28, EFC29, EFC32, EFC30, EFC31, EFC33. -/
import Derived.Test.YtlhiejikjncgpaaGreatDoorHP
import Derived.Test.YtlhiejikjncgpaaGreatDoorHY
/- Contracts: the program's checks over a signature, first part. -/
set_option linter.unusedVariables false
set_option linter.unusedSimpArgs false
namespace Go.H.Tryz
open Go Go.H

theorem Just.zeroTup {st st1 : St} {x : PV} (hs : Sub st st1) : retR (Just (.tup [tree noTree, x]) st) (.tup [.agg [.int .i64 0, .int .i64 0, .str [], .sl 0 true []], x]) st1 :=
  retR_conv (Conv.trans (Conv.tup (Conv.cons (conv_tree _ 0 0 [] 0 true [] (.inr rfl)) (Conv.refl _ _))) (Conv.sub hs)) ⟨rfl, rfl⟩
theorem h_slices_IndexFunc_impl_Decl_impl_Decl (p : Dc → Bool) (ts : List Dc) (g : FuncId) (us vs : List PV) (hl : ts.length ≤ 1000000) (st : St) (hg : ∀ t ∈ ts, HCalls prog g (us ++ [decl t] ++ vs) st (Just (.bool (p t)) st)) :
    HCalls prog n_slices_IndexFunc_impl_Decl_impl_Decl [decls ts, .fn (.func g) us vs] st (Just (.int .i64 (fstOf p ts)) st) := by
  apply c_slices_IndexFunc_impl_Decl_impl_Decl
  unfold b_slices_IndexFunc_impl_Decl_impl_Decl
  generalize hv : fstOf p ts = v
  try simp
  refine loop_idx (β := Unit) ts (fun _ i => [.int .i64 (i : Int)]) (fun _ => st) (fun _ i rest => fstGo p i rest = v) ?_ ?_ () hv
  · intro i x rest _ hi hx hq k
    rw [fstGo] at hq
    try simp [hi, ia_decl _ hx]
    refine callK_just (by simpa using hg x (List.mem_of_getElem? hx)) ?_
    try simp
    refine br_of (fun h => Just.int (by rw [← hq, if_pos h])) (fun h => ?_)
    rw [W_idx hi (by unfold maxLen; omega)]
    exact k () (by rw [← hq, if_neg (by rw [h]; simp)])
  · intro _ hq
    try simp
    exact Just.int hq
theorem h_impl_checker_declared_1 (d : Dc) (n : List UInt8) (fam : Bool) (st : St) : HCalls prog n_impl_checker_declared_1 [decl d, .ref [.str n], .ref [.bool fam]] st (Just (.bool (decide (d.name = n) && decide (d.fam = fam))) st) := by
  apply c_impl_checker_declared_1
  unfold b_impl_checker_declared_1
  refine e_box_ref (decl_isJunk _) ?_
  try simp
  refine br_dec (fun h => ?_) (fun h => Just.bool (by rw [decide_eq_false h]; rfl))
  exact Just.bool (by rw [decide_eq_true h]; cases d.fam <;> cases fam <;> rfl)
def declP (x : Option Tr) : PV := match x with | some a => .tup [tree a, .bool true] | none => .tup [tree noTree, .bool false]
theorem h_impl_checker_declared (b : Nat) (sig : List Dc) (hs : SigR sig) (n : List UInt8) (fam : Bool) (k : Int) (st : St) (hb : st b = some (ckr sig k)) :
    HCalls prog n_impl_checker_declared [.ptr b 0, .str n, .bool fam] st (Just (declP (declaredT sig n fam)) st) := by
  apply c_impl_checker_declared
  unfold b_impl_checker_declared
  rw [← find_named hs.apart]
  refine e_box_ref rfl ?_
  refine e_box_ref rfl ?_
  intro b6 hb6
  have n6 : b ≠ b6 := fun e => by rw [← e, hb] at hb6; cases hb6
  have hsub : ∀ o, Sub st (upd st b6 o) := fun o => (Sub.refl st).put hb6
  have hb' : (upd st b6 (.cells [.int .i64 0, .int .i64 0, .str [], .sl 0 true []])) b = some (.cells [.int .i64 k, decls sig]) := by rw [upd_ne _ _ n6]; exact hb
  try simp [q_load_p hb']
  refine callK_just (h_slices_IndexFunc_impl_Decl_impl_Decl (fun d => decide (d.name = n) && decide (d.fam = fam)) sig n_impl_checker_declared_1 [] [.ref [.str n], .ref [.bool fam]] hs.len _ (fun x hx => h_impl_checker_declared_1 x n fam _)) ?_
  try simp
  have hcase := fstOf_cases (fun d : Dc => decide (d.name = n) && decide (d.fam = fam)) sig
  rcases hcase with ⟨e1, e2⟩ | ⟨j, hj, e1, e2, e3⟩
  · rw [e1, e2]
    refine br_dec (fun h => ?_) (fun h => by omega)
    rw [zeroTree]
    try simp
    try simp [q_load_p (upd_same _ _ _)]
    exact Just.zeroTup (hsub _)
  · rw [e1, e3]
    refine br_dec (fun h => by omega) (fun h => ?_)
    try simp [q_load_p hb', ia_decls hj]
    try simp [q_load_p (upd_same _ _ _)]
    exact Just.ret (hsub _)
theorem h_impl_behind (ctx : List Tr) (a : Tr) (hl : ctx.length ≤ 1000000) (st : St) : HCalls prog n_impl_behind [trees ctx, tree a] st (Just (trees (ctx ++ [a])) st) := by
  apply c_impl_behind
  unfold b_impl_behind
  refine e_box_ref (tree_isJunk _) ?_
  try simp
  refine callK_just (h_slices_Clip_impl_Tree_impl_Tree ctx false _) ?_
  try simp
  refine append_full (elems_sl _ _ _ _) (by simp) (by simp; omega) fun p2 s2 hg2 => ?_
  have := hg2.freeze
  exact Just.conv (by simpa using this)
def AtR (h : TypeId) (pl : Int) (Q : Int → Int → St → Prop) : Res → St → Prop := fun q s => ∃ c p, Q c p s ∧ ((c = 0 ∧ q = .ret (.tup [])) ∨ (c ≠ 0 ∧ q = .pan (halt h c pl)))
theorem h_impl_at (pl : Int) (g : FuncId) (caps : List PV) (st : St) (Q : Int → Int → St → Prop) (hc : ∀ b, st b = none → HCalls prog g caps (upd st b (.cells [.int .i64 0, .int .i64 0])) (Caught ty_impl_halt b Q)) :
    HCalls prog n_impl_at [.int .i64 pl, .fn (.func g) [] caps] st (AtR ty_impl_halt pl Q) := by
  apply c_impl_at
  unfold b_impl_at
  refine callK_of (h_impl_caught g caps st Q hc) (fun p s h => ?_) (fun p s h => by obtain ⟨c, p', h, _⟩ := h; cases h)
  obtain ⟨c, p', h, hq⟩ := h
  cases h
  intro b4 hb4
  have hsub : ∀ o, Sub s (upd s b4 o) := fun o => (Sub.refl s).put hb4
  try simp
  try simp [q_load_p (upd_same _ _ _)]
  by_cases hc0 : c = 0
  · subst hc0
    try simp
    exact retR_sub (hsub _) ⟨0, p', hq, .inl ⟨rfl, rfl⟩⟩
  · rw [decide_eq_false hc0]
    try simp
    refine callK_stops (h_impl_stop c pl hc0 _) (fun h => absurd h hc0) (fun _ => ?_)
    exact panR_conv (Conv.sub (hsub _)) ⟨c, p', hq, .inr ⟨hc0, rfl⟩⟩
def LeftR (h : TypeId) (b b9 : Nat) (sig : List Dc) (x : (Int ⊕ Tr) × Int) (st : St) : Res → St → Prop := fun q s => match x.1 with
  | .inr r => q = .ret (.tup []) ∧ s = upd (upd st b (ckr sig x.2)) b9 (.cells (tree r).cells)
  | .inl c => q = .pan (halt h c 0) ∧ s = upd st b (ckr sig x.2)
theorem h_impl_checker_left_1 (b b9 : Nat) (sig : List Dc) (t a x y : Tr) (k : Int) (hxy : a.kids = [x, y]) (hx : FF x) (hy : FK y) (ht : t.isTerm false = true) (hts : t.size ≤ 900000) (h0 : 0 ≤ k) (h1 : k ≤ 20000) (st : St) (hb : st b = some (ckr sig k)) (z0 z1 z2 z3 : PV) (h9 : st b9 = some (.cells [z0, z1, z2, z3])) (hne : b ≠ b9) :
    HCalls prog n_impl_checker_left_1 [.ref [.ptr b 0], .ref (tree t).cells, .ref (tree a).cells, .ptr b9 0] st (LeftR ty_impl_halt b b9 sig (subT 100000000 t (eraseT x) y 0 k) st) := by
  apply c_impl_checker_left_1
  unfold b_impl_checker_left_1
  have x0 : a.kids[0]? = some x := by rw [hxy]; rfl
  have y1 : a.kids[1]? = some y := by rw [hxy]; rfl
  try simp [ia_tree0 _ x0, ia_tree1 _ y1]
  refine callK_just (h_impl_erase x hx.1 _) ?_
  try simp
  refine callK_worksR (h_impl_work_putR [decls sig] b 100000000 t (eraseT x) y 0 k _ (term_lamy t ht) (by omega) hx.simple hy.lamy (by have := hy.2; omega) h0 h1 (by have := hy.2; omega) hb) (fun r k' hr => ?_) (fun c k' hc => ?_)
  · have e9 : (upd st b (cntR [decls sig] k')) b9 = some (.cells [z0, z1, z2, z3]) := by rw [upd_ne _ _ hne.symm]; exact h9
    rw [e_store_p _ _ _ _ _ _ _ e9]
    try simp
    exact retR_same (by rw [hr]; exact ⟨rfl, rfl⟩)
  · exact panR_same (by rw [hc]; exact ⟨rfl, rfl⟩)
def LeftQ (b b9 : Nat) (sig : List Dc) (x : (Int ⊕ Tr) × Int) (st : St) (c p : Int) (s : St) : Prop := p = 0 ∧ match x.1 with
  | .inr r => c = 0 ∧ s = upd (upd st b (ckr sig x.2)) b9 (.cells (tree r).cells)
  | .inl c' => c = c' ∧ s = upd st b (ckr sig x.2)
theorem h_impl_checker_left (b : Nat) (sig : List Dc) (t a : Tr) (p k : Int) (ha : FK a) (hk : a.kind = 2) (ht : t.isTerm false = true) (hts : t.size ≤ 900000) (h0 : 0 ≤ k) (h1 : k ≤ 20000) (st : St) (hb : st b = some (ckr sig k)) :
    HCalls prog n_impl_checker_left [.ptr b 0, tree t, tree a, .int .i64 p] st (Halts ty_impl_halt b (ckr sig) tree (leftC t a p k) st) := by
  obtain ⟨x, y, hxy, hx, hy, hsz⟩ := fk_pi ha hk
  apply c_impl_checker_left
  unfold b_impl_checker_left
  generalize hv : leftC t a p k = v
  unfold leftC at hv
  rw [kid0 hxy, kid1 hxy] at hv
  refine e_box_ref rfl ?_
  refine e_box_ref (tree_isJunk _) ?_
  refine e_box_ref (tree_isJunk _) ?_
  intro b8 hb8
  have n8 : b ≠ b8 := fun e => by rw [← e, hb] at hb8; cases hb8
  rw [zeroTree]
  try simp
  intro b9 hb9
  have n98 : b9 ≠ b8 := fun e => by rw [e, upd_same] at hb9; cases hb9
  rw [upd_ne _ _ n98] at hb9
  have n9 : b ≠ b9 := fun e => by rw [← e, hb] at hb9; cases hb9
  try simp
  generalize hs1 : upd (upd st b8 (.cells [.int .i64 0, .int .i64 0, .str [], .sl 0 true []])) b9 (.cells [.int .i64 0, .int .i64 0, .str [], .sl 0 true []]) = s1
  have eb : s1 b = some (ckr sig k) := by rw [← hs1, upd_ne _ _ n9, upd_ne _ _ n8]; exact hb
  have e8 : s1 b8 = some (.cells [.int .i64 0, .int .i64 0, .str [], .sl 0 true []]) := by rw [← hs1, upd_ne _ _ n98.symm]; exact upd_same _ _ _
  have e9 : s1 b9 = some (.cells [.int .i64 0, .int .i64 0, .str [], .sl 0 true []]) := by rw [← hs1]; exact upd_same _ _ _
  have ar : Around b st s1 := by rw [← hs1]; exact ((Around.refl b st).put hb8 _).put hb9 _
  have hf := subT_fine 100000000 t (eraseT x) y 0 k (term_lamy t ht) hy.lamy hx.simple h0 h1 (by have := hy.2; omega)
  refine callK_of (h_impl_at p n_impl_checker_left_1 [.ref [.ptr b 0], .ref (tree t).cells, .ref (tree a).cells, .ptr b9 0] s1 (LeftQ b b9 sig (subT 100000000 t (eraseT x) y 0 k) s1) (fun bb hbb => ?_)) (fun q s h => ?_) (fun q s h => ?_)
  · have m1 : bb ≠ b := fun e => by rw [e, eb] at hbb; cases hbb
    have m9 : bb ≠ b9 := fun e => by rw [e, e9] at hbb; cases hbb
    have fb : (upd s1 bb (.cells [.int .i64 0, .int .i64 0])) b = some (ckr sig k) := by rw [upd_ne _ _ m1.symm]; exact eb
    have f9 : (upd s1 bb (.cells [.int .i64 0, .int .i64 0])) b9 = some (.cells [.int .i64 0, .int .i64 0, .str [], .sl 0 true []]) := by rw [upd_ne _ _ m9.symm]; exact e9
    refine (h_impl_checker_left_1 b b9 sig t a x y k hxy hx hy ht hts h0 h1 _ fb _ _ _ _ f9 n9).mono (fun q s h => ?_)
    match hr : subT 100000000 t (eraseT x) y 0 k with
    | (.inr r, k') =>
      rw [hr] at h
      obtain ⟨h, rfl⟩ := h
      refine ⟨upd (upd s1 b (ckr sig k')) b9 (.cells (tree r).cells), by rw [upd_ne _ _ m9, upd_ne _ _ m1]; exact hbb, ?_, .inl ⟨h, rfl, rfl, rfl⟩⟩
      rw [upd_comm _ _ _ m1, upd_comm _ _ _ m9]
    | (.inl c', k') =>
      rw [hr] at h
      obtain ⟨h, rfl⟩ := h
      refine ⟨upd s1 b (ckr sig k'), by rw [upd_ne _ _ m1]; exact hbb, ?_, .inr ⟨c', 0, h, rfl, rfl, rfl⟩⟩
      rw [upd_comm _ _ _ m1]
  · obtain ⟨c, p', hq, h⟩ := h
    match hr : subT 100000000 t (eraseT x) y 0 k with
    | (.inr r, k') =>
      rw [hr] at hq hv
      obtain ⟨_, rfl, rfl⟩ := hq
      rcases h with ⟨_, h⟩ | ⟨h, _⟩
      · simp [q_load_p (upd_same _ _ _)]
        have i8 : (upd (upd s1 b (ckr sig k')) b9 (.cells (tree r).cells)) b8 = some (.cells [.int .i64 0, .int .i64 0, .str [], .sl 0 true []]) := by rw [upd_ne _ _ n98.symm, upd_ne _ _ n8.symm]; exact e8
        rw [e_store_p _ _ _ _ _ _ _ i8]
        try simp [q_load_p (upd_same _ _ _)]
        refine Halts.ret rfl hv.symm (((ar.draw _).put hb9 _).put hb8 _) ?_
        rw [upd_ne _ _ n8, upd_ne _ _ n9, upd_same]
      · exact absurd rfl h
    | (.inl c', k') =>
      rw [hr] at hq hf
      obtain ⟨_, rfl, rfl⟩ := hq
      rcases h with ⟨h, _⟩ | ⟨_, h⟩
      · exact absurd h (hf.2.2.1 _ rfl)
      · cases h
  · obtain ⟨c, p', hq, h⟩ := h
    match hr : subT 100000000 t (eraseT x) y 0 k with
    | (.inr r, k') =>
      rw [hr] at hq
      obtain ⟨_, rfl, rfl⟩ := hq
      rcases h with ⟨_, h⟩ | ⟨h, _⟩
      · cases h
      · exact absurd rfl h
    | (.inl c', k') =>
      rw [hr] at hq hv
      obtain ⟨_, rfl, rfl⟩ := hq
      rcases h with ⟨_, h⟩ | ⟨_, h⟩
      · cases h
      · cases h
        exact Halts.pan hv.symm (ar.draw _) (upd_same _ _ _)
end Go.H.Tryz
/- Contracts: the program's Size. The row of what is left to do is a literal that the call owns: that step is by hand, at the machine's level. -/
set_option linter.unusedVariables false
set_option linter.unusedSimpArgs false
namespace Go.H.Tryz
open Go Go.H

/-! ### What is left to do -/
def todoW (L : List (List Tr)) : Nat := (L.map fun ks => Tr.sizes ks + 1).sum
def todoS (L : List (List Tr)) : Nat := (L.map fun ks => Tr.sizes ks).sum
theorem todoW_append (L M : List (List Tr)) : todoW (L ++ M) = todoW L + todoW M := by simp [todoW]
theorem todoS_append (L M : List (List Tr)) : todoS (L ++ M) = todoS L + todoS M := by simp [todoS]
theorem todoW_len (L : List (List Tr)) : L.length ≤ todoW L := by
  unfold todoW
  induction L with
  | nil => simp
  | cons x xs ih => simp only [List.map_cons, List.sum_cons, List.length_cons]; omega
/-- The kids' rows that are not empty. -/
def more (ks : List Tr) : List (List Tr) := ks.filterMap fun k => if k.kids = [] then none else some k.kids
theorem more_cons (k : Tr) (ks : List Tr) : more (k :: ks) = (if k.kids = [] then [] else [k.kids]) ++ more ks := by
  unfold more
  by_cases h : k.kids = [] <;> simp [h]
theorem more_S (ks : List Tr) : todoS (more ks) + ks.length = Tr.sizes ks := by
  induction ks with
  | nil => rfl
  | cons k ks ih =>
    rw [more_cons, todoS_append]
    have e : Tr.sizes (k :: ks) = k.size + Tr.sizes ks := by simp [Tr.sizes]
    have e2 := Tr.size_kids k
    rw [e, e2]
    by_cases h : k.kids = []
    · simp [h, todoS, Tr.sizes] at ih ⊢; omega
    · simp [h, todoS] at ih ⊢; omega
theorem more_W (ks : List Tr) : todoW (more ks) ≤ Tr.sizes ks := by
  induction ks with
  | nil => simp [more, todoW, Tr.sizes]
  | cons k ks ih =>
    rw [more_cons, todoW_append]
    have e : Tr.sizes (k :: ks) = k.size + Tr.sizes ks := by simp [Tr.sizes]
    have e2 := Tr.size_kids k
    rw [e, e2]
    by_cases h : k.kids = []
    · simp [h, todoW] at ih ⊢; omega
    · simp [h, todoW] at ih ⊢; omega
/-- The row of what is left to do, owned. -/
structure TodoR (st s : St) (b n cap : Nat) (L : List (List Tr)) : Prop where
  row : ∃ xs, s b = some (.vec 1 xs cap) ∧ n ≤ xs.length ∧ xs.take n = L.map trees
  len : n = L.length
  room : n ≤ cap
  own : st b = none
  sub : Sub st s
def sizeInner (kidsP v28 : PV) (X : List PV → St → Prop) (n30 : PV) (ls_1 : List PV) (st : St) (X_1 : List PV → St → Prop) : Prop :=
    qb (q_bin .lss (ls_1.getD 1 .junk) n30) fun v32 =>
    cb v32 fun b_1 => br b_1
     (qb (q_ia 4 kidsP (ls_1.getD 1 .junk)) fun v33 =>
     qb (q_load st true 4 v33) fun v34 =>
     e_alloc st [.int .i64 0, .int .i64 0, .str [], .sl 0 true []] fun v7 st =>
     e_store st 4 v7 v34 fun st =>
     qb (q_fa 3 v7) fun v35 =>
     qb (q_load st false 1 v35) fun v36 =>
     qb (q_len v36) fun v37 =>
     qb (q_bin .gtr v37 (.int .i64 0)) fun v38 =>
     cb v38 fun b_2 => br b_2
      (qb (q_fa 3 v7) fun v40 =>
      qb (q_load st false 1 v40) fun v41 =>
      qb (q_lit 1 1 0 [] [(0, v41)]) fun v42 =>
      e_append st 1 24 (ls_1.getD 0 .junk) v42 (fun v43 st =>
      qb (q_bin .add (ls_1.getD 1 .junk) (.int .i64 1)) fun v44 =>
      X_1 [v43, v44] st))
      (qb (q_bin .add (ls_1.getD 1 .junk) (.int .i64 1)) fun v44_1 =>
      X_1 [(ls_1.getD 0 .junk), v44_1] st))
     (X [v28, (ls_1.getD 0 .junk)] st)
theorem size_inner (st s : St) (b n cap : Nat) (L0 : List (List Tr)) (ks : List Tr) (v28 : PV) (X : List PV → St → Prop) (hw : todoW L0 + Tr.sizes ks ≤ 1000000) (h : TodoR st s b n cap L0)
    (hX : ∀ b n cap s, TodoR st s b n cap (L0 ++ more ks) → X [v28, .vsl b n cap] s) : hFix (sizeInner (.sl 4 false (ks.map tree)) v28 X (.int .i64 ks.length)) [.vsl b n cap, .int .i64 0] s := by
  have hkl := Tr.len_sizes ks
  unfold sizeInner
  try simp
  refine loop_idx (β := List (List Tr) × Nat × Nat × Nat × St) ks (fun z i => [.vsl z.2.1 z.2.2.1 z.2.2.2.1, .int .i64 (i : Int)]) (fun z => z.2.2.2.2)
      (fun z i rest => z.1 ++ more rest = L0 ++ more ks ∧ TodoR st z.2.2.2.2 z.2.1 z.2.2.1 z.2.2.2.1 z.1) ?_ ?_ (L0, b, n, cap, s) ⟨rfl, h⟩
  · rintro i k rest ⟨L1, b, n, cap, s⟩ hi hk ⟨hq1, h⟩ kk
    simp only at hq1 h
    obtain ⟨⟨xs, hb, hn, hx⟩, hl, hr, ho, hs⟩ := h
    try simp [hi, ia_tree _ hk]
    intro b7 hb7
    have n7 : b ≠ b7 := fun e => by rw [← e, hb] at hb7; cases hb7
    try simp
    have e7 := upd_same s b7 (.cells (tree k).cells)
    have eb : (upd s b7 (.cells (tree k).cells)) b = some (.vec 1 xs cap) := by rw [upd_ne _ _ n7]; exact hb
    have hs7 : Sub st (upd s b7 (.cells (tree k).cells)) := hs.put (hs.isNone hb7)
    generalize upd s b7 (.cells (tree k).cells) = s1 at e7 eb hs7
    try simp [q_load_p e7]
    have hlen1 : todoW L1 ≤ 1000000 := by
      have h1 := congrArg todoW hq1
      rw [todoW_append, todoW_append] at h1
      have h2 := more_W ks
      omega
    have hlw1 := todoW_len L1
    refine br_dec (fun hk0 => ?_) (fun hk0 => ?_)
    · have hkn : k.kids ≠ [] := by intro e; rw [e] at hk0; simp at hk0
      have ee : elems s1 1 (.vsl b n cap) = some (L1.map trees) := by unfold elems; simp only [eb]; rw [if_pos ⟨trivial, hn, trivial⟩, hx]
      have ey : elems s1 1 (.sl 1 true [.sl 4 false (k.kids.map tree)]) = some [trees k.kids] := elems_sl _ _ _ _
      unfold e_append
      rw [ee, ey]
      refine ⟨by simp; omega, .inl fun b' cap' hb' hc' => ?_⟩
      rw [W_idx hi (by unfold maxLen; omega)]
      have hlen2 : (L1.map trees ++ [trees k.kids]).length = L1.length + 1 := by simp
      have htd : TodoR st (upd (del s1 b) b' (.vec 1 (L1.map trees ++ [trees k.kids]) cap')) b' (L1.length + 1) cap' (L1 ++ [k.kids]) := by
        refine ⟨⟨L1.map trees ++ [trees k.kids], upd_same _ _ _, by rw [hlen2]; omega, by rw [List.take_of_length_le (by rw [hlen2]; omega)]; simp⟩, by simp, by rw [hlen2] at hc'; exact hc', ?_, ?_⟩
        · rcases hb' with hb' | hb'
          · cases hb'; exact ho
          · exact hs7.isNone hb'
        · intro c o hc
          have c1 : c ≠ b := fun e => by rw [e, ho] at hc; cases hc
          have c2 : c ≠ b' := fun e => by
            rcases hb' with hb' | hb'
            · cases hb'; exact c1 e
            · have := hs7 c o hc
              rw [e, hb'] at this; cases this
          rw [upd_ne _ _ c2, del_apply, if_neg c1]
          exact hs7 c o hc
      have hq2 : (L1 ++ [k.kids]) ++ more rest = L0 ++ more ks := by rw [← hq1, more_cons, if_neg hkn]; simp
      have hkk := kk (L1 ++ [k.kids], b', L1.length + 1, cap', upd (del s1 b) b' (.vec 1 (L1.map trees ++ [trees k.kids]) cap')) ⟨hq2, htd⟩
      rw [← hlen2] at hkk
      exact hkk
    · have hkn : k.kids = [] := by
        cases hkk : k.kids with
        | nil => rfl
        | cons y ys => rw [hkk] at hk0; simp at hk0
      rw [W_idx hi (by unfold maxLen; omega)]
      refine kk (L1, b, n, cap, s1) ⟨?_, ⟨⟨xs, eb, hn, hx⟩, hl, hr, ho, hs7⟩⟩
      rw [← hq1, more_cons, if_pos hkn]; rfl
  · rintro ⟨L1, b, n, cap, s⟩ ⟨hq1, h⟩
    simp only at hq1 h
    have e0 : more [] = [] := rfl
    rw [e0, List.append_nil] at hq1
    subst hq1
    try simp
    exact hX b n cap s h
def sizeBody (R : Res → St → Prop) (ls : List PV) (st : St) (X : List PV → St → Prop) : Prop :=
  qb (q_len (ls.getD 1 .junk)) fun v12 =>
  qb (q_bin .gtr v12 (.int .i64 0)) fun v13 =>
  cb v13 fun b => br b
   (qb (q_len (ls.getD 1 .junk)) fun v16 =>
   qb (q_bin .sub v16 (.int .i64 1)) fun v17 =>
   qb (q_ia 1 (ls.getD 1 .junk) v17) fun v18 =>
   qb (q_load st false 1 v18) fun v19 =>
   qb (q_len (ls.getD 1 .junk)) fun v22 =>
   qb (q_bin .sub v22 (.int .i64 1)) fun v23 =>
   qb (q_sliceE 1 (ls.getD 1 .junk) none (some v23) none) fun v24 =>
   qb (q_len v19) fun v27 =>
   qb (q_bin .add (ls.getD 0 .junk) v27) fun v28 =>
   qb (q_len v19) fun v30 =>
   hFix (sizeInner v19 v28 X v30)
    [v24, (.int .i64 0)] st)
   (retR R (ls.getD 0 .junk) st)
theorem trees_one (ks : List Tr) : (trees ks).cells = [trees ks] := rfl
theorem size_loop (total : Nat) (ht : total ≤ 1000000) (st s : St) (b n cap : Nat) (L : List (List Tr)) (many : Int) (hm : 0 ≤ many) (hw : todoW L ≤ 1000000) (hq : many + todoS L = total) (h : TodoR st s b n cap L) :
    hFix (sizeBody (Just (.int .i64 total) st)) [.int .i64 many, .vsl b n cap] s := by
  unfold sizeBody
  try simp
  refine hFix_rec (σ := Int × List (List Tr) × Nat × Nat × Nat × St) (fun z => todoW z.2.1) (fun z => [.int .i64 z.1, .vsl z.2.2.1 z.2.2.2.1 z.2.2.2.2.1]) (fun z => z.2.2.2.2.2)
    (fun z => 0 ≤ z.1 ∧ todoW z.2.1 ≤ 1000000 ∧ z.1 + todoS z.2.1 = total ∧ TodoR st z.2.2.2.2.2 z.2.2.1 z.2.2.2.1 z.2.2.2.2.1 z.2.1) ?_ (many, L, b, n, cap, s) ⟨hm, hw, hq, h⟩
  rintro ⟨many, L, b, n, cap, s⟩ ⟨hm, hw, hq, h⟩ ih
  simp only at hm hw hq h ih
  obtain ⟨⟨xs, hb, hn, hx⟩, hl, hr, ho, hs⟩ := h
  try simp
  have hlw := todoW_len L
  refine br_dec (fun hpos => ?_) (fun hpos => ?_)
  · obtain ⟨L0, ks, rfl⟩ : ∃ L0 ks, L = L0 ++ [ks] := ⟨L.dropLast, L.getLast (by intro e; rw [e] at hl; simp at hl; omega), (List.dropLast_concat_getLast _).symm⟩
    simp only [List.length_append, List.length_singleton] at hl
    rw [todoW_append] at hw
    rw [todoS_append] at hq
    have ekS : todoS [ks] = Tr.sizes ks := by simp [todoS]
    have ekW : todoW [ks] = Tr.sizes ks + 1 := by simp [todoW]
    rw [ekW] at hw
    rw [ekS] at hq
    have hkl := Tr.len_sizes ks
    have hL0 := todoW_len L0
    clear hlw
    have e1 : IntKind.i64.wrap ((n : Int) - 1) = ((n - 1 : Nat) : Int) := by rw [wrap64 (by omega) (by omega)]; omega
    rw [e1]
    have hget : xs[n - 1]? = some (trees ks) := by
      have h1 : (xs.take n)[n - 1]? = some (trees ks) := by
        rw [hx, List.map_append]
        rw [List.getElem?_append_right (by simp; omega)]
        have : n - 1 - (L0.map trees).length = 0 := by simp; omega
        rw [this]
        rfl
      rw [List.getElem?_take] at h1
      split at h1
      · exact h1
      · cases h1
    try simp
    rw [if_pos (by omega)]
    simp only [qb_some]
    have e3 : ∀ agg k, q_load s agg k (.eptr b 1 (n - 1) 0) = takeV agg k (trees ks).cells := fun agg k => by rw [q_load_e hb hget]; rfl
    rw [e3, trees_one]
    have e2 : q_sliceE 1 (.vsl b n cap) none (some (.int .i64 ((n - 1 : Nat) : Int))) none = some (.vsl b (n - 1) cap) := by
      simp [q_sliceE, optI]; omega
    rw [e2]
    try simp
    rw [wrap64 (by omega) (by omega)]
    refine size_inner st s b (n - 1) cap L0 ks _ _ (by omega) ⟨⟨xs, hb, by omega, ?_⟩, by omega, by omega, ho, hs⟩ fun b1 n1 cap1 s1 h1 => ?_
    rotate_left
    · have hS := more_S ks
      have hW := more_W ks
      refine ih (many + ks.length, L0 ++ more ks, b1, n1, cap1, s1) ?_ ⟨by simp only; omega, ?_, ?_, h1⟩
      · simp only
        rw [todoW_append, todoW_append, ekW]
        omega
      · simp only
        rw [todoW_append]
        omega
      · simp only
        rw [todoS_append]
        omega
    · have h1 : xs.take (n - 1) = (xs.take n).take (n - 1) := by rw [List.take_take]; congr 1; omega
      rw [h1, hx, List.map_append, List.take_append_of_le_length (by simp; omega), List.take_of_length_le (by simp; omega)]
  · have hl0 : L = [] := List.length_eq_zero_iff.1 (by omega)
    subst hl0
    simp [todoS] at hq
    exact Just.int hq hs

/-! ### The step by hand -/
variable {w0 : World} {st0 : St} {d0 : List Deferred}
/-- One operation that only yields a value. -/
theorem step_q {ops : Array Oper} {Q : Exit → Act → World → Prop} {i : Nat} {o : Oper} {env : List PV} {st : St} {a : Act} {w : World} {p : PV} {K : Act → World → Prop} (hi : ops[i]? = some o) (hg : o.guard = none) (hs : Sim false w0 st0 d0 env st a w)
    (hp : opQ TT st (evO env) o.op = some p) (hk : ∀ a' w', Sim false w0 st0 d0 (putE env o.dst p) st a' w' → K a' w') : wpOp prog ops Q i K a w := by
  unfold wpOp
  rw [hi]
  simp only
  have : Region.wanted o (yielded ops a.tmps) = true := by unfold Region.wanted; rw [hg]
  rw [this]
  simp only [if_true]
  left
  obtain ⟨v, w', h1, h2, h3, h4⟩ := opQ_sound (P := prog) tyOK hs.good (evO_sound hs.slots) hp
  unfold Oper.wp
  rw [h1]
  exact hk _ _ ⟨hs.evo.trans h2, h3, putE_rel (hs.slots.mono h2.cw) _ h4, (put_defers' _ _ _).trans hs.defers⟩
/-- A literal whose row the call owns. -/
theorem step_own {ops : Array Oper} {Q : Exit → Act → World → Prop} {i : Nat} {o : Oper} {env : List PV} {st : St} {a : Act} {w : World} {K : Act → World → Prop} {t e : TypeId} {d de : TD} {len : Nat} {parts : Array (Nat × Operand)} {xs : List PV}
    (hi : ops[i]? = some o) (hg : o.guard = none) (ho : o.op = .buildSlice t len parts) (hs : Sim false w0 st0 d0 env st a w) (h1 : TT t = some d) (hsh : d.shape = .slice e) (h2 : TT e = some de) (hn : de.size ≠ 0) (hpos : 0 < len) (hlen : ¬ 16777216 < len * de.size)
    (hq : q_lit de.size len 0 [] (parts.toList.map fun x => (x.1, evO env x.2)) = some (.sl de.size true xs))
    (hk : ∀ b a' w', st b = none → Sim false w0 st0 d0 (putE env o.dst (.vsl b len len)) (upd st b (.vec de.size xs len)) a' w' → K a' w') : wpOp prog ops Q i K a w := by
  unfold wpOp
  rw [hi]
  simp only
  have : Region.wanted o (yielded ops a.tmps) = true := by unfold Region.wanted; rw [hg]
  rw [this]
  simp only [if_true]
  left
  obtain ⟨b, w', r1, r2, r3, r4⟩ := y_litOwn (P := prog) tyOK hs.good (evO_sound hs.slots) h1 hsh h2 hn hpos hlen hq
  unfold Oper.wp
  have hx : (execOp a.eval o).run prog w = .ok (.value (.slice (some ⟨b, 0, none⟩) len len)) w' := by
    unfold execOp
    rw [ho]
    simp only [Sem.run_bind]
    rw [r1]
    rfl
  rw [hx]
  refine hk b _ _ r2 ⟨hs.evo.trans r3, r4, putE_rel (hs.slots.mono r3.cw) _ (.inr ⟨rfl, by simp [RX, Value.cells]⟩), (put_defers' _ _ _).trans hs.defers⟩
theorem any_step {ops : Array Oper} {Q : Exit → Act → World → Prop} {n : Nat} {listed : Array Bool} {a : Act} {w : World} {l : List Nat} (h : Region.ready .any ops listed = l) (hl : l ≠ []) (hk : ∀ i ∈ l, wpOp prog ops Q i (wpAny prog .any ops Q n (listed.setIfInBounds i true)) a w) : wpAny prog .any ops Q (n + 1) listed a w :=
  ⟨fun e => absurd (h.symm.trans e) hl, fun i hi => hk i (h ▸ hi)⟩
theorem step_q' {ops : Array Oper} {Q : Exit → Act → World → Prop} {i : Nat} {o : Oper} {env env' : List PV} {st : St} {a : Act} {w : World} {p : PV} {K : Act → World → Prop} (hi : ops[i]? = some o) (hg : o.guard = none) (hs : Sim false w0 st0 d0 env st a w)
    (hp : opQ TT st (evO env) o.op = some p) (he : putE env o.dst p = env') (hk : ∀ a' w', Sim false w0 st0 d0 env' st a' w' → K a' w') : wpOp prog ops Q i K a w :=
  step_q hi hg hs hp fun a' w' h => hk a' w' (he ▸ h)
noncomputable def sizeOps : Array Oper := match Go.Proofs.Tryz.f29.body with
  | some (.seq _ (.seq (.region _ ops _) _)) => ops
  | _ => #[]
def sizeEnv (t : Tr) (v3 v4 v8 v9 v10 : PV) : List PV := [tree t, .ref [.int .i64 t.kind, .int .i64 t.n, .str t.name, .sl 4 false (t.kids.map tree)], .int .i64 0, v3, v4, .junk, .junk, .junk, v8, v9, v10] ++ List.replicate 35 .junk
theorem szTys : ∃ d e de, TT 101 = some d ∧ d.shape = .slice e ∧ TT e = some de ∧ de.size = 1 := ⟨_, _, _, rfl, rfl, rfl, rfl⟩
theorem step_own' {Q : Exit → Act → World → Prop} {env : List PV} {st : St} {a : Act} {w : World} {K : Act → World → Prop} {x : PV} (hs : Sim false w0 st0 d0 env st a w)
    (hx : evO env (.tmp 9) = x) (h1 : x.ncells = 1) (h2 : x.cells.all PV.cellOK = true) (hk : ∀ b a' w', st b = none → Sim false w0 st0 d0 (env.set 10 (.vsl b 1 1)) (upd st b (.vec 1 [x] 1)) a' w' → K a' w') : wpOp prog sizeOps Q 2 K a w := by
  obtain ⟨d, e, de, g1, g2, g3, g4⟩ := szTys
  refine step_own (xs := [x]) (t := 101) (len := 1) (parts := #[(0, .tmp 9)]) rfl rfl rfl hs g1 g2 g3 (by rw [g4]; decide) (by decide) (by rw [g4]; decide) ?_ fun b a' w' hb h => ?_
  · rw [g4]
    try simp [q_lit, hx, h1]
    simpa using h2
  · rw [g4] at h
    exact hk b a' w' hb h
theorem size_region (t : Tr) (st : St) {Q : Exit → Act → World → Prop} {a : Act} {w : World} (hs : Sim false w0 st0 d0 (sizeEnv t .junk .junk .junk .junk .junk) st a w)
    (hQ : ∀ b a w, st b = none → Sim false w0 st0 d0 (sizeEnv t (.int .i64 1) (.vsl b 1 1) (.ref [.sl 4 false (t.kids.map tree)]) (.sl 4 false (t.kids.map tree)) (.vsl b 1 1)) (upd st b (.vec 1 [.sl 4 false (t.kids.map tree)] 1)) a w → Q .normal a w) :
    wpAny prog .any sizeOps Q 5 #[false, false, false, false, false] a w := by
  have fin : ∀ a w b, st b = none → Sim false w0 st0 d0 (sizeEnv t (.int .i64 1) .junk (.ref [.sl 4 false (t.kids.map tree)]) (.sl 4 false (t.kids.map tree)) (.vsl b 1 1)) (upd st b (.vec 1 [.sl 4 false (t.kids.map tree)] 1)) a w → wpAny prog .any sizeOps Q 1 #[true, true, true, true, false] a w := fun a w b hb h => by
    refine any_step (l := [4]) (by kernel_rfl) (by simp) fun i hi => ?_
    simp only [List.mem_singleton] at hi
    subst hi
    refine step_q' (p := (.vsl b 1 1)) rfl rfl h (by kernel_rfl) (by kernel_rfl) fun a' w' h' => ⟨by kernel_rfl, hQ b a' w' hb h'⟩
  have s3 : ∀ a w b, st b = none → Sim false w0 st0 d0 (sizeEnv t .junk .junk (.ref [.sl 4 false (t.kids.map tree)]) (.sl 4 false (t.kids.map tree)) (.vsl b 1 1)) (upd st b (.vec 1 [.sl 4 false (t.kids.map tree)] 1)) a w → wpAny prog .any sizeOps Q 2 #[true, true, true, false, false] a w := fun a w b hb h => by
    refine any_step (l := [3]) (by kernel_rfl) (by simp) fun i hi => ?_
    simp only [List.mem_singleton] at hi
    subst hi
    exact step_q' (p := (.int .i64 1)) rfl rfl h (by kernel_rfl) (by kernel_rfl) fun a' w' h' => fin a' w' b hb h'
  have s2' : ∀ a w, Sim false w0 st0 d0 (sizeEnv t (.int .i64 1) .junk (.ref [.sl 4 false (t.kids.map tree)]) (.sl 4 false (t.kids.map tree)) .junk) st a w → wpAny prog .any sizeOps Q 2 #[true, true, false, true, false] a w := fun a w h => by
    refine any_step (l := [2]) (by kernel_rfl) (by simp) fun i hi => ?_
    simp only [List.mem_singleton] at hi
    subst hi
    exact step_own' (x := .sl 4 false (t.kids.map tree)) h (by kernel_rfl) rfl rfl fun b a' w' hb h' => fin a' w' b hb h'
  have s2 : ∀ a w, Sim false w0 st0 d0 (sizeEnv t .junk .junk (.ref [.sl 4 false (t.kids.map tree)]) (.sl 4 false (t.kids.map tree)) .junk) st a w → wpAny prog .any sizeOps Q 3 #[true, true, false, false, false] a w := fun a w h => by
    refine any_step (l := [2, 3]) (by kernel_rfl) (by simp) fun i hi => ?_
    simp only [List.mem_cons, List.not_mem_nil, or_false] at hi
    rcases hi with rfl | rfl
    · exact step_own' (x := .sl 4 false (t.kids.map tree)) h (by kernel_rfl) rfl rfl fun b a' w' hb h' => s3 a' w' b hb h'
    · exact step_q' (p := (.int .i64 1)) rfl rfl h (by kernel_rfl) (by kernel_rfl) fun a' w' h' => s2' a' w' h'
  have s1' : ∀ a w, Sim false w0 st0 d0 (sizeEnv t (.int .i64 1) .junk (.ref [.sl 4 false (t.kids.map tree)]) .junk .junk) st a w → wpAny prog .any sizeOps Q 3 #[true, false, false, true, false] a w := fun a w h => by
    refine any_step (l := [1]) (by kernel_rfl) (by simp) fun i hi => ?_
    simp only [List.mem_singleton] at hi
    subst hi
    exact step_q' (p := (.sl 4 false (t.kids.map tree))) rfl rfl h (by kernel_rfl) (by kernel_rfl) fun a' w' h' => s2' a' w' h'
  have s1 : ∀ a w, Sim false w0 st0 d0 (sizeEnv t .junk .junk (.ref [.sl 4 false (t.kids.map tree)]) .junk .junk) st a w → wpAny prog .any sizeOps Q 4 #[true, false, false, false, false] a w := fun a w h => by
    refine any_step (l := [1, 3]) (by kernel_rfl) (by simp) fun i hi => ?_
    simp only [List.mem_cons, List.not_mem_nil, or_false] at hi
    rcases hi with rfl | rfl
    · exact step_q' (p := (.sl 4 false (t.kids.map tree))) rfl rfl h (by kernel_rfl) (by kernel_rfl) fun a' w' h' => s2 a' w' h'
    · exact step_q' (p := (.int .i64 1)) rfl rfl h (by kernel_rfl) (by kernel_rfl) fun a' w' h' => s1' a' w' h'
  have s0' : ∀ a w, Sim false w0 st0 d0 (sizeEnv t (.int .i64 1) .junk .junk .junk .junk) st a w → wpAny prog .any sizeOps Q 4 #[false, false, false, true, false] a w := fun a w h => by
    refine any_step (l := [0]) (by kernel_rfl) (by simp) fun i hi => ?_
    simp only [List.mem_singleton] at hi
    subst hi
    exact step_q' (p := (.ref [.sl 4 false (t.kids.map tree)])) rfl rfl h (by kernel_rfl) (by kernel_rfl) fun a' w' h' => s1' a' w' h'
  refine any_step (l := [0, 3]) (by kernel_rfl) (by simp) fun i hi => ?_
  simp only [List.mem_cons, List.not_mem_nil, or_false] at hi
  rcases hi with rfl | rfl
  · exact step_q' (p := (.ref [.sl 4 false (t.kids.map tree)])) rfl rfl hs (by kernel_rfl) (by kernel_rfl) fun a' w' h' => s1 a' w' h'
  · exact step_q' (p := (.int .i64 1)) rfl rfl hs (by kernel_rfl) (by kernel_rfl) fun a' w' h' => s0' a' w' h'
theorem fnSize : prog.funcs[n_impl_Size]? = some Go.Proofs.Tryz.f29 := by kernel_rfl
theorem ntSize : Go.Proofs.Tryz.f29.ntmps = 46 := by kernel_rfl
theorem h_impl_Size (t : Tr) (hsz : t.size ≤ 1000000) (st : St) : HCalls prog n_impl_Size [tree t] st (Just (.int .i64 t.size) st) := by
  refine ⟨⟨Go.Proofs.Tryz.f29, fnSize, by kernel_rfl, by kernel_rfl⟩, fun w vals hg hv => ?_⟩
  have hl := ROs.length hv
  refine calls_of_wp fnSize rfl ?_
  refine wp_seq ?_
  refine wp_mono (hCode_sound tyOK mixed (ann := []) (d0 := []) (w0 := w) (st0 := st) _ (tree t :: List.replicate 45 .junk) st (fun e env s => e = .normal ∧ s = st ∧ env = sizeEnv t .junk .junk .junk .junk .junk) _ w (by kernel_rfl) ?_ ?_) ?_
  · generalize hQ : (fun e env s => e = HExit.normal ∧ s = st ∧ env = sizeEnv t .junk .junk .junk .junk .junk) = Q
    refine Eq.mp (α := e_box st (tree t) fun v1 st => Q .normal (tree t :: v1 :: .int .i64 0 :: List.replicate 43 .junk) st) (by kernel_rfl) ?_
    refine e_box_ref (tree_isJunk _) ?_
    rw [← hQ]
    refine ⟨rfl, rfl, ?_⟩
    rw [tree_cells]
    rfl
  · refine ⟨Evo.refl w st, hg, ?_, rfl⟩
    simp only [Array.toList_append, Array.toList_replicate, List.size_toArray, hl, ntSize]
    exact hv.append (ROs.junks 45 _ (by simp))
  intro e a1 w1 hq
  cases e with
  | normal =>
    obtain ⟨env1, st1, ⟨_, q1, q2⟩, _, hs1⟩ := hq
    rw [q1, q2] at hs1
    show Code.wp prog _ _ _ _
    refine wp_seq (wp_region_any mixed ?_)
    have hsd : Sim false w st [] (sizeEnv t .junk .junk .junk .junk .junk) st a1 { w1 with drawn := w1.drawn + 1 } := ⟨hs1.evo.trans (Evo.drew w1 st), hs1.good.drew, hs1.slots.mono (Evo.drew w1 st).cw, hs1.defers⟩
    refine size_region t st hsd fun b a2 w2 hb hs2 => ?_
    show Code.wp prog _ _ _ _
    refine wp_mono (hCode_sound tyOK mixed (ann := [(28, [4, 31]), (8, [3, 4])]) (d0 := []) (w0 := w) (st0 := st) _ (sizeEnv t (.int .i64 1) (.vsl b 1 1) (.ref [.sl 4 false (t.kids.map tree)]) (.sl 4 false (t.kids.map tree)) (.vsl b 1 1)) (upd st b (.vec 1 [.sl 4 false (t.kids.map tree)] 1))
      (fun e env st' => match e with
        | .normal => resK TT st' env Go.Proofs.Tryz.f29.results.toList [] (finK (Just (.int .i64 t.size) st) st')
        | .ret => resK TT st' env Go.Proofs.Tryz.f29.results.toList [] (finK (Just (.int .i64 t.size) st) st')
        | .pan p => panR (Just (.int .i64 t.size) st) p st'
        | _ => False) _ w2 (by kernel_rfl) ?_ hs2) ?_
    · refine Eq.mp (α := hFix (sizeBody (Just (.int .i64 t.size) st)) [.int .i64 1, .vsl b 1 1] (upd st b (.vec 1 [.sl 4 false (t.kids.map tree)] 1))) (by kernel_rfl) ?_
      refine size_loop t.size hsz st _ b 1 1 [t.kids] 1 (by omega) ?_ ?_ ⟨⟨_, upd_same _ _ _, by simp, rfl⟩, rfl, by omega, hb, (Sub.refl st).put hb⟩
      · simp [todoW]
        have := Tr.size_kids t
        omega
      · simp [todoS]
        have := Tr.size_kids t
        omega
    · intro e a w' hq
      cases e with
      | normal => obtain ⟨e1, s1, h1, _, h3⟩ := hq; exact ⟨h3.defers, fin_post tyOK h3.evo h3.good h3.slots h1⟩
      | ret => obtain ⟨e1, s1, h1, _, h3⟩ := hq; exact ⟨h3.defers, fin_post tyOK h3.evo h3.good h3.slots h1⟩
      | panic ch =>
        obtain ⟨e1, s1, p, v, h1, rfl, he, hg', hro, hdf⟩ := hq
        obtain ⟨p', st'', hcv, _, hr⟩ := h1
        cases hr
      | exit id => obtain ⟨_, _, h1, _⟩ := hq; exact h1.elim
      | goto l => obtain ⟨_, _, h1, _⟩ := hq; exact h1.elim
      | outgrown => exact hq.elim
  | panic ch => obtain ⟨_, _, _, _, ⟨h, _⟩, _⟩ := hq; cases h
  | outgrown => exact hq.elim
  | _ => obtain ⟨_, _, ⟨h, _⟩, _⟩ := hq; cases h
end Go.H.Tryz
/- Contracts: the program's checks over a signature: heads, arguments, terms, families. -/
set_option linter.unusedVariables false
set_option linter.unusedSimpArgs false
namespace Go.H.Tryz
open Go Go.H

def HeadP (h : TypeId) (x : Int ⊕ Tr) (p : Int) (st : St) : Res → St → Prop := fun r st' => st' = st ∧ match x with | .inr b => r = .ret (tree b) | .inl c => r = .pan (halt h c p)
theorem HeadP.ret {h : TypeId} {x : Int ⊕ Tr} {p : Int} {b : Tr} {st st1 : St} (e : x = .inr b) (hs : Sub st st1) : retR (HeadP h x p st) (tree b) st1 := retR_sub hs ⟨rfl, by rw [e]⟩
theorem HeadP.pan {h : TypeId} {x : Int ⊕ Tr} {p c : Int} {st st1 : St} (e : x = .inl c) (hs : Sub st st1) : panR (HeadP h x p st) (halt h c p) st1 := panR_conv (Conv.sub hs) ⟨rfl, by rw [e]⟩
theorem callK_headP {P : Program} {g : FuncId} {us : List PV} {st : St} {K Kp : PV → St → Prop} {h : TypeId} {x : Int ⊕ Tr} {p : Int} (hc : HCalls P g us st (HeadP h x p st)) (hy : ∀ b, x = .inr b → K (tree b) st) (hn : ∀ c, x = .inl c → Kp (halt h c p) st) : callK P g us st K Kp := by
  refine callK_of hc (fun q st' h => ?_) (fun q st' h => ?_)
  · obtain ⟨rfl, h⟩ := h
    cases x with
    | inr b => cases h; exact hy b rfl
    | inl c => cases h
  · obtain ⟨rfl, h⟩ := h
    cases x with
    | inr b => cases h
    | inl c => cases h; exact hn c rfl
theorem h_impl_checker_head (b : Nat) (sig : List Dc) (hs : SigR sig) (ctx : List Tr) (hctx : ∀ a ∈ ctx, FF a) (hlen : ctx.length ≤ 1000000) (t : Tr) (ht : t.isTerm false = true) (hk4 : t.kind ≠ 4) (p k : Int) (st : St) (hb : st b = some (ckr sig k)) :
    HCalls prog n_impl_checker_head [.ptr b 0, trees ctx, tree t, .int .i64 p] st (HeadP ty_impl_halt (headC sig ctx t) p st) := by
  apply c_impl_checker_head
  unfold b_impl_checker_head
  generalize hv : headC sig ctx t = v
  unfold headC at hv
  refine e_box_ref (tree_isJunk _) ?_
  intro b8 hb8
  have n8 : b ≠ b8 := fun e => by rw [← e, hb] at hb8; cases hb8
  have hsub : ∀ o, Sub st (upd st b8 o) := fun o => (Sub.refl _).put hb8
  try simp
  refine br_dec (fun h5 => ?_) (fun h5 => ?_)
  · have hn := var_n ht (.inl h5)
    rw [if_pos h5] at hv
    refine hJ_of fun J hJ => ?_
    refine br_dec (fun hge => ?_) (fun hge => ?_)
    · rw [if_pos (by omega)] at hv
      refine callK_stops (h_impl_stop 7 p (by omega) _) (fun h => by omega) (fun _ => HeadP.pan hv.symm (hsub _))
    · rw [if_neg (by omega)] at hv
      refine hJ _ _ ?_
      have hi : ((ctx.length : Int) - 1 - t.n).toNat < ctx.length := by omega
      rw [getD_of hi] at hv
      have hff := hctx _ (List.getElem_mem hi)
      have e1 : IntKind.i64.wrap (IntKind.i64.wrap ((ctx.length : Int) - 1) - t.n) = ((((ctx.length : Int) - 1 - t.n).toNat : Nat) : Int) := by
        rw [wrap64 (n := (ctx.length : Int) - 1) (by omega) (by omega), wrap64 (by omega) (by omega)]
        omega
      have e2 : IntKind.i64.wrap (t.n + 1) = t.n + 1 := wrap64 (by omega) (by omega)
      refine hJ_of fun J2 hJ2 => ?_
      have key : ∀ (b9 : Nat) (s : St), s b9 = some (.cells (tree (ctx[((ctx.length : Int) - 1 - t.n).toNat].lift 0 (t.n + 1))).cells) → Sub st s → (∃ o, s b8 = some (.cells [o, .int .i64 0, .str [], .sl 0 true []])) → b8 ≠ b9 → J2 [.ptr b9 0] s := by
        intro b9 s h9 hss ⟨o8, h8⟩ hne
        refine hJ2 _ _ ?_
        try simp [q_load_p h9]
        refine callK_just (h_impl_tooBig _ (by rw [lift_size]; have := hff.2; omega) _) ?_
        try simp
        refine br_of (fun hbig => ?_) (fun hbig => ?_)
        · rw [if_pos hbig] at hv
          refine callK_stops (h_impl_stop 11 p (by omega) _) (fun h => by omega) (fun _ => HeadP.pan hv.symm hss)
        · rw [if_neg (by rw [hbig]; simp)] at hv
          try simp [q_load_p h9]
          rw [e_store_p _ _ _ _ _ _ _ h8]
          try simp [q_load_p (upd_same _ _ _)]
          exact HeadP.ret hv.symm (hss.put hb8)
      rw [e1, e2, ia_trees hi]
      try simp
      refine ⟨?_, ?_⟩
      · refine callK_just (h_impl_lift _ 0 _ (by decide) (by have := hff.2; omega) _) ?_
        intro b9 hb9
        try simp
        have hne : b8 ≠ b9 := fun e => by rw [← e, upd_same] at hb9; cases hb9
        rw [upd_ne _ _ hne.symm] at hb9
        refine key b9 _ (upd_same _ _ _) (((Sub.refl st).put hb8).put hb9) ⟨.int .i64 0, ?_⟩ hne
        rw [upd_ne _ _ hne, upd_same]
      · intro b9 hb9
        have hne : b8 ≠ b9 := fun e => by rw [← e, upd_same] at hb9; cases hb9
        rw [upd_ne _ _ hne.symm] at hb9
        refine callK_just (h_impl_lift _ 0 _ (by decide) (by have := hff.2; omega) _) ?_
        try simp
        refine key b9 _ (upd_same _ _ _) (((Sub.refl st).put hb8).put hb9) ⟨.int .i64 0, ?_⟩ hne
        rw [upd_ne _ _ hne, upd_same]
  · rw [if_neg h5] at hv
    refine br_dec (fun h6 => ?_) (fun h6 => ?_)
    · rw [if_pos h6] at hv
      have hb' : ∀ o, (upd st b8 o) b = some (ckr sig k) := fun o => by rw [upd_ne _ _ n8]; exact hb
      refine callK_just (h_impl_checker_declared b sig hs t.name false k _ (hb' _)) ?_
      match hd : declaredT sig t.name false with
      | none =>
        rw [hd] at hv
        try simp [declP]
        intro b10 hb10
        try simp
        have hne : b8 ≠ b10 := fun e => by rw [← e, upd_same] at hb10; cases hb10
        rw [upd_ne _ _ hne.symm] at hb10
        exact callK_stops (h_impl_stop 5 p (by omega) _) (fun h => by omega) (fun _ => HeadP.pan hv.symm (((Sub.refl st).put hb8).put hb10))
      | some a =>
        rw [hd] at hv
        try simp [declP]
        intro b10 hb10
        have hne : b8 ≠ b10 := fun e => by rw [← e, upd_same] at hb10; cases hb10
        rw [upd_ne _ _ hne.symm] at hb10
        try simp [q_load_p (upd_same _ _ _)]
        have i8 : ∀ x y, (upd (upd st b8 (.cells x)) b10 y) b8 = some (.cells x) := fun x y => by rw [upd_ne _ _ hne]; exact upd_same _ _ _
        rw [e_store_p _ _ _ _ _ _ _ (i8 _ _)]
        try simp [q_load_p (upd_same _ _ _)]
        exact HeadP.ret hv.symm ((((Sub.refl st).put hb8).put hb10).put hb8)
    · rw [if_neg h6] at hv
      exact callK_stops (h_impl_stop 15 p (by omega) _) (fun h => by omega) (fun _ => HeadP.pan hv.symm (hsub _))
/-- What is asked of the check of terms below. -/
def TermOKc (b : Nat) (sig : List Dc) (ctx : List Tr) (f : Tr → Tr → Int → Int → (Fz ⊕ Unit) × Int) (l : List Tr) : Prop := ∀ x ∈ l, ∀ (c : Tr) (p k : Int) (s : St), FF c → 0 ≤ p → p + x.size ≤ 1000000000 → 0 ≤ k → k ≤ 20000 → s b = some (ckr sig k) →
  HCalls prog n_impl_checker_term [.ptr b 0, trees ctx, tree x, tree c, .int .i64 p] s (Halts ty_impl_halt b (ckr sig) unitP (f x c p k) s) ∧ CntOK (f x c p k) k
theorem h_impl_checker_args (b : Nat) (sig : List Dc) (ctx : List Tr) (f : Tr → Tr → Int → Int → (Fz ⊕ Unit) × Int) (l : List Tr) (hf : TermOKc b sig ctx f l) (hl : ∀ x ∈ l, x.isTerm false = true) (hls : Tr.sizes l ≤ 900000) (a : Tr) (ha : FK a) (p k : Int) (hp : 0 ≤ p) (hps : p + Tr.sizes l ≤ 1000000000) (h0 : 0 ≤ k) (h1 : k ≤ 20000) (st : St) (hb : st b = some (ckr sig k)) :
    HCalls prog n_impl_checker_args [.ptr b 0, trees ctx, trees l, tree a, .int .i64 p] st (Halts ty_impl_halt b (ckr sig) tree (argsC f l a p k) st) := by
  apply c_impl_checker_args
  unfold b_impl_checker_args
  generalize hv : argsC f l a p k = v
  have hll := Tr.len_sizes l
  refine e_box_own (tree_isJunk _) fun b8 hb8 => ?_
  have n8 : b ≠ b8 := fun e => by rw [← e, hb] at hb8; cases hb8
  intro b10 hb10
  have n108 : b10 ≠ b8 := fun e => by rw [e, upd_same] at hb10; cases hb10
  rw [upd_ne _ _ n108] at hb10
  have n10 : b ≠ b10 := fun e => by rw [← e, hb] at hb10; cases hb10
  try simp
  generalize hs1 : upd (upd st b8 (.cells (tree a).cells)) b10 (.cells [.int .i64 0, .int .i64 0, .str [], .sl 0 true []]) = s1
  have eb : s1 b = some (ckr sig k) := by rw [← hs1, upd_ne _ _ n10, upd_ne _ _ n8]; exact hb
  have e8 : s1 b8 = some (.cells (tree a).cells) := by rw [← hs1, upd_ne _ _ n108.symm]; exact upd_same _ _ _
  have e10 : s1 b10 = some (.cells [.int .i64 0, .int .i64 0, .str [], .sl 0 true []]) := by rw [← hs1]; exact upd_same _ _ _
  have ar : Around b st s1 := by rw [← hs1]; exact ((Around.refl b st).put hb8 _).put hb10 _
  clear hs1
  refine loop_idx (β := Tr × Int × Int × St) l (fun z i => [.int .i64 z.2.1, .int .i64 (i : Int)]) (fun z => z.2.2.2)
    (fun z i rest => z.2.2.2 b = some (ckr sig z.2.2.1) ∧ z.2.2.2 b8 = some (.cells (tree z.1).cells) ∧ z.2.2.2 b10 = some (.cells [.int .i64 0, .int .i64 0, .str [], .sl 0 true []]) ∧ Around b st z.2.2.2 ∧ FK z.1 ∧ 0 ≤ z.2.1 ∧ z.2.1 + Tr.sizes rest ≤ 1000000000 ∧ 0 ≤ z.2.2.1 ∧ z.2.2.1 ≤ 20000 ∧ argsC f rest z.1 z.2.1 z.2.2.1 = v) ?_ ?_ (a, p, k, s1) ⟨eb, e8, e10, ar, ha, hp, hps, h0, h1, hv⟩
  · rintro i x rest ⟨a, p, k, s⟩ hi hx ⟨eb, e8, e10, ar, ha, hp, hps, h0, h1, hq⟩ kk
    simp only at eb e8 e10 ar ha hp hps h0 h1 hq
    rw [argsC] at hq
    have hxm := List.mem_of_getElem? hx
    have hxs := Tr.sizes_mem hxm
    simp only [Tr.sizes, List.map_cons, List.sum_cons] at hps
    try simp [hi, ia_tree _ hx]
    intro b12 hb12
    have m : b ≠ b12 := fun e => by rw [← e, eb] at hb12; cases hb12
    have m8 : b8 ≠ b12 := fun e => by rw [← e, e8] at hb12; cases hb12
    have m10 : b10 ≠ b12 := fun e => by rw [← e, e10] at hb12; cases hb12
    have hn12 := ar.isNone m.symm hb12
    try simp
    generalize hs2 : upd s b12 (.cells (tree x).cells) = s2
    have fb : s2 b = some (ckr sig k) := by rw [← hs2, upd_ne _ _ m]; exact eb
    have f8 : s2 b8 = some (.cells (tree a).cells) := by rw [← hs2, upd_ne _ _ m8]; exact e8
    have f10 : s2 b10 = some (.cells [.int .i64 0, .int .i64 0, .str [], .sl 0 true []]) := by rw [← hs2, upd_ne _ _ m10]; exact e10
    have f12 : s2 b12 = some (.cells (tree x).cells) := by rw [← hs2]; exact upd_same _ _ _
    have ar2 : Around b st s2 := by rw [← hs2]; exact ar.put hn12 _
    clear hs2
    try simp [q_load_p f8]
    refine hJ_of fun J hJ => ?_
    refine br_dec (fun hk => ?_) (fun hk => ?_)
    rotate_left
    · rw [if_neg hk] at hq
      exact callK_stops (h_impl_stop 8 p (by omega) _) (fun h => by omega) (fun _ => Halts.pan hq.symm ar2 fb)
    · rw [if_pos hk] at hq
      refine hJ _ _ ?_
      obtain ⟨y, z, hyz, hy, hz, hsz⟩ := fk_pi ha hk
      have y0 : a.kids[0]? = some y := by rw [hyz]; rfl
      rw [kid0 hyz] at hq
      try simp [q_load_p f12, q_load_p f8, ia_tree0 _ y0]
      obtain ⟨hc, hfine⟩ := hf x hxm y p k s2 hy hp (by omega) h0 h1 fb
      refine callK_halts hc (fun u k2 hr => ?_) (fun c p2 k2 hr => ?_)
      · rw [hr] at hq hfine
        simp only at hq
        have hk0 := hfine.1
        have hk2 := hfine.2.2.2 u rfl
        simp only at hk0 hk2
        have gb : (upd s2 b (ckr sig k2)) b = some (ckr sig k2) := upd_same _ _ _
        have g8 : (upd s2 b (ckr sig k2)) b8 = some (.cells (tree a).cells) := by rw [upd_ne _ _ n8.symm]; exact f8
        have g12 : (upd s2 b (ckr sig k2)) b12 = some (.cells (tree x).cells) := by rw [upd_ne _ _ m.symm]; exact f12
        have g10 : (upd s2 b (ckr sig k2)) b10 = some (.cells [.int .i64 0, .int .i64 0, .str [], .sl 0 true []]) := by rw [upd_ne _ _ n10.symm]; exact f10
        have ar3 : Around b st (upd s2 b (ckr sig k2)) := ar2.draw _
        generalize upd s2 b (ckr sig k2) = s3 at gb g8 g12 g10 ar3
        try simp [q_load_p g12, q_load_p g8]
        refine callK_halts (h_impl_checker_left b sig x a p k2 ha hk (hl x hxm) (by omega) (by omega) hk2 s3 gb) (fun r k3 hr3 => ?_) (fun c p2 k3 hr3 => ?_)
        · obtain ⟨hl1, hl2⟩ := leftC_fine (p := p) (hl x hxm) (by omega) ha hk (show 0 ≤ k2 by omega) hk2
          rw [hr3] at hq hl1 hl2
          simp only at hq
          have hk3 := hl1.1
          have hk4 := hl1.2.2.2 r rfl
          simp only at hk3 hk4
          have i8 : (upd s3 b (ckr sig k3)) b8 = some (.cells (tree a).cells) := by rw [upd_ne _ _ n8.symm]; exact g8
          rw [e_store_p _ _ _ _ _ _ _ i8]
          try simp
          have j12 : (upd (upd s3 b (ckr sig k3)) b8 (.cells (tree r).cells)) b12 = some (.cells (tree x).cells) := by rw [upd_ne _ _ m8.symm, upd_ne _ _ m.symm]; exact g12
          have jb : (upd (upd s3 b (ckr sig k3)) b8 (.cells (tree r).cells)) b = some (ckr sig k3) := by rw [upd_ne _ _ n8]; exact upd_same _ _ _
          have j10 : (upd (upd s3 b (ckr sig k3)) b8 (.cells (tree r).cells)) b10 = some (.cells [.int .i64 0, .int .i64 0, .str [], .sl 0 true []]) := by rw [upd_ne _ _ n108, upd_ne _ _ n10.symm]; exact g10
          try simp [q_load_p j12]
          refine callK_just (h_impl_Size x (by omega) _) ?_
          try simp
          rw [wrap64 (by omega) (by omega), W_idx hi (by unfold maxLen; omega)]
          refine kk (r, p + x.size, k3, _) ⟨jb, upd_same _ _ _, j10, (ar3.draw _).put hb8 _, (hl2 r rfl).1, (by simp only; omega), (by simp only [Tr.sizes]; omega), (by simp only; omega), hk4, hq⟩
        · rw [hr3] at hq
          exact Halts.pan hq.symm (ar3.draw _) (upd_same _ _ _)
      · rw [hr] at hq
        exact Halts.pan hq.symm (ar2.draw _) (upd_same _ _ _)
  · rintro ⟨a, p, k, s⟩ ⟨eb, e8, e10, ar, ha, hp, hps, h0, h1, hq⟩
    simp only at eb e8 e10 ar ha hp hps h0 h1 hq
    rw [argsC] at hq
    try simp [q_load_p e8]
    rw [e_store_p _ _ _ _ _ _ _ e10]
    try simp [q_load_p (upd_same _ _ _)]
    exact Halts.ret rfl hq.symm (ar.put hb10 _) (by rw [upd_ne _ _ n10]; exact eb)
theorem h_impl_checker_found (b : Nat) (sig : List Dc) (hs : SigR sig) (ctx : List Tr) (hctx : ∀ a ∈ ctx, FF a) (hlen : ctx.length ≤ 1000000) (f : Tr → Tr → Int → Int → (Fz ⊕ Unit) × Int) (t : Tr) (hf : TermOKc b sig ctx f t.kids) (ht : t.isTerm false = true) (hk4 : t.kind ≠ 4) (hts : t.size ≤ 900000) (p k : Int) (hp : 0 ≤ p) (hps : p + t.size ≤ 1000000000) (h0 : 0 ≤ k) (h1 : k ≤ 20000) (st : St) (hb : st b = some (ckr sig k)) :
    HCalls prog n_impl_checker_found [.ptr b 0, trees ctx, tree t, .int .i64 p] st (Halts ty_impl_halt b (ckr sig) tree (foundC f sig ctx t p k) st) := by
  apply c_impl_checker_found
  unfold b_impl_checker_found
  generalize hv : foundC f sig ctx t p k = v
  unfold foundC at hv
  have hkids : Tr.sizes t.kids + 1 = t.size := by rw [Tr.size_kids t]; omega
  refine e_box_ref (tree_isJunk _) ?_
  intro b8 hb8
  have n8 : b ≠ b8 := fun e => by rw [← e, hb] at hb8; cases hb8
  generalize hs1 : upd st b8 (.cells [.int .i64 0, .int .i64 0, .str [], .sl 0 true []]) = s1
  have eb : s1 b = some (ckr sig k) := by rw [← hs1, upd_ne _ _ n8]; exact hb
  have e8 : s1 b8 = some (.cells [.int .i64 0, .int .i64 0, .str [], .sl 0 true []]) := by rw [← hs1]; exact upd_same _ _ _
  have ar : Around b st s1 := by rw [← hs1]; exact (Around.refl b st).put hb8 _
  clear hs1
  have hw : IntKind.i64.wrap (p + 1) = p + 1 := wrap64 (by omega) (by omega)
  refine hJ_of fun J hJ => ?_
  have key : ∀ (b9 : Nat) (r : Tr) (k2 : Int) (s : St), s b9 = some (.cells (tree r).cells) → s b8 = some (.cells [.int .i64 0, .int .i64 0, .str [], .sl 0 true []]) → s b = some (ckr sig k2) → Around b st s → (if r.kind = 3 then ((.inr r, k2) : (Fz ⊕ Tr) × Int) else (.inl (8, p), k2)) = v → J [.ptr b9 0] s := by
    intro b9 r k2 s h9 h8 hb2 har hq
    refine hJ _ _ ?_
    try simp [q_load_p h9]
    refine br_dec (fun h3 => ?_) (fun h3 => ?_)
    · rw [if_pos h3] at hq
      rw [e_store_p _ _ _ _ _ _ _ h8]
      try simp [q_load_p (upd_same _ _ _)]
      exact Halts.ret rfl hq.symm (har.put hb8 _) (by rw [upd_ne _ _ n8]; exact hb2)
    · rw [if_neg h3] at hq
      exact callK_stops (h_impl_stop 8 p (by omega) _) (fun h => by omega) (fun _ => Halts.pan hq.symm har hb2)
  have args : ∀ (a : Tr), FK a → ∀ (s : St), s b = some (ckr sig k) → HCalls prog n_impl_checker_args [.ptr b 0, trees ctx, trees t.kids, tree a, .int .i64 (p + 1)] s (Halts ty_impl_halt b (ckr sig) tree (argsC f t.kids a (p + 1) k) s) := fun a ha s hbs =>
    h_impl_checker_args b sig ctx f t.kids hf (fun x hx => Tr.kids_lams ht hx) (by omega) a ha (p + 1) k (by omega) (by omega) h0 h1 s hbs
  try simp
  rw [hw]
  have fresh : ∀ {b9 : Nat} {s : St} {o : HObj}, s b9 = none → s b8 = some o → b8 ≠ b9 := fun {b9 s o} h9 h8 e => by rw [← e, h8] at h9; cases h9
  refine ⟨?_, ?_⟩
  · refine callK_headP (h_impl_checker_head b sig hs ctx hctx hlen t ht hk4 p k _ eb) (fun a ha => ?_) (fun c hc => by rw [hc] at hv; exact Halts.pan hv.symm ar eb)
    rw [ha] at hv
    simp only at hv
    have haf := headC_ok hs hctx ht ha
    refine ⟨?_, ?_⟩
    · refine callK_halts (args a haf.fk _ eb) (fun r k2 hr => ?_) (fun c p2 k2 hr => by rw [hr] at hv; exact Halts.pan hv.symm (ar.draw _) (upd_same _ _ _))
      rw [hr] at hv
      simp only at hv
      have g8 : (upd s1 b (ckr sig k2)) b8 = some (.cells [.int .i64 0, .int .i64 0, .str [], .sl 0 true []]) := by rw [upd_ne _ _ n8.symm]; exact e8
      intro b9 hb9
      have m8 := fresh hb9 g8
      have m : b ≠ b9 := fun e => by rw [← e, upd_same] at hb9; cases hb9
      try simp
      exact key b9 r k2 _ (upd_same _ _ _) (by rw [upd_ne _ _ m8]; exact g8) (by rw [upd_ne _ _ m]; exact upd_same _ _ _) ((ar.draw _).put ((ar.draw _).isNone m.symm hb9) _) hv
    · intro b9 hb9
      have m8 := fresh hb9 e8
      have m : b ≠ b9 := fun e => by rw [← e, eb] at hb9; cases hb9
      have hn9 := ar.isNone m.symm hb9
      refine callK_halts (args a haf.fk _ (by rw [upd_ne _ _ m]; exact eb)) (fun r k2 hr => ?_) (fun c p2 k2 hr => by rw [hr] at hv; exact Halts.pan hv.symm ((ar.put hn9 _).draw _) (upd_same _ _ _))
      rw [hr] at hv
      simp only at hv
      have g9 : ∀ o, (upd (upd s1 b9 (.cells o)) b (ckr sig k2)) b9 = some (.cells o) := fun o => by rw [upd_ne _ _ m.symm]; exact upd_same _ _ _
      rw [e_store_p _ _ _ _ _ _ _ (g9 _)]
      try simp
      exact key b9 r k2 _ (upd_same _ _ _) (by rw [upd_ne _ _ m8, upd_ne _ _ n8.symm, upd_ne _ _ m8]; exact e8) (by rw [upd_ne _ _ m]; exact upd_same _ _ _) (((ar.put hn9 _).draw _).put hn9 _) hv
  · intro b9 hb9
    have m8 := fresh hb9 e8
    have m : b ≠ b9 := fun e => by rw [← e, eb] at hb9; cases hb9
    have hn9 := ar.isNone m.symm hb9
    have fb : ∀ o, (upd s1 b9 o) b = some (ckr sig k) := fun o => by rw [upd_ne _ _ m]; exact eb
    refine callK_headP (h_impl_checker_head b sig hs ctx hctx hlen t ht hk4 p k _ (fb _)) (fun a ha => ?_) (fun c hc => by rw [hc] at hv; exact Halts.pan hv.symm (ar.put hn9 _) (fb _))
    rw [ha] at hv
    simp only at hv
    have haf := headC_ok hs hctx ht ha
    refine callK_halts (args a haf.fk _ (fb _)) (fun r k2 hr => ?_) (fun c p2 k2 hr => by rw [hr] at hv; exact Halts.pan hv.symm ((ar.put hn9 _).draw _) (upd_same _ _ _))
    rw [hr] at hv
    simp only at hv
    have g9 : ∀ o, (upd (upd s1 b9 (.cells o)) b (ckr sig k2)) b9 = some (.cells o) := fun o => by rw [upd_ne _ _ m.symm]; exact upd_same _ _ _
    rw [e_store_p _ _ _ _ _ _ _ (g9 _)]
    try simp
    exact key b9 r k2 _ (upd_same _ _ _) (by rw [upd_ne _ _ m8, upd_ne _ _ n8.symm, upd_ne _ _ m8]; exact e8) (by rw [upd_ne _ _ m]; exact upd_same _ _ _) (((ar.put hn9 _).draw _).put hn9 _) hv
theorem ctx_snoc {ctx : List Tr} {y : Tr} (hctx : ∀ a ∈ ctx, FF a) (hy : FF y) : ∀ a ∈ ctx ++ [y], FF a := fun b hb => by
  rcases List.mem_append.1 hb with h | h
  · exact hctx b h
  · simp at h; rw [h]; exact hy
theorem h_impl_checker_term (b : Nat) (sig : List Dc) (hs : SigR sig) : ∀ (m : Nat) (ctx : List Tr) (t a : Tr) (p k : Int), ctx.length + m ≤ 1000000 → (∀ a ∈ ctx, FF a) → t.isTerm false = true → t.size ≤ 900000 → t.size ≤ m → FF a → 0 ≤ p → p + t.size ≤ 1000000000 → 0 ≤ k → k ≤ 20000 → ∀ st : St, st b = some (ckr sig k) →
    HCalls prog n_impl_checker_term [.ptr b 0, trees ctx, tree t, tree a, .int .i64 p] st (Halts ty_impl_halt b (ckr sig) unitP (termC sig m ctx t a p k) st)
  | 0, ctx, t, a, p, k, _, _, _, _, hsz, _, _, _, _, _, st, _ => by have := t.size_pos; omega
  | m + 1, ctx, t, a, p, k, hlen, hctx, ht, hts, hsz, ha, hp, hps, h0, h1, st, hb => by
    apply c_impl_checker_term
    unfold b_impl_checker_term
    generalize hv : termC sig (m + 1) ctx t a p k = v
    rw [termC] at hv
    refine e_box_ref (tree_isJunk _) ?_
    refine e_box_ref (tree_isJunk _) ?_
    try simp
    refine hJ_of fun J hJ => ?_
    refine br_of (fun hd => ?_) (fun hd => ?_)
    · have e9 : (.inl (9, p), k) = v := by rw [← hv]; by_cases h4 : t.kind = 4 <;> by_cases h2 : a.kind = 2 <;> simp_all
      exact callK_stops (h_impl_stop 9 p (by omega) _) (fun h => by omega) (fun _ => Halts.pan e9.symm (Around.refl b st) hb)
    · refine hJ _ _ ?_
      refine br_dec (fun h4 => ?_) (fun h4 => ?_)
      · have h2 : a.kind = 2 := by simpa [h4] using hd
        rw [if_pos h4, if_pos h2] at hv
        obtain ⟨x, hx, hxt⟩ := lam_kid ht h4
        obtain ⟨y, z, hyz, hy, hz, hyzs⟩ := ff_pi ha h2
        rw [kid0 hx, kid0 hyz, kid1 hyz] at hv
        have hxs : x.size < t.size := Tr.kid_size (by rw [hx]; simp)
        have x0 : t.kids[0]? = some x := by rw [hx]; rfl
        have y0 : a.kids[0]? = some y := by rw [hyz]; rfl
        have y1 : a.kids[1]? = some z := by rw [hyz]; rfl
        try simp [ia_tree0 _ x0, ia_tree0 _ y0, ia_tree1 _ y1]
        refine callK_just (h_impl_behind ctx y (by omega) _) ?_
        try simp
        rw [wrap64 (by omega) (by omega)]
        refine callK_halts (by simpa using h_impl_checker_term b sig hs m (ctx ++ [y]) x z (p + 1) k (by simp; omega) (ctx_snoc hctx hy) hxt (by omega) (by omega) hz (by omega) (by omega) h0 h1 st hb) (fun u k2 hr => ?_) (fun c p2 k2 hr => ?_)
        · exact Halts.ret rfl (by rw [← hv, hr]) ((Around.refl b st).draw _) (upd_same _ _ _)
        · exact Halts.pan (by rw [← hv, hr]) ((Around.refl b st).draw _) (upd_same _ _ _)
      · have h2 : a.kind ≠ 2 := by simpa [h4] using hd
        rw [if_neg h4, if_neg h2] at hv
        have hfT : TermOKc b sig ctx (termC sig m ctx) t.kids := fun x hx c p k s hc q0 q1 q2 q3 q4 => ⟨h_impl_checker_term b sig hs m ctx x c p k (by omega) hctx (Tr.kids_lams ht hx) (by have := Tr.kid_size hx; omega) (by have := Tr.kid_size hx; omega) hc q0 q1 q2 q3 s q4, termC_fine hs m ctx x c p k hctx (Tr.kids_lams ht hx) (by have := Tr.kid_size hx; omega) hc q2 q3⟩
        refine callK_halts (h_impl_checker_found b sig hs ctx hctx (by omega) (termC sig m ctx) t hfT ht h4 hts p k hp hps h0 h1 st hb) (fun r k2 hr => ?_) (fun c p2 k2 hr => ?_)
        · rw [hr] at hv
          simp only at hv
          try simp
          refine callK_just (h_impl_same _ _ _) ?_
          try simp
          refine br_dec (fun k => ?_) (fun k => ?_)
          · rw [if_pos k] at hv
            exact Halts.ret rfl hv.symm ((Around.refl b st).draw _) (upd_same _ _ _)
          · rw [if_neg k] at hv
            exact callK_stops (h_impl_stop 10 p (by omega) _) (fun h => by omega) (fun _ => Halts.pan hv.symm ((Around.refl b st).draw _) (upd_same _ _ _))
        · rw [hr] at hv
          exact Halts.pan hv.symm ((Around.refl b st).draw _) (upd_same _ _ _)
theorem h_impl_checker_family (b : Nat) (sig : List Dc) (hs : SigR sig) : ∀ (m : Nat) (ctx : List Tr) (a : Tr) (p k : Int), ctx.length + m ≤ 1000000 → (∀ a ∈ ctx, FF a) → FK a → a.size ≤ m → 0 ≤ p → p + a.size ≤ 1000000000 → 0 ≤ k → k ≤ 20000 → ∀ st : St, st b = some (ckr sig k) →
    HCalls prog n_impl_checker_family [.ptr b 0, trees ctx, tree a, .int .i64 p] st (Halts ty_impl_halt b (ckr sig) unitP (famC sig m ctx a p k) st)
  | 0, ctx, a, p, k, _, _, _, hsz, _, _, _, _, st, _ => by have := a.size_pos; omega
  | m + 1, ctx, a, p, k, hlen, hctx, ha, hsz, hp, hps, h0, h1, st, hb => by
    apply c_impl_checker_family
    unfold b_impl_checker_family
    generalize hv : famC sig (m + 1) ctx a p k = v
    rw [famC] at hv
    refine e_box_ref (tree_isJunk _) ?_
    try simp
    refine br_dec (fun h2 => ?_) (fun h2 => ?_)
    · rw [if_pos h2] at hv
      obtain ⟨x, y, hxy, hx, hy, hxys⟩ := fk_pi ha h2
      rw [kid0 hxy, kid1 hxy] at hv
      have hxs : a.size = 1 + (x.size + y.size) := by rw [Tr.size_kids, hxy]; simp [Tr.sizes]
      have x0 : a.kids[0]? = some x := by rw [hxy]; rfl
      have y1 : a.kids[1]? = some y := by rw [hxy]; rfl
      try simp [ia_tree0 _ x0, ia_tree1 _ y1]
      rw [wrap64 (by omega) (by omega)]
      have hfine := famC_fine hs m ctx x (p + 1) k hctx hx.fk h0 h1
      refine callK_halts (h_impl_checker_family b sig hs m ctx x (p + 1) k (by omega) hctx hx.fk (by omega) (by omega) (by omega) h0 h1 st hb) (fun u k2 hr => ?_) (fun c p2 k2 hr => ?_)
      · rw [hr] at hv hfine
        simp only at hv
        have g1 := hfine.1
        have g2 := hfine.2.2.2 u rfl
        simp only at g1 g2
        refine callK_just (h_impl_behind ctx x (by omega) _) ?_
        try simp
        refine callK_just (h_impl_Size x (by have := hx.2; omega) _) ?_
        try simp
        rw [wrap64 (by omega) (by omega)]
        refine callK_halts (by simpa using h_impl_checker_family b sig hs m (ctx ++ [x]) y (p + 1 + x.size) k2 (by simp; omega) (ctx_snoc hctx hx) hy (by omega) (by omega) (by omega) (by omega) g2 _ (upd_same st b (ckr sig k2))) (fun u k3 hr3 => ?_) (fun c p2 k3 hr3 => ?_)
        · exact Halts.ret rfl (by rw [← hv, hr3]) (((Around.refl b st).draw _).draw _) (upd_same _ _ _)
        · exact Halts.pan (by rw [← hv, hr3]) (((Around.refl b st).draw _).draw _) (upd_same _ _ _)
      · rw [hr] at hv
        exact Halts.pan hv.symm ((Around.refl b st).draw _) (upd_same _ _ _)
    · rw [if_neg h2] at hv
      refine br_dec (fun h3 => ?_) (fun h3 => ?_)
      · rw [if_pos h3] at hv
        refine callK_just (h_impl_checker_declared b sig hs a.name true k _ hb) ?_
        match hd : declaredT sig a.name true with
        | none =>
          rw [hd] at hv
          try simp [declP]
          intro b8 hb8
          have n8 : b ≠ b8 := fun e => by rw [← e, hb] at hb8; cases hb8
          try simp
          refine hJ_of fun J hJ => ?_
          exact callK_stops (h_impl_stop 5 p (by omega) _) (fun h => by omega) (fun _ => Halts.pan hv.symm ((Around.refl b st).put hb8 _) (by rw [upd_ne _ _ n8]; exact hb))
        | some kt =>
          rw [hd] at hv
          simp only at hv
          have hkt := declaredT_ok hs hd
          have hktk : FK kt := ⟨⟨true, hkt.1⟩, hkt.2⟩
          try simp [declP]
          intro b8 hb8
          have n8 : b ≠ b8 := fun e => by rw [← e, hb] at hb8; cases hb8
          try simp
          refine hJ_of fun J hJ => ?_
          refine hJ _ _ ?_
          try simp [q_load_p (upd_same _ _ _)]
          rw [wrap64 (by omega) (by omega)]
          obtain ⟨⟨kd, hkd⟩, hasz⟩ := ha
          have hall := fam_args hkd h3
          have hkids : Tr.sizes a.kids + 1 = a.size := by rw [Tr.size_kids a]; omega
          have hfT : TermOKc b sig ctx (termC sig m ctx) a.kids := fun x hx c p k s hc q0 q1 q2 q3 q4 => ⟨h_impl_checker_term b sig hs m ctx x c p k (by omega) hctx (hall x hx) (by have := Tr.kid_size hx; omega) (by have := Tr.kid_size hx; omega) hc q0 q1 q2 q3 s q4, termC_fine hs m ctx x c p k hctx (hall x hx) (by have := Tr.kid_size hx; omega) hc q2 q3⟩
          have eb : ∀ o, (upd st b8 o) b = some (ckr sig k) := fun o => by rw [upd_ne _ _ n8]; exact hb
          refine callK_halts (h_impl_checker_args b sig ctx (termC sig m ctx) a.kids hfT hall (by omega) kt hktk (p + 1) k (by omega) (by omega) h0 h1 _ (eb _)) (fun r k2 hr => ?_) (fun c p2 k2 hr => ?_)
          · rw [hr] at hv
            simp only at hv
            intro b10 hb10
            have m : b ≠ b10 := fun e => by rw [← e, upd_same] at hb10; cases hb10
            have ar : Around b st (upd (upd st b8 (.cells (tree kt).cells)) b (ckr sig k2)) := ((Around.refl b st).put hb8 _).draw _
            have hn := ar.isNone m.symm hb10
            try simp
            try simp [q_load_p (upd_same _ _ _)]
            refine br_dec (fun hl1 => ?_) (fun hl1 => ?_)
            · rw [if_pos hl1] at hv
              exact Halts.ret rfl hv.symm (ar.put hn _) (by rw [upd_ne _ _ m]; exact upd_same _ _ _)
            · rw [if_neg hl1] at hv
              exact callK_stops (h_impl_stop 8 p (by omega) _) (fun h => by omega) (fun _ => Halts.pan hv.symm (ar.put hn _) (by rw [upd_ne _ _ m]; exact upd_same _ _ _))
          · rw [hr] at hv
            exact Halts.pan hv.symm (((Around.refl b st).put hb8 _).draw _) (upd_same _ _ _)
      · rw [if_neg h3] at hv
        exact Halts.ret rfl hv.symm (Around.refl b st) hb
end Go.H.Tryz
/- Contracts: the program's SigOK, CtxOK and checks. -/
set_option linter.unusedVariables false
set_option linter.unusedSimpArgs false
namespace Go.H.Tryz
open Go Go.H

theorem ends_caught {P : Program} {g : FuncId} {us : List PV} {h : TypeId} {f : Fz} {st : St} {b : Nat} (hb : st b = none) (hc : HCalls P g us (upd st b (.cells [.int .i64 0, .int .i64 0])) (Ends h f (upd st b (.cells [.int .i64 0, .int .i64 0])))) :
    HCalls P g us (upd st b (.cells [.int .i64 0, .int .i64 0])) (Caught h b fun c p s => (c, p) = f ∧ s = st) :=
  hc.mono fun r s hr => by
    obtain ⟨rfl, hr⟩ := hr
    rcases hr with ⟨h1, h2⟩ | ⟨h1, h2⟩
    · exact ⟨st, hb, rfl, .inl ⟨h2, h1.symm, rfl⟩⟩
    · exact ⟨st, hb, rfl, .inr ⟨f.1, f.2, h2, rfl, rfl⟩⟩
theorem callK_caught {g : FuncId} {caps : List PV} {st : St} {f : Fz} {K Kp : PV → St → Prop} (hc : ∀ b, st b = none → HCalls prog g caps (upd st b (.cells [.int .i64 0, .int .i64 0])) (Ends ty_impl_halt f (upd st b (.cells [.int .i64 0, .int .i64 0])))) (hk : K (haltP f) st) : callK prog n_impl_caught [.fn (.func g) [] caps] st K Kp := by
  refine callK_of (h_impl_caught g caps st (fun c p s => (c, p) = f ∧ s = st) (fun b hb => ends_caught hb (hc b hb))) (fun p s h => ?_) (fun p s h => ?_)
  · obtain ⟨c, p', h, rfl, rfl⟩ := h
    cases h
    exact hk
  · obtain ⟨c, p', h, _⟩ := h
    cases h
theorem fam_ends (sig : List Dc) (hs : SigR sig) (ctx : List Tr) (hctx : ∀ a ∈ ctx, FF a) (hlen : ctx.length ≤ 1000) (a : Tr) (ha : FK a) (s : St) (b : Nat) (hb : s b = none) {K : PV → St → Prop} {R : Res → St → Prop}
    (h1 : faultOf (famC sig 900000 ctx a 0 0) = (0, 0) → ∀ k, K (.tup []) (upd (upd s b (ckr sig 0)) b (ckr sig k))) (h2 : ∀ c p k, c ≠ 0 → faultOf (famC sig 900000 ctx a 0 0) = (c, p) → panR R (halt ty_impl_halt c p) (upd (upd s b (ckr sig 0)) b (ckr sig k))) :
    callK prog n_impl_checker_family [.ptr b 0, trees ctx, tree a, .int .i64 0] (upd s b (ckr sig 0)) K (panR R) := by
  have hf := famC_fine hs 900000 ctx a 0 0 hctx ha (by omega) (by omega)
  have hasz := ha.2
  refine callK_halts (h_impl_checker_family b sig hs 900000 ctx a 0 0 (by omega) hctx ha (by omega) (by omega) (by omega) (by omega) (by omega) _ (upd_same _ _ _)) (fun u k hr => ?_) (fun c p k hr => ?_)
  · exact h1 (by rw [hr]; rfl) k
  · rw [hr] at hf
    exact h2 c p k (hf.2.2.1 _ rfl) (by rw [hr]; rfl)
theorem h_impl_declFault_1 (sig : List Dc) (hs : SigR sig) (d : Dc) (hd : d.type.isFam d.fam = true ∧ d.type.size ≤ 150) (st : St) : HCalls prog n_impl_declFault_1 [.ref [decls sig], .ref (decl d).cells] st (Ends ty_impl_halt (declFaultT sig d) st) := by
  apply c_impl_declFault_1
  unfold b_impl_declFault_1
  try simp
  rw [show q_struct [PV.int IntKind.i64 0, PV.sl 0 true []] [(1, 1, PV.sl 6 false (List.map decl sig))] = some (.agg [.int .i64 0, decls sig]) from rfl]
  simp only [qb_some]
  refine e_box_own rfl fun b hb => ?_
  refine callK_conv (us' := [.ptr b 0, trees [], tree d.type, .int .i64 0]) (st' := upd st b (ckr sig 0)) (Conv.cons (Conv.refl _ _) (Conv.cons (conv_nil4 _ _ _) (Conv.refl _ _))) ?_
  refine fam_ends sig hs [] (by simp) (by simp) d.type ⟨⟨_, hd.1⟩, hd.2⟩ st b hb (fun h k => ?_) (fun c p k hc h => ?_)
  · exact Ends.ret h (by simpa using (Sub.refl st).put hb)
  · exact Ends.pan h hc (by simpa using (Sub.refl st).put hb)
theorem h_impl_declFault (sig : List Dc) (hs : SigR sig) (d : Dc) (hd : d.type.isFam d.fam = true ∧ d.type.size ≤ 150) (st : St) : HCalls prog n_impl_declFault [decls sig, decl d] st (Just (haltP (declFaultT sig d)) st) := by
  apply c_impl_declFault
  unfold b_impl_declFault
  refine e_box_ref rfl ?_
  refine e_box_ref (decl_isJunk _) ?_
  intro b4 hb4
  refine callK_caught (f := declFaultT sig d) (fun b hb => h_impl_declFault_1 sig hs d hd _) ?_
  unfold haltP
  try simp
  try simp [q_load_p (upd_same _ _ _)]
  exact Just.ret ((Sub.refl st).put hb4)
theorem h_impl_declForm (d : Dc) (st : St) : HCalls prog n_impl_declForm [decl d] st (Just (.bool (declForm d)) st) := by
  apply c_impl_declForm
  unfold b_impl_declForm
  generalize hv : declForm d = v
  unfold declForm at hv
  refine e_box_ref (decl_isJunk _) ?_
  try simp
  cases hf : d.fam with
  | true =>
    rw [hf] at hv
    try simp
    refine callK_just (h_impl_NameOK _ _) ?_
    try simp
    refine br_of (fun g => ?_) (fun g => Just.bool (by rw [← hv, g]; rfl))
    refine callK_just (h_impl_KindOK _ _) ?_
    exact Just.bool (by rw [← hv, g]; rfl)
  | false =>
    rw [hf] at hv
    try simp
    refine callK_just (h_impl_NameOK _ _) ?_
    try simp
    refine br_of (fun g => ?_) (fun g => Just.bool (by rw [← hv, g]; rfl))
    refine callK_just (h_impl_FamilyOK _ _) ?_
    exact Just.bool (by rw [← hv, g]; rfl)
theorem h_impl_has_1 (d : Dc) (n : List UInt8) (st : St) : HCalls prog n_impl_has_1 [decl d, .ref [.str n]] st (Just (.bool (named n d)) st) := by
  apply c_impl_has_1
  unfold b_impl_has_1
  refine e_box_ref (decl_isJunk _) ?_
  try simp
  exact Just.bool rfl
theorem h_impl_has (sig : List Dc) (hl : sig.length ≤ 1000000) (n : List UInt8) (st : St) : HCalls prog n_impl_has [decls sig, .str n] st (Just (.bool (hasT sig n)) st) := by
  apply c_impl_has
  unfold b_impl_has
  generalize hv : hasT sig n = v
  unfold hasT at hv
  refine e_box_ref rfl ?_
  try simp
  have hc : HCalls prog n_slices_ContainsFunc_impl_Decl_impl_Decl [decls sig, .fn (.func n_impl_has_1) [] [.ref [.str n]]] st (Just (.bool v) st) := by
    apply c_slices_ContainsFunc_impl_Decl_impl_Decl
    unfold b_slices_ContainsFunc_impl_Decl_impl_Decl
    refine callK_just (h_slices_IndexFunc_impl_Decl_impl_Decl (named n) sig n_impl_has_1 [] [.ref [.str n]] hl _ (fun x hx => h_impl_has_1 x n _)) ?_
    try simp
    refine Just.bool ?_
    rw [← hv, Bool.eq_iff_iff, decide_eq_true_eq]
    exact fstOf_any (named n) sig
  refine callK_just (by simpa using hc) ?_
  exact Just.ret (Sub.refl _)
theorem h_impl_SigOK (sig : List Dc) (st : St) : HCalls prog n_impl_SigOK [decls sig] st (Just (.bool (sigOKT sig)) st) := by
  apply c_impl_SigOK
  unfold b_impl_SigOK
  generalize hv : sigOKT sig = v
  unfold sigOKT at hv
  try simp
  refine br_dec (fun h => Just.bool (by rw [← hv, decide_eq_false (by omega)]; rfl)) (fun h => ?_)
  rw [decide_eq_true (by omega), Bool.true_and] at hv
  refine loop_idx (β := St) sig (fun _ i => [.int .i64 (i : Int)]) (fun s => s) (fun s i rest => sigGo sig i rest = v ∧ Sub st s ∧ SigR (sig.take i)) ?_ ?_ st ⟨hv, Sub.refl _, SigR.nil⟩
  · rintro i d rest s hi hx ⟨hq, hs, hr⟩ kk
    rw [sigGo] at hq
    try simp [hi, ia_decl _ hx]
    intro b4 hb4
    try simp
    try simp [q_load_p (upd_same _ _ _)]
    have hs4 : ∀ o, Sub st (upd s b4 o) := fun o => hs.put (hs.isNone hb4)
    have bad : (declT (sig.take i) d).1 ≠ 0 → v = false := fun h => by rw [← hq, decide_eq_false h]; rfl
    refine callK_just (h_impl_declForm d _) ?_
    try simp
    refine br_of (fun g1 => ?_) (fun g1 => Just.bool (bad (by unfold declT; rw [if_pos g1]; decide)).symm (hs4 _))
    rw [sliceE_take _ (by simp; omega), ← List.map_take]
    try simp [q_load_p (upd_same _ _ _)]
    refine callK_just (by simpa using h_impl_has (sig.take i) (by simp; omega) d.name _) ?_
    try simp
    refine br_of (fun g2 => Just.bool (bad (by unfold declT; rw [if_neg (by rw [g1]; simp), if_pos g2]; decide)).symm (hs4 _)) (fun g2 => ?_)
    try rw [← List.map_take]
    try simp [q_load_p (upd_same _ _ _)]
    refine callK_just (by simpa using h_impl_declFault (sig.take i) hr d (form_fk g1) _) ?_
    have hd : declT (sig.take i) d = declFaultT (sig.take i) d := by unfold declT; rw [if_neg (by rw [g1]; simp), if_neg (by rw [g2]; simp)]
    unfold haltP
    try simp [q_field]
    refine br_dec (fun g3 => ?_) (fun g3 => Just.bool (bad (by rw [hd]; exact g3)).symm (hs4 _))
    rw [W_idx hi (by unfold maxLen; omega)]
    refine kk _ ⟨by rw [← hq, decide_eq_true (by rw [hd]; exact g3)]; rfl, hs4 _, ?_⟩
    rw [take_snoc hx]
    exact hr.snoc (by simp; omega) g1 g2
  · rintro s ⟨hq, hs, hr⟩
    try simp
    exact Just.bool hq hs
/-- What the thing does that is checked: over a new checker. -/
def DoR (h : TypeId) (Q : Int → Int → St → Prop) (st s : St) (b5 : Nat) : Res → St → Prop := fun q s' => ∃ c p st', Q c p st' ∧ Sub st' s' ∧ (∀ b, st b = none → st' b = none) ∧ (∀ b, b ≠ b5 → st b = none → s' b = s b) ∧ ((c = 0 ∧ p = 0 ∧ q = .ret (.tup [])) ∨ (c ≠ 0 ∧ q = .pan (halt h c p)))
/-- What is done leaves nothing but its verdict. -/
theorem DoR.plain {h : TypeId} {f : Fz} {st s s' : St} {b5 : Nat} {q : Res} {k : Int} {sig : List Dc} (hs : Sub st s) (hb : st b5 = none) (e : s' = upd s b5 (ckr sig k)) (hq : (f = (0, 0) ∧ q = .ret (.tup [])) ∨ (f.1 ≠ 0 ∧ q = .pan (halt h f.1 f.2))) : DoR h (fun c p st' => (c, p) = f ∧ st' = st) st s b5 q s' := by
  subst e
  refine ⟨f.1, f.2, st, ⟨rfl, rfl⟩, fun b o hb' => ?_, fun b hb => hb, fun b hne _ => upd_ne _ _ hne, ?_⟩
  · have : b ≠ b5 := fun e => by rw [e, hb] at hb'; cases hb'
    rw [upd_ne _ _ this]
    exact hs b o hb'
  · rcases hq with ⟨h1, h2⟩ | h2
    · subst h1
      exact .inl ⟨rfl, rfl, h2⟩
    · exact .inr h2
end Go.H.Tryz
/- Contracts: the reference's check over a signature. -/
set_option linter.unusedVariables false
set_option linter.unusedSimpArgs false
namespace Go.H.Tryz
open Go Go.H

theorem h_spec_l04Find (ts : List Dc) (n : List UInt8) (hl : ts.length ≤ 1000000) (st : St) : HCalls prog n_spec_l04Find [decls ts, .str n] st (Just (.int .i64 (fstOf (named n) ts)) st) := by
  apply c_spec_l04Find
  unfold b_spec_l04Find
  generalize hv : fstOf (named n) ts = v
  try simp
  refine loop_idx (β := Unit) ts (fun _ i => [.int .i64 (i : Int)]) (fun _ => st) (fun _ i rest => fstGo (named n) i rest = v) ?_ ?_ () hv
  · intro i x rest _ hi hx hq k
    rw [fstGo] at hq
    try simp [hi, ia_decl _ hx]
    refine br_dec (fun h => Just.int (by rw [← hq, if_pos (by unfold named; rw [decide_eq_true h])])) (fun h => ?_)
    rw [W_idx hi (by unfold maxLen; omega)]
    exact k () (by rw [← hq, if_neg (by unfold named; rw [decide_eq_false h]; simp)])
  · intro _ hq
    try simp
    exact Just.int hq
theorem h_spec_l01Size (t : Tr) (hsz : t.size ≤ 1000000000) (st : St) : HCalls prog n_spec_l01Size [tree t] st (Just (.int .i64 t.size) st) := by
  induction t using Tr.ind generalizing st with
  | _ t ih =>
  apply c_spec_l01Size
  unfold b_spec_l01Size
  generalize hv : (t.size : Int) = v
  have hkl := t.kids_len
  refine e_box_ref (tree_isJunk _) ?_
  try simp
  refine loop_idx (β := Int) t.kids (fun z i => [.int .i64 z, .int .i64 (i : Int)]) (fun _ => st) (fun z i rest => 0 ≤ z ∧ z + Tr.sizes rest = v) ?_ ?_ 1 ⟨by omega, by rw [← hv, Tr.size_kids t]; omega⟩
  · rintro i x rest z hi hx ⟨hz, hq⟩ kk
    have hxs := Tr.kid_size (List.mem_of_getElem? hx)
    simp only [Tr.sizes, List.map_cons, List.sum_cons] at hq
    try simp [hi, ia_tree _ hx]
    refine callK_just (ih x (List.mem_of_getElem? hx) (by omega) _) ?_
    try simp
    rw [wrap64 (by omega) (by omega), W_idx hi (by unfold maxLen; omega)]
    exact kk (z + x.size) ⟨by omega, by simp only [Tr.sizes]; omega⟩
  · rintro z ⟨hz, hq⟩
    try simp
    exact Just.int (by rw [← hq]; simp [Tr.sizes])
theorem h_spec_l01Erase (t : Tr) (hf : t.isFam false = true) (st : St) : HCalls prog n_spec_l01Erase [tree t] st (Just (tree (eraseT t)) st) := by
  induction t using Tr.ind generalizing st with
  | _ t ih =>
  apply c_spec_l01Erase
  unfold b_spec_l01Erase
  refine e_box_ref (tree_isJunk _) ?_
  intro b2 hb2
  have hsub : ∀ o, Sub st (upd st b2 o) := fun o => (Sub.refl st).put hb2
  try simp
  refine br_dec (fun h2 => ?_) (fun h2 => ?_)
  · cases hb : t.bare 2 with
    | false => rw [Tr.isFam_bad h2 hb] at hf; cases hf
    | true =>
      obtain ⟨x, y, hxy⟩ := bare_two hb
      rw [Tr.isFam_pi h2 hxy] at hf
      simp only [Bool.and_eq_true] at hf
      have x0 : t.kids[0]? = some x := by rw [hxy]; rfl
      have y1 : t.kids[1]? = some y := by rw [hxy]; rfl
      try simp [ia_tree0 _ x0, ia_tree1 _ y1]
      refine callK_just (ih x (by rw [hxy]; simp) hf.2.1 _) ?_
      try simp
      refine callK_just (ih y (by rw [hxy]; simp) hf.2.2 _) ?_
      refine callK_just (h_spec_l01Arrow _ _ _) ?_
      try simp
      try simp [q_load_p (upd_same _ _ _)]
      rw [eraseT_pi h2 hxy]
      exact Just.ret (hsub _)
  · refine callK_just (h_spec_l01Base _ _) ?_
    try simp
    try simp [q_load_p (upd_same _ _ _)]
    rw [eraseT_head h2]
    exact Just.ret (hsub _)
theorem h_spec_l04More (ctx : List Tr) (a : Tr) (hl : ctx.length ≤ 1000000) (st : St) : HCalls prog n_spec_l04More [trees ctx, tree a] st (Just (trees (ctx ++ [a])) st) := by
  apply c_spec_l04More
  unfold b_spec_l04More
  refine e_box_ref (tree_isJunk _) ?_
  try simp
  refine (Grow.nil _ 4 4).append (elems_sl _ _ _ _) (by simp; omega) fun p1 s1 hg1 => ?_
  try simp
  refine hg1.append (elems_sl _ _ _ _) (by simp; omega) fun p2 s2 hg2 => ?_
  exact Just.conv (by simpa using hg2.freeze)
def FailR (b : Nat) (o : HObj) (st : St) : Res → St → Prop := fun q s => q = .ret (.bool false) ∧ s = upd st b o
theorem h_spec_l04Run_fail (b b' : Nat) (sig : List Dc) (c p : Int) (st : St) (hb : st b = some (srun sig b' 0 0)) : HCalls prog n_spec_l04Run_fail [.ptr b 0, .int .i64 c, .int .i64 p] st (FailR b (srun sig b' c p) st) := by
  apply c_spec_l04Run_fail
  unfold b_spec_l04Run_fail
  have hb0 : st b = some (.cells [.sl 6 false (sig.map decl), .ptr b' 0, .int .i64 0, .int .i64 0]) := hb
  try simp [q_load_p hb0]
  rw [e_store_p _ _ _ _ _ _ _ hb0]
  try simp
  exact retR_same ⟨rfl, rfl⟩
theorem callK_fail {P : Program} {g : FuncId} {us : List PV} {st : St} {K Kp : PV → St → Prop} {b : Nat} {o : HObj} (hc : HCalls P g us st (FailR b o st)) (hk : K (.bool false) (upd st b o)) : callK P g us st K Kp := by
  refine callK_of hc (fun q s h => ?_) (fun q s h => ?_)
  · obtain ⟨h, rfl⟩ := h; cases h; exact hk
  · obtain ⟨h, rfl⟩ := h; cases h
/-- The two blocks of a check. -/
structure SR (sig : List Dc) (b b' : Nat) (k : Int) (s : St) : Prop where
  run : s b = some (srun sig b' 0 0)
  cn : s b' = some (cnt k)
theorem SR.ne {sig : List Dc} {b b' : Nat} {k : Int} {s : St} (h : SR sig b b' k s) : b ≠ b' := fun e => by
  have h1 := h.run
  rw [e, h.cn] at h1
  unfold cnt srun at h1
  simp at h1
theorem SR.off {sig : List Dc} {b b' : Nat} {k : Int} {s : St} (h : SR sig b b' k s) {c : Nat} (hc : s c = none) (o : HObj) : SR sig b b' k (upd s c o) ∧ c ≠ b ∧ c ≠ b' := by
  have n1 : c ≠ b := fun e => by rw [e, h.run] at hc; cases hc
  have n2 : c ≠ b' := fun e => by rw [e, h.cn] at hc; cases hc
  exact ⟨⟨by rw [upd_ne _ _ n1.symm]; exact h.run, by rw [upd_ne _ _ n2.symm]; exact h.cn⟩, n1, n2⟩
theorem SR.store {sig : List Dc} {b b' : Nat} {k : Int} {s : St} (h : SR sig b b' k s) {c : Nat} (n1 : c ≠ b) (n2 : c ≠ b') (o : HObj) : SR sig b b' k (upd s c o) :=
  ⟨by rw [upd_ne _ _ n1.symm]; exact h.run, by rw [upd_ne _ _ n2.symm]; exact h.cn⟩
theorem SR.next {sig : List Dc} {b b' : Nat} {k k2 : Int} {s : St} (h : SR sig b b' k s) : SR sig b b' k2 (upd (upd s b' (cnt k2)) b (srun sig b' 0 0)) :=
  ⟨upd_same _ _ _, by rw [upd_ne _ _ h.ne.symm]; exact upd_same _ _ _⟩
theorem SR.done {sig : List Dc} {b b' : Nat} {k k2 c p : Int} {s : St} (h : SR sig b b' k s) : (upd (upd s b' (cnt k2)) b (srun sig b' c p)) b = some (srun sig b' c p) ∧ (upd (upd s b' (cnt k2)) b (srun sig b' c p)) b' = some (cnt k2) :=
  ⟨upd_same _ _ _, by rw [upd_ne _ _ h.ne.symm]; exact upd_same _ _ _⟩
theorem SR.far {sig : List Dc} {b b' : Nat} {k2 c p : Int} {s : St} {d : Nat} (n1 : d ≠ b) (n2 : d ≠ b') : (upd (upd s b' (cnt k2)) b (srun sig b' c p)) d = s d := by
  rw [upd_ne _ _ n1, upd_ne _ _ n2]
theorem SR.failed {sig : List Dc} {b b' : Nat} {k c p : Int} {s : St} (h : SR sig b b' k s) : (upd s b (srun sig b' c p)) b = some (srun sig b' c p) ∧ (upd s b (srun sig b' c p)) b' = some (cnt k) :=
  ⟨upd_same _ _ _, by rw [upd_ne _ _ h.ne.symm]; exact h.cn⟩
/-- No tree, and a no. -/
def noX : PV → Prop := fun v => ∃ z0 z1 z2 z3, v = .tup [.agg [z0, z1, z2, z3], .bool false] ∧ z0.cellOK = true ∧ z1.cellOK = true ∧ z2.cellOK = true ∧ z3.cellOK = true
theorem noX.zero : noX (.tup [.agg [.int .i64 0, .int .i64 0, .str [], .sl 0 true []], .bool false]) := ⟨_, _, _, _, rfl, rfl, rfl, rfl, rfl⟩
def headRes (x : Int ⊕ Tr) (p k : Int) : (Fz ⊕ Tr) × Int := match x with
  | .inl c => (.inl (c, p), k)
  | .inr a => (.inr a, k)
theorem h_spec_l04Run_head (b b' : Nat) (sig : List Dc) (hs : SigR sig) (ctx : List Tr) (hctx : ∀ a ∈ ctx, FF a) (hlen : ctx.length ≤ 1000000) (t : Tr) (ht : t.isTerm false = true) (hk4 : t.kind ≠ 4) (p k : Int) (st : St) (hb : SR sig b b' k st) :
    HCalls prog n_spec_l04Run_head [.ptr b 0, trees ctx, tree t, .int .i64 p] st (RunS sig b b' okT noX (headRes (headC sig ctx t) p k) st) := by
  apply c_spec_l04Run_head
  unfold b_spec_l04Run_head
  generalize hv : headRes (headC sig ctx t) p k = v
  unfold headC at hv
  refine e_box_ref (tree_isJunk _) ?_
  intro b8 hb8
  obtain ⟨eb, m1, m2⟩ := hb.off hb8 (.cells [.int .i64 0, .int .i64 0, .str [], .sl 0 true []])
  have ar : Around2 b b' st (upd st b8 (.cells [.int .i64 0, .int .i64 0, .str [], .sl 0 true []])) := (Around2.refl b b' st).put hb8 _
  have e8 := upd_same st b8 (.cells [.int .i64 0, .int .i64 0, .str [], .sl 0 true []])
  generalize upd st b8 (.cells [.int .i64 0, .int .i64 0, .str [], .sl 0 true []]) = s1 at eb ar e8
  have bad : ∀ (c : Int) (s : St), SR sig b b' k s → Around2 b b' st s → s b8 = some (.cells [.int .i64 0, .int .i64 0, .str [], .sl 0 true []]) → (.inl (c, p), k) = v →
      callK prog n_spec_l04Run_fail [.ptr b 0, .int .i64 c, .int .i64 p] s (fun v24 st_1 => e_store st_1 4 (.ptr b8 0) (.agg [.int .i64 0, .int .i64 0, .str [], .sl 0 true []]) fun st_2 => qb (q_load st_2 true 4 (.ptr b8 0)) fun r => retR (RunS sig b b' okT noX v st) (.tup [r, v24]) st_2) (panR (RunS sig b b' okT noX v st)) := by
    intro c s hss har h8 hq
    refine callK_fail (h_spec_l04Run_fail b b' sig c p s hss.run) ?_
    have i8 : (upd s b (srun sig b' c p)) b8 = some (.cells [.int .i64 0, .int .i64 0, .str [], .sl 0 true []]) := by rw [upd_ne _ _ m1]; exact h8
    rw [e_store_p _ _ _ _ _ _ _ i8]
    try simp [q_load_p (upd_same _ _ _)]
    refine RunS.no noX.zero hq.symm ((har.draw _).own hb8 _) ?_ ?_
    · rw [upd_ne _ _ m1.symm]; exact upd_same _ _ _
    · rw [upd_ne _ _ m2.symm]; exact hss.failed.2
  rw [zeroT] at *
  try simp
  refine br_dec (fun h5 => ?_) (fun h5 => ?_)
  · have hn := var_n ht (.inl h5)
    rw [if_pos h5] at hv
    refine br_dec (fun hge => ?_) (fun hge => ?_)
    · rw [if_pos (by omega)] at hv
      simpa using bad 7 s1 eb ar e8 hv
    · rw [if_neg (by omega)] at hv
      have hi : ((ctx.length : Int) - 1 - t.n).toNat < ctx.length := by omega
      rw [getD_of hi] at hv
      have hff := hctx _ (List.getElem_mem hi)
      have e1 : IntKind.i64.wrap (IntKind.i64.wrap ((ctx.length : Int) - 1) - t.n) = ((((ctx.length : Int) - 1 - t.n).toNat : Nat) : Int) := by
        rw [wrap64 (n := (ctx.length : Int) - 1) (by omega) (by omega), wrap64 (by omega) (by omega)]
        omega
      have e2 : IntKind.i64.wrap (t.n + 1) = t.n + 1 := wrap64 (by omega) (by omega)
      refine hJ_of fun J hJ => ?_
      have key : ∀ (b10 : Nat) (s : St), s b10 = some (.cells (tree (ctx[((ctx.length : Int) - 1 - t.n).toNat].lift 0 (t.n + 1))).cells) → SR sig b b' k s → Around2 b b' st s → s b8 = some (.cells [.int .i64 0, .int .i64 0, .str [], .sl 0 true []]) → J [.ptr b10 0] s := by
        intro b10 s h10 hss har h8
        refine hJ _ _ ?_
        try simp [q_load_p h10]
        refine callK_just (h_spec_l03Big _ _) ?_
        try simp
        refine br_of (fun hbig => ?_) (fun hbig => ?_)
        · rw [if_pos hbig] at hv
          simpa using bad 11 s hss har h8 hv
        · rw [if_neg (by rw [hbig]; simp)] at hv
          try simp [q_load_p h10]
          rw [e_store_p _ _ _ _ _ _ _ h8]
          try simp [q_load_p (upd_same _ _ _)]
          exact RunS.ok rfl hv.symm (har.own hb8 _) (hss.store m1 m2 _).run (hss.store m1 m2 _).cn
      rw [e1, e2, ia_trees hi]
      try simp
      refine ⟨?_, ?_⟩
      · refine callK_just (h_spec_l01Lift _ 0 _ (by have := hff.2; omega) _) ?_
        intro b9 hb9
        try simp
        obtain ⟨f1, f2, f3⟩ := eb.off hb9 (.cells (tree (ctx[((ctx.length : Int) - 1 - t.n).toNat].lift 0 (t.n + 1))).cells)
        have hne : b8 ≠ b9 := fun e => by rw [← e, e8] at hb9; cases hb9
        exact key b9 _ (upd_same _ _ _) f1 (ar.put hb9 _) (by rw [upd_ne _ _ hne]; exact e8)
      · intro b9 hb9
        refine callK_just (h_spec_l01Lift _ 0 _ (by have := hff.2; omega) _) ?_
        try simp
        obtain ⟨f1, f2, f3⟩ := eb.off hb9 (.cells (tree (ctx[((ctx.length : Int) - 1 - t.n).toNat].lift 0 (t.n + 1))).cells)
        have hne : b8 ≠ b9 := fun e => by rw [← e, e8] at hb9; cases hb9
        exact key b9 _ (upd_same _ _ _) f1 (ar.put hb9 _) (by rw [upd_ne _ _ hne]; exact e8)
  · rw [if_neg h5] at hv
    refine br_dec (fun h7 => ?_) (fun h7 => ?_)
    · rw [if_neg (by omega)] at hv
      simpa using bad 15 s1 eb ar e8 hv
    · have h6 : t.kind = 6 := by
        rw [Tr.isTerm_eq, if_neg hk4, if_neg (by omega)] at ht
        split at ht
        · assumption
        · cases ht
      rw [if_pos h6] at hv
      have hrun : s1 b = some (.cells [.sl 6 false (sig.map decl), .ptr b' 0, .int .i64 0, .int .i64 0]) := eb.run
      try simp [q_load_p hrun]
      refine callK_just (by simpa using h_spec_l04Find sig t.name hs.len _) ?_
      unfold declaredT at hv
      rcases fstOf_cases (named t.name) sig with ⟨e1, e2⟩ | ⟨j, hj, e1, e2, e3⟩
      · rw [e1]
        refine hJ_of fun J hJ => ?_
        rw [e2] at hv
        try simp
        refine hJ _ _ ?_
        simpa using bad 5 s1 eb ar e8 hv
      · rw [e1]
        refine hJ_of fun J hJ => ?_
        rw [e3] at hv
        simp only at hv
        try simp
        refine br_dec (fun h => by omega) (fun h => ?_)
        try simp [q_load_p hrun, ia_decls hj]
        refine hJ _ _ ?_
        cases hf : sig[j].fam with
        | true =>
          rw [hf] at hv
          simpa using bad 5 s1 eb ar e8 (by simpa [headRes] using hv)
        | false =>
          rw [hf] at hv
          try simp [q_load_p hrun, ia_decls hj]
          rw [e_store_p _ _ _ _ _ _ _ e8]
          try simp [q_load_p (upd_same _ _ _)]
          exact RunS.ok rfl (by simpa [headRes] using hv.symm) (ar.own hb8 _) (eb.store m1 m2 _).run (eb.store m1 m2 _).cn
/-- What is asked of the check of terms below. -/
def TermOKs (b b' : Nat) (sig : List Dc) (ctx : List Tr) (f : Tr → Tr → Int → Int → (Fz ⊕ Unit) × Int) (l : List Tr) : Prop := ∀ x ∈ l, ∀ (c : Tr) (p k : Int) (s : St), FF c → 0 ≤ p → p + x.size ≤ 1000000000 → 0 ≤ k → k ≤ 20000 → SR sig b b' k s →
  HCalls prog n_spec_l04Run_term [.ptr b 0, trees ctx, tree x, tree c, .int .i64 p] s (RunS sig b b' okB noB (f x c p k) s) ∧ CntOK (f x c p k) k
theorem h_spec_l04Run_spine (b b' : Nat) (sig : List Dc) (ctx : List Tr) (f : Tr → Tr → Int → Int → (Fz ⊕ Unit) × Int) (l : List Tr) (hf : TermOKs b b' sig ctx f l) (hl : ∀ x ∈ l, x.isTerm false = true) (hls : Tr.sizes l ≤ 900000) (a : Tr) (ha : FK a) (p k : Int) (hp : 0 ≤ p) (hps : p + 1 + Tr.sizes l ≤ 1000000000) (h0 : 0 ≤ k) (h1 : k ≤ 20000) (st : St) (hb : SR sig b b' k st) :
    HCalls prog n_spec_l04Run_spine [.ptr b 0, trees ctx, tree a, trees l, .int .i64 p] st (RunS sig b b' okT noX (argsC f l a (p + 1) k) st) := by
  apply c_spec_l04Run_spine
  unfold b_spec_l04Run_spine
  generalize hv : argsC f l a (p + 1) k = v
  have hll := Tr.len_sizes l
  refine e_box_own (tree_isJunk _) fun b7 hb7 => ?_
  obtain ⟨eb, m7, m7'⟩ := hb.off hb7 (.cells (tree a).cells)
  intro b10 hb10
  have n107 : b10 ≠ b7 := fun e => by rw [e, upd_same] at hb10; cases hb10
  obtain ⟨eb, m10, m10'⟩ := eb.off hb10 (.cells [.int .i64 0, .int .i64 0, .str [], .sl 0 true []])
  rw [upd_ne _ _ n107] at hb10
  rw [zeroT]
  try simp
  rw [wrap64 (by omega) (by omega)]
  generalize hs1 : upd (upd st b7 (.cells (tree a).cells)) b10 (.cells [.int .i64 0, .int .i64 0, .str [], .sl 0 true []]) = s1 at eb
  have e7 : s1 b7 = some (.cells (tree a).cells) := by rw [← hs1, upd_ne _ _ n107.symm]; exact upd_same _ _ _
  have e10 : s1 b10 = some (.cells [.int .i64 0, .int .i64 0, .str [], .sl 0 true []]) := by rw [← hs1]; exact upd_same _ _ _
  have ar : Around2 b b' st s1 := by rw [← hs1]; exact ((Around2.refl b b' st).put hb7 _).own hb10 _
  clear hs1
  have bad : ∀ (c q : Int) (s : St) (k : Int), SR sig b b' k s → Around2 b b' st s → s b10 = some (.cells [.int .i64 0, .int .i64 0, .str [], .sl 0 true []]) → (.inl (c, q), k) = v →
      callK prog n_spec_l04Run_fail [.ptr b 0, .int .i64 c, .int .i64 q] s (fun v24 st_1 => e_store st_1 4 (.ptr b10 0) (.agg [.int .i64 0, .int .i64 0, .str [], .sl 0 true []]) fun st_2 => qb (q_load st_2 true 4 (.ptr b10 0)) fun r => retR (RunS sig b b' okT noX v st) (.tup [r, v24]) st_2) (panR (RunS sig b b' okT noX v st)) := by
    intro c q s k hss har h10 hq
    refine callK_fail (h_spec_l04Run_fail b b' sig c q s hss.run) ?_
    have i10 : (upd s b (srun sig b' c q)) b10 = some (.cells [.int .i64 0, .int .i64 0, .str [], .sl 0 true []]) := by rw [upd_ne _ _ m10]; exact h10
    rw [e_store_p _ _ _ _ _ _ _ i10]
    try simp [q_load_p (upd_same _ _ _)]
    refine RunS.no noX.zero hq.symm ((har.draw _).own hb10 _) ?_ ?_
    · rw [upd_ne _ _ m10.symm]; exact upd_same _ _ _
    · rw [upd_ne _ _ m10'.symm]; exact hss.failed.2
  refine loop_idx (β := Tr × Int × Int × St) l (fun z i => [.int .i64 z.2.1, .int .i64 (i : Int)]) (fun z => z.2.2.2)
    (fun z i rest => SR sig b b' z.2.2.1 z.2.2.2 ∧ z.2.2.2 b7 = some (.cells (tree z.1).cells) ∧ z.2.2.2 b10 = some (.cells [.int .i64 0, .int .i64 0, .str [], .sl 0 true []]) ∧ Around2 b b' st z.2.2.2 ∧ FK z.1 ∧ 0 ≤ z.2.1 ∧ z.2.1 + Tr.sizes rest ≤ 1000000000 ∧ 0 ≤ z.2.2.1 ∧ z.2.2.1 ≤ 20000 ∧ argsC f rest z.1 z.2.1 z.2.2.1 = v) ?_ ?_ (a, p + 1, k, s1) ⟨eb, e7, e10, ar, ha, (by simp only; omega), hps, h0, h1, hv⟩
  · rintro i x rest ⟨a, p, k, s⟩ hi hx ⟨eb, e7, e10, ar, ha, hp, hps, h0, h1, hq⟩ kk
    simp only at eb e7 e10 ar ha hp hps h0 h1 hq
    rw [argsC] at hq
    have hxm := List.mem_of_getElem? hx
    have hxs := Tr.sizes_mem hxm
    simp only [Tr.sizes, List.map_cons, List.sum_cons] at hps
    try simp [hi, q_load_p e7]
    refine br_dec (fun hk => ?_) (fun hk => ?_)
    rotate_left
    · rw [if_neg hk] at hq
      simpa using bad 8 p s k eb ar e10 hq
    · rw [if_pos hk] at hq
      obtain ⟨y, z, hyz, hy, hz, hsz⟩ := fk_pi ha hk
      have y0 : a.kids[0]? = some y := by rw [hyz]; rfl
      have z1 : a.kids[1]? = some z := by rw [hyz]; rfl
      rw [kid0 hyz] at hq
      try simp [ia_tree _ hx, q_load_p e7, ia_tree0 _ y0]
      obtain ⟨hc, hfine⟩ := hf x hxm y p k s hy hp (by omega) h0 h1 eb
      refine callK_runS hc (fun u k2 w hr hw => ?_) (fun c p2 k2 w hr hw => ?_)
      · cases hw
        rw [hr] at hq hfine
        simp only at hq
        have hk0 := hfine.1
        have hk2 := hfine.2.2.2 u rfl
        simp only at hk0 hk2
        have fb : SR sig b b' k2 (upd (upd s b' (cnt k2)) b (srun sig b' 0 0)) := eb.next
        have f7 : (upd (upd s b' (cnt k2)) b (srun sig b' 0 0)) b7 = some (.cells (tree a).cells) := by rw [SR.far m7 m7']; exact e7
        have f10 : (upd (upd s b' (cnt k2)) b (srun sig b' 0 0)) b10 = some (.cells [.int .i64 0, .int .i64 0, .str [], .sl 0 true []]) := by rw [SR.far m10 m10']; exact e10
        have ar2 : Around2 b b' st (upd (upd s b' (cnt k2)) b (srun sig b' 0 0)) := (ar.draw' _).draw _
        generalize upd (upd s b' (cnt k2)) b (srun sig b' 0 0) = s2 at fb f7 f10 ar2
        try simp
        have hrun : s2 b = some (.cells [.sl 6 false (sig.map decl), .ptr b' 0, .int .i64 0, .int .i64 0]) := fb.run
        refine hJ_of fun J hJ => ?_
        obtain ⟨hl1, hl2⟩ := leftC_fine (p := p) (hl x hxm) (by omega) ha hk (show 0 ≤ k2 by omega) hk2
        unfold leftC at hl1 hl2 hq
        rw [kid0 hyz, kid1 hyz] at hl1 hl2 hq
        -- what is done behind the substitution
        have good : ∀ (r : Tr) (k3 : Int) (b13 : Nat) (s : St), subT 100000000 x (eraseT y) z 0 k2 = (.inr r, k3) → s b13 = some (.cells (tree r).cells) → SR sig b b' k3 s → s b7 = some (.cells (tree a).cells) → s b10 = some (.cells [.int .i64 0, .int .i64 0, .str [], .sl 0 true []]) → Around2 b b' st s → J [.ptr b13 0, .int .i64 0] s := by
          intro r k3 b13 s hr3 h13 hss h7 h10 har
          rw [hr3] at hl1 hl2 hq
          simp only at hl1 hl2 hq
          have hk3 := hl1.1
          have hk4 := hl1.2.2.2 r rfl
          simp only at hk3 hk4
          refine hJ _ _ ?_
          try simp [q_load_p h13]
          rw [e_store_p _ _ _ _ _ _ _ h7]
          try simp [ia_tree _ hx]
          refine callK_just (h_spec_l01Size x (by omega) _) ?_
          try simp
          rw [wrap64 (by omega) (by omega), W_idx hi (by unfold maxLen; omega)]
          refine kk (r, p + x.size, k3, upd s b7 (.cells (tree r).cells)) ⟨hss.store m7 m7' _, upd_same _ _ _, (by simp only; rw [upd_ne _ _ n107]; exact h10), har.own hb7 _, (hl2 r rfl).1, (by simp only; omega), (by simp only [Tr.sizes]; omega), (by simp only; omega), hk4, hq⟩
        have nogood : ∀ (c k3 : Int) (b13 : Nat) (s : St), subT 100000000 x (eraseT y) z 0 k2 = (.inl c, k3) → SR sig b b' k3 s → s b10 = some (.cells [.int .i64 0, .int .i64 0, .str [], .sl 0 true []]) → Around2 b b' st s → J [.ptr b13 0, .int .i64 c] s := by
          intro c k3 b13 s hr3 hss h10 har
          rw [hr3] at hl1 hq
          simp only at hq
          have hc0 := hl1.2.2.1 _ rfl
          simp only at hc0
          refine hJ _ _ ?_
          try simp
          rw [decide_eq_false hc0]
          simpa using bad c p s k3 hss har h10 hq
        have hsub := fun s (hss : SR sig b b' k2 s) => h_spec_l03Run_sub b' 100000000 x (eraseT y) z 0 k2 s (term_lamy x (hl x hxm)) (by omega) hy.simple hz.lamy (by have := hz.2; omega) (by omega) hk2 (by have := hz.2; omega) hss.cn
        have cnext : ∀ (k3 : Int) (s : St), SR sig b b' k2 s → SR sig b b' k3 (upd s b' (cnt k3)) := fun k3 s hss => ⟨by rw [upd_ne _ _ hss.ne]; exact hss.run, upd_same _ _ _⟩
        try simp [q_load_p hrun, ia_tree _ hx, q_load_p f7, ia_tree0 _ y0, ia_tree1 _ z1]
        refine ⟨?_, ?_⟩
        · refine callK_just (h_spec_l01Erase y hy.1 _) ?_
          try simp [q_load_p hrun, ia_tree _ hx, q_load_p f7, ia_tree0 _ y0, ia_tree1 _ z1]
          refine ⟨?_, ?_⟩
          · refine callK_worksS (hsub _ fb) (fun r k3 hr3 => ?_) (fun c k3 hr3 => ?_)
            · have gb := cnext k3 _ fb
              have g7 : (upd s2 b' (cnt k3)) b7 = some (.cells (tree a).cells) := by rw [upd_ne _ _ m7']; exact f7
              have g10 : (upd s2 b' (cnt k3)) b10 = some (.cells [.int .i64 0, .int .i64 0, .str [], .sl 0 true []]) := by rw [upd_ne _ _ m10']; exact f10
              have ar3 : Around2 b b' st (upd s2 b' (cnt k3)) := ar2.draw' _
              generalize upd s2 b' (cnt k3) = s3 at gb g7 g10 ar3
              try simp
              intro b13 hb13
              have hn13 := ar3
              have key : ∀ o, SR sig b b' k3 (upd s3 b13 o) ∧ (upd s3 b13 o) b7 = some (.cells (tree a).cells) ∧ (upd s3 b13 o) b10 = some (.cells [.int .i64 0, .int .i64 0, .str [], .sl 0 true []]) ∧ Around2 b b' st (upd s3 b13 o) := fun o => by
                obtain ⟨i1, i2, i3⟩ := gb.off hb13 o
                have q7 : b7 ≠ b13 := fun e => by rw [← e, g7] at hb13; cases hb13
                have q10 : b10 ≠ b13 := fun e => by rw [← e, g10] at hb13; cases hb13
                exact ⟨i1, by rw [upd_ne _ _ q7]; exact g7, by rw [upd_ne _ _ q10]; exact g10, ar3.put hb13 _⟩
              have hrun3 : ∀ o, (upd s3 b13 o) b = some (.cells [.sl 6 false (sig.map decl), .ptr b' 0, .int .i64 0, .int .i64 0]) := fun o => (key o).1.run
              try simp [q_load_p (hrun3 _), ia_tree _ hx, q_load_p (key _).2.1, ia_tree0 _ y0, ia_tree1 _ z1]
              exact good r k3 b13 _ hr3 (upd_same _ _ _) (key _).1 (key _).2.1 (key _).2.2.1 (key _).2.2.2
            · have gb := cnext k3 _ fb
              have g7 : (upd s2 b' (cnt k3)) b7 = some (.cells (tree a).cells) := by rw [upd_ne _ _ m7']; exact f7
              have g10 : (upd s2 b' (cnt k3)) b10 = some (.cells [.int .i64 0, .int .i64 0, .str [], .sl 0 true []]) := by rw [upd_ne _ _ m10']; exact f10
              have ar3 : Around2 b b' st (upd s2 b' (cnt k3)) := ar2.draw' _
              generalize upd s2 b' (cnt k3) = s3 at gb g7 g10 ar3
              try simp
              intro b13 hb13
              have key : ∀ o, SR sig b b' k3 (upd s3 b13 o) ∧ (upd s3 b13 o) b7 = some (.cells (tree a).cells) ∧ (upd s3 b13 o) b10 = some (.cells [.int .i64 0, .int .i64 0, .str [], .sl 0 true []]) ∧ Around2 b b' st (upd s3 b13 o) := fun o => by
                obtain ⟨i1, i2, i3⟩ := gb.off hb13 o
                have q7 : b7 ≠ b13 := fun e => by rw [← e, g7] at hb13; cases hb13
                have q10 : b10 ≠ b13 := fun e => by rw [← e, g10] at hb13; cases hb13
                exact ⟨i1, by rw [upd_ne _ _ q7]; exact g7, by rw [upd_ne _ _ q10]; exact g10, ar3.put hb13 _⟩
              have hrun3 : ∀ o, (upd s3 b13 o) b = some (.cells [.sl 6 false (sig.map decl), .ptr b' 0, .int .i64 0, .int .i64 0]) := fun o => (key o).1.run
              try simp [q_load_p (hrun3 _), ia_tree _ hx, q_load_p (key _).2.1, ia_tree0 _ y0, ia_tree1 _ z1]
              exact nogood c k3 b13 _ hr3 (key _).1 (key _).2.2.1 (key _).2.2.2
          · intro b13 hb13
            obtain ⟨i1, i2, i3⟩ := fb.off hb13 (.cells [.int .i64 0, .int .i64 0, .str [], .sl 0 true []])
            have q7 : b7 ≠ b13 := fun e => by rw [← e, f7] at hb13; cases hb13
            have q10 : b10 ≠ b13 := fun e => by rw [← e, f10] at hb13; cases hb13
            have g7 : (upd s2 b13 (.cells [.int .i64 0, .int .i64 0, .str [], .sl 0 true []])) b7 = some (.cells (tree a).cells) := by rw [upd_ne _ _ q7]; exact f7
            have g10 : (upd s2 b13 (.cells [.int .i64 0, .int .i64 0, .str [], .sl 0 true []])) b10 = some (.cells [.int .i64 0, .int .i64 0, .str [], .sl 0 true []]) := by rw [upd_ne _ _ q10]; exact f10
            have hrun2 : (upd s2 b13 (.cells [.int .i64 0, .int .i64 0, .str [], .sl 0 true []])) b = some (.cells [.sl 6 false (sig.map decl), .ptr b' 0, .int .i64 0, .int .i64 0]) := i1.run
            have g13 := upd_same s2 b13 (.cells [.int .i64 0, .int .i64 0, .str [], .sl 0 true []])
            have ar3 : Around2 b b' st (upd s2 b13 (.cells [.int .i64 0, .int .i64 0, .str [], .sl 0 true []])) := ar2.put hb13 _
            generalize upd s2 b13 (.cells [.int .i64 0, .int .i64 0, .str [], .sl 0 true []]) = s3 at i1 g7 g10 hrun2 g13 ar3
            try simp [q_load_p hrun2, ia_tree _ hx, q_load_p g7, ia_tree0 _ y0, ia_tree1 _ z1]
            refine callK_worksS (hsub _ i1) (fun r k3 hr3 => ?_) (fun c k3 hr3 => ?_)
            · have gb := cnext k3 _ i1
              have j13 : (upd s3 b' (cnt k3)) b13 = some (.cells [.int .i64 0, .int .i64 0, .str [], .sl 0 true []]) := by rw [upd_ne _ _ i3]; exact g13
              try simp
              rw [e_store_p _ _ _ _ _ _ _ j13]
              try simp
              exact good r k3 b13 _ hr3 (upd_same _ _ _) (gb.store i2 i3 _) (by rw [upd_ne _ _ q7, upd_ne _ _ m7']; exact g7) (by rw [upd_ne _ _ q10, upd_ne _ _ m10']; exact g10) ((ar3.draw' _).own (ar2.isNone i2 i3 hb13) _)
            · have gb := cnext k3 _ i1
              have j13 : (upd s3 b' (cnt k3)) b13 = some (.cells [.int .i64 0, .int .i64 0, .str [], .sl 0 true []]) := by rw [upd_ne _ _ i3]; exact g13
              try simp
              rw [e_store_p _ _ _ _ _ _ _ j13]
              try simp
              exact nogood c k3 b13 _ hr3 (gb.store i2 i3 _) (by rw [upd_ne _ _ q10, upd_ne _ _ m10']; exact g10) ((ar3.draw' _).own (ar2.isNone i2 i3 hb13) _)
        · intro b13 hb13
          obtain ⟨i1, i2, i3⟩ := fb.off hb13 (.cells [.int .i64 0, .int .i64 0, .str [], .sl 0 true []])
          have q7 : b7 ≠ b13 := fun e => by rw [← e, f7] at hb13; cases hb13
          have q10 : b10 ≠ b13 := fun e => by rw [← e, f10] at hb13; cases hb13
          have g7 : (upd s2 b13 (.cells [.int .i64 0, .int .i64 0, .str [], .sl 0 true []])) b7 = some (.cells (tree a).cells) := by rw [upd_ne _ _ q7]; exact f7
          have g10 : (upd s2 b13 (.cells [.int .i64 0, .int .i64 0, .str [], .sl 0 true []])) b10 = some (.cells [.int .i64 0, .int .i64 0, .str [], .sl 0 true []]) := by rw [upd_ne _ _ q10]; exact f10
          have hrun2 : (upd s2 b13 (.cells [.int .i64 0, .int .i64 0, .str [], .sl 0 true []])) b = some (.cells [.sl 6 false (sig.map decl), .ptr b' 0, .int .i64 0, .int .i64 0]) := i1.run
          have g13 := upd_same s2 b13 (.cells [.int .i64 0, .int .i64 0, .str [], .sl 0 true []])
          have ar3 : Around2 b b' st (upd s2 b13 (.cells [.int .i64 0, .int .i64 0, .str [], .sl 0 true []])) := ar2.put hb13 _
          generalize upd s2 b13 (.cells [.int .i64 0, .int .i64 0, .str [], .sl 0 true []]) = s3 at i1 g7 g10 hrun2 g13 ar3
          try simp [q_load_p hrun2, ia_tree _ hx, q_load_p g7, ia_tree0 _ y0, ia_tree1 _ z1]
          refine callK_just (h_spec_l01Erase y hy.1 _) ?_
          try simp [q_load_p hrun2, ia_tree _ hx, q_load_p g7, ia_tree0 _ y0, ia_tree1 _ z1]
          refine callK_worksS (hsub _ i1) (fun r k3 hr3 => ?_) (fun c k3 hr3 => ?_)
          · have gb := cnext k3 _ i1
            have j13 : (upd s3 b' (cnt k3)) b13 = some (.cells [.int .i64 0, .int .i64 0, .str [], .sl 0 true []]) := by rw [upd_ne _ _ i3]; exact g13
            try simp
            rw [e_store_p _ _ _ _ _ _ _ j13]
            try simp
            exact good r k3 b13 _ hr3 (upd_same _ _ _) (gb.store i2 i3 _) (by rw [upd_ne _ _ q7, upd_ne _ _ m7']; exact g7) (by rw [upd_ne _ _ q10, upd_ne _ _ m10']; exact g10) ((ar3.draw' _).own (ar2.isNone i2 i3 hb13) _)
          · have gb := cnext k3 _ i1
            have j13 : (upd s3 b' (cnt k3)) b13 = some (.cells [.int .i64 0, .int .i64 0, .str [], .sl 0 true []]) := by rw [upd_ne _ _ i3]; exact g13
            try simp
            rw [e_store_p _ _ _ _ _ _ _ j13]
            try simp
            exact nogood c k3 b13 _ hr3 (gb.store i2 i3 _) (by rw [upd_ne _ _ q10, upd_ne _ _ m10']; exact g10) ((ar3.draw' _).own (ar2.isNone i2 i3 hb13) _)
      · cases hw
        rw [hr] at hq
        simp only at hq
        have f10 : (upd (upd s b' (cnt k2)) b (srun sig b' c p2)) b10 = some (.cells [.int .i64 0, .int .i64 0, .str [], .sl 0 true []]) := by rw [SR.far m10 m10']; exact e10
        try simp
        rw [e_store_p _ _ _ _ _ _ _ f10]
        try simp [q_load_p (upd_same _ _ _)]
        refine RunS.no noX.zero hq.symm (((ar.draw' _).draw _).own hb10 _) ?_ ?_
        · rw [upd_ne _ _ m10.symm]; exact upd_same _ _ _
        · rw [upd_ne _ _ m10'.symm]; exact (SR.done eb).2
  · rintro ⟨a, p, k, s⟩ ⟨eb, e7, e10, ar, ha, hp, hps, h0, h1, hq⟩
    simp only at eb e7 e10 ar ha hp hps h0 h1 hq
    rw [argsC] at hq
    try simp [q_load_p e7]
    rw [e_store_p _ _ _ _ _ _ _ e10]
    try simp [q_load_p (upd_same _ _ _)]
    exact RunS.ok rfl hq.symm (ar.own hb10 _) (eb.store m10 m10' _).run (eb.store m10 m10' _).cn
end Go.H.Tryz
/- Contracts: the reference's check over a signature: terms, families, kinds. -/
set_option linter.unusedVariables false
set_option linter.unusedSimpArgs false
namespace Go.H.Tryz
open Go Go.H

theorem ctx_snocS {ctx : List Tr} {y : Tr} (hctx : ∀ a ∈ ctx, FF a) (hy : FF y) : ∀ a ∈ ctx ++ [y], FF a := fun b hb => by
  rcases List.mem_append.1 hb with h | h
  · exact hctx b h
  · simp at h; rw [h]; exact hy
theorem h_spec_l04Run_synth (b b' : Nat) (sig : List Dc) (hs : SigR sig) (ctx : List Tr) (hctx : ∀ a ∈ ctx, FF a) (hlen : ctx.length ≤ 1000000) (f : Tr → Tr → Int → Int → (Fz ⊕ Unit) × Int) (t : Tr) (hf : TermOKs b b' sig ctx f t.kids) (ht : t.isTerm false = true) (hk4 : t.kind ≠ 4) (hts : t.size ≤ 900000) (p k : Int) (hp : 0 ≤ p) (hps : p + t.size ≤ 1000000000) (h0 : 0 ≤ k) (h1 : k ≤ 20000) (st : St) (hb : SR sig b b' k st) :
    HCalls prog n_spec_l04Run_synth [.ptr b 0, trees ctx, tree t, .int .i64 p] st (RunS sig b b' okT noX (foundC f sig ctx t p k) st) := by
  apply c_spec_l04Run_synth
  unfold b_spec_l04Run_synth
  generalize hv : foundC f sig ctx t p k = v
  unfold foundC at hv
  have hkids : Tr.sizes t.kids + 1 = t.size := by rw [Tr.size_kids t]; omega
  refine e_box_ref (tree_isJunk _) ?_
  intro b8 hb8
  obtain ⟨eb, m8, m8'⟩ := hb.off hb8 (.cells [.int .i64 0, .int .i64 0, .str [], .sl 0 true []])
  have ar : Around2 b b' st (upd st b8 (.cells [.int .i64 0, .int .i64 0, .str [], .sl 0 true []])) := (Around2.refl b b' st).put hb8 _
  have e8 := upd_same st b8 (.cells [.int .i64 0, .int .i64 0, .str [], .sl 0 true []])
  generalize upd st b8 (.cells [.int .i64 0, .int .i64 0, .str [], .sl 0 true []]) = s1 at eb ar e8
  try simp
  have out : ∀ (c q k : Int) (z0 z1 z2 z3 : PV) (b10 : Nat) (s : St), z0.cellOK = true → z1.cellOK = true → z2.cellOK = true → z3.cellOK = true → s b = some (srun sig b' c q) → s b' = some (cnt k) → s b8 = some (.cells [.int .i64 0, .int .i64 0, .str [], .sl 0 true []]) → s b10 = some (.cells [z0, z1, z2, z3]) → Around2 b b' st s → (.inl (c, q), k) = v →
      qb (q_load s true 4 (.ptr b10 0)) fun v22 => e_store s 4 (.ptr b8 0) v22 fun st_1 => qb (q_load st_1 true 4 (.ptr b8 0)) fun r => retR (RunS sig b b' okT noX v st) (.tup [r, .bool false]) st_1 := by
    intro c q k z0 z1 z2 z3 b10 s g0 g1 g2 g3 hsb hsb' h8 h10 har hq
    try simp [q_load_p h10]
    rw [e_store_p _ _ _ _ _ _ _ h8]
    try simp [g0, g1, g2, g3, q_load_p (upd_same _ _ _)]
    refine RunS.no ⟨z0, z1, z2, z3, rfl, g0, g1, g2, g3⟩ hq.symm (har.own hb8 _) ?_ ?_
    · rw [upd_ne _ _ m8.symm]; exact hsb
    · rw [upd_ne _ _ m8'.symm]; exact hsb'
  refine callK_runS (h_spec_l04Run_head b b' sig hs ctx hctx hlen t ht hk4 p k s1 eb) (fun a k2 w hr hw => ?_) (fun c p2 k2 w hr hw => ?_)
  · cases hw
    match hh : headC sig ctx t with
    | .inl c => rw [hh] at hr; cases hr
    | .inr a' =>
      rw [hh] at hr hv
      obtain ⟨rfl, rfl⟩ : a' = a ∧ k = k2 := by simpa [headRes] using hr
      simp only at hv
      have haf := headC_ok hs hctx ht hh
      have fb : SR sig b b' k (upd (upd s1 b' (cnt k)) b (srun sig b' 0 0)) := eb.next
      have f8 : (upd (upd s1 b' (cnt k)) b (srun sig b' 0 0)) b8 = some (.cells [.int .i64 0, .int .i64 0, .str [], .sl 0 true []]) := by rw [SR.far m8 m8']; exact e8
      have ar2 : Around2 b b' st (upd (upd s1 b' (cnt k)) b (srun sig b' 0 0)) := (ar.draw' _).draw _
      generalize upd (upd s1 b' (cnt k)) b (srun sig b' 0 0) = s2 at fb f8 ar2
      try simp
      intro b10 hb10
      have h10n : st b10 = none := by
        have := fb.off hb10 (cnt 0)
        exact ar2.isNone this.2.1 this.2.2 hb10
      have q8 : b8 ≠ b10 := fun e => by rw [← e, f8] at hb10; cases hb10
      obtain ⟨i1, i2, i3⟩ := fb.off hb10 (.cells (tree a').cells)
      try simp
      have g8 : (upd s2 b10 (.cells (tree a').cells)) b8 = some (.cells [.int .i64 0, .int .i64 0, .str [], .sl 0 true []]) := by rw [upd_ne _ _ q8]; exact f8
      have g10 := upd_same s2 b10 (.cells (tree a').cells)
      have ar3 : Around2 b b' st (upd s2 b10 (.cells (tree a').cells)) := ar2.own h10n _
      generalize upd s2 b10 (.cells (tree a').cells) = s3 at i1 g8 g10 ar3
      try simp [q_load_p g10]
      refine callK_runS (h_spec_l04Run_spine b b' sig ctx f t.kids hf (fun x hx => Tr.kids_lams ht hx) (by omega) a' haf.fk p k hp (by omega) h0 h1 s3 i1) (fun r k3 w hr3 hw => ?_) (fun c p2 k3 w hr3 hw => ?_)
      · cases hw
        rw [hr3] at hv
        simp only at hv
        have gb : SR sig b b' k3 (upd (upd s3 b' (cnt k3)) b (srun sig b' 0 0)) := i1.next
        have j8 : (upd (upd s3 b' (cnt k3)) b (srun sig b' 0 0)) b8 = some (.cells [.int .i64 0, .int .i64 0, .str [], .sl 0 true []]) := by rw [SR.far m8 m8']; exact g8
        have j10 : (upd (upd s3 b' (cnt k3)) b (srun sig b' 0 0)) b10 = some (.cells (tree a').cells) := by rw [SR.far i2 i3]; exact g10
        have ar4 : Around2 b b' st (upd (upd s3 b' (cnt k3)) b (srun sig b' 0 0)) := (ar3.draw' _).draw _
        generalize upd (upd s3 b' (cnt k3)) b (srun sig b' 0 0) = s4 at gb j8 j10 ar4
        try simp
        rw [e_store_p _ _ _ _ _ _ _ j10]
        try simp
        have l8 : (upd s4 b10 (.cells (tree r).cells)) b8 = some (.cells [.int .i64 0, .int .i64 0, .str [], .sl 0 true []]) := by rw [upd_ne _ _ q8]; exact j8
        have l10 := upd_same s4 b10 (.cells (tree r).cells)
        have lb := gb.store i2 i3 (.cells (tree r).cells)
        have ar5 : Around2 b b' st (upd s4 b10 (.cells (tree r).cells)) := ar4.own h10n _
        generalize upd s4 b10 (.cells (tree r).cells) = s5 at l8 l10 lb ar5
        refine hJ_of fun J hJ => ?_
        try simp [q_load_p l10]
        refine hJ _ _ ?_
        try simp
        refine br_dec (fun h3 => ?_) (fun h3 => ?_)
        · rw [if_pos h3] at hv
          try simp [q_load_p l10]
          rw [e_store_p _ _ _ _ _ _ _ l8]
          try simp [q_load_p (upd_same _ _ _)]
          exact RunS.ok rfl hv.symm (ar5.own hb8 _) (lb.store m8 m8' _).run (lb.store m8 m8' _).cn
        · rw [if_neg h3] at hv
          try simp [q_load_p l10]
          refine callK_fail (h_spec_l04Run_fail b b' sig 8 p s5 lb.run) ?_
          have o10 : (upd s5 b (srun sig b' 8 p)) b10 = some (.cells (tree r).cells) := by rw [upd_ne _ _ i2]; exact l10
          have o8 : (upd s5 b (srun sig b' 8 p)) b8 = some (.cells [.int .i64 0, .int .i64 0, .str [], .sl 0 true []]) := by rw [upd_ne _ _ m8]; exact l8
          try simp [q_load_p o10]
          rw [e_store_p _ _ _ _ _ _ _ o8]
          try simp [q_load_p (upd_same _ _ _)]
          refine RunS.no ?_ hv.symm ((ar5.draw _).own hb8 _) ?_ ?_
          · rw [tree_eq]
            exact ⟨_, _, _, _, rfl, rfl, rfl, rfl, rfl⟩
          · rw [upd_ne _ _ m8.symm]; exact upd_same _ _ _
          · rw [upd_ne _ _ m8'.symm]; exact lb.failed.2
      · obtain ⟨z0, z1, z2, z3, rfl, o0, o1, o2, o3⟩ := hw
        rw [hr3] at hv
        simp only at hv
        have d := SR.done (k2 := k3) (c := c) (p := p2) i1
        have j8 : (upd (upd s3 b' (cnt k3)) b (srun sig b' c p2)) b8 = some (.cells [.int .i64 0, .int .i64 0, .str [], .sl 0 true []]) := by rw [SR.far m8 m8']; exact g8
        have j10 : (upd (upd s3 b' (cnt k3)) b (srun sig b' c p2)) b10 = some (.cells (tree a').cells) := by rw [SR.far i2 i3]; exact g10
        have ar4 : Around2 b b' st (upd (upd s3 b' (cnt k3)) b (srun sig b' c p2)) := (ar3.draw' _).draw _
        generalize upd (upd s3 b' (cnt k3)) b (srun sig b' c p2) = s4 at d j8 j10 ar4
        try simp
        rw [e_store_p _ _ _ _ _ _ _ j10]
        try simp [o0, o1, o2, o3]
        refine hJ_of fun J hJ => ?_
        refine hJ _ _ ?_
        try simp
        refine out c p2 k3 z0 z1 z2 z3 b10 _ o0 o1 o2 o3 ?_ ?_ ?_ (upd_same _ _ _) (ar4.own h10n _) hv
        · rw [upd_ne _ _ i2.symm]; exact d.1
        · rw [upd_ne _ _ i3.symm]; exact d.2
        · rw [upd_ne _ _ q8]; exact j8
  · obtain ⟨z0, z1, z2, z3, rfl, o0, o1, o2, o3⟩ := hw
    match hh : headC sig ctx t with
    | .inr a' => rw [hh] at hr; cases hr
    | .inl c' =>
      rw [hh] at hr hv
      cases hr
      simp only at hv
      have d := SR.done (k2 := k) (c := c) (p := p) eb
      have j8 : (upd (upd s1 b' (cnt k)) b (srun sig b' c p)) b8 = some (.cells [.int .i64 0, .int .i64 0, .str [], .sl 0 true []]) := by rw [SR.far m8 m8']; exact e8
      have ar4 : Around2 b b' st (upd (upd s1 b' (cnt k)) b (srun sig b' c p)) := (ar.draw' _).draw _
      generalize upd (upd s1 b' (cnt k)) b (srun sig b' c p) = s4 at d j8 ar4
      try simp
      intro b10 hb10
      have q8 : b8 ≠ b10 := fun e => by rw [← e, j8] at hb10; cases hb10
      have qb1 : b ≠ b10 := fun e => by rw [← e, d.1] at hb10; cases hb10
      have qb2 : b' ≠ b10 := fun e => by rw [← e, d.2] at hb10; cases hb10
      try simp [o0, o1, o2, o3]
      refine out c p k z0 z1 z2 z3 b10 _ o0 o1 o2 o3 ?_ ?_ ?_ (upd_same _ _ _) (ar4.put hb10 _) hv
      · rw [upd_ne _ _ qb1]; exact d.1
      · rw [upd_ne _ _ qb2]; exact d.2
      · rw [upd_ne _ _ q8]; exact j8
theorem h_spec_l04Run_term (b b' : Nat) (sig : List Dc) (hs : SigR sig) : ∀ (m : Nat) (ctx : List Tr) (t a : Tr) (p k : Int), ctx.length + m ≤ 1000000 → (∀ a ∈ ctx, FF a) → t.isTerm false = true → t.size ≤ 900000 → t.size ≤ m → FF a → 0 ≤ p → p + t.size ≤ 1000000000 → 0 ≤ k → k ≤ 20000 → ∀ st : St, SR sig b b' k st →
    HCalls prog n_spec_l04Run_term [.ptr b 0, trees ctx, tree t, tree a, .int .i64 p] st (RunS sig b b' okB noB (termC sig m ctx t a p k) st)
  | 0, ctx, t, a, p, k, _, _, _, _, hsz, _, _, _, _, _, st, _ => by have := t.size_pos; omega
  | m + 1, ctx, t, a, p, k, hlen, hctx, ht, hts, hsz, ha, hp, hps, h0, h1, st, hb => by
    apply c_spec_l04Run_term
    unfold b_spec_l04Run_term
    generalize hv : termC sig (m + 1) ctx t a p k = v
    rw [termC] at hv
    refine e_box_ref (tree_isJunk _) ?_
    refine e_box_ref (tree_isJunk _) ?_
    try simp
    refine br_of (fun hd => ?_) (fun hd => ?_)
    · have e9 : (.inl (9, p), k) = v := by rw [← hv]; by_cases h4 : t.kind = 4 <;> by_cases h2 : a.kind = 2 <;> simp_all
      refine callK_fail (h_spec_l04Run_fail b b' sig 9 p st hb.run) ?_
      exact RunS.no rfl e9.symm ((Around2.refl b b' st).draw _) hb.failed.1 hb.failed.2
    · refine br_dec (fun h4 => ?_) (fun h4 => ?_)
      · have h2 : a.kind = 2 := by simpa [h4] using hd
        rw [if_pos h4, if_pos h2] at hv
        obtain ⟨x, hx, hxt⟩ := lam_kid ht h4
        obtain ⟨y, z, hyz, hy, hz, hyzs⟩ := ff_pi ha h2
        rw [kid0 hx, kid0 hyz, kid1 hyz] at hv
        have hxs : x.size < t.size := Tr.kid_size (by rw [hx]; simp)
        have x0 : t.kids[0]? = some x := by rw [hx]; rfl
        have y0 : a.kids[0]? = some y := by rw [hyz]; rfl
        have y1 : a.kids[1]? = some z := by rw [hyz]; rfl
        try simp [ia_tree0 _ x0, ia_tree0 _ y0, ia_tree1 _ y1]
        refine callK_just (h_spec_l04More ctx y (by omega) _) ?_
        try simp
        rw [wrap64 (by omega) (by omega)]
        refine callK_runS (by simpa using h_spec_l04Run_term b b' sig hs m (ctx ++ [y]) x z (p + 1) k (by simp; omega) (ctx_snocS hctx hy) hxt (by omega) (by omega) hz (by omega) (by omega) h0 h1 st hb) (fun u k2 w hr hw => ?_) (fun c p2 k2 w hr hw => ?_)
        · cases hw
          exact RunS.ok rfl (by rw [← hv, hr]) (((Around2.refl b b' st).draw' _).draw _) (SR.next hb).run (SR.next hb).cn
        · cases hw
          exact RunS.no rfl (by rw [← hv, hr]) (((Around2.refl b b' st).draw' _).draw _) (SR.done hb).1 (SR.done hb).2
      · have h2 : a.kind ≠ 2 := by simpa [h4] using hd
        rw [if_neg h4, if_neg h2] at hv
        have hfT : TermOKs b b' sig ctx (termC sig m ctx) t.kids := fun x hx c p k s hc q0 q1 q2 q3 q4 => ⟨h_spec_l04Run_term b b' sig hs m ctx x c p k (by omega) hctx (Tr.kids_lams ht hx) (by have := Tr.kid_size hx; omega) (by have := Tr.kid_size hx; omega) hc q0 q1 q2 q3 s q4, termC_fine hs m ctx x c p k hctx (Tr.kids_lams ht hx) (by have := Tr.kid_size hx; omega) hc q2 q3⟩
        refine callK_runS (h_spec_l04Run_synth b b' sig hs ctx hctx (by omega) (termC sig m ctx) t hfT ht h4 hts p k hp hps h0 h1 st hb) (fun r k2 w hr hw => ?_) (fun c p2 k2 w hr hw => ?_)
        · cases hw
          rw [hr] at hv
          simp only at hv
          have fb : SR sig b b' k2 (upd (upd st b' (cnt k2)) b (srun sig b' 0 0)) := hb.next
          have ar : Around2 b b' st (upd (upd st b' (cnt k2)) b (srun sig b' 0 0)) := ((Around2.refl b b' st).draw' _).draw _
          generalize upd (upd st b' (cnt k2)) b (srun sig b' 0 0) = s2 at fb ar
          try simp
          intro b11 hb11
          obtain ⟨i1, i2, i3⟩ := fb.off hb11 (.cells (tree r).cells)
          try simp
          try simp [q_load_p (upd_same _ _ _)]
          refine callK_just (h_spec_l01Same _ _ _) ?_
          try simp
          refine br_dec (fun k => ?_) (fun k => ?_)
          · rw [if_pos k.symm] at hv
            exact RunS.ok rfl hv.symm (ar.put hb11 _) i1.run i1.cn
          · rw [if_neg (fun e => k e.symm)] at hv
            refine callK_fail (h_spec_l04Run_fail b b' sig 10 p _ i1.run) ?_
            exact RunS.no rfl hv.symm ((ar.put hb11 _).draw _) i1.failed.1 i1.failed.2
        · obtain ⟨z0, z1, z2, z3, rfl, o0, o1, o2, o3⟩ := hw
          rw [hr] at hv
          simp only at hv
          have d := SR.done (k2 := k2) (c := c) (p := p2) hb
          have ar : Around2 b b' st (upd (upd st b' (cnt k2)) b (srun sig b' c p2)) := ((Around2.refl b b' st).draw' _).draw _
          generalize upd (upd st b' (cnt k2)) b (srun sig b' c p2) = s2 at d ar
          try simp
          intro b11 hb11
          have n1 : b ≠ b11 := fun e => by rw [← e, d.1] at hb11; cases hb11
          have n2 : b' ≠ b11 := fun e => by rw [← e, d.2] at hb11; cases hb11
          try simp [o0, o1, o2, o3]
          exact RunS.no rfl hv.symm (ar.put hb11 _) (by rw [upd_ne _ _ n1]; exact d.1) (by rw [upd_ne _ _ n2]; exact d.2)
theorem h_spec_l04Run_family (b b' : Nat) (sig : List Dc) (hs : SigR sig) : ∀ (m : Nat) (ctx : List Tr) (a : Tr) (p k : Int), ctx.length + m ≤ 1000000 → (∀ a ∈ ctx, FF a) → FF a → a.size ≤ m → 0 ≤ p → p + a.size ≤ 1000000000 → 0 ≤ k → k ≤ 20000 → ∀ st : St, SR sig b b' k st →
    HCalls prog n_spec_l04Run_family [.ptr b 0, trees ctx, tree a, .int .i64 p] st (RunS sig b b' okB noB (famC sig m ctx a p k) st)
  | 0, ctx, a, p, k, _, _, _, hsz, _, _, _, _, st, _ => by have := a.size_pos; omega
  | m + 1, ctx, a, p, k, hlen, hctx, ha, hsz, hp, hps, h0, h1, st, hb => by
    apply c_spec_l04Run_family
    unfold b_spec_l04Run_family
    generalize hv : famC sig (m + 1) ctx a p k = v
    rw [famC] at hv
    refine e_box_ref (tree_isJunk _) ?_
    try simp
    refine br_dec (fun h2 => ?_) (fun h2 => ?_)
    · rw [if_pos h2] at hv
      obtain ⟨x, y, hxy, hx, hy, hxys⟩ := ff_pi ha h2
      rw [kid0 hxy, kid1 hxy] at hv
      have hxs : a.size = 1 + (x.size + y.size) := by rw [Tr.size_kids, hxy]; simp [Tr.sizes]
      have x0 : a.kids[0]? = some x := by rw [hxy]; rfl
      have y1 : a.kids[1]? = some y := by rw [hxy]; rfl
      try simp [ia_tree0 _ x0, ia_tree1 _ y1]
      rw [wrap64 (by omega) (by omega)]
      have hfine := famC_fine hs m ctx x (p + 1) k hctx hx.fk h0 h1
      refine callK_runS (h_spec_l04Run_family b b' sig hs m ctx x (p + 1) k (by omega) hctx hx (by omega) (by omega) (by omega) h0 h1 st hb) (fun u k2 w hr hw => ?_) (fun c p2 k2 w hr hw => ?_)
      · cases hw
        rw [hr] at hv hfine
        simp only at hv
        have g1 := hfine.1
        have g2 := hfine.2.2.2 u rfl
        simp only at g1 g2
        have fb : SR sig b b' k2 (upd (upd st b' (cnt k2)) b (srun sig b' 0 0)) := hb.next
        have ar : Around2 b b' st (upd (upd st b' (cnt k2)) b (srun sig b' 0 0)) := ((Around2.refl b b' st).draw' _).draw _
        generalize upd (upd st b' (cnt k2)) b (srun sig b' 0 0) = s2 at fb ar
        try simp
        refine callK_just (h_spec_l04More ctx x (by omega) _) ?_
        try simp
        refine callK_just (h_spec_l01Size x (by have := hx.2; omega) _) ?_
        try simp
        rw [wrap64 (by omega) (by omega)]
        refine callK_runS (by simpa using h_spec_l04Run_family b b' sig hs m (ctx ++ [x]) y (p + 1 + x.size) k2 (by simp; omega) (ctx_snocS hctx hx) hy (by omega) (by omega) (by omega) (by omega) g2 s2 fb) (fun u k3 w hr3 hw => ?_) (fun c p2 k3 w hr3 hw => ?_)
        · cases hw
          exact RunS.ok rfl (by rw [← hv, hr3]) ((ar.draw' _).draw _) (SR.next fb).run (SR.next fb).cn
        · cases hw
          exact RunS.no rfl (by rw [← hv, hr3]) ((ar.draw' _).draw _) (SR.done fb).1 (SR.done fb).2
      · cases hw
        rw [hr] at hv
        exact RunS.no rfl hv.symm (((Around2.refl b b' st).draw' _).draw _) (SR.done hb).1 (SR.done hb).2
    · rw [if_neg h2] at hv
      have h3 : a.kind = 3 := by rcases ff_kinds ha with h | h; exact absurd h h2; exact h
      rw [if_pos h3] at hv
      have hrun : st b = some (.cells [.sl 6 false (sig.map decl), .ptr b' 0, .int .i64 0, .int .i64 0]) := hb.run
      try simp [q_load_p hrun]
      refine callK_just (by simpa using h_spec_l04Find sig a.name hs.len _) ?_
      have bad : (.inl (5, p), k) = v → callK prog n_spec_l04Run_fail [.ptr b 0, .int .i64 5, .int .i64 p] st (fun v68 st_1 => retR (RunS sig b b' okB noB v st) v68 st_1) (panR (RunS sig b b' okB noB v st)) := fun hq => by
        refine callK_fail (h_spec_l04Run_fail b b' sig 5 p st hb.run) ?_
        exact RunS.no rfl hq.symm ((Around2.refl b b' st).draw _) hb.failed.1 hb.failed.2
      rcases fstOf_cases (named a.name) sig with ⟨e1, e2⟩ | ⟨j, hj, e1, e2, e3⟩
      · rw [e1]
        unfold declaredT at hv
        rw [e2] at hv
        try simp
        exact bad hv
      · rw [e1]
        cases hf : sig[j].fam with
        | false =>
          unfold declaredT at hv
          rw [e3] at hv
          simp only [hf] at hv
          try simp
          refine br_dec (fun h => by omega) (fun h => ?_)
          try simp [q_load_p hrun, ia_decls hj, hf]
          exact bad (by simpa using hv)
        | true =>
          have hd : declaredT sig a.name true = some sig[j].type := by unfold declaredT; rw [e3]; simp only [hf, if_true]
          rw [hd] at hv
          simp only at hv
          have hkt := declaredT_ok hs hd
          have hktk : FK sig[j].type := ⟨⟨true, hkt.1⟩, hkt.2⟩
          have hall := fam_args ha.1 h3
          have hkids : Tr.sizes a.kids + 1 = a.size := by rw [Tr.size_kids a]; omega
          have hasz := ha.2
          have hfT : TermOKs b b' sig ctx (termC sig m ctx) a.kids := fun x hx c p k s hc q0 q1 q2 q3 q4 => ⟨h_spec_l04Run_term b b' sig hs m ctx x c p k (by omega) hctx (hall x hx) (by have := Tr.kid_size hx; omega) (by have := Tr.kid_size hx; omega) hc q0 q1 q2 q3 s q4, termC_fine hs m ctx x c p k hctx (hall x hx) (by have := Tr.kid_size hx; omega) hc q2 q3⟩
          have hsp := fun s (hss : SR sig b b' k s) => h_spec_l04Run_spine b b' sig ctx (termC sig m ctx) a.kids hfT hall (by omega) sig[j].type hktk p k hp (by omega) h0 h1 s hss
          try simp
          refine br_dec (fun h => by omega) (fun h => ?_)
          try simp [q_load_p hrun, ia_decls hj, hf]
          refine hJ_of fun J hJ => ?_
          have good : ∀ (r : Tr) (k3 : Int) (b10 : Nat) (s : St), argsC (termC sig m ctx) a.kids sig[j].type (p + 1) k = (.inr r, k3) → s b10 = some (.cells (tree r).cells) → SR sig b b' k3 s → Around2 b b' st s → J [.ptr b10 0, .bool true] s := by
            intro r k3 b10 s hr h10 hss har
            rw [hr] at hv
            simp only at hv
            refine hJ _ _ ?_
            try simp [q_load_p h10]
            refine br_dec (fun h1 => ?_) (fun h1 => ?_)
            · rw [if_pos h1] at hv
              exact RunS.ok rfl hv.symm har hss.run hss.cn
            · rw [if_neg h1] at hv
              refine callK_fail (h_spec_l04Run_fail b b' sig 8 p s hss.run) ?_
              exact RunS.no rfl hv.symm (har.draw _) hss.failed.1 hss.failed.2
          have nogood : ∀ (c q k3 : Int) (b10 : Nat) (s : St), argsC (termC sig m ctx) a.kids sig[j].type (p + 1) k = (.inl (c, q), k3) → s b = some (srun sig b' c q) → s b' = some (cnt k3) → Around2 b b' st s → J [.ptr b10 0, .bool false] s := by
            intro c q k3 b10 s hr h1 h2 har
            rw [hr] at hv
            simp only at hv
            refine hJ _ _ ?_
            try simp
            exact RunS.no rfl hv.symm har h1 h2
          refine ⟨?_, ?_⟩
          · refine callK_runS (hsp st hb) (fun r k3 w hr hw => ?_) (fun c p2 k3 w hr hw => ?_)
            · cases hw
              have fb : SR sig b b' k3 (upd (upd st b' (cnt k3)) b (srun sig b' 0 0)) := hb.next
              have ar : Around2 b b' st (upd (upd st b' (cnt k3)) b (srun sig b' 0 0)) := ((Around2.refl b b' st).draw' _).draw _
              generalize upd (upd st b' (cnt k3)) b (srun sig b' 0 0) = s2 at fb ar
              try simp
              intro b10 hb10
              have hrun3 : ∀ o, (upd s2 b10 o) b = some (.cells [.sl 6 false (sig.map decl), .ptr b' 0, .int .i64 0, .int .i64 0]) := fun o => (fb.off hb10 o).1.run
              try simp [q_load_p (hrun3 _)]
              exact good r k3 b10 _ hr (upd_same _ _ _) (fb.off hb10 _).1 (ar.put hb10 _)
            · obtain ⟨z0, z1, z2, z3, rfl, o0, o1, o2, o3⟩ := hw
              have d := SR.done (k2 := k3) (c := c) (p := p2) hb
              have ar : Around2 b b' st (upd (upd st b' (cnt k3)) b (srun sig b' c p2)) := ((Around2.refl b b' st).draw' _).draw _
              generalize upd (upd st b' (cnt k3)) b (srun sig b' c p2) = s2 at d ar
              try simp
              intro b10 hb10
              have n1 : b ≠ b10 := fun e => by rw [← e, d.1] at hb10; cases hb10
              have n2 : b' ≠ b10 := fun e => by rw [← e, d.2] at hb10; cases hb10
              have hrun3 : ∀ o, (upd s2 b10 o) b = some (.cells [.sl 6 false (sig.map decl), .ptr b' 0, .int .i64 c, .int .i64 p2]) := fun o => by rw [upd_ne _ _ n1]; exact d.1
              try simp [q_load_p (hrun3 _), o0, o1, o2, o3]
              exact nogood c p2 k3 b10 _ hr (by rw [upd_ne _ _ n1]; exact d.1) (by rw [upd_ne _ _ n2]; exact d.2) (ar.put hb10 _)
          · intro b10 hb10
            obtain ⟨i1, i2, i3⟩ := hb.off hb10 (.cells [.int .i64 0, .int .i64 0, .str [], .sl 0 true []])
            have hrun3 : (upd st b10 (.cells [.int .i64 0, .int .i64 0, .str [], .sl 0 true []])) b = some (.cells [.sl 6 false (sig.map decl), .ptr b' 0, .int .i64 0, .int .i64 0]) := i1.run
            have g10 := upd_same st b10 (.cells [.int .i64 0, .int .i64 0, .str [], .sl 0 true []])
            have ar : Around2 b b' st (upd st b10 (.cells [.int .i64 0, .int .i64 0, .str [], .sl 0 true []])) := (Around2.refl b b' st).put hb10 _
            generalize upd st b10 (.cells [.int .i64 0, .int .i64 0, .str [], .sl 0 true []]) = s1 at i1 hrun3 g10 ar
            try simp [q_load_p hrun3]
            refine callK_runS (hsp s1 i1) (fun r k3 w hr hw => ?_) (fun c p2 k3 w hr hw => ?_)
            · cases hw
              have fb : SR sig b b' k3 (upd (upd s1 b' (cnt k3)) b (srun sig b' 0 0)) := i1.next
              have j10 : (upd (upd s1 b' (cnt k3)) b (srun sig b' 0 0)) b10 = some (.cells [.int .i64 0, .int .i64 0, .str [], .sl 0 true []]) := by rw [SR.far i2 i3]; exact g10
              have ar2 : Around2 b b' st (upd (upd s1 b' (cnt k3)) b (srun sig b' 0 0)) := (ar.draw' _).draw _
              generalize upd (upd s1 b' (cnt k3)) b (srun sig b' 0 0) = s2 at fb ar2 j10
              try simp
              rw [e_store_p _ _ _ _ _ _ _ j10]
              try simp
              exact good r k3 b10 _ hr (upd_same _ _ _) (fb.store i2 i3 _) (ar2.own hb10 _)
            · obtain ⟨z0, z1, z2, z3, rfl, o0, o1, o2, o3⟩ := hw
              have d := SR.done (k2 := k3) (c := c) (p := p2) i1
              have j10 : (upd (upd s1 b' (cnt k3)) b (srun sig b' c p2)) b10 = some (.cells [.int .i64 0, .int .i64 0, .str [], .sl 0 true []]) := by rw [SR.far i2 i3]; exact g10
              have ar2 : Around2 b b' st (upd (upd s1 b' (cnt k3)) b (srun sig b' c p2)) := (ar.draw' _).draw _
              generalize upd (upd s1 b' (cnt k3)) b (srun sig b' c p2) = s2 at d ar2 j10
              try simp
              rw [e_store_p _ _ _ _ _ _ _ j10]
              try simp [o0, o1, o2, o3]
              exact nogood c p2 k3 b10 _ hr (by rw [upd_ne _ _ i2.symm]; exact d.1) (by rw [upd_ne _ _ i3.symm]; exact d.2) (ar2.own hb10 _)
theorem h_spec_l04Run_kind (b b' : Nat) (sig : List Dc) (hs : SigR sig) : ∀ (m : Nat) (ctx : List Tr) (a : Tr) (p k : Int), ctx.length + m ≤ 1000000 → (∀ a ∈ ctx, FF a) → a.isFam true = true → a.size ≤ 150 → a.size ≤ m → 0 ≤ p → p + a.size ≤ 1000000000 → 0 ≤ k → k ≤ 20000 → ∀ st : St, SR sig b b' k st →
    HCalls prog n_spec_l04Run_kind [.ptr b 0, trees ctx, tree a, .int .i64 p] st (RunS sig b b' okB noB (famC sig m ctx a p k) st)
  | 0, ctx, a, p, k, _, _, _, _, hsz, _, _, _, _, st, _ => by have := a.size_pos; omega
  | m + 1, ctx, a, p, k, hlen, hctx, ha, has, hsz, hp, hps, h0, h1, st, hb => by
    apply c_spec_l04Run_kind
    unfold b_spec_l04Run_kind
    generalize hv : famC sig (m + 1) ctx a p k = v
    rw [famC] at hv
    refine e_box_ref (tree_isJunk _) ?_
    try simp
    refine br_dec (fun h1' => ?_) (fun h1' => ?_)
    · rw [if_neg (by omega), if_neg (by omega)] at hv
      exact RunS.ok rfl hv.symm (Around2.refl b b' st) hb.run hb.cn
    · have h2 : a.kind = 2 := by
        by_cases h2 : a.kind = 2
        · exact h2
        · by_cases h3 : a.kind = 3
          · rw [Tr.isFam_head h3] at ha; cases ha
          · rw [Tr.isFam_no h1' h3 h2] at ha; cases ha
      rw [if_pos h2] at hv
      have hfk : FK a := ⟨⟨true, ha⟩, has⟩
      obtain ⟨x, y, hxy, hx, hy, hxys⟩ := fk_pi hfk h2
      have hyk : y.isFam true = true := by
        rw [Tr.isFam_pi h2 hxy] at ha
        simp only [Bool.and_eq_true] at ha
        exact ha.2.2
      rw [kid0 hxy, kid1 hxy] at hv
      have hxs : a.size = 1 + (x.size + y.size) := by rw [Tr.size_kids, hxy]; simp [Tr.sizes]
      have x0 : a.kids[0]? = some x := by rw [hxy]; rfl
      have y1 : a.kids[1]? = some y := by rw [hxy]; rfl
      try simp [ia_tree0 _ x0, ia_tree1 _ y1]
      rw [wrap64 (by omega) (by omega)]
      have hfine := famC_fine hs m ctx x (p + 1) k hctx hx.fk h0 h1
      refine callK_runS (h_spec_l04Run_family b b' sig hs m ctx x (p + 1) k (by omega) hctx hx (by omega) (by omega) (by omega) h0 h1 st hb) (fun u k2 w hr hw => ?_) (fun c p2 k2 w hr hw => ?_)
      · cases hw
        rw [hr] at hv hfine
        simp only at hv
        have g1 := hfine.1
        have g2 := hfine.2.2.2 u rfl
        simp only at g1 g2
        have fb : SR sig b b' k2 (upd (upd st b' (cnt k2)) b (srun sig b' 0 0)) := hb.next
        have ar : Around2 b b' st (upd (upd st b' (cnt k2)) b (srun sig b' 0 0)) := ((Around2.refl b b' st).draw' _).draw _
        generalize upd (upd st b' (cnt k2)) b (srun sig b' 0 0) = s2 at fb ar
        try simp
        refine callK_just (h_spec_l04More ctx x (by omega) _) ?_
        try simp
        refine callK_just (h_spec_l01Size x (by have := hx.2; omega) _) ?_
        try simp
        rw [wrap64 (by omega) (by omega)]
        refine callK_runS (by simpa using h_spec_l04Run_kind b b' sig hs m (ctx ++ [x]) y (p + 1 + x.size) k2 (by simp; omega) (ctx_snocS hctx hx) hyk (by omega) (by omega) (by omega) (by omega) (by omega) g2 s2 fb) (fun u k3 w hr3 hw => ?_) (fun c p2 k3 w hr3 hw => ?_)
        · cases hw
          exact RunS.ok rfl (by rw [← hv, hr3]) ((ar.draw' _).draw _) (SR.next fb).run (SR.next fb).cn
        · cases hw
          exact RunS.no rfl (by rw [← hv, hr3]) ((ar.draw' _).draw _) (SR.done fb).1 (SR.done fb).2
      · cases hw
        rw [hr] at hv
        exact RunS.no rfl hv.symm (((Around2.refl b b' st).draw' _).draw _) (SR.done hb).1 (SR.done hb).2
end Go.H.Tryz
/- Contracts: the reference's SigOK, CtxOK and checks. -/
set_option linter.unusedVariables false
set_option linter.unusedSimpArgs false
namespace Go.H.Tryz
open Go Go.H

theorem callK_check {sig : List Dc} {st : St} {K Kp : PV → St → Prop} (hk : ∀ b b', st b = none → st b' = none → SR sig b b' 0 (upd (upd st b' (cnt 0)) b (srun sig b' 0 0)) → Around2 b b' st (upd (upd st b' (cnt 0)) b (srun sig b' 0 0)) → K (.ptr b 0) (upd (upd st b' (cnt 0)) b (srun sig b' 0 0))) : callK prog n_spec_l04Check [decls sig] st K Kp := by
  have hc : HCalls prog n_spec_l04Check [decls sig] st (fun q s => ∃ b b', q = .ret (.ptr b 0) ∧ st b = none ∧ st b' = none ∧ b ≠ b' ∧ s = upd (upd st b' (cnt 0)) b (srun sig b' 0 0)) := by
    apply c_spec_l04Check
    unfold b_spec_l04Check
    rw [show q_struct [PV.int IntKind.i64 0] [] = some (.agg [.int .i64 0]) from rfl]
    simp only [qb_some]
    refine e_box_own rfl fun b' hb' => ?_
    rw [show q_struct [PV.sl 0 true [], PV.nilp, PV.int IntKind.i64 0, PV.int IntKind.i64 0] [(0, 1, decls sig), (1, 1, PV.ptr b' 0)] = some (.agg [decls sig, .ptr b' 0, .int .i64 0, .int .i64 0]) from rfl]
    simp only [qb_some]
    refine e_box_own rfl fun b hb => ?_
    have hne : b ≠ b' := fun e => by rw [e, upd_same] at hb; cases hb
    rw [upd_ne _ _ hne] at hb
    exact retR_same ⟨b, b', rfl, hb, hb', hne, rfl⟩
  refine callK_of hc (fun q s h => ?_) (fun q s h => ?_)
  · obtain ⟨b, b', h, h1, h2, h3, rfl⟩ := h
    cases h
    exact hk b b' h1 h2 ⟨upd_same _ _ _, by rw [upd_ne _ _ h3.symm]; exact upd_same _ _ _⟩ ((((Around2.refl b b' st).draw' _).draw _))
  · obtain ⟨b, b', h, _⟩ := h
    cases h
theorem around_fresh {b b' : Nat} {st s : St} (h : Around2 b b' st s) (h1 : st b = none) (h2 : st b' = none) : Sub st s := fun c o hc =>
  h c o (fun e => by rw [e, h1] at hc; cases hc) (fun e => by rw [e, h2] at hc; cases hc) hc
theorem around_trans {b b' : Nat} {st s s' : St} (h : Around2 b b' st s) (h' : Around2 b b' s s') : Around2 b b' st s' := fun c o h1 h2 hc => h' c o h1 h2 (h c o h1 h2 hc)
/-- The verdict of a check that is asked from outside. -/
theorem callK_asked {P : Program} {g : FuncId} {us : List PV} {st : St} {K Kp : PV → St → Prop} {sig : List Dc} {b b' : Nat} {r : (Fz ⊕ Unit) × Int} {s : Int} (hf : CntOK r s) (hc : HCalls P g us st (RunS sig b b' okB noB r st)) (hb : SR sig b b' s st)
    (hk : ∀ s', s' b = some (srun sig b' (faultOf r).1 (faultOf r).2) → Around2 b b' st s' → K (.bool (decide ((faultOf r).1 = 0))) s') : callK P g us st K Kp := by
  refine callK_runS hc (fun u k w hr hw => ?_) (fun c p k w hr hw => ?_)
  · cases hw
    rw [hr] at hk
    exact hk _ (SR.next hb).run (((Around2.refl b b' st).draw' _).draw _)
  · cases hw
    have hc0 : c ≠ 0 := by rw [hr] at hf; exact hf.2.2.1 _ rfl
    have e : faultOf r = (c, p) := by rw [hr]; rfl
    have := hk (upd (upd st b' (cnt k)) b (srun sig b' c p)) (by rw [e]; exact (SR.done hb).1) (((Around2.refl b b' st).draw' _).draw _)
    rw [e, decide_eq_false hc0] at this
    exact this
def codesS (f : Fz) : PV := .tup [.int .i64 f.1, .int .i64 f.2]
theorem h_spec_l04Decl (sig : List Dc) (hs : SigR sig) (d : Dc) (st : St) : HCalls prog n_spec_l04Decl [decls sig, decl d] st (Just (codesS (declT sig d)) st) := by
  apply c_spec_l04Decl
  unfold b_spec_l04Decl
  generalize hv : declT sig d = v
  unfold declT at hv
  refine e_box_ref (decl_isJunk _) ?_
  have bad : ∀ (c : Int) (w : Fz), v = (c, 0) → retR (Just (codesS v) st) (.tup [.int .i64 c, .int .i64 0]) st := fun c w h => by rw [h]; exact Just.ret (Sub.refl _)
  have has : ∀ n, hasT sig n = decide (0 ≤ fstOf (named n) sig) := fun n => by
    unfold hasT
    rw [Bool.eq_iff_iff, decide_eq_true_eq]
    exact (fstOf_any (named n) sig).symm
  try simp
  refine callK_just (h_spec_NameOK _ _) ?_
  try simp
  refine br_of (fun g1 => ?_) (fun g1 => bad 1 v (by rw [← hv, if_pos (by unfold declForm; rw [g1]; rfl)]))
  have fine : declForm d = true → CntOK (famC sig 900000 [] d.type 0 0) 0 := fun h => famC_fine hs 900000 [] d.type 0 0 (by simp) ⟨⟨_, (form_fk h).1⟩, (form_fk h).2⟩ (by omega) (by omega)
  have gets : ∀ (b b' : Nat) (s : St), Sub st s → s b = some (srun sig b' (declFaultT sig d).1 (declFaultT sig d).2) → v = declFaultT sig d →
      qb (q_load s false 1 (.ptr b 2)) fun v52 => qb (q_load s false 1 (.ptr b 3)) fun v56 => retR (Just (codesS v) st) (.tup [v52, v56]) s := by
    intro b b' s hsub hb hq
    have hb0 : s b = some (.cells [.sl 6 false (sig.map decl), .ptr b' 0, .int .i64 (declFaultT sig d).1, .int .i64 (declFaultT sig d).2]) := hb
    try simp [q_load_p hb0]
    rw [hq]
    exact Just.ret hsub
  cases hf : d.fam with
  | true =>
    try simp
    refine callK_just (h_spec_KindOK _ _) ?_
    try simp
    refine br_of (fun g2 => ?_) (fun g2 => bad 1 v (by rw [← hv, if_pos (by unfold declForm; rw [hf, g1, g2]; rfl)]))
    have hform : declForm d = true := by unfold declForm; rw [hf, g1, g2]; rfl
    rw [if_neg (by rw [hform]; simp), has] at hv
    refine callK_just (by simpa using h_spec_l04Find sig d.name hs.len _) ?_
    try simp
    refine br_dec (fun g3 => bad 6 v (by rw [← hv, if_pos (by simpa using g3)])) (fun g3 => ?_)
    rw [if_neg (by simpa using g3)] at hv
    refine callK_check fun b b' hb hb' hsr har => ?_
    try simp
    refine hJ_of fun J hJ => ?_
    refine callK_conv (us' := [.ptr b 0, trees [], tree d.type, .int .i64 0]) (st' := upd (upd st b' (cnt 0)) b (srun sig b' 0 0)) (Conv.cons (Conv.refl _ _) (Conv.cons (conv_nil4 _ _ _) (Conv.refl _ _))) ?_
    have hk := form_fk hform
    rw [hf] at hk
    refine callK_asked (fine hform) (h_spec_l04Run_kind b b' sig hs 900000 [] d.type 0 0 (by simp) (by simp) hk.1 hk.2 (by have := hk.2; omega) (by omega) (by have := hk.2; omega) (by omega) (by omega) _ hsr) hsr (fun s hs1 hs2 => ?_)
    refine hJ _ _ ?_
    try simp
    exact gets b b' s (around_fresh (around_trans har hs2) hb hb') hs1 hv.symm
  | false =>
    try simp
    refine callK_just (h_spec_FamilyOK _ _) ?_
    try simp
    refine br_of (fun g2 => ?_) (fun g2 => bad 1 v (by rw [← hv, if_pos (by unfold declForm; rw [hf, g1, g2]; rfl)]))
    have hform : declForm d = true := by unfold declForm; rw [hf, g1, g2]; rfl
    rw [if_neg (by rw [hform]; simp), has] at hv
    refine callK_just (by simpa using h_spec_l04Find sig d.name hs.len _) ?_
    try simp
    refine br_dec (fun g3 => bad 6 v (by rw [← hv, if_pos (by simpa using g3)])) (fun g3 => ?_)
    rw [if_neg (by simpa using g3)] at hv
    refine callK_check fun b b' hb hb' hsr har => ?_
    try simp
    refine hJ_of fun J hJ => ?_
    refine callK_conv (us' := [.ptr b 0, trees [], tree d.type, .int .i64 0]) (st' := upd (upd st b' (cnt 0)) b (srun sig b' 0 0)) (Conv.cons (Conv.refl _ _) (Conv.cons (conv_nil4 _ _ _) (Conv.refl _ _))) ?_
    have hk := form_fk hform
    rw [hf] at hk
    refine callK_asked (fine hform) (h_spec_l04Run_family b b' sig hs 900000 [] d.type 0 0 (by simp) (by simp) hk (by have := hk.2; omega) (by omega) (by have := hk.2; omega) (by omega) (by omega) _ hsr) hsr (fun s hs1 hs2 => ?_)
    refine hJ _ _ ?_
    try simp
    exact gets b b' s (around_fresh (around_trans har hs2) hb hb') hs1 hv.symm
theorem h_spec_SigOK (sig : List Dc) (st : St) : HCalls prog n_spec_SigOK [decls sig] st (Just (.bool (sigOKT sig)) st) := by
  apply c_spec_SigOK
  unfold b_spec_SigOK
  generalize hv : sigOKT sig = v
  unfold sigOKT at hv
  try simp
  refine br_dec (fun h => Just.bool (by rw [← hv, decide_eq_false (by omega)]; rfl)) (fun h => ?_)
  rw [decide_eq_true (by omega), Bool.true_and] at hv
  refine loop_idx (β := Unit) sig (fun _ i => [.int .i64 (i : Int)]) (fun _ => st) (fun _ i rest => sigGo sig i rest = v ∧ SigR (sig.take i)) ?_ ?_ () ⟨hv, SigR.nil⟩
  · rintro i d rest _ hi hx ⟨hq, hr⟩ kk
    rw [sigGo] at hq
    try simp [hi, ia_decl _ hx]
    rw [sliceE_take _ (by simp; omega), ← List.map_take]
    try simp
    refine callK_just (by simpa using h_spec_l04Decl (sig.take i) hr d _) ?_
    try simp [codesS]
    refine br_dec (fun g3 => ?_) (fun g3 => Just.bool (by rw [← hq, decide_eq_false g3]; rfl))
    rw [decide_eq_true g3, Bool.true_and] at hq
    rw [W_idx hi (by unfold maxLen; omega)]
    refine kk () ⟨hq, ?_⟩
    rw [take_snoc hx]
    obtain ⟨k1, k2, _⟩ := declT_ok g3
    exact hr.snoc (by simp; omega) k1 k2
  · rintro _ ⟨hq, hr⟩
    try simp
    exact Just.bool hq
/-- The codes are read off. -/
theorem gets {sig : List Dc} {b b' : Nat} {f : Fz} {st s : St} {v : PV} (hsub : Sub st s) (hb : s b = some (srun sig b' f.1 f.2)) (hq : v = codesS f) :
    qb (q_load s false 1 (.ptr b 2)) fun v52 => qb (q_load s false 1 (.ptr b 3)) fun v56 => retR (Just v st) (.tup [v52, v56]) s := by
  have hb0 : s b = some (.cells [.sl 6 false (sig.map decl), .ptr b' 0, .int .i64 f.1, .int .i64 f.2]) := hb
  try simp [q_load_p hb0]
  rw [hq]
  exact Just.ret hsub
end Go.H.Tryz
