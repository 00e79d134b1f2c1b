/- Part of a proof that the program answers as the reference does: EFC40, EFC41, EFC42, EFC43, EFC48, EFC51, EFC52, EFC55, EFC56, EFC57, EFC53, EFC58. -/
import Derived.Test.YtlhiejikjncgpaaGreatDoorHX
import Derived.Test.YtlhiejikjncgpaaGreatDoorHY
import Derived.Test.YtlhiejikjncgpaaGreatDoorHO
import Derived.Test.YtlhiejikjncgpaaGreatDoorHQ
import Derived.Test.YtlhiejikjncgpaaGreatDoorHZ
/- Contracts: what the laws write over values that are owned, and read again. -/
set_option linter.unusedVariables false
set_option linter.unusedSimpArgs false
namespace Go.H.Tryz
open Go Go.H

@[simp] theorem set6_2s (a b c d e f x : PV) : setRange [a, b, c, d, e, f] 2 [x] = [a, b, x, d, e, f] := rfl
@[simp] theorem set6_3s (a b c d e f x : PV) : setRange [a, b, c, d, e, f] 3 [x] = [a, b, c, x, e, f] := rfl
@[simp] theorem set6_4s (a b c d e f x : PV) : setRange [a, b, c, d, e, f] 4 [x] = [a, b, c, d, x, f] := rfl
end Go.H.Tryz
/- Contracts: marks that are read again; copies that own all that they reach. -/
set_option linter.unusedVariables false
set_option linter.unusedSimpArgs false
namespace Go.H.Tryz
open Go Go.H

end Go.H.Tryz
/- Contracts: copies that own all that they reach. -/
set_option linter.unusedVariables false
set_option linter.unusedSimpArgs false
namespace Go.H.Tryz
open Go Go.H

theorem th_row_cell {s : St} {ks : List Tr} {q : PV} {D : List Nat} (h : Th s (trees ks) q D) : q.cellOK = true ∧ q.ncells = 1 ∧ q.isJunk = false ∧ q.cells = [q] := by
  rw [trees, Th.row] at h
  rcases h with ⟨_, ⟨e, f, rfl⟩, rfl⟩ | ⟨b, xs, cap, D', rfl, _⟩ <;> exact ⟨rfl, rfl, rfl, rfl⟩
/-! ### The program's copies -/
theorem h_impl_clone_own (t : Tr) (hsz : t.size ≤ 1000000000) (st : St) : HCalls prog n_impl_clone [tree t] st (Owns (tree t) st) := by
  induction t using Tr.ind generalizing st with
  | _ t ih =>
  have hl := t.kids_len
  apply c_impl_clone
  unfold b_impl_clone
  refine e_box_own (tree_isJunk _) fun b1 hb1 => ?_
  intro b2 hb2
  have hne : b1 ≠ b2 := fun e => by rw [← e, upd_same] at hb2; cases hb2
  rw [upd_ne _ _ hne.symm] at hb2
  generalize hs : upd (upd st b1 (.cells (tree t).cells)) b2 (.cells [.int .i64 0, .int .i64 0, .str [], .sl 0 true []]) = s
  have e1 : s b1 = some (.cells (tree t).cells) := by rw [← hs, upd_ne _ _ hne]; exact upd_same _ _ _
  have e2 : s b2 = some (.cells [.int .i64 0, .int .i64 0, .str [], .sl 0 true []]) := by rw [← hs]; exact upd_same _ _ _
  have hsub : Sub st s := by
    rw [← hs]
    refine ((Sub.refl st).put hb1).put hb2
  clear hs
  try simp [q_load_p e1]
  have hall : HCalls prog n_impl_cloneAll [trees t.kids] s (Owns (trees t.kids) s) := by
    apply c_impl_cloneAll
    unfold b_impl_cloneAll
    try simp
    refine loop_idx (β := PV × List Nat × St) t.kids (fun z i => [z.1, .int .i64 (i : Int)]) (fun z => z.2.2) (fun z i rest => Rw s z.2.2 4 ((t.kids.take i).map tree) z.1 z.2.1) ?_ ?_ (_, [], s) (Rw.start (Sub.refl s) 4 4)
    · rintro i x rest ⟨p, D, s1⟩ hi hx q0 kk
      simp only at q0
      try simp [hi, ia_tree _ hx]
      intro b5 hb5
      try simp
      try simp [q_load_p (upd_same _ _ _)]
      have q1 := q0.put hb5 (.cells (tree x).cells)
      generalize upd s1 b5 (.cells (tree x).cells) = s2 at q1
      refine callK_owns (ih x (List.mem_of_getElem? hx) (by have := Tr.kid_size (List.mem_of_getElem? hx); omega) s2) fun y Dx s3 hDx hTx hfx hox => ?_
      have keep : ∀ c o, s2 c = some o → s3 c = some o := fun c o hc => by
        rw [hox c (fun h => by rw [hfx c h] at hc; cases hc)]; exact hc
      have q2 : Rw s s3 4 ((t.kids.take i).map tree) p D := q1.frame (fun c hc => by
        obtain ⟨o, ho⟩ := q1.live hc
        rw [ho]; exact keep c o ho) (q1.sub.trans keep)
      have hy := hTx.elOK (tree_el x)
      obtain ⟨n1, n2, n3⟩ := hTx.ncells
      rw [tree_ncells] at n1
      have hya := hy.2
      rw [List.all_eq_true] at hya
      try simp
      rw [if_pos ⟨n1, hya⟩]
      try simp
      refine q2.append hTx (tree_el x) hDx (fun c hc => q1.sub.isNone (hfx c hc)) (fun c hc h => by obtain ⟨o, ho⟩ := q1.live hc; rw [hfx c h] at ho; cases ho) (elems_sl _ _ _ _) (by simp; omega) fun p2 s4 D2 q3 _ _ => ?_
      rw [W_idx hi (by unfold maxLen; omega)]
      refine kk (p2, D2, s4) ?_
      simp only
      rw [take_snoc hx, List.map_append]
      exact q3
    · rintro ⟨p, D, s1⟩ q0
      simp only at q0
      rw [List.take_of_length_le (Nat.le_refl _)] at q0
      try simp
      exact Owns.row q0
  refine callK_owns (by simpa using hall) fun q D s2 hD hT hf ho => ?_
  have keep : ∀ c o, s c = some o → s2 c = some o := fun c o hc => by
    rw [ho c (fun h => by rw [hf c h] at hc; cases hc)]; exact hc
  have f1 := keep _ _ e1
  have f2 := keep _ _ e2
  obtain ⟨c1, c2, c3, c4⟩ := th_row_cell (by simpa using hT)
  try simp
  rw [e_store_p _ _ _ _ _ _ _ f1]
  try simp [c1, c2, c3, c4]
  try simp [q_load_p (upd_same _ _ _)]
  have g2 : ∀ o, (upd s2 b1 o) b2 = some (.cells [.int .i64 0, .int .i64 0, .str [], .sl 0 true []]) := fun o => by rw [upd_ne _ _ hne.symm]; exact f2
  rw [e_store_p _ _ _ _ _ _ _ (g2 _)]
  try simp [c1]
  try simp [q_load_p (upd_same _ _ _)]
  have nD : ∀ c ∈ D, c ≠ b1 ∧ c ≠ b2 := fun c hc => ⟨(fun e => by rw [e] at hc; rw [hf b1 hc] at e1; cases e1), (fun e => by rw [e] at hc; rw [hf b2 hc] at e2; cases e2)⟩
  refine Owns.ret hD (Th.tree.2 ⟨q, rfl, hT.frame _ _ _ fun c hc => ?_⟩) (fun c hc => hsub.isNone (hf c hc)) ?_
  · rw [upd_ne _ _ (nD c hc).2, upd_ne _ _ (nD c hc).1]
  · exact ((hsub.trans keep).put hb1).put hb2
end Go.H.Tryz
/- Contracts: AddDecl and BuildSig, on both sides. -/
set_option linter.unusedVariables false
set_option linter.unusedSimpArgs false
namespace Go.H.Tryz
open Go Go.H

/-- A row is handed back that is new and that may grow. -/
def RwR (esz : Nat) (xs' : List PV) (st : St) : Res → St → Prop := fun r s => ∃ p D, r = .ret p ∧ Rw st s esz xs' p D ∧ ∀ b, b ∉ D → s b = st b
theorem RwR.ret {st s : St} {esz : Nat} {xs' : List PV} {p : PV} {D : List Nat} (h : Rw st s esz xs' p D) : retR (RwR esz xs' st) p s := by
  refine retR_conv (p' := p) (st' := fun b => if b ∈ D then s b else st b) (Conv.sub fun b o hb => ?_) ⟨p, D, rfl, h.frame (fun b hb => by simp only [if_pos hb]) (fun b o hb => ?_), fun b hb => by simp only [if_neg hb]⟩
  · by_cases hbD : b ∈ D
    · rw [if_pos hbD] at hb; exact hb
    · rw [if_neg hbD] at hb; exact h.sub b o hb
  · have : b ∉ D := fun hd => by rw [h.fresh b hd] at hb; cases hb
    simp only [if_neg this]
    exact hb
theorem RwR.owns {P : Program} {g : FuncId} {us : List PV} {st : St} {esz : Nat} {xs' : List PV} (hc : HCalls P g us st (RwR esz xs' st)) : HCalls P g us st (Owns (.sl esz false xs') st) :=
  hc.mono fun r s h => by
    obtain ⟨p, D, h1, h2, h3⟩ := h
    exact ⟨p, D, h1, h2.nodup, h2.th, h2.fresh, h3⟩
theorem Owns.tupInts {st s : St} {x p : PV} {D : List Nat} (ns : List Int) (hD : D.Nodup) (h : Th s x p D) (hf : ∀ b ∈ D, st b = none) (hs : Sub st s) : retR (Owns (.tup (x :: ns.map (PV.int .i64))) st) (.tup (p :: ns.map (PV.int .i64))) s :=
  Owns.ret hD (Th.tupInts ns h) hf hs
theorem Owns.none {st s : St} {esz e : Nat} (ns : List Int) (hs : Sub st s) : retR (Owns (.tup (.sl esz false [] :: ns.map (PV.int .i64))) st) (.tup (.sl e true [] :: ns.map (PV.int .i64))) s :=
  Owns.tupInts ns (D := []) List.nodup_nil (Th.row.2 (.inl ⟨rfl, ⟨e, true, rfl⟩, rfl⟩)) (by simp) hs
end Go.H.Tryz
/- Contracts: Synth, on both sides. -/
set_option linter.unusedVariables false
set_option linter.unusedSimpArgs false
namespace Go.H.Tryz
open Go Go.H

def blank : Tr := .mk 0 0 [] []
theorem zero_th (s : St) : Th s (tree blank) (.agg [.int .i64 0, .int .i64 0, .str [], .sl 0 true []]) [] :=
  Th.tree.2 ⟨.sl 0 true [], rfl, Th.row.2 (.inl ⟨rfl, ⟨0, true, rfl⟩, rfl⟩)⟩
end Go.H.Tryz
/- Contracts: which arguments can be left out. -/
set_option linter.unusedVariables false
set_option linter.unusedSimpArgs false
namespace Go.H.Tryz
open Go Go.H

theorem h_impl_tells_of (ks : List Tr) (v : Tr) (st : St) (h : ∀ t ∈ ks, ∀ st, HCalls prog n_impl_tells_1 [tree t, .ref (tree v).cells] st (Just (.bool (tellT v t)) st)) : HCalls prog n_impl_tells [trees ks, tree v] st (Just (.bool (ks.any (tellT v))) st) := by
  apply c_impl_tells
  unfold b_impl_tells
  refine e_box_ref (tree_isJunk _) ?_
  refine callK_just (h_slices_ContainsFunc_impl_Tree_impl_Tree ks n_impl_tells_1 [] [.ref (tree v).cells] (tellT v) st (fun t ht => h t ht st)) ?_
  exact Just.ret (Sub.refl _)
theorem h_impl_tells_1 (t v : Tr) (st : St) : HCalls prog n_impl_tells_1 [tree t, .ref (tree v).cells] st (Just (.bool (tellT v t)) st) := by
  induction t using Tr.ind generalizing st with
  | _ t ih =>
    apply c_impl_tells_1
    unfold b_impl_tells_1
    rw [tellT_eq]
    refine e_box_ref (tree_isJunk _) ?_
    try simp
    refine callK_just (h_impl_same _ _ _) ?_
    try simp
    refine br_dec (fun h => Just.bool (by rw [decide_eq_true h]; rfl) (Sub.refl _)) (fun h => ?_)
    rw [decide_eq_false h, Bool.false_or]
    refine br_dec (fun h6 => ?_) (fun h6 => Just.bool (by rw [decide_eq_false h6]; rfl) (Sub.refl _))
    rw [decide_eq_true h6, Bool.true_and]
    refine callK_just (by simpa using h_impl_tells_of t.kids v _ (fun x hx s => ih x hx s)) ?_
    exact Just.ret (Sub.refl _)
theorem h_impl_tells (ks : List Tr) (v : Tr) (st : St) : HCalls prog n_impl_tells [trees ks, tree v] st (Just (.bool (ks.any (tellT v))) st) := h_impl_tells_of ks v st fun t _ s => h_impl_tells_1 t v s
theorem h_spec_l07Fixed (a : Tr) (n : Int) (ha : a.isSimple = true) (hsz : a.size ≤ 1000000) (h0 : 0 ≤ n) (h1 : n ≤ 1000000) (hl : a.args.length ≤ 1000000) (t : Tr) (ht : t.lamy = true) (hts : t.size ≤ 1000000) (st : St) :
    HCalls prog n_spec_l07Fixed [tree t, .int .i64 n, tree a] st (Just (.bool (tellT (longForm (Tr.var n []) a) t)) st) := by
  induction t using Tr.ind generalizing st with
  | _ t ih =>
    apply c_spec_l07Fixed
    unfold b_spec_l07Fixed
    generalize hv : tellT (longForm (Tr.var n []) a) t = v
    rw [tellT_eq] at hv
    refine e_box_ref (tree_isJunk _) ?_
    refine e_box_ref (tree_isJunk _) ?_
    try simp
    refine callK_just (by simpa using h_spec_l06Var t a (lamy_ok t ht) ha hsz hts _) ?_
    try simp
    have hiff := longVar_iff (x := t) (a := a) h0 h1 hl
    refine br_dec (fun h => ?_) (fun h => ?_)
    · rw [decide_eq_true (hiff.1 h), Bool.true_or] at hv
      exact Just.bool hv (Sub.refl _)
    · rw [decide_eq_false (fun e => h (hiff.2 e)), Bool.false_or] at hv
      refine br_dec (fun h6 => ?_) (fun h6 => Just.bool (by rw [decide_eq_false (by simpa using h6)] at hv; exact hv) (Sub.refl _))
      rw [decide_eq_true h6, Bool.true_and] at hv
      have hll := t.kids_len
      refine loop_idx (β := Unit) t.kids (fun _ i => [.int .i64 (i : Int)]) (fun _ => st) (fun _ i rest => rest.any (tellT (longForm (Tr.var n []) a)) = v) ?_ ?_ () hv
      · rintro i x rest _ hi hx hq kk
        have hxm := List.mem_of_getElem? hx
        try simp [hi, ia_tree _ hx]
        refine callK_just (ih x hxm (Tr.lamy_kids ht hxm) (by have := Tr.kid_size hxm; omega) _) ?_
        try simp
        rw [List.any_cons] at hq
        refine br_of (fun g => Just.bool (by rw [g] at hq; exact hq) (Sub.refl _)) (fun g => ?_)
        rw [W_idx hi (by unfold maxLen; omega)]
        refine kk () ?_
        rw [g, Bool.false_or] at hq
        exact hq
      · rintro _ hq
        try simp
        exact Just.bool (by rw [← hq]; rfl) (Sub.refl _)
theorem ff_kids {t x : Tr} (h : FF t) (hx : x ∈ t.kids) : x.lamy = true ∧ x.size ≤ 150 :=
  ⟨Tr.lamy_kids (fam_lamy t false h.1) hx, by have := h.2; have := Tr.kid_size hx; omega⟩
theorem erase_fine {d : Tr} (h : FF d) : (eraseT d).isSimple = true ∧ (eraseT d).size ≤ 1000000 ∧ (eraseT d).args.length ≤ 1000000 := by
  have key : ∀ d : Tr, FF d → (eraseT d).size ≤ d.size := by
    intro d
    induction d using Tr.ind with
    | _ d ih =>
      intro h
      by_cases h2 : d.kind = 2
      · obtain ⟨x, y, hxy, hx, hy, _⟩ := ff_pi h h2
        rw [eraseT_pi h2 hxy]
        have i1 := ih x (by rw [hxy]; simp) hx
        have i2 := ih y (by rw [hxy]; simp) hy
        have e1 : d.size = 1 + (x.size + y.size) := by rw [Tr.size_kids, hxy]; simp [Tr.sizes]
        have e2 : (Tr.arrow (eraseT x) (eraseT y)).size = 1 + ((eraseT x).size + (eraseT y).size) := by rw [Tr.size_kids]; simp [Tr.sizes, Tr.arrow]
        omega
      · rw [eraseT_head h2]
        have : (Tr.base d.name).size = 1 := by rw [Tr.size_kids]; simp [Tr.sizes, Tr.base]
        have := d.size_pos
        omega
  have h1 := key d h
  have h2 := h.2
  obtain ⟨h3, _⟩ := simple_size _ (eraseT d) rfl h.simple
  exact ⟨h.simple, by omega, by omega⟩
theorem Rw.bool {st s : St} {xs' : List PV} {p : PV} {D : List Nat} {b : Bool} {v : PV} {K : PV → St → Prop} (h : Rw st s 1 xs' p D) (hv : elems s 1 v = some [.bool b]) (hb : (xs'.length + 1) * 1 ≤ 140737488355328)
    (hk : ∀ p2 s2 D2, Rw st s2 1 (xs' ++ [.bool b]) p2 D2 → (∀ c o, s c = some o → c ∉ D → s2 c = some o) → (∀ c, c ∈ D2 → c ∈ D ∨ s c = none) → K p2 s2) : e_append s 1 1 p v K :=
  h.append (y' := .bool b) (y := .bool b) (Dy := []) (by simp [Th]) (bool_el b) List.nodup_nil (by simp) (by simp) hv hb fun p2 s2 D2 h1 h2 h3 =>
    hk p2 s2 D2 h1 (fun c o a b => h2 c o a b (by simp)) (fun c hc => (h3 c hc).imp id (fun h => by simpa using h))
theorem readsSub {st0 st st' : St} {esz : Nat} {acc : List PV} {p : PV} (h : Grow st0 esz acc p st) (hs : Sub st st') : Reads st' esz acc p := by
  refine ⟨h.len, fun i x k hx => ?_⟩
  rcases h with ⟨rfl, ⟨e, rfl⟩, rfl⟩ | ⟨b, cap, rfl, hcap, hn, rfl⟩
  · cases hx
  · have hi := (List.getElem?_eq_some_iff.1 hx).1
    exact ⟨.eptr b esz i 0, by simp [hi], fun agg n => by rw [q_load_e (hs _ _ (upd_same _ _ _)) hx]; rfl⟩
theorem h_impl_omittable (t : Tr) (ht : FF t) (st : St) : HCalls prog n_impl_omittable [tree t] st (Owns (boolsP (omitB t)) st) := by
  apply c_impl_omittable
  unfold b_impl_omittable
  generalize hv : piGo 150 [] t = v
  have hom : omitB t = v.1.mapIdx fun i d => v.2.kids.any (tellT (longForm (Tr.var (((v.1.length : Int) - 1) - i) []) (eraseT d))) := by unfold omitB; rw [hv]
  obtain ⟨f1, f2, f3⟩ := piGo_fine 150 [] t ht (by simp)
  rw [hv] at f1 f2 f3
  simp only [List.length_nil, Nat.zero_add] at f3
  refine e_box_own (tree_isJunk _) fun b1 hb1 => ?_
  try simp
  refine hFix_rec (σ := List Tr × Tr × PV × St × Nat) (fun z => z.2.1.size) (fun z => [z.2.2.1]) (fun z => z.2.2.2.1)
    (fun z => FF z.2.1 ∧ z.1.length + z.2.2.2.2 ≤ 150 ∧ z.2.1.size ≤ z.2.2.2.2 ∧ piGo z.2.2.2.2 z.1 z.2.1 = v ∧ Grow (upd st b1 (.cells (tree z.2.1).cells)) 4 (z.1.map tree) z.2.2.1 z.2.2.2.1) ?_ ([], t, _, _, 150) ⟨ht, by simp, ht.2, hv, Grow.nil _ 4 4⟩
  rintro ⟨acc, u, p, s, m⟩ ⟨i1, i2, i3, i4, i5⟩ ih
  simp only at i1 i2 i3 i4 i5 ih
  have e1 : s b1 = some (.cells (tree u).cells) := i5.sub _ _ (upd_same _ _ _)
  try simp [q_load_p e1]
  refine br_dec (fun hk => ?_) (fun hk => ?_)
  · obtain ⟨x, y, hxy, hx, hy, hsz⟩ := ff_pi i1 hk
    have x0 : u.kids[0]? = some x := by rw [hxy]; rfl
    have x1 : u.kids[1]? = some y := by rw [hxy]; rfl
    try simp [ia_tree0 _ x0, ia_tree1 _ x1]
    refine i5.append (elems_sl _ _ _ _) (by simp; omega) fun p2 s2 i6 => ?_
    have e2 : s2 b1 = some (.cells (tree u).cells) := i6.sub _ _ (upd_same _ _ _)
    refine ⟨by rw [q_load_p e2]; simp, ?_⟩
    rw [e_store_p _ _ _ _ _ _ _ e2]
    try simp
    have hu := u.size_pos
    obtain ⟨m, rfl⟩ : ∃ m', m = m' + 1 := ⟨m - 1, by omega⟩
    rw [piGo, if_pos hk, kid0 hxy, kid1 hxy] at i4
    have e3 : u.size = 1 + (x.size + y.size) := by rw [Tr.size_kids, hxy]; simp [Tr.sizes]
    have i7 := i6.store (.cells (tree y).cells) (upd_same _ _ _)
    rw [upd_upd] at i7
    have hxs := x.size_pos
    refine ih (acc ++ [x], y, p2, _, m) (by simp only; omega) ⟨hy, by simp; omega, by simp only; omega, i4, ?_⟩
    simp only [List.map_append, List.map_cons, List.map_nil]
    exact i7
  · rw [piGo_end hk] at i4
    subst i4
    simp only at hom f1 f2 f3
    have hst : Sub st s := ((Sub.refl st).put hb1).trans i5.sub
    clear ih
    rw [i5.len]
    try simp
    rw [wrap64 (n := (acc.length : Int) - 1) (by omega) (by omega)]
    generalize hB : (fun (i : Nat) (d : Tr) => u.kids.any (tellT (longForm (Tr.var (((acc.length : Int) - 1) - i) []) (eraseT d)))) = B at hom
    refine loop_idx (β := PV × List Nat × St) acc (fun z i => [z.1, .int .i64 (i : Int)]) (fun z => z.2.2) (fun z i rest => Rw s z.2.2 1 (((acc.mapIdx B).take i).map PV.bool) z.1 z.2.1) ?_ ?_ (_, [], s) (Rw.start (Sub.refl s) 1 1)
    · rintro i d rest ⟨q, D, s3⟩ hi hx q0 kk
      simp only at q0
      obtain ⟨a, ha, hla⟩ := (readsSub i5 q0.sub).get i (tree d) .i64 (by simp [hx])
      try simp [hi, ha, hla]
      intro b6 hb6
      rw [e_store_p _ _ _ _ _ _ _ (upd_same _ _ _)]
      try simp
      have q1 := q0.put hb6 (.cells (tree d).cells)
      have e6 := upd_same s3 b6 (.cells (tree d).cells)
      have e7 : (upd s3 b6 (.cells (tree d).cells)) b1 = some (.cells (tree u).cells) := q1.sub _ _ e1
      generalize upd s3 b6 (.cells (tree d).cells) = s4 at q1 e6 e7
      obtain ⟨d1, d2, d3⟩ := erase_fine (f1 d (List.mem_of_getElem? hx))
      rw [wrap64 (n := (acc.length : Int) - 1 - i) (by omega) (by omega)]
      try simp [q_load_p e6, q_load_p e7]
      refine callK_just (h_impl_variable0 _ _) ?_
      try simp [q_load_p e6, q_load_p e7]
      refine callK_just (h_impl_erase d (f1 d (List.mem_of_getElem? hx)).1 _) ?_
      try simp [q_load_p e6, q_load_p e7]
      refine callK_just (h_impl_longForm _ (eraseT d) d1 d2 (by rw [Tr.size_kids]; simp [Tr.var, Tr.sizes]) _) ?_
      try simp [q_load_p e6, q_load_p e7]
      refine callK_just (by simpa using h_impl_tells u.kids _ _) ?_
      have hBi : B i d = u.kids.any (tellT (longForm (Tr.var (((acc.length : Int) - 1) - i) []) (eraseT d))) := by rw [← hB]
      rw [← hBi]
      try simp [bool_el]
      refine Rw.bool q1 (elems_sl _ _ _ _) (by simp; omega) fun p2 s5 D2 q2 _ _ => ?_
      rw [W_idx hi (by unfold maxLen; omega)]
      refine kk (p2, D2, s5) ?_
      simp only
      rw [take_snoc (x := B i d) (by simp [List.getElem?_mapIdx, hx]), List.map_append]
      exact q2
    · rintro ⟨q, D, s3⟩ q0
      simp only at q0
      rw [List.take_of_length_le (by simp)] at q0
      try simp
      rw [hom]
      exact Owns.ret q0.nodup q0.th (fun c hc => hst.isNone (q0.fresh c hc)) (hst.trans q0.sub)
theorem h_spec_l07Omittable (t : Tr) (ht : FF t) (st : St) : HCalls prog n_spec_l07Omittable [tree t] st (Just (boolsP (omitB t)) st) := by
  apply c_spec_l07Omittable
  unfold b_spec_l07Omittable
  generalize hv : piGo 150 [] t = v
  have hom : omitB t = v.1.mapIdx fun i d => v.2.kids.any (tellT (longForm (Tr.var (((v.1.length : Int) - 1) - i) []) (eraseT d))) := by unfold omitB; rw [hv]
  obtain ⟨f1, f2, f3⟩ := piGo_fine 150 [] t ht (by simp)
  rw [hv] at f1 f2 f3
  simp only [List.length_nil, Nat.zero_add] at f3
  refine e_box_own (tree_isJunk _) fun b1 hb1 => ?_
  try simp
  refine hFix_rec (σ := List Tr × Tr × PV × St × Nat) (fun z => z.2.1.size) (fun z => [z.2.2.1]) (fun z => z.2.2.2.1)
    (fun z => FF z.2.1 ∧ (∀ d ∈ z.1, FF d) ∧ z.1.length + z.2.2.2.2 ≤ 150 ∧ z.2.1.size ≤ z.2.2.2.2 ∧ piGo z.2.2.2.2 z.1 z.2.1 = v ∧ Grow (upd st b1 (.cells (tree z.2.1).cells)) 4 ((z.1.map eraseT).map tree) z.2.2.1 z.2.2.2.1) ?_ ([], t, _, _, 150) ⟨ht, by simp, by simp, ht.2, hv, Grow.nil _ 4 4⟩
  rintro ⟨acc, u, p, s, m⟩ ⟨i1, i0, i2, i3, i4, i5⟩ ih
  simp only at i1 i2 i3 i4 i5 ih
  have e1 : s b1 = some (.cells (tree u).cells) := i5.sub _ _ (upd_same _ _ _)
  try simp [q_load_p e1]
  refine br_dec (fun hk => ?_) (fun hk => ?_)
  · obtain ⟨x, y, hxy, hx, hy, hsz⟩ := ff_pi i1 hk
    have x0 : u.kids[0]? = some x := by rw [hxy]; rfl
    have x1 : u.kids[1]? = some y := by rw [hxy]; rfl
    try simp [ia_tree0 _ x0, ia_tree1 _ x1]
    refine callK_just (h_spec_l01Erase x hx.1 _) ?_
    try simp
    refine i5.append (elems_sl _ _ _ _) (by simp; omega) fun p2 s2 i6 => ?_
    have e2 : s2 b1 = some (.cells (tree u).cells) := i6.sub _ _ (upd_same _ _ _)
    try simp [q_load_p e2, ia_tree1 _ x1]
    rw [e_store_p _ _ _ _ _ _ _ e2]
    try simp
    have hu := u.size_pos
    obtain ⟨m, rfl⟩ : ∃ m', m = m' + 1 := ⟨m - 1, by omega⟩
    rw [piGo, if_pos hk, kid0 hxy, kid1 hxy] at i4
    have e3 : u.size = 1 + (x.size + y.size) := by rw [Tr.size_kids, hxy]; simp [Tr.sizes]
    have i7 := i6.store (.cells (tree y).cells) (upd_same _ _ _)
    rw [upd_upd] at i7
    have hxs := x.size_pos
    refine ih (acc ++ [x], y, p2, _, m) (by simp only; omega) ⟨hy, fun d hd => ?_, by simp; omega, by simp only; omega, i4, ?_⟩
    · rcases List.mem_append.1 hd with hd | hd
      · exact i0 d hd
      · simp at hd; subst hd; exact hx
    · simp only [List.map_append, List.map_cons, List.map_nil]
      exact i7
  · rw [piGo_end hk] at i4
    subst i4
    simp only at hom f1 f2 f3
    have hst : Sub st s := ((Sub.refl st).put hb1).trans i5.sub
    clear ih
    have hlen : q_len p = some (.int .i64 (acc.length : Int)) := by have := i5.len; simpa using this
    try simp [hlen]
    rw [wrap64 (n := (acc.length : Int) - 1) (by omega) (by omega)]
    generalize hB : (fun (i : Nat) (d : Tr) => u.kids.any (tellT (longForm (Tr.var (((acc.length : Int) - 1) - i) []) (eraseT d)))) = B at hom
    refine loop_idx (β := PV × St) acc (fun z i => [z.1, .int .i64 (i : Int)]) (fun z => z.2) (fun z i rest => Grow s 1 (((acc.mapIdx B).take i).map PV.bool) z.1 z.2) ?_ ?_ (_, s) (Grow.nil s 1 1)
    · rintro i d rest ⟨q, s3⟩ hi hx q0 kk
      simp only at q0
      obtain ⟨a, ha, hla⟩ := (readsSub i5 q0.sub).get i (tree (eraseT d)) .i64 (by simp [hx])
      have e3 := q0.sub _ _ e1
      obtain ⟨d1, d2, d3⟩ := erase_fine (f1 d (List.mem_of_getElem? hx))
      have hBi : B i d = u.kids.any (tellT (longForm (Tr.var (((acc.length : Int) - 1) - i) []) (eraseT d))) := by rw [← hB]
      have hul := u.kids_len
      have husz := i1.2
      try simp [hi, ha]
      rw [wrap64 (n := (acc.length : Int) - 1 - i) (by omega) (by omega)]
      generalize hbd : B i d = v at hBi
      refine loop_idx (β := Bool) u.kids (fun z j => [.bool z, .int .i64 (j : Int)]) (fun _ => s3) (fun z j rest => (z || rest.any (tellT (longForm (Tr.var (((acc.length : Int) - 1) - i) []) (eraseT d)))) = v) ?_ ?_ false (by rw [hBi, Bool.false_or])
      · rintro j x rest2 z hj hxj hq kk2
        try simp [q_load_p e3, hj]
        rw [W_idx hj (by unfold maxLen; omega)]
        cases z with
        | true =>
          try simp
          exact kk2 true (by simpa using hq)
        | false =>
          have hxm := List.mem_of_getElem? hxj
          obtain ⟨l1, l2⟩ := ff_kids i1 hxm
          try simp [ia_tree _ hxj, hla]
          refine callK_just (h_spec_l07Fixed (eraseT d) ((acc.length : Int) - 1 - i) d1 d2 (by omega) (by omega) d3 x l1 (by omega) _) ?_
          try simp
          refine kk2 _ ?_
          rw [← hq, List.any_cons, Bool.false_or]
      · rintro z hq
        have hz : z = v := by simpa using hq
        subst hz
        try simp [q_load_p e3, bool_el]
        refine q0.append (elems_sl _ _ _ _) (by simp; omega) fun p2 s5 q2 => ?_
        rw [W_idx hi (by unfold maxLen; omega)]
        refine kk (p2, s5) ?_
        simp only
        rw [take_snoc (x := B i d) (by simp [List.getElem?_mapIdx, hx]), List.map_append, hbd]
        exact q2
    · rintro ⟨q, s3⟩ q0
      simp only at q0
      rw [List.take_of_length_le (by simp)] at q0
      try simp
      rw [hom]
      exact retR_conv (Conv.trans q0.freeze (Conv.sub hst)) ⟨rfl, rfl⟩
end Go.H.Tryz
/- Contracts: Omittable, on both sides. -/
set_option linter.unusedVariables false
set_option linter.unusedSimpArgs false
namespace Go.H.Tryz
open Go Go.H

def omitZ (sig : List Dc) (n : List UInt8) : Int := if sig.length > 4096 ∨ n.length > 65536 then 2 else if sigOKT sig = false then 1 else match declaredT sig n false with | none => 5 | some _ => 0
def omitO (sig : List Dc) (n : List UInt8) : List Bool := if omitZ sig n = 0 then (match declaredT sig n false with | some a => omitB a | none => []) else []
def omitP (sig : List Dc) (n : List UInt8) : PV := .tup (boolsP (omitO sig n) :: [omitZ sig n].map (PV.int .i64))
theorem omitP_no {sig : List Dc} {n : List UInt8} {c : Int} (h : omitZ sig n = c) (hc : c ≠ 0) : omitP sig n = .tup (.sl 1 false [] :: [c].map (PV.int .i64)) := by
  unfold omitP omitO
  rw [h, if_neg hc]
  rfl
theorem omitP_yes {sig : List Dc} {n : List UInt8} {a : Tr} (hl : ¬ (sig.length > 4096 ∨ n.length > 65536)) (h1 : sigOKT sig = true) (h : declaredT sig n false = some a) : omitP sig n = .tup (boolsP (omitB a) :: [0].map (PV.int .i64)) := by
  have e : omitZ sig n = 0 := by
    unfold omitZ
    rw [if_neg hl, if_neg (by rw [h1]; simp), h]
  unfold omitP omitO
  rw [e, if_pos rfl, h]
theorem h_impl_longText0 (n : List UInt8) (st : St) : HCalls prog n_impl_longText [.str n] st (Just (.bool (decide (n.length > 65536))) st) := by
  apply c_impl_longText
  unfold b_impl_longText
  try simp
  exact Just.bool (by simp; omega) (Sub.refl _)
theorem h_impl_Omittable (sig : List Dc) (n : List UInt8) (st : St) : HCalls prog n_impl_Omittable [decls sig, .str n] st (Owns (omitP sig n) st) := by
  refine HCalls.wf e_impl_Omittable fun hw => ?_
  have hw1 := (decls_wf hw.1).1
  unfold maxLen at hw1
  apply c_impl_Omittable
  unfold b_impl_Omittable
  have no : ∀ (c : Int) (s : St), Sub st s → omitZ sig n = c → c ≠ 0 → retR (Owns (omitP sig n) st) (.tup [.sl 0 true [], .int .i64 c]) s := fun c s hs hq hc => by
    rw [omitP_no hq hc]
    exact Owns.none [c] hs
  try simp
  refine callK_just (by simpa using h_impl_longLists (sig.length : Int) [] (by simp) _) ?_
  try simp
  refine br_dec (fun h => no 2 st (Sub.refl _) (by unfold omitZ; rw [if_pos (by omega)]) (by omega)) (fun h => ?_)
  refine callK_just (h_impl_longText0 n _) ?_
  try simp
  refine br_dec (fun h' => no 2 st (Sub.refl _) (by unfold omitZ; rw [if_pos (by omega)]) (by omega)) (fun h' => ?_)
  have hl : ¬ (sig.length > 4096 ∨ n.length > 65536) := by omega
  refine callK_just (by simpa using h_impl_SigOK sig _) ?_
  try simp
  refine br_of (fun g => ?_) (fun g => no 1 st (Sub.refl _) (by unfold omitZ; rw [if_neg hl, if_pos g]) (by omega))
  obtain ⟨hr, hl40⟩ := sigOKT_right g
  rw [show q_struct [PV.int IntKind.i64 0, PV.sl 0 true []] [(1, 1, PV.sl 6 false (List.map decl sig))] = some (.agg [.int .i64 0, decls sig]) from rfl]
  simp only [qb_some]
  refine e_box_own rfl fun b5 hb5 => ?_
  have hsub5 : ∀ o, Sub st (upd st b5 o) := fun o => (Sub.refl st).put hb5
  refine callK_just (h_impl_checker_declared b5 sig hr n false 0 _ (upd_same _ _ _)) ?_
  unfold declP
  cases hd : declaredT sig n false with
  | none =>
    try simp
    intro b6 hb6
    rw [e_store_p _ _ _ _ _ _ _ (upd_same _ _ _)]
    try simp
    exact no 5 _ ((hsub5 _).put ((hsub5 _).isNone hb6)) (by unfold omitZ; rw [if_neg hl, if_neg (by rw [g]; simp), hd]) (by omega)
  | some a =>
    try simp
    intro b6 hb6
    rw [e_store_p _ _ _ _ _ _ _ (upd_same _ _ _)]
    try simp
    try simp [q_load_p (upd_same _ _ _)]
    generalize hs : upd (upd st b5 (.cells [.int .i64 0, .sl 6 false (List.map decl sig)])) b6 (.cells (tree a).cells) = s
    have hsub : Sub st s := by rw [← hs]; exact (hsub5 _).put ((hsub5 _).isNone hb6)
    refine callK_owns (h_impl_omittable a (declaredT_ok hr hd) s) fun q D s2 hD hT hf ho => ?_
    have keep : ∀ c o, s c = some o → s2 c = some o := fun c o hc => by
      rw [ho c (fun h => by rw [hf c h] at hc; cases hc)]; exact hc
    rw [omitP_yes hl g hd]
    exact Owns.tupInts [0] hD hT (fun c hc => hsub.isNone (hf c hc)) (hsub.trans keep)
end Go.H.Tryz
/- Contracts: what the program leaves out of a term. -/
set_option linter.unusedVariables false
set_option linter.unusedSimpArgs false
namespace Go.H.Tryz
open Go Go.H

theorem takeV_bools (n : Nat) (bs : List Bool) (cs : List PV) : takeV false n (boolsP bs :: cs) = some (boolsP bs) := rfl
def omO (bm : Nat) (o : List Bool) : HObj := .cells [.map bm, boolsP o]
/-- A term comes back, and the flags that are left. -/
def OmR (mo : List Bool → HObj) (b : Nat) (r : Tr × List Bool) (st : St) : Res → St → Prop := fun q s => q = .ret (tree r.1) ∧ s = upd st b (mo r.2)
theorem callK_om {P : Program} {g : FuncId} {us : List PV} {st : St} {K Kp : PV → St → Prop} {mo : List Bool → HObj} {b : Nat} {r : Tr × List Bool} (hc : HCalls P g us st (OmR mo b r st)) (hk : K (tree r.1) (upd st b (mo r.2))) : callK P g us st K Kp := by
  refine callK_of hc (fun p s h => ?_) (fun p s h => ?_)
  · obtain ⟨h1, rfl⟩ := h; cases h1; exact hk
  · obtain ⟨h1, _⟩ := h; cases h1
def lookF (l : List (List UInt8 × List Bool)) (n : List UInt8) : List Bool := match l.find? fun x => decide (x.1 = n) with | some x => x.2 | none => []
/-- A row of flags, or none. -/
structure FlagP (fs : List Bool) (p : PV) : Prop where
  len : q_len p = some (.int .i64 fs.length)
  get : ∀ (i : Nat) (x : Bool) (k : IntKind), fs[i]? = some x → q_ia 1 p (.int k (i : Int)) = some (.ref [.bool x])
theorem flagP_look (l : List (List UInt8 × List Bool)) (n : List UInt8) : FlagP (lookF l n) (lookP l n) := by
  unfold lookF lookP
  cases l.find? fun x => decide (x.1 = n) with
  | none => exact ⟨rfl, fun i x k h => by cases h⟩
  | some y => exact ⟨boolsP_len _, fun i x k h => ia_bool h⟩
theorem h_impl_omitter_term (b bm : Nat) (l : List (List UInt8 × List Bool)) (t : Tr) : t.size ≤ 1000000 → ∀ (o : List Bool) (st : St), st b = some (omO bm o) → st bm = some (.map (flagM l)) → HCalls prog n_impl_omitter_term [.ptr b 0, tree t] st (OmR (omO bm) b (omT (lookF l) t o) st) := by
  induction t using Tr.ind with
  | _ t ih =>
    intro hts o st hb hbm
    have nbm : b ≠ bm := fun e => by rw [e, hbm] at hb; cases hb
    apply c_impl_omitter_term
    unfold b_impl_omitter_term
    generalize hv : omT (lookF l) t o = v
    rw [omT_eq] at hv
    refine e_box_own (tree_isJunk _) fun b3 hb3 => ?_
    intro b4 hb4
    have n34 : b3 ≠ b4 := fun e => by rw [← e, upd_same] at hb4; cases hb4
    have hb4' : st b4 = none := by rw [upd_ne _ _ n34.symm] at hb4; exact hb4
    have nb3 : b ≠ b3 := fun e => by rw [e, hb3] at hb; cases hb
    have nb4 : b ≠ b4 := fun e => by rw [e, hb4'] at hb; cases hb
    have nm3 : bm ≠ b3 := fun e => by rw [e, hb3] at hbm; cases hbm
    have nm4 : bm ≠ b4 := fun e => by rw [e, hb4'] at hbm; cases hbm
    generalize hs : upd (upd st b3 (.cells (tree t).cells)) b4 (.cells [.int .i64 0, .int .i64 0, .str [], .sl 0 true []]) = s
    have eb : s b = some (.cells [.map bm, boolsP o]) := by rw [← hs, upd_ne _ _ nb4, upd_ne _ _ nb3]; exact hb
    have ebm : s bm = some (.map (flagM l)) := by rw [← hs, upd_ne _ _ nm4, upd_ne _ _ nm3]; exact hbm
    have e3 : s b3 = some (.cells (tree t).cells) := by rw [← hs, upd_ne _ _ n34]; exact upd_same _ _ _
    have e4 : s b4 = some (.cells [.int .i64 0, .int .i64 0, .str [], .sl 0 true []]) := by rw [← hs]; exact upd_same _ _ _
    have har : Around b st s := by rw [← hs]; exact ((Around.refl b st).put hb3 _).put hb4' _
    clear hs
    try simp [q_load_p eb, q_load_p e3]
    rw [lookup_flags ebm]
    have hfp := flagP_look l t.name
    generalize lookP l t.name = p16 at hfp
    try simp
    rw [hfp.len]
    have hll := t.kids_len
    generalize hfs : lookF l t.name = fs at hfp hv
    refine hJ_of fun J hJ => ?_
    refine loop_idx (β := PV × St × St × List Bool × List Tr × List PV) t.kids (fun z i => [z.1, .int .i64 (i : Int)]) (fun z => z.2.1)
      (fun z i rest => Grow z.2.2.1 4 z.2.2.2.2.2 z.1 z.2.1 ∧ Alike z.2.2.2.2.2 z.2.2.2.2.1 ∧ z.2.2.2.2.1.length = i ∧ z.2.2.1 b = some (.cells [.map bm, boolsP z.2.2.2.1]) ∧ z.2.2.1 bm = some (.map (flagM l)) ∧ z.2.2.1 b3 = some (.cells (tree t).cells) ∧ z.2.2.1 b4 = some (.cells [.int .i64 0, .int .i64 0, .str [], .sl 0 true []]) ∧ Around b st z.2.2.1 ∧
        z.2.2.2.2.1 ++ (omTs (lookF l) ((if t.kind = 6 then fs else []).drop i) rest z.2.2.2.1).1 = v.1.kids ∧ (omTs (lookF l) ((if t.kind = 6 then fs else []).drop i) rest z.2.2.2.1).2 = v.2) ?_ ?_ (_, s, s, o, [], []) ⟨Grow.nil s 4 4, trivial, rfl, eb, ebm, e3, e4, har, by rw [← hv]; rfl, by rw [← hv]; rfl⟩
    · rintro i x rest ⟨p, s1, S, o, done, acc⟩ hi hx ⟨q0, ql, qd, qb, qm, q3, q4, qa, hq1, hq2⟩ kk
      simp only at q0 ql qd qb qm q3 q4 qa hq1 hq2
      have hal := ql.len
      try simp [hi, ia_tree _ hx]
      intro b8 hb8
      rw [e_store_p _ _ _ _ _ _ _ (upd_same _ _ _)]
      try simp
      have hb8S := q0.sub.isNone hb8
      have nb8 : b ≠ b8 := fun e => by rw [e, hb8S] at qb; cases qb
      have r0 := q0.beside (.cells (tree x).cells) hb8
      have nz : ∀ c o, S c = some o → (upd S b8 (.cells (tree x).cells)) c = some o := fun c o h => by rw [upd_ne _ _ (fun e => by rw [e, hb8S] at h; cases h)]; exact h
      have rb := nz _ _ qb
      have rm := nz _ _ qm
      have r3 := nz _ _ q3
      have r4 := nz _ _ q4
      have r8 := upd_same S b8 (.cells (tree x).cells)
      have ra := qa.put (qa.isNone nb8.symm hb8S) (.cells (tree x).cells)
      generalize upd S b8 (.cells (tree x).cells) = S1 at r0 rb rm r3 r4 r8 ra
      generalize upd s1 b8 (.cells (tree x).cells) = s2 at r0
      have eb := r0.sub _ _ rb
      have e3 := r0.sub _ _ r3
      have e8 := r0.sub _ _ r8
      have hxm := List.mem_of_getElem? hx
      have hxs := Tr.kid_size hxm
      refine hJ_of fun J1 hJ1 => ?_
      have key : ∀ c : Bool, (c = true ↔ (((if t.kind = 6 then fs else []).drop i).head? = some true ∧ o ≠ [])) → J1 [.bool c] s2 := by
        intro c hc
        refine hJ1 _ _ ?_
        try simp
        refine hJ_of fun J2 hJ2 => ?_
        have rek : ∀ (S' s' : St) (o' : List Bool), Grow S' 4 acc p s' → S' b = some (.cells [.map bm, boolsP o']) → S' bm = some (.map (flagM l)) → S' b3 = some (.cells (tree t).cells) → S' b4 = some (.cells [.int .i64 0, .int .i64 0, .str [], .sl 0 true []]) → S' b8 = some (.cells (tree x).cells) → Around b st S' →
            done ++ ((omT (lookF l) x o').1 :: (omTs (lookF l) ((if t.kind = 6 then fs else []).drop (i + 1)) rest (omT (lookF l) x o').2).1) = v.1.kids → (omTs (lookF l) ((if t.kind = 6 then fs else []).drop (i + 1)) rest (omT (lookF l) x o').2).2 = v.2 → J2 [p] s' := by
          intro S' s' o' w0 wb wm w3 w4 w8 wa h1 h2
          refine hJ2 _ _ ?_
          try simp
          have f8 := w0.sub _ _ w8
          try simp [q_load_p f8]
          refine callK_om (ih x hxm (by omega) o' s' (w0.sub _ _ wb) (w0.sub _ _ wm)) ?_
          try simp
          have w1 := w0.store (omO bm (omT (lookF l) x o').2) wb
          refine w1.append (elems_sl _ _ _ _) (by simp; omega) fun p2 s3 w2 => ?_
          rw [W_idx hi (by unfold maxLen; omega)]
          refine kk (p2, s3, upd S' b (omO bm (omT (lookF l) x o').2), (omT (lookF l) x o').2, done ++ [(omT (lookF l) x o').1], acc ++ [tree (omT (lookF l) x o').1]) ⟨w2, ql.same _, by simp; omega, upd_same _ _ _, (upd_ne _ _ nbm.symm).trans wm, (upd_ne _ _ nb3.symm).trans w3, (upd_ne _ _ nb4.symm).trans w4, wa.draw _, by simpa using h1, h2⟩
        clear hJ2
        cases c with
        | false =>
          try simp
          have hn : ¬ (((if t.kind = 6 then fs else []).drop i).head? = some true ∧ o ≠ []) := fun h => by have := hc.2 h; cases this
          have e : omTs (lookF l) ((if t.kind = 6 then fs else []).drop i) (x :: rest) o = ((omT (lookF l) x o).1 :: (omTs (lookF l) ((if t.kind = 6 then fs else []).drop (i + 1)) rest (omT (lookF l) x o).2).1, (omTs (lookF l) ((if t.kind = 6 then fs else []).drop (i + 1)) rest (omT (lookF l) x o).2).2) := by
            by_cases hh : ((if t.kind = 6 then fs else []).drop i).head? = some true
            · have ho : o = [] := Classical.byContradiction fun k => hn ⟨hh, k⟩
              rw [omTs_keep hh (by rw [ho]; simp), List.tail_drop, ho]; rfl
            · rw [omTs_go hh, List.tail_drop]
          rw [e] at hq1 hq2
          exact rek S1 s2 o r0 rb rm r3 r4 r8 ra hq1 hq2
        | true =>
          obtain ⟨hh, ho⟩ := hc.1 rfl
          cases o with
          | nil => exact absurd rfl ho
          | cons f o =>
            have e1 : q_ia 1 (boolsP (f :: o)) (.int .i64 0) = some (.ref [.bool f]) := by have := ia_bool (bs := f :: o) (i := 0) (k := .i64) (x := f) rfl; simpa using this
            have e2 : q_sliceE 1 (boolsP (f :: o)) (some (.int .i64 1)) none none = some (boolsP o) := by
              try simp [q_sliceE, q_slice, optI, boolsP]
              rw [List.take_of_length_le (by simp)]
            try simp [q_load_p eb, takeV_bools, e1, e2]
            have w1 := r0.store (omO bm o) rb
            have cb' : (boolsP o).cellOK = true := rfl
            rw [e_store_p _ _ _ _ _ _ _ eb]
            try simp
            refine ⟨⟨fun y hy => ?_, rfl, rfl⟩, ?_⟩
            · have : (boolsP o).cells = [boolsP o] := rfl
              rw [this, List.mem_singleton] at hy; subst hy; rfl
            have es : setRange [PV.map bm, boolsP (f :: o)] 1 (boolsP o).cells = [.map bm, boolsP o] := rfl
            rw [es]
            have xb : (upd S1 b (omO bm o)) b = some (.cells [.map bm, boolsP o]) := upd_same _ _ _
            have xm := (upd_ne S1 (omO bm o) nbm.symm).trans rm
            have x3 := (upd_ne S1 (omO bm o) nb3.symm).trans r3
            have x4 := (upd_ne S1 (omO bm o) nb4.symm).trans r4
            have x8 := (upd_ne S1 (omO bm o) nb8.symm).trans r8
            cases f with
            | false =>
              try simp
              rw [omTs_keep hh (by simp), List.tail_drop] at hq1 hq2
              exact rek _ _ o w1 xb xm x3 x4 x8 (ra.draw _) hq1 hq2
            | true =>
              rw [omTs_gap hh rfl, List.tail_drop] at hq1 hq2
              simp only [List.tail_cons] at hq1 hq2
              rw [show q_struct [PV.int IntKind.i64 0, PV.int IntKind.i64 0, PV.str [], PV.sl 0 true []] [(0, 1, PV.int IntKind.i64 8)] = some gapP from rfl]
              simp only [br_true, qb_some]
              rw [if_pos ⟨rfl, fun y hy => by simp [gapP, PV.cells] at hy; rcases hy with rfl | rfl | rfl | rfl <;> rfl⟩]
              simp only [qb_some]
              refine w1.append (elems_sl _ _ _ _) (by simp; omega) fun p2 s3 w2 => ?_
              rw [W_idx hi (by unfold maxLen; omega)]
              exact kk (p2, s3, upd S1 b (omO bm o), o, done ++ [gap], acc ++ [gapP]) ⟨w2, ql.snoc gap_rx, by simp; omega, xb, xm, x3, x4, ra.draw _, by simpa using hq1, hq2⟩
      clear hJ1
      try simp [q_load_p e3]
      refine br_dec (fun h6 => ?_) (fun h6 => key false (by rw [if_neg h6]; simp))
      rw [if_pos h6] at key
      refine br_dec (fun hif => ?_) (fun hif => key false (by rw [List.drop_of_length_le (by omega)]; simp))
      obtain ⟨f, hf⟩ : ∃ f, fs[i]? = some f := ⟨fs[i], List.getElem?_eq_getElem hif⟩
      rw [hfp.get i f .i64 hf]
      rw [List.head?_drop, hf] at key
      try simp
      cases f with
      | false => simp; exact key false (by simp)
      | true =>
        try simp [q_load_p eb, takeV_bools]
        exact key _ (by cases o <;> simp)
    · rintro ⟨p, s1, S, o, done, acc⟩ ⟨q0, ql, qd, qb, qm, q3, q4, qa, hq1, hq2⟩
      simp only at q0 ql qd qb qm q3 q4 qa hq1 hq2
      have hal := ql.len
      try simp
      refine hJ _ _ ?_
      rw [omTs_nil] at hq1 hq2
      simp only [List.append_nil] at hq1 hq2
      have e3 := q0.sub _ _ q3
      have e4 := q0.sub _ _ q4
      try simp
      rw [e_store_p _ _ _ _ _ _ _ e3]
      have hqc := q0.cellOK
      have hqj : p.cells = [p] ∧ p.ncells = 1 ∧ p.isJunk = false := by
        rcases q0 with ⟨_, ⟨e, rfl⟩, _⟩ | ⟨b, cap, rfl, _⟩ <;> exact ⟨rfl, rfl, rfl⟩
      try simp [hqj, hqc, q_load_p, upd_apply]
      have q1 := q0.store (.cells [.int .i64 t.kind, .int .i64 t.n, .str t.name, p]) q3
      have e4' : upd s1 b3 (.cells [.int .i64 t.kind, .int .i64 t.n, .str t.name, p]) b4 = some (HObj.cells [PV.int IntKind.i64 0, PV.int IntKind.i64 0, PV.str [], PV.sl 0 true []]) := by rw [upd_ne _ _ n34.symm]; exact e4
      rw [e_store_p _ _ _ _ _ _ _ e4']
      try simp [q_load_p, upd_apply, hqj, hqc]
      have q2 := q1.store (c := b4) (o := HObj.cells [PV.int IntKind.i64 0, PV.int IntKind.i64 0, PV.str [], PV.sl 0 true []]) (.cells [.int .i64 t.kind, .int .i64 t.n, .str t.name, p]) (by rw [upd_ne _ _ n34.symm]; exact q4)
      have qb2 : (upd (upd S b3 (.cells [.int .i64 t.kind, .int .i64 t.n, .str t.name, p])) b4 (.cells [.int .i64 t.kind, .int .i64 t.n, .str t.name, p])) b = some (omO bm o) := by rw [upd_ne _ _ nb4, upd_ne _ _ nb3]; exact qb
      have qa2 : Around b st (upd (upd S b3 (.cells [.int .i64 t.kind, .int .i64 t.n, .str t.name, p])) b4 (.cells [.int .i64 t.kind, .int .i64 t.n, .str t.name, p])) := fun c oc hc hst => by
        rw [upd_ne _ _ (fun e => by rw [e, hb4'] at hst; cases hst), upd_ne _ _ (fun e => by rw [e, hb3] at hst; cases hst)]
        exact qa c oc hc hst
      have ev : v = (.mk t.kind t.n t.name done, o) := by
        have h1 : v.1 = .mk t.kind t.n t.name v.1.kids := by rw [← hv]; rfl
        rw [← hq1] at h1
        exact Prod.ext h1 hq2.symm
      subst ev
      have et : tree (.mk t.kind t.n t.name done) = .agg [.int .i64 t.kind, .int .i64 t.n, .str t.name, .sl 4 false (done.map tree)] := by rw [tree_eq]; rfl
      refine retR_conv (p' := tree (.mk t.kind t.n t.name done)) (st' := upd st b (omO bm o)) (Conv.trans ?_ (Conv.sub (qa2.sub qb2))) ⟨rfl, rfl⟩
      rw [et]
      exact Conv.agg (Conv.cons (Conv.sub q2.sub) (Conv.cons (Conv.sub q2.sub) (Conv.cons (Conv.sub q2.sub) (Conv.trans q2.freeze (Conv.alike ql))))) rfl (by simp [hqc])
end Go.H.Tryz
/- Contracts: the program's Omit. -/
set_option linter.unusedVariables false
set_option linter.unusedSimpArgs false
namespace Go.H.Tryz
open Go Go.H

def dropZ (sig : List Dc) (t : Tr) (o : List Bool) : Int := if sig.length > 4096 ∨ o.length > 4096 then 2 else if (sigOKT sig && t.termOK) = false then 1 else 0
def dropT (sig : List Dc) (t : Tr) (o : List Bool) : Tr := if dropZ sig t o = 0 then (omT (flagsOf sig) t o).1 else blank
def dropP (sig : List Dc) (t : Tr) (o : List Bool) : PV := .tup (tree (dropT sig t o) :: [dropZ sig t o].map (PV.int .i64))
theorem dropP_no {sig : List Dc} {t : Tr} {o : List Bool} {c : Int} (h : dropZ sig t o = c) (hc : c ≠ 0) : dropP sig t o = .tup (tree blank :: [c].map (PV.int .i64)) := by
  unfold dropP dropT
  rw [h, if_neg hc]
theorem dropP_yes {sig : List Dc} {t : Tr} {o : List Bool} (h : dropZ sig t o = 0) : dropP sig t o = .tup (tree (omT (flagsOf sig) t o).1 :: [0].map (PV.int .i64)) := by
  unfold dropP dropT
  rw [h, if_pos rfl]
theorem omT_size (fl : List UInt8 → List Bool) (t : Tr) : ∀ o : List Bool, (omT fl t o).1.size ≤ t.size := by
  induction t using Tr.ind with
  | _ t ih =>
    intro o
    rw [omT_eq]
    have key : ∀ (l : List Tr), (∀ x ∈ l, x ∈ t.kids) → ∀ (bs o : List Bool), Tr.sizes (omTs fl bs l o).1 ≤ Tr.sizes l := by
      intro l
      induction l with
      | nil => intro _ bs o; rw [omTs_nil]; exact Nat.le_refl _
      | cons x l ihl =>
        intro hl bs o
        have h1 := ihl (fun y hy => hl y (by simp [hy])) bs.tail
        have h2 := ih x (hl x (by simp))
        have hg : gap.size ≤ x.size := by have : gap.size = 1 := by rw [Tr.size_kids]; simp [Tr.sizes, gap]
                                          have := x.size_pos; omega
        have sc : ∀ (y : Tr) (r : List Tr), Tr.sizes (y :: r) = y.size + Tr.sizes r := fun y r => by simp [Tr.sizes]
        by_cases hb : bs.head? = some true
        · by_cases ho : o.head? = some true
          · rw [omTs_gap hb ho, sc, sc]; have := h1 o.tail; omega
          · rw [omTs_keep hb ho, sc, sc]; have := h1 (omT fl x o.tail).2; have := h2 o.tail; omega
        · rw [omTs_go hb, sc, sc]; have := h1 (omT fl x o).2; have := h2 o; omega
    have h1 := key t.kids (fun x hx => hx) (if t.kind = 6 then fl t.name else []) o
    rw [Tr.size_kids, Tr.kids_mk, Tr.size_kids t]
    omega
theorem lookF_flags {sig : List Dc} (h : Apart sig) : lookF (flagL sig) = flagsOf sig := by
  funext n
  unfold lookF
  rw [← flagL_find h]
  rfl
theorem flagL_fresh {sig : List Dc} {i : Nat} {d : Dc} (h : Apart sig) (hx : sig[i]? = some d) : ((flagL (sig.take i)).any fun y => decide (y.1 = d.name)) = false := by
  obtain ⟨hi, hxe⟩ := List.getElem?_eq_some_iff.1 hx
  have e : sig = sig.take i ++ d :: sig.drop (i + 1) := by
    rw [← hxe, ← List.drop_eq_getElem_cons hi, List.take_append_drop]
  rw [e] at h
  have h2 := (List.pairwise_append.1 h).2.2
  rw [List.any_eq_false]
  intro y hy
  unfold flagL at hy
  obtain ⟨a, ha, hay⟩ := List.mem_filterMap.1 hy
  split at hay
  · cases hay
  · cases hay
    have := h2 a ha d (by simp)
    simpa using this
theorem flagL_snoc (l : List Dc) (d : Dc) : flagL (l ++ [d]) = flagL l ++ (if d.fam = true then [] else [(d.name, omitB d.type)]) := by
  unfold flagL
  rw [List.filterMap_append]
  cases hf : d.fam <;> simp [hf]
theorem h_impl_Omit (sig : List Dc) (t : Tr) (o : List Bool) (hol : o.length ≤ 1000000000) (st : St) : HCalls prog n_impl_Omit [decls sig, tree t, boolsP o] st (Owns (dropP sig t o) st) := by
  refine HCalls.wf e_impl_Omit fun hw => ?_
  have hw1 := (decls_wf hw.1).1
  unfold maxLen at hw1
  apply c_impl_Omit
  unfold b_impl_Omit
  refine e_box_ref (tree_isJunk _) ?_
  intro b6 hb6
  have e6 := upd_same st b6 (.cells [.int .i64 0, .int .i64 0, .str [], .sl 0 true []])
  have hsub1 : Sub st (upd st b6 (.cells [.int .i64 0, .int .i64 0, .str [], .sl 0 true []])) := (Sub.refl st).put hb6
  generalize upd st b6 (.cells [.int .i64 0, .int .i64 0, .str [], .sl 0 true []]) = s1 at e6 hsub1
  try simp
  rw [show q_struct [PV.int IntKind.i64 0, PV.int IntKind.i64 0, PV.str [], PV.sl 0 true []] [] = some (.agg [.int .i64 0, .int .i64 0, .str [], .sl 0 true []]) from rfl]
  simp only [qb_some]
  have no : ∀ (c : Int) (s : St), Sub st s → s b6 = some (.cells [.int .i64 0, .int .i64 0, .str [], .sl 0 true []]) → dropZ sig t o = c → c ≠ 0 →
      e_store s 4 (.ptr b6 0) (.agg [.int .i64 0, .int .i64 0, .str [], .sl 0 true []]) fun s => qb (q_load s true 4 (.ptr b6 0)) fun r => retR (Owns (dropP sig t o) st) (.tup [r, .int .i64 c]) s := fun c s hsub h6 hq hc => by
    rw [e_store_p _ _ _ _ _ _ _ h6]
    try simp
    try simp [q_load_p (upd_same _ _ _)]
    rw [dropP_no hq hc]
    exact Owns.tupInts [c] List.nodup_nil (zero_th _) (by simp) (hsub.put hb6)
  refine callK_just (by simpa using h_impl_longLists (sig.length : Int) [(o.length : Int)] (by simp) _) ?_
  try simp
  refine br_of (fun h => no 2 _ hsub1 e6 (by unfold dropZ; rw [if_pos (by simp at h; omega)]) (by omega)) (fun h => ?_)
  have hl : ¬ (sig.length > 4096 ∨ o.length > 4096) := by simp at h; omega
  refine hJ_of fun J hJ => ?_
  have key : J [.bool (!(sigOKT sig && t.termOK))] s1 := by
    refine hJ _ _ ?_
    clear hJ
    try simp
    refine br_of (fun g => no 1 _ hsub1 e6 (by unfold dropZ; rw [if_neg hl, if_pos (by cases h1 : sigOKT sig <;> cases h2 : t.termOK <;> simp_all)]) (by omega)) (fun g => ?_)
    have g2 : sigOKT sig = true ∧ t.termOK = true := by cases h1 : sigOKT sig <;> cases h2 : t.termOK <;> simp_all
    have hz : dropZ sig t o = 0 := by unfold dropZ; rw [if_neg hl, if_neg (by rw [g2.1, g2.2]; simp)]
    obtain ⟨hr, hl40⟩ := sigOKT_right g2.1
    obtain ⟨ht, hts⟩ := termOK_of g2.2
    intro bm hbm
    rw [show q_struct [PV.nilmap, PV.sl 0 true []] [(0, 1, .map bm), (1, 1, boolsP o)] = some (.agg [.map bm, boolsP o]) from rfl]
    simp only [qb_some]
    refine e_box_own rfl fun b hb => ?_
    have nbm : b ≠ bm := fun e => by rw [e, upd_same] at hb; cases hb
    have hb' : s1 b = none := by rw [upd_ne _ _ nbm] at hb; exact hb
    have nb6 : b ≠ b6 := fun e => by rw [e, e6] at hb'; cases hb'
    have nm6 : bm ≠ b6 := fun e => by rw [e, e6] at hbm; cases hbm
    have hbst : st b = none := hsub1.isNone hb'
    have hmst : st bm = none := hsub1.isNone hbm
    refine hJ_of fun J hJ => ?_
    refine loop_idx (β := St) sig (fun _ i => [.int .i64 (i : Int)]) (fun z => z) (fun z i rest => z b = some (.cells [.map bm, boolsP o]) ∧ z bm = some (.map (flagM (flagL (sig.take i)))) ∧ z b6 = some (.cells [.int .i64 0, .int .i64 0, .str [], .sl 0 true []]) ∧ Sub st z) ?_ ?_ _
      ⟨upd_same _ _ _, by rw [upd_ne _ _ nbm.symm]; exact upd_same _ _ _, by rw [upd_ne _ _ nb6.symm, upd_ne _ _ nm6.symm]; exact e6, (hsub1.put hmst).put hbst⟩
    · rintro i d rest z hi hx ⟨zb, zm, z6, zs⟩ kk
      try simp [hi, ia_decl _ hx]
      intro b10 hb10
      rw [e_store_p _ _ _ _ _ _ _ (upd_same _ _ _)]
      try simp
      have nz : ∀ c oc, z c = some oc → (upd z b10 (.cells (decl d).cells)) c = some oc := fun c oc h => by rw [upd_ne _ _ (fun e => by rw [e, hb10] at h; cases h)]; exact h
      have yb := nz _ _ zb
      have ym := nz _ _ zm
      have y6 := nz _ _ z6
      have y10 := upd_same z b10 (.cells (decl d).cells)
      have ys : Sub st (upd z b10 (.cells (decl d).cells)) := zs.put (zs.isNone hb10)
      have nm10 : bm ≠ b10 := fun e => by rw [e, hb10] at zm; cases zm
      generalize upd z b10 (.cells (decl d).cells) = y at yb ym y6 y10 ys
      have hdm := List.mem_of_getElem? hx
      try simp [q_load_p y10, q_load_p yb]
      cases hf : d.fam with
      | true =>
        try simp
        rw [W_idx hi (by unfold maxLen; omega)]
        refine kk y ⟨yb, ?_, y6, ys⟩
        rw [take_snoc hx, flagL_snoc, if_pos hf, List.append_nil]
        exact ym
      | false =>
        try simp
        have hty := hr.types d hdm
        rw [hf] at hty
        refine callK_just (Owns.just (h_impl_omittable d.type hty y)) ?_
        try simp [q_load_p y10, q_load_p yb]
        refine mapset_flags ym (flagL_fresh hr.apart hx) ?_
        rw [W_idx hi (by unfold maxLen; omega)]
        refine kk _ ⟨(upd_ne _ _ nbm).trans yb, ?_, (upd_ne _ _ nm6.symm).trans y6, ys.put hmst⟩
        rw [upd_same, take_snoc hx, flagL_snoc, if_neg (by rw [hf]; simp)]
    · rintro z ⟨zb, zm, z6, zs⟩
      rw [List.take_of_length_le (Nat.le_refl _)] at zm
      try simp
      refine hJ _ _ ?_
      refine callK_om (h_impl_omitter_term b bm (flagL sig) t (by omega) o z zb zm) ?_
      rw [lookF_flags hr.apart]
      have hsz := omT_size (flagsOf sig) t o
      have x6 : (upd z b (omO bm (omT (flagsOf sig) t o).2)) b6 = some (.cells [.int .i64 0, .int .i64 0, .str [], .sl 0 true []]) := by rw [upd_ne _ _ nb6.symm]; exact z6
      have xs : Sub st (upd z b (omO bm (omT (flagsOf sig) t o).2)) := zs.put hbst
      generalize upd z b (omO bm (omT (flagsOf sig) t o).2) = x at x6 xs
      refine callK_owns (h_impl_clone_own (omT (flagsOf sig) t o).1 (by omega) x) fun p D s3 hD hT hfr ho => ?_
      have keep : ∀ c oc, x c = some oc → s3 c = some oc := fun c oc hc => by
        rw [ho c (fun h => by rw [hfr c h] at hc; cases hc)]; exact hc
      have g6 := keep _ _ x6
      rw [dropP_yes hz]
      obtain ⟨q, rfl, hTq⟩ := Th.tree.1 hT
      obtain ⟨c1, c2, c3, c4⟩ := th_row_cell hTq
      rw [e_store_p _ _ _ _ _ _ _ g6]
      try simp [c1, c2, c3, c4]
      try simp [q_load_p (upd_same _ _ _)]
      refine Owns.tupInts [0] hD (Th.tree.2 ⟨q, rfl, hTq.frame _ _ _ fun c hc => ?_⟩) (fun c hc => xs.isNone (hfr c hc)) ((xs.trans keep).put hb6)
      have : c ≠ b6 := fun e => by rw [e] at hc; rw [hfr b6 hc] at x6; cases x6
      rw [upd_ne _ _ this]
  clear hJ
  refine callK_just (by simpa using h_impl_SigOK sig _) ?_
  try simp
  cases hg : sigOKT sig with
  | false =>
    rw [hg] at key
    try simp
    simpa using key
  | true =>
    rw [hg] at key
    try simp
    refine callK_just (h_impl_badTerm t _) ?_
    simpa using key
end Go.H.Tryz
/- Contracts: the reference's Omit. -/
set_option linter.unusedVariables false
set_option linter.unusedSimpArgs false
namespace Go.H.Tryz
open Go Go.H

def omS (sig : List Dc) (fl : List Bool) (u : Nat) : HObj := .cells [decls sig, boolsP fl, .int .i64 (u : Int)]
def OmS (sig : List Dc) (fl : List Bool) (b : Nat) (t : Tr) (u : Nat) (st : St) : Res → St → Prop := fun q s =>
  ∃ u' : Nat, q = .ret (tree (omT (flagsOf sig) t (fl.drop u)).1) ∧ s = upd st b (omS sig fl u') ∧ fl.drop u' = (omT (flagsOf sig) t (fl.drop u)).2 ∧ u' ≤ u + Tr.sizes t.kids
theorem callK_omS {P : Program} {g : FuncId} {us : List PV} {st : St} {K Kp : PV → St → Prop} {sig : List Dc} {fl : List Bool} {b u : Nat} {t : Tr} (hc : HCalls P g us st (OmS sig fl b t u st))
    (hk : ∀ u' : Nat, fl.drop u' = (omT (flagsOf sig) t (fl.drop u)).2 → u' ≤ u + Tr.sizes t.kids → K (tree (omT (flagsOf sig) t (fl.drop u)).1) (upd st b (omS sig fl u'))) : callK P g us st K Kp := by
  refine callK_of hc (fun p s h => ?_) (fun p s h => ?_)
  · obtain ⟨u', h1, rfl, h2, h3⟩ := h; cases h1; exact hk u' h2 h3
  · obtain ⟨u', h1, _⟩ := h; cases h1
theorem h_spec_l07Omitter_omit (b : Nat) (sig : List Dc) (hs : SigR sig) (fl : List Bool) (hfl : fl.length ≤ 1000000000) (t : Tr) : t.size ≤ 1000000 → ∀ (u : Nat) (st : St), u + t.size ≤ 1000000000 → st b = some (omS sig fl u) → HCalls prog n_spec_l07Omitter_omit [.ptr b 0, tree t] st (OmS sig fl b t u st) := by
  induction t using Tr.ind with
  | _ t ih =>
    intro hts u st hu hb
    have hb := hb
    unfold omS at hb
    apply c_spec_l07Omitter_omit
    unfold b_spec_l07Omitter_omit
    generalize hR : OmS sig fl b t u st = R
    have hkids := Tr.size_kids t
    have hll := t.kids_len
    have hlen := hs.len
    refine e_box_ref (tree_isJunk _) ?_
    intro b4 hb4
    have nb4 : b ≠ b4 := fun e => by rw [e, hb4] at hb; cases hb
    have eb : (upd st b4 (.cells [.int .i64 0, .int .i64 0, .str [], .sl 0 true []])) b = some (.cells [decls sig, boolsP fl, .int .i64 (u : Int)]) := (upd_ne _ _ nb4).trans hb
    have e4 := upd_same st b4 (.cells [.int .i64 0, .int .i64 0, .str [], .sl 0 true []])
    have har := (Around.refl b st).put hb4 (.cells [.int .i64 0, .int .i64 0, .str [], .sl 0 true []])
    generalize upd st b4 (.cells [.int .i64 0, .int .i64 0, .str [], .sl 0 true []]) = s at eb e4 har
    try simp [q_load_p eb]
    refine callK_just (by simpa using h_spec_l04Find sig t.name (by omega) _) ?_
    try simp
    refine hJ_of fun J hJ => ?_
    generalize hfs : (if t.kind = 6 then flagsOf sig t.name else []) = fs
    have keyJ : ∀ c : Bool, (c = true → ∃ (j : Nat) (hj : j < sig.length), t.kind = 6 ∧ fstOf (named t.name) sig = (j : Int) ∧ declaredT sig t.name false = some sig[j].type) → (c = false → fs = []) → J [.bool c] s := by
      intro c hc1 hc2
      refine hJ _ _ ?_
      clear hJ
      try simp
      refine hJ_of fun J1 hJ1 => ?_
      have main : ∀ fsP, FlagP fs fsP → J1 [fsP] s := by
        intro fsP hfp
        refine hJ1 _ _ ?_
        clear hJ1
        try simp
        refine hJ_of fun J2 hJ2 => ?_
        rw [hfp.len]
        generalize hv : omT (flagsOf sig) t (fl.drop u) = v
        have hv2 := hv
        rw [omT_eq, hfs] at hv
        refine loop_idx (β := PV × St × St × Nat × List Tr × List PV) t.kids (fun z i => [z.1, .int .i64 (i : Int)]) (fun z => z.2.1)
          (fun z i rest => Grow z.2.2.1 4 z.2.2.2.2.2 z.1 z.2.1 ∧ Alike z.2.2.2.2.2 z.2.2.2.2.1 ∧ z.2.2.2.2.1.length = i ∧ z.2.2.1 b = some (.cells [decls sig, boolsP fl, .int .i64 (z.2.2.2.1 : Int)]) ∧ z.2.2.1 b4 = some (.cells [.int .i64 0, .int .i64 0, .str [], .sl 0 true []]) ∧ Around b st z.2.2.1 ∧ z.2.2.2.1 + Tr.sizes rest ≤ u + Tr.sizes t.kids ∧
            z.2.2.2.2.1 ++ (omTs (flagsOf sig) (fs.drop i) rest (fl.drop z.2.2.2.1)).1 = v.1.kids ∧ (omTs (flagsOf sig) (fs.drop i) rest (fl.drop z.2.2.2.1)).2 = v.2) ?_ ?_ (_, s, s, u, [], []) ⟨Grow.nil s 4 4, trivial, rfl, eb, e4, har, Nat.le_refl _, by rw [← hv]; rfl, by rw [← hv]; rfl⟩
        · rintro i x rest ⟨p, s1, S, w, done, acc⟩ hi hx ⟨q0, ql, qd, qb, q4, qa, qu, hq1, hq2⟩ kk
          simp only at q0 ql qd qb q4 qa qu hq1 hq2
          have hal := ql.len
          have hxm := List.mem_of_getElem? hx
          have hxs := Tr.kid_size hxm
          have sc : Tr.sizes (x :: rest) = x.size + Tr.sizes rest := by simp [Tr.sizes]
          have hxk := Tr.size_kids x
          have fb := q0.sub _ _ qb
          try simp [hi]
          refine hJ_of fun J4 hJ4 => ?_
          have key : ∀ c : Bool, (c = true ↔ (fs.drop i).head? = some true) → J4 [.bool c] s1 := by
            intro c hc
            refine hJ4 _ _ ?_
            clear hJ4
            try simp
            refine hJ_of fun J5 hJ5 => ?_
            have rek : ∀ (S' s' : St) (u' : Nat), Grow S' 4 acc p s' → S' b = some (.cells [decls sig, boolsP fl, .int .i64 (u' : Int)]) → S' b4 = some (.cells [.int .i64 0, .int .i64 0, .str [], .sl 0 true []]) → Around b st S' → u' + Tr.sizes x.kids + Tr.sizes rest ≤ u + Tr.sizes t.kids →
                done ++ ((omT (flagsOf sig) x (fl.drop u')).1 :: (omTs (flagsOf sig) (fs.drop (i + 1)) rest (omT (flagsOf sig) x (fl.drop u')).2).1) = v.1.kids → (omTs (flagsOf sig) (fs.drop (i + 1)) rest (omT (flagsOf sig) x (fl.drop u')).2).2 = v.2 → J5 [p] s' := by
              intro S' s' u' w0 wb w4 wa wu h1 h2
              refine hJ5 _ _ ?_
              try simp [ia_tree _ hx]
              refine callK_omS (ih x hxm (by omega) u' s' (by omega) (w0.sub _ _ wb)) fun u2 d1 d2 => ?_
              try simp
              have w1 := w0.store (omS sig fl u2) wb
              refine w1.append (elems_sl _ _ _ _) (by simp; omega) fun p2 s3 w2 => ?_
              rw [W_idx hi (by unfold maxLen; omega)]
              refine kk (p2, s3, upd S' b (omS sig fl u2), u2, done ++ [(omT (flagsOf sig) x (fl.drop u')).1], acc ++ [tree (omT (flagsOf sig) x (fl.drop u')).1]) ⟨w2, ql.same _, by simp; omega, upd_same _ _ _, (upd_ne _ _ nb4.symm).trans w4, wa.draw _, by simp only; omega, ?_, ?_⟩
              · simp only; rw [d1]; simpa using h1
              · simp only; rw [d1]; exact h2
            clear hJ5
            cases c with
            | false =>
              try simp
              have hn : ¬ (fs.drop i).head? = some true := fun h => by have := hc.2 h; cases this
              rw [omTs_go hn, List.tail_drop] at hq1 hq2
              exact rek S s1 w q0 qb q4 qa (by omega) hq1 hq2
            | true =>
              have hh := hc.1 rfl
              have hst : ∀ y : PV, setRange [decls sig, boolsP fl, PV.int .i64 (w : Int)] 2 [y] = [decls sig, boolsP fl, y] := fun _ => rfl
              have tb : takeV false 1 [boolsP fl, PV.int .i64 (w : Int)] = some (boolsP fl) := rfl
              try simp [q_load_p fb]
              rw [wrap64 (by omega) (by omega), e_store_p _ _ _ _ _ _ _ fb]
              try simp [hst]
              refine hJ_of fun J6 hJ6 => ?_
              have w1 := q0.store (.cells [decls sig, boolsP fl, .int .i64 ((w : Int) + 1)]) qb
              have ew : ((w : Int) + 1) = ((w + 1 : Nat) : Int) := by omega
              have xb : (upd S b (.cells [decls sig, boolsP fl, .int .i64 ((w : Int) + 1)])) b = some (.cells [decls sig, boolsP fl, .int .i64 ((w + 1 : Nat) : Int)]) := by rw [upd_same, ew]
              have x4 := (upd_ne S (.cells [decls sig, boolsP fl, .int .i64 ((w : Int) + 1)]) nb4.symm).trans q4
              have xa := qa.draw (.cells [decls sig, boolsP fl, .int .i64 ((w : Int) + 1)])
              have gb := w1.sub _ _ xb
              have key6 : ∀ f : Bool, (f = true ↔ (fl.drop w).head? = some true) → J6 [.bool f] (upd s1 b (.cells [decls sig, boolsP fl, .int .i64 ((w : Int) + 1)])) := by
                intro f hf
                refine hJ6 _ _ ?_
                clear hJ6
                cases f with
                | false =>
                  try simp
                  have hn : ¬ (fl.drop w).head? = some true := fun h => by have := hf.2 h; cases this
                  rw [omTs_keep hh hn, List.tail_drop, List.tail_drop] at hq1 hq2
                  exact rek _ _ (w + 1) w1 xb x4 xa (by omega) hq1 hq2
                | true =>
                  have ho := hf.1 rfl
                  rw [omTs_gap hh ho, List.tail_drop, List.tail_drop] at hq1 hq2
                  rw [show q_struct [PV.int IntKind.i64 0, PV.int IntKind.i64 0, PV.str [], PV.sl 0 true []] [(0, 1, PV.int IntKind.i64 8)] = some gapP from rfl]
                  try simp
                  rw [if_pos ⟨rfl, fun y hy => by simp [gapP, PV.cells] at hy; rcases hy with rfl | rfl | rfl | rfl <;> rfl⟩]
                  simp only [qb_some]
                  refine w1.append (elems_sl _ _ _ _) (by simp; omega) fun p2 s3 w2 => ?_
                  rw [W_idx hi (by unfold maxLen; omega)]
                  refine kk (p2, s3, _, w + 1, done ++ [gap], acc ++ [gapP]) ⟨w2, ql.snoc gap_rx, by simp; omega, xb, x4, xa, by simp only; omega, by simpa using hq1, hq2⟩
              clear hJ6
              try simp [q_load_p (upd_same s1 b (HObj.cells [PV.sl 6 false (List.map decl sig), boolsP fl, PV.int IntKind.i64 ((w : Int) + 1)])), takeV_bools]
              refine br_dec (fun hle => ?_) (fun hle => key6 false (by rw [List.drop_of_length_le (by omega)]; simp))
              rw [wrap64 (n := (w : Int)) (by omega) (by omega)]
              obtain ⟨f, hf⟩ : ∃ f, fl[w]? = some f := ⟨fl[w], List.getElem?_eq_getElem (by omega)⟩
              rw [ia_bool hf]
              try simp
              exact key6 f (by rw [List.head?_drop, hf]; simp)
          clear hJ4
          refine br_dec (fun hif => ?_) (fun hif => key false (by rw [List.drop_of_length_le (by omega)]; simp))
          obtain ⟨f, hf⟩ : ∃ f, fs[i]? = some f := ⟨fs[i], List.getElem?_eq_getElem hif⟩
          rw [hfp.get i f .i64 hf]
          rw [List.head?_drop, hf] at key
          try simp
          exact key f (by simp)
        · rintro ⟨p, s1, S, u2, done, acc⟩ ⟨q0, ql, qd, qb, q4, qa, qu, hq1, hq2⟩
          simp only at q0 ql qd qb q4 qa qu hq1 hq2
          try simp
          refine hJ2 _ _ ?_
          rw [omTs_nil] at hq1 hq2
          simp only [List.append_nil] at hq1 hq2
          try simp
          refine callK_conv (us' := [tree t, trees done]) (st' := S) (Conv.cons (Conv.sub q0.sub) (Conv.trans q0.freeze (Conv.alike ql))) ?_
          refine callK_just (h_spec_l01With t done S) ?_
          rw [e_store_p _ _ _ _ _ _ _ q4]
          try simp
          try simp [q_load_p (upd_same _ _ _)]
          rw [← hR]
          have ev : v = (.mk t.kind t.n t.name done, fl.drop u2) := by
            have h1 : v.1 = .mk t.kind t.n t.name v.1.kids := by rw [← hv]; rfl
            rw [← hq1] at h1
            exact Prod.ext h1 hq2.symm
          have qb2 : (upd S b4 (.cells (tree (.mk t.kind t.n t.name done)).cells)) b = some (omS sig fl u2) := (upd_ne _ _ nb4).trans qb
          have qa2 : Around b st (upd S b4 (.cells (tree (.mk t.kind t.n t.name done)).cells)) := fun c oc hc hst => by
            rw [upd_ne _ _ (fun e => by rw [e, hb4] at hst; cases hst)]
            exact qa c oc hc hst
          have hs0 : Tr.sizes [] = 0 := rfl
          exact retR_sub (qa2.sub qb2) ⟨u2, by rw [hv2, ev], rfl, by rw [hv2, ev], by omega⟩
      clear hJ1
      cases c with
      | false =>
        try simp
        rw [hc2 rfl] at main
        exact main _ ⟨rfl, fun i x k h => by cases h⟩
      | true =>
        obtain ⟨j, hj, h6, hf, hd⟩ := hc1 rfl
        try simp [q_load_p eb]
        rw [hf, ia_decls hj]
        try simp
        refine callK_just (by simpa using h_spec_l07Omittable sig[j].type (declaredT_ok hs hd) _) ?_
        refine main _ ?_
        rw [← hfs, if_pos h6]
        unfold flagsOf
        rw [hd]
        exact ⟨boolsP_len _, fun i x k h => ia_bool h⟩
    clear hJ
    have empt : ∀ (h : declaredT sig t.name false = none ∨ t.kind ≠ 6), fs = [] := fun h => by
      rw [← hfs]
      rcases h with h | h
      · split
        · unfold flagsOf; rw [h]
        · rfl
      · rw [if_neg h]
    refine br_dec (fun h6 => ?_) (fun h6 => keyJ false (by simp) (fun _ => empt (.inr h6)))
    rcases fstOf_cases (named t.name) sig with ⟨e1, e2⟩ | ⟨j, hj, e1, e2, e3⟩
    · have hd : declaredT sig t.name false = none := by unfold declaredT; rw [e2]
      rw [e1]
      try simp
      exact keyJ false (by simp) (fun _ => empt (.inl hd))
    · have hd : declaredT sig t.name false = if sig[j].fam = false then some sig[j].type else none := by unfold declaredT; rw [e3]
      rw [e1]
      refine br_dec (fun _ => ?_) (fun h => by omega)
      try simp [q_load_p eb]
      rw [ia_decls hj]
      try simp
      cases hf : sig[j].fam with
      | true =>
        rw [hf, if_neg (by simp)] at hd
        exact keyJ false (by simp) (fun _ => empt (.inl hd))
      | false =>
        rw [hf, if_pos rfl] at hd
        exact keyJ true (fun _ => ⟨j, hj, h6, e1, hd⟩) (by simp)
end Go.H.Tryz
/- Contracts: the law FnExactOmittable. -/
set_option linter.unusedVariables false
set_option linter.unusedSimpArgs false
namespace Go.H.Tryz
open Go Go.H

end Go.H.Tryz
/- Contracts: the reference's Omit; rows of truth values copied. -/
set_option linter.unusedVariables false
set_option linter.unusedSimpArgs false
namespace Go.H.Tryz
open Go Go.H

theorem h_spec_Omit (sig : List Dc) (t : Tr) (o : List Bool) (hol : o.length ≤ 1000000000) (st : St) : HCalls prog n_spec_Omit [decls sig, tree t, boolsP o] st (Just (dropP sig t o) st) := by
  refine HCalls.wf e_spec_Omit fun hw => ?_
  have hw1 := (decls_wf hw.1).1
  unfold maxLen at hw1
  apply c_spec_Omit
  unfold b_spec_Omit
  refine e_box_ref (tree_isJunk _) ?_
  intro b6 hb6
  have e6 := upd_same st b6 (.cells [.int .i64 0, .int .i64 0, .str [], .sl 0 true []])
  have hsub1 : Sub st (upd st b6 (.cells [.int .i64 0, .int .i64 0, .str [], .sl 0 true []])) := (Sub.refl st).put hb6
  generalize upd st b6 (.cells [.int .i64 0, .int .i64 0, .str [], .sl 0 true []]) = s1 at e6 hsub1
  try simp
  rw [show q_struct [PV.int IntKind.i64 0, PV.int IntKind.i64 0, PV.str [], PV.sl 0 true []] [] = some (.agg [.int .i64 0, .int .i64 0, .str [], .sl 0 true []]) from rfl]
  simp only [qb_some]
  have eb : tree blank = .agg [.int .i64 0, .int .i64 0, .str [], .sl 4 false []] := by rw [tree_eq]; rfl
  have zero : ∀ (s : St), Conv [PV.agg [.int .i64 0, .int .i64 0, .str [], .sl 0 true []]] s [tree blank] s := fun s => eb ▸
    Conv.agg (Conv.cons (Conv.refl _ _) (Conv.cons (Conv.refl _ _) (Conv.cons (Conv.refl _ _) (Conv.sl_to _ 0 4 true [] (.inr rfl))))) rfl rfl
  have no : ∀ (c : Int) (s : St), Sub st s → s b6 = some (.cells [.int .i64 0, .int .i64 0, .str [], .sl 0 true []]) → dropZ sig t o = c → c ≠ 0 →
      e_store s 4 (.ptr b6 0) (.agg [.int .i64 0, .int .i64 0, .str [], .sl 0 true []]) fun s => qb (q_load s true 4 (.ptr b6 0)) fun r => retR (Just (dropP sig t o) st) (.tup [r, .int .i64 c]) s := fun c s hsub h6 hq hc => by
    rw [e_store_p _ _ _ _ _ _ _ h6]
    try simp
    try simp [q_load_p (upd_same _ _ _)]
    rw [dropP_no hq hc]
    exact retR_conv (Conv.trans (Conv.tup (Conv.cons (zero _) (Conv.refl _ _))) (Conv.sub (hsub.put hb6))) ⟨rfl, rfl⟩
  refine hJ_of fun J hJ => ?_
  have key : ∀ c : Bool, (c = true ↔ (sig.length > 4096 ∨ o.length > 4096)) → J [.bool c] s1 := by
    intro c hc
    refine hJ _ _ ?_
    clear hJ
    try simp
    cases c with
    | true =>
      try simp
      exact no 2 _ hsub1 e6 (by unfold dropZ; rw [if_pos (hc.1 rfl)]) (by omega)
    | false =>
      have hl : ¬ (sig.length > 4096 ∨ o.length > 4096) := fun h => by have := hc.2 h; cases this
      try simp
      refine hJ_of fun J1 hJ1 => ?_
      have key1 : J1 [.bool (!(sigOKT sig && t.termOK))] s1 := by
        refine hJ1 _ _ ?_
        clear hJ1
        try simp
        refine br_of (fun g => no 1 _ hsub1 e6 (by unfold dropZ; rw [if_neg hl, if_pos (by cases h1 : sigOKT sig <;> cases h2 : t.termOK <;> simp_all)]) (by omega)) (fun g => ?_)
        have g2 : sigOKT sig = true ∧ t.termOK = true := by cases h1 : sigOKT sig <;> cases h2 : t.termOK <;> simp_all
        have hz : dropZ sig t o = 0 := by unfold dropZ; rw [if_neg hl, if_neg (by rw [g2.1, g2.2]; simp)]
        obtain ⟨hr, hl40⟩ := sigOKT_right g2.1
        obtain ⟨ht, hts⟩ := termOK_of g2.2
        rw [show q_struct [PV.sl 0 true [], PV.sl 0 true [], PV.int IntKind.i64 0] [(0, 1, PV.sl 6 false (List.map decl sig)), (1, 1, boolsP o)] = some (.agg [decls sig, boolsP o, .int .i64 0]) from rfl]
        simp only [qb_some]
        refine e_box_own rfl fun b hb => ?_
        have nb6 : b ≠ b6 := fun e => by rw [e, e6] at hb; cases hb
        refine callK_omS (h_spec_l07Omitter_omit b sig hr o hol t (by omega) 0 _ (by omega) (upd_same _ _ _)) fun u' _ _ => ?_
        have x6 : (upd (upd s1 b (.cells (PV.agg [decls sig, boolsP o, .int .i64 0]).cells)) b (omS sig o u')) b6 = some (.cells [.int .i64 0, .int .i64 0, .str [], .sl 0 true []]) := by rw [upd_ne _ _ nb6.symm, upd_ne _ _ nb6.symm]; exact e6
        have xs : Sub st (upd (upd s1 b (.cells (PV.agg [decls sig, boolsP o, .int .i64 0]).cells)) b (omS sig o u')) := (hsub1.put (hsub1.isNone hb)).put (hsub1.isNone hb)
        generalize upd (upd s1 b (.cells (PV.agg [decls sig, boolsP o, .int .i64 0]).cells)) b (omS sig o u') = x at x6 xs
        rw [e_store_p _ _ _ _ _ _ _ x6]
        try simp
        try simp [q_load_p (upd_same _ _ _)]
        rw [dropP_yes hz]
        exact Just.ret (xs.put hb6)
      clear hJ1
      refine callK_just (by simpa using h_spec_SigOK sig _) ?_
      try simp
      cases hg : sigOKT sig with
      | false =>
        rw [hg] at key1
        try simp
        simpa using key1
      | true =>
        rw [hg] at key1
        try simp
        refine callK_just (h_spec_TermOK t _) ?_
        simpa using key1
  clear hJ
  refine br_dec (fun h => key true (by simp; omega)) (fun h => ?_)
  exact key _ (by simp; omega)
end Go.H.Tryz
