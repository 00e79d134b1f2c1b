/- Part of a proof that the program answers as the reference does: ZFC40, ZFC41, ZFC42, ZFC43, ZFC51, ZFC52. -/
import Derived.Test.YtakcoedklmoboaaGreatDoorHX
import Derived.Test.YtakcoedklmoboaaGreatDoorHY
import Derived.Test.YtakcoedklmoboaaGreatDoorHO
import Derived.Test.YtakcoedklmoboaaGreatDoorHQ
import Derived.Test.YtakcoedklmoboaaGreatDoorHZ
/- Contracts: what the laws write over values that are owned, and read again. -/
set_option linter.unusedVariables false
set_option linter.unusedSimpArgs false
namespace Go.H.Tryz
open Go Go.H

@[simp] theorem set6_2s (a b c d e f x : PV) : setRange [a, b, c, d, e, f] 2 [x] = [a, b, x, d, e, f] := rfl
@[simp] theorem set6_3s (a b c d e f x : PV) : setRange [a, b, c, d, e, f] 3 [x] = [a, b, c, x, e, f] := rfl
@[simp] theorem set6_4s (a b c d e f x : PV) : setRange [a, b, c, d, e, f] 4 [x] = [a, b, c, d, x, f] := rfl
end Go.H.Tryz
/- Contracts: marks that are read again; copies that own all that they reach. -/
set_option linter.unusedVariables false
set_option linter.unusedSimpArgs false
namespace Go.H.Tryz
open Go Go.H

end Go.H.Tryz
/- Contracts: copies that own all that they reach. -/
set_option linter.unusedVariables false
set_option linter.unusedSimpArgs false
namespace Go.H.Tryz
open Go Go.H

theorem th_row_cell {s : St} {ks : List Tr} {q : PV} {D : List Nat} (h : Th s (trees ks) q D) : q.cellOK = true ∧ q.ncells = 1 ∧ q.isJunk = false ∧ q.cells = [q] := by
  rw [trees, Th.row] at h
  rcases h with ⟨_, ⟨e, f, rfl⟩, rfl⟩ | ⟨b, xs, cap, D', rfl, _⟩ <;> exact ⟨rfl, rfl, rfl, rfl⟩
/-! ### The program's copies -/
theorem h_impl_clone_own (t : Tr) (hsz : t.size ≤ 1000000000) (st : St) : HCalls prog n_impl_clone [tree t] st (Owns (tree t) st) := by
  induction t using Tr.ind generalizing st with
  | _ t ih =>
  have hl := t.kids_len
  apply c_impl_clone
  unfold b_impl_clone
  refine e_box_own (tree_isJunk _) fun b1 hb1 => ?_
  intro b2 hb2
  have hne : b1 ≠ b2 := fun e => by rw [← e, upd_same] at hb2; cases hb2
  rw [upd_ne _ _ hne.symm] at hb2
  generalize hs : upd (upd st b1 (.cells (tree t).cells)) b2 (.cells [.int .i64 0, .int .i64 0, .str [], .sl 0 true []]) = s
  have e1 : s b1 = some (.cells (tree t).cells) := by rw [← hs, upd_ne _ _ hne]; exact upd_same _ _ _
  have e2 : s b2 = some (.cells [.int .i64 0, .int .i64 0, .str [], .sl 0 true []]) := by rw [← hs]; exact upd_same _ _ _
  have hsub : Sub st s := by
    rw [← hs]
    refine ((Sub.refl st).put hb1).put hb2
  clear hs
  try simp [q_load_p e1]
  have hall : HCalls prog n_impl_cloneAll [trees t.kids] s (Owns (trees t.kids) s) := by
    apply c_impl_cloneAll
    unfold b_impl_cloneAll
    try simp
    refine loop_idx (β := PV × List Nat × St) t.kids (fun z i => [z.1, .int .i64 (i : Int)]) (fun z => z.2.2) (fun z i rest => Rw s z.2.2 4 ((t.kids.take i).map tree) z.1 z.2.1) ?_ ?_ (_, [], s) (Rw.start (Sub.refl s) 4 4)
    · rintro i x rest ⟨p, D, s1⟩ hi hx q0 kk
      simp only at q0
      try simp [hi, ia_tree _ hx]
      intro b5 hb5
      try simp
      try simp [q_load_p (upd_same _ _ _)]
      have q1 := q0.put hb5 (.cells (tree x).cells)
      generalize upd s1 b5 (.cells (tree x).cells) = s2 at q1
      refine callK_owns (ih x (List.mem_of_getElem? hx) (by have := Tr.kid_size (List.mem_of_getElem? hx); omega) s2) fun y Dx s3 hDx hTx hfx hox => ?_
      have keep : ∀ c o, s2 c = some o → s3 c = some o := fun c o hc => by
        rw [hox c (fun h => by rw [hfx c h] at hc; cases hc)]; exact hc
      have q2 : Rw s s3 4 ((t.kids.take i).map tree) p D := q1.frame (fun c hc => by
        obtain ⟨o, ho⟩ := q1.live hc
        rw [ho]; exact keep c o ho) (q1.sub.trans keep)
      have hy := hTx.elOK (tree_el x)
      obtain ⟨n1, n2, n3⟩ := hTx.ncells
      rw [tree_ncells] at n1
      have hya := hy.2
      rw [List.all_eq_true] at hya
      try simp
      rw [if_pos ⟨n1, hya⟩]
      try simp
      refine q2.append hTx (tree_el x) hDx (fun c hc => q1.sub.isNone (hfx c hc)) (fun c hc h => by obtain ⟨o, ho⟩ := q1.live hc; rw [hfx c h] at ho; cases ho) (elems_sl _ _ _ _) (by simp; omega) fun p2 s4 D2 q3 _ _ => ?_
      rw [W_idx hi (by unfold maxLen; omega)]
      refine kk (p2, D2, s4) ?_
      simp only
      rw [take_snoc hx, List.map_append]
      exact q3
    · rintro ⟨p, D, s1⟩ q0
      simp only at q0
      rw [List.take_of_length_le (Nat.le_refl _)] at q0
      try simp
      exact Owns.row q0
  refine callK_owns (by simpa using hall) fun q D s2 hD hT hf ho => ?_
  have keep : ∀ c o, s c = some o → s2 c = some o := fun c o hc => by
    rw [ho c (fun h => by rw [hf c h] at hc; cases hc)]; exact hc
  have f1 := keep _ _ e1
  have f2 := keep _ _ e2
  obtain ⟨c1, c2, c3, c4⟩ := th_row_cell (by simpa using hT)
  try simp
  rw [e_store_p _ _ _ _ _ _ _ f1]
  try simp [c1, c2, c3, c4]
  try simp [q_load_p (upd_same _ _ _)]
  have g2 : ∀ o, (upd s2 b1 o) b2 = some (.cells [.int .i64 0, .int .i64 0, .str [], .sl 0 true []]) := fun o => by rw [upd_ne _ _ hne.symm]; exact f2
  rw [e_store_p _ _ _ _ _ _ _ (g2 _)]
  try simp [c1]
  try simp [q_load_p (upd_same _ _ _)]
  have nD : ∀ c ∈ D, c ≠ b1 ∧ c ≠ b2 := fun c hc => ⟨(fun e => by rw [e] at hc; rw [hf b1 hc] at e1; cases e1), (fun e => by rw [e] at hc; rw [hf b2 hc] at e2; cases e2)⟩
  refine Owns.ret hD (Th.tree.2 ⟨q, rfl, hT.frame _ _ _ fun c hc => ?_⟩) (fun c hc => hsub.isNone (hf c hc)) ?_
  · rw [upd_ne _ _ (nD c hc).2, upd_ne _ _ (nD c hc).1]
  · exact ((hsub.trans keep).put hb1).put hb2
end Go.H.Tryz
/- Contracts: AddDecl and BuildSig, on both sides. -/
set_option linter.unusedVariables false
set_option linter.unusedSimpArgs false
namespace Go.H.Tryz
open Go Go.H

/-- A row is handed back that is new and that may grow. -/
def RwR (esz : Nat) (xs' : List PV) (st : St) : Res → St → Prop := fun r s => ∃ p D, r = .ret p ∧ Rw st s esz xs' p D ∧ ∀ b, b ∉ D → s b = st b
theorem RwR.ret {st s : St} {esz : Nat} {xs' : List PV} {p : PV} {D : List Nat} (h : Rw st s esz xs' p D) : retR (RwR esz xs' st) p s := by
  refine retR_conv (p' := p) (st' := fun b => if b ∈ D then s b else st b) (Conv.sub fun b o hb => ?_) ⟨p, D, rfl, h.frame (fun b hb => by simp only [if_pos hb]) (fun b o hb => ?_), fun b hb => by simp only [if_neg hb]⟩
  · by_cases hbD : b ∈ D
    · rw [if_pos hbD] at hb; exact hb
    · rw [if_neg hbD] at hb; exact h.sub b o hb
  · have : b ∉ D := fun hd => by rw [h.fresh b hd] at hb; cases hb
    simp only [if_neg this]
    exact hb
theorem RwR.owns {P : Program} {g : FuncId} {us : List PV} {st : St} {esz : Nat} {xs' : List PV} (hc : HCalls P g us st (RwR esz xs' st)) : HCalls P g us st (Owns (.sl esz false xs') st) :=
  hc.mono fun r s h => by
    obtain ⟨p, D, h1, h2, h3⟩ := h
    exact ⟨p, D, h1, h2.nodup, h2.th, h2.fresh, h3⟩
/-- Why a declaration can not stand behind a right signature. -/
def addT (sig : List Dc) (d : Dc) : Fz := if (declT sig d).1 ≠ 0 then declT sig d else if 40 ≤ sig.length then (17, 0) else (0, 0)
theorem h_impl_addFault (sig : List Dc) (hs : SigR sig) (d : Dc) (st : St) : HCalls prog n_impl_addFault [decls sig, decl d] st (Just (haltP (addT sig d)) st) := by
  apply c_impl_addFault
  unfold b_impl_addFault
  generalize hv : addT sig d = v
  unfold addT at hv
  refine e_box_ref (decl_isJunk _) ?_
  intro b4 hb4
  have e4 : ∀ o, (upd st b4 (.cells o)) b4 = some (.cells o) := fun o => upd_same _ _ _
  have hsub : ∀ o, Sub st (upd st b4 o) := fun o => (Sub.refl st).put hb4
  try simp
  refine callK_just (h_impl_declForm d _) ?_
  try simp
  refine br_of (fun g1 => ?_) (fun g1 => ?_)
  rotate_left
  · have hd : declT sig d = (1, 0) := by unfold declT; rw [if_pos g1]
    rw [hd, if_pos (by decide)] at hv
    rw [show q_struct [PV.int IntKind.i64 0, PV.int IntKind.i64 0] [(0, 1, PV.int IntKind.i64 1)] = some (.agg [.int .i64 1, .int .i64 0]) from rfl]
    try simp
    try simp [q_load_p (upd_same _ _ _)]
    rw [← hv]
    exact Just.ret (hsub _)
  · refine callK_just (by simpa using h_impl_has sig hs.len d.name _) ?_
    try simp
    refine br_of (fun g2 => ?_) (fun g2 => ?_)
    · have hd : declT sig d = (6, 0) := by unfold declT; rw [if_neg (by rw [g1]; simp), if_pos g2]
      rw [hd, if_pos (by decide)] at hv
      rw [show q_struct [PV.int IntKind.i64 0, PV.int IntKind.i64 0] [(0, 1, PV.int IntKind.i64 6)] = some (.agg [.int .i64 6, .int .i64 0]) from rfl]
      try simp
      try simp [q_load_p (upd_same _ _ _)]
      rw [← hv]
      exact Just.ret (hsub _)
    · have hd : declT sig d = declFaultT sig d := by unfold declT; rw [if_neg (by rw [g1]; simp), if_neg (by rw [g2]; simp)]
      rw [hd] at hv
      refine callK_just (by simpa using h_impl_declFault sig hs d (form_fk g1) _) ?_
      unfold haltP
      intro b5 hb5
      have n45 : b4 ≠ b5 := fun e => by rw [← e, e4] at hb5; cases hb5
      rw [upd_ne _ _ n45.symm] at hb5
      try simp
      try simp [q_load_p (upd_same _ _ _)]
      have i4 : ∀ o, (upd (upd st b4 (.cells [.int .i64 0, .int .i64 0])) b5 o) b4 = some (.cells [.int .i64 0, .int .i64 0]) := fun o => by rw [upd_ne _ _ n45]; exact e4 _
      have hsub2 : ∀ o o', Sub st (upd (upd (upd st b4 (.cells [.int .i64 0, .int .i64 0])) b5 o) b4 o') := fun o o' => (((Sub.refl st).put hb4).put hb5).put hb4
      refine br_dec (fun g3 => ?_) (fun g3 => ?_)
      · rw [if_neg (by simpa using g3)] at hv
        refine br_dec (fun g4 => ?_) (fun g4 => ?_)
        · rw [if_pos (by omega)] at hv
          rw [show q_struct [PV.int IntKind.i64 0, PV.int IntKind.i64 0] [(0, 1, PV.int IntKind.i64 17)] = some (.agg [.int .i64 17, .int .i64 0]) from rfl]
          simp only [qb_some]
          rw [e_store_p _ _ _ _ _ _ _ (i4 _)]
          try simp
          try simp [q_load_p (upd_same _ _ _)]
          rw [← hv]
          exact Just.ret (hsub2 _ _)
        · rw [if_neg (by omega)] at hv
          rw [show q_struct [PV.int IntKind.i64 0, PV.int IntKind.i64 0] [] = some (.agg [.int .i64 0, .int .i64 0]) from rfl]
          simp only [qb_some]
          rw [e_store_p _ _ _ _ _ _ _ (i4 _)]
          try simp
          try simp [q_load_p (upd_same _ _ _)]
          rw [← hv]
          exact Just.ret (hsub2 _ _)
      · rw [if_pos (by simpa using g3)] at hv
        rw [e_store_p _ _ _ _ _ _ _ (i4 _)]
        try simp
        try simp [q_load_p (upd_same _ _ _)]
        rw [← hv]
        exact Just.ret (hsub2 _ _)
theorem Owns.tupInts {st s : St} {x p : PV} {D : List Nat} (ns : List Int) (hD : D.Nodup) (h : Th s x p D) (hf : ∀ b ∈ D, st b = none) (hs : Sub st s) : retR (Owns (.tup (x :: ns.map (PV.int .i64))) st) (.tup (p :: ns.map (PV.int .i64))) s :=
  Owns.ret hD (Th.tupInts ns h) hf hs
theorem Owns.none {st s : St} {esz e : Nat} (ns : List Int) (hs : Sub st s) : retR (Owns (.tup (.sl esz false [] :: ns.map (PV.int .i64))) st) (.tup (.sl e true [] :: ns.map (PV.int .i64))) s :=
  Owns.tupInts ns (D := []) List.nodup_nil (Th.row.2 (.inl ⟨rfl, ⟨e, true, rfl⟩, rfl⟩)) (by simp) hs
end Go.H.Tryz
/- Contracts: which arguments can be left out. -/
set_option linter.unusedVariables false
set_option linter.unusedSimpArgs false
namespace Go.H.Tryz
open Go Go.H

theorem Rw.bool {st s : St} {xs' : List PV} {p : PV} {D : List Nat} {b : Bool} {v : PV} {K : PV → St → Prop} (h : Rw st s 1 xs' p D) (hv : elems s 1 v = some [.bool b]) (hb : (xs'.length + 1) * 1 ≤ 140737488355328)
    (hk : ∀ p2 s2 D2, Rw st s2 1 (xs' ++ [.bool b]) p2 D2 → (∀ c o, s c = some o → c ∉ D → s2 c = some o) → (∀ c, c ∈ D2 → c ∈ D ∨ s c = none) → K p2 s2) : e_append s 1 1 p v K :=
  h.append (y' := .bool b) (y := .bool b) (Dy := []) (by simp [Th]) (bool_el b) List.nodup_nil (by simp) (by simp) hv hb fun p2 s2 D2 h1 h2 h3 =>
    hk p2 s2 D2 h1 (fun c o a b => h2 c o a b (by simp)) (fun c hc => (h3 c hc).imp id (fun h => by simpa using h))
end Go.H.Tryz
/- Contracts: Omittable, on both sides. -/
set_option linter.unusedVariables false
set_option linter.unusedSimpArgs false
namespace Go.H.Tryz
open Go Go.H

theorem h_impl_longText0 (n : List UInt8) (st : St) : HCalls prog n_impl_longText [.str n] st (Just (.bool (decide (n.length > 65536))) st) := by
  apply c_impl_longText
  unfold b_impl_longText
  try simp
  exact Just.bool (by simp; omega) (Sub.refl _)
end Go.H.Tryz
