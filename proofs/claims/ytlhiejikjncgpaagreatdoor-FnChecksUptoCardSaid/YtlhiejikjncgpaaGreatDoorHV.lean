/- Part of a proof that the program answers as the reference does: EFC40, EFC41, EFC42, EFC43, EFC48. -/
import Derived.Test.YtlhiejikjncgpaaGreatDoorHY
import Derived.Test.YtlhiejikjncgpaaGreatDoorHO
import Derived.Test.YtlhiejikjncgpaaGreatDoorHZ
/- Contracts: what the laws write over values that are owned, and read again. -/
set_option linter.unusedVariables false
set_option linter.unusedSimpArgs false
namespace Go.H.Tryz
open Go Go.H

@[simp] theorem set6_2s (a b c d e f x : PV) : setRange [a, b, c, d, e, f] 2 [x] = [a, b, x, d, e, f] := rfl
@[simp] theorem set6_3s (a b c d e f x : PV) : setRange [a, b, c, d, e, f] 3 [x] = [a, b, c, x, e, f] := rfl
@[simp] theorem set6_4s (a b c d e f x : PV) : setRange [a, b, c, d, e, f] 4 [x] = [a, b, c, d, x, f] := rfl
end Go.H.Tryz
/- Contracts: marks that are read again; copies that own all that they reach. -/
set_option linter.unusedVariables false
set_option linter.unusedSimpArgs false
namespace Go.H.Tryz
open Go Go.H

end Go.H.Tryz
/- Contracts: copies that own all that they reach. -/
set_option linter.unusedVariables false
set_option linter.unusedSimpArgs false
namespace Go.H.Tryz
open Go Go.H

theorem th_row_cell {s : St} {ks : List Tr} {q : PV} {D : List Nat} (h : Th s (trees ks) q D) : q.cellOK = true ∧ q.ncells = 1 ∧ q.isJunk = false ∧ q.cells = [q] := by
  rw [trees, Th.row] at h
  rcases h with ⟨_, ⟨e, f, rfl⟩, rfl⟩ | ⟨b, xs, cap, D', rfl, _⟩ <;> exact ⟨rfl, rfl, rfl, rfl⟩
/-! ### The program's copies -/
theorem h_impl_clone_own (t : Tr) (hsz : t.size ≤ 1000000000) (st : St) : HCalls prog n_impl_clone [tree t] st (Owns (tree t) st) := by
  induction t using Tr.ind generalizing st with
  | _ t ih =>
  have hl := t.kids_len
  apply c_impl_clone
  unfold b_impl_clone
  refine e_box_own (tree_isJunk _) fun b1 hb1 => ?_
  intro b2 hb2
  have hne : b1 ≠ b2 := fun e => by rw [← e, upd_same] at hb2; cases hb2
  rw [upd_ne _ _ hne.symm] at hb2
  generalize hs : upd (upd st b1 (.cells (tree t).cells)) b2 (.cells [.int .i64 0, .int .i64 0, .str [], .sl 0 true []]) = s
  have e1 : s b1 = some (.cells (tree t).cells) := by rw [← hs, upd_ne _ _ hne]; exact upd_same _ _ _
  have e2 : s b2 = some (.cells [.int .i64 0, .int .i64 0, .str [], .sl 0 true []]) := by rw [← hs]; exact upd_same _ _ _
  have hsub : Sub st s := by
    rw [← hs]
    refine ((Sub.refl st).put hb1).put hb2
  clear hs
  try simp [q_load_p e1]
  have hall : HCalls prog n_impl_cloneAll [trees t.kids] s (Owns (trees t.kids) s) := by
    apply c_impl_cloneAll
    unfold b_impl_cloneAll
    try simp
    refine loop_idx (β := PV × List Nat × St) t.kids (fun z i => [z.1, .int .i64 (i : Int)]) (fun z => z.2.2) (fun z i rest => Rw s z.2.2 4 ((t.kids.take i).map tree) z.1 z.2.1) ?_ ?_ (_, [], s) (Rw.start (Sub.refl s) 4 4)
    · rintro i x rest ⟨p, D, s1⟩ hi hx q0 kk
      simp only at q0
      try simp [hi, ia_tree _ hx]
      intro b5 hb5
      try simp
      try simp [q_load_p (upd_same _ _ _)]
      have q1 := q0.put hb5 (.cells (tree x).cells)
      generalize upd s1 b5 (.cells (tree x).cells) = s2 at q1
      refine callK_owns (ih x (List.mem_of_getElem? hx) (by have := Tr.kid_size (List.mem_of_getElem? hx); omega) s2) fun y Dx s3 hDx hTx hfx hox => ?_
      have keep : ∀ c o, s2 c = some o → s3 c = some o := fun c o hc => by
        rw [hox c (fun h => by rw [hfx c h] at hc; cases hc)]; exact hc
      have q2 : Rw s s3 4 ((t.kids.take i).map tree) p D := q1.frame (fun c hc => by
        obtain ⟨o, ho⟩ := q1.live hc
        rw [ho]; exact keep c o ho) (q1.sub.trans keep)
      have hy := hTx.elOK (tree_el x)
      obtain ⟨n1, n2, n3⟩ := hTx.ncells
      rw [tree_ncells] at n1
      have hya := hy.2
      rw [List.all_eq_true] at hya
      try simp
      rw [if_pos ⟨n1, hya⟩]
      try simp
      refine q2.append hTx (tree_el x) hDx (fun c hc => q1.sub.isNone (hfx c hc)) (fun c hc h => by obtain ⟨o, ho⟩ := q1.live hc; rw [hfx c h] at ho; cases ho) (elems_sl _ _ _ _) (by simp; omega) fun p2 s4 D2 q3 _ _ => ?_
      rw [W_idx hi (by unfold maxLen; omega)]
      refine kk (p2, D2, s4) ?_
      simp only
      rw [take_snoc hx, List.map_append]
      exact q3
    · rintro ⟨p, D, s1⟩ q0
      simp only at q0
      rw [List.take_of_length_le (Nat.le_refl _)] at q0
      try simp
      exact Owns.row q0
  refine callK_owns (by simpa using hall) fun q D s2 hD hT hf ho => ?_
  have keep : ∀ c o, s c = some o → s2 c = some o := fun c o hc => by
    rw [ho c (fun h => by rw [hf c h] at hc; cases hc)]; exact hc
  have f1 := keep _ _ e1
  have f2 := keep _ _ e2
  obtain ⟨c1, c2, c3, c4⟩ := th_row_cell (by simpa using hT)
  try simp
  rw [e_store_p _ _ _ _ _ _ _ f1]
  try simp [c1, c2, c3, c4]
  try simp [q_load_p (upd_same _ _ _)]
  have g2 : ∀ o, (upd s2 b1 o) b2 = some (.cells [.int .i64 0, .int .i64 0, .str [], .sl 0 true []]) := fun o => by rw [upd_ne _ _ hne.symm]; exact f2
  rw [e_store_p _ _ _ _ _ _ _ (g2 _)]
  try simp [c1]
  try simp [q_load_p (upd_same _ _ _)]
  have nD : ∀ c ∈ D, c ≠ b1 ∧ c ≠ b2 := fun c hc => ⟨(fun e => by rw [e] at hc; rw [hf b1 hc] at e1; cases e1), (fun e => by rw [e] at hc; rw [hf b2 hc] at e2; cases e2)⟩
  refine Owns.ret hD (Th.tree.2 ⟨q, rfl, hT.frame _ _ _ fun c hc => ?_⟩) (fun c hc => hsub.isNone (hf c hc)) ?_
  · rw [upd_ne _ _ (nD c hc).2, upd_ne _ _ (nD c hc).1]
  · exact ((hsub.trans keep).put hb1).put hb2
end Go.H.Tryz
/- Contracts: AddDecl and BuildSig, on both sides. -/
set_option linter.unusedVariables false
set_option linter.unusedSimpArgs false
namespace Go.H.Tryz
open Go Go.H

/-- A row is handed back that is new and that may grow. -/
def RwR (esz : Nat) (xs' : List PV) (st : St) : Res → St → Prop := fun r s => ∃ p D, r = .ret p ∧ Rw st s esz xs' p D ∧ ∀ b, b ∉ D → s b = st b
theorem RwR.ret {st s : St} {esz : Nat} {xs' : List PV} {p : PV} {D : List Nat} (h : Rw st s esz xs' p D) : retR (RwR esz xs' st) p s := by
  refine retR_conv (p' := p) (st' := fun b => if b ∈ D then s b else st b) (Conv.sub fun b o hb => ?_) ⟨p, D, rfl, h.frame (fun b hb => by simp only [if_pos hb]) (fun b o hb => ?_), fun b hb => by simp only [if_neg hb]⟩
  · by_cases hbD : b ∈ D
    · rw [if_pos hbD] at hb; exact hb
    · rw [if_neg hbD] at hb; exact h.sub b o hb
  · have : b ∉ D := fun hd => by rw [h.fresh b hd] at hb; cases hb
    simp only [if_neg this]
    exact hb
theorem RwR.owns {P : Program} {g : FuncId} {us : List PV} {st : St} {esz : Nat} {xs' : List PV} (hc : HCalls P g us st (RwR esz xs' st)) : HCalls P g us st (Owns (.sl esz false xs') st) :=
  hc.mono fun r s h => by
    obtain ⟨p, D, h1, h2, h3⟩ := h
    exact ⟨p, D, h1, h2.nodup, h2.th, h2.fresh, h3⟩
theorem Owns.tupInts {st s : St} {x p : PV} {D : List Nat} (ns : List Int) (hD : D.Nodup) (h : Th s x p D) (hf : ∀ b ∈ D, st b = none) (hs : Sub st s) : retR (Owns (.tup (x :: ns.map (PV.int .i64))) st) (.tup (p :: ns.map (PV.int .i64))) s :=
  Owns.ret hD (Th.tupInts ns h) hf hs
theorem Owns.none {st s : St} {esz e : Nat} (ns : List Int) (hs : Sub st s) : retR (Owns (.tup (.sl esz false [] :: ns.map (PV.int .i64))) st) (.tup (.sl e true [] :: ns.map (PV.int .i64))) s :=
  Owns.tupInts ns (D := []) List.nodup_nil (Th.row.2 (.inl ⟨rfl, ⟨e, true, rfl⟩, rfl⟩)) (by simp) hs
end Go.H.Tryz
/- Contracts: Synth, on both sides. -/
set_option linter.unusedVariables false
set_option linter.unusedSimpArgs false
namespace Go.H.Tryz
open Go Go.H

def blank : Tr := .mk 0 0 [] []
/-- The family of a term, or what stands against it. -/
def synthC (sig : List Dc) (ctx : List Tr) (t : Tr) : Fz ⊕ Tr := if t.kind = 4 then .inl (9, 0) else (foundC (termC sig 900000 ctx) sig ctx t 0 0).1
def synthF (sig : List Dc) (ctx : List Tr) (t : Tr) : Fz := match synthC sig ctx t with | .inl e => e | .inr _ => (0, 0)
def synthZ (sig : List Dc) (ctx : List Tr) (t : Tr) : Fz := checkedT sig ctx t.termOK (synthF sig ctx t)
def synthT (sig : List Dc) (ctx : List Tr) (t : Tr) : Tr := if (synthZ sig ctx t).1 = 0 then (match synthC sig ctx t with | .inr a => a | .inl _ => blank) else blank
def synthP (sig : List Dc) (ctx : List Tr) (t : Tr) : PV := .tup (tree (synthT sig ctx t) :: [(synthZ sig ctx t).1, (synthZ sig ctx t).2].map (PV.int .i64))
theorem synthP_no {sig : List Dc} {ctx : List Tr} {t : Tr} {c p : Int} (h : synthZ sig ctx t = (c, p)) (hc : c ≠ 0) : synthP sig ctx t = .tup (tree blank :: [c, p].map (PV.int .i64)) := by
  unfold synthP synthT
  rw [h, if_neg hc]
theorem synthP_yes {sig : List Dc} {ctx : List Tr} {t a : Tr} (hl : ¬ (sig.length > 4096 ∨ ctx.length > 4096)) (h1 : (ctxOKT sig ctx && t.termOK) = true) (h : synthC sig ctx t = .inr a) : synthP sig ctx t = .tup (tree a :: [0, 0].map (PV.int .i64)) := by
  have e : synthZ sig ctx t = (0, 0) := by
    unfold synthZ checkedT synthF
    rw [if_neg hl, if_neg (by rw [h1]; simp), h]
  unfold synthP synthT
  rw [e, if_pos rfl, h]
theorem zero_th (s : St) : Th s (tree blank) (.agg [.int .i64 0, .int .i64 0, .str [], .sl 0 true []]) [] :=
  Th.tree.2 ⟨.sl 0 true [], rfl, Th.row.2 (.inl ⟨rfl, ⟨0, true, rfl⟩, rfl⟩)⟩
theorem synth_fine {sig : List Dc} {ctx : List Tr} {t : Tr} (hs : SigR sig) (hc : ∀ a ∈ ctx, FF a) (ht : t.isTerm false = true) (hts : t.size ≤ 900000) (hk4 : t.kind ≠ 4) :
    CntOK (foundC (termC sig 900000 ctx) sig ctx t 0 0) 0 ∧ ∀ b, (foundC (termC sig 900000 ctx) sig ctx t 0 0).1 = .inr b → FF b ∧ b.kind = 3 :=
  foundC_fine hs hc ht hk4 hts (by omega) (by omega) (fun x hx b p s' hb p1 p2 => termC_fine hs 900000 ctx x b p s' hc (Tr.kids_lams ht hx) (by have := Tr.kid_size hx; omega) hb (by omega) p2)
/-- How the work on a term ends: its family is stored, or what stands against it is told. -/
def SynQ (sig : List Dc) (ctx : List Tr) (t : Tr) (b9 : Nat) (s1 : St) (c p : Int) (st' : St) : Prop :=
  (∃ a, synthC sig ctx t = .inr a ∧ c = 0 ∧ p = 0 ∧ st' = upd s1 b9 (.cells (tree a).cells)) ∨ ∃ e, synthC sig ctx t = .inl e ∧ e = (c, p) ∧ c ≠ 0 ∧ st' = s1
theorem h_impl_Synth (sig : List Dc) (ctx : List Tr) (t : Tr) (st : St) : HCalls prog n_impl_Synth [decls sig, trees ctx, tree t] st (Owns (synthP sig ctx t) st) := by
  apply c_impl_Synth
  unfold b_impl_Synth
  refine e_box_ref rfl ?_
  refine e_box_ref (tree_isJunk _) ?_
  intro b6 hb6
  rw [show q_struct [PV.int IntKind.i64 0, PV.int IntKind.i64 0, PV.str [], PV.sl 0 true []] [] = some (.agg [.int .i64 0, .int .i64 0, .str [], .sl 0 true []]) from rfl]
  simp only [qb_some]
  intro b9 hb9
  have n69 : b6 ≠ b9 := fun e => by rw [← e, upd_same] at hb9; cases hb9
  rw [upd_ne _ _ n69.symm] at hb9
  rw [e_store_p _ _ _ _ _ _ _ (upd_same _ _ _)]
  try simp
  generalize hs1 : upd (upd st b6 (.cells [.int .i64 0, .int .i64 0, .str [], .sl 0 true []])) b9 (.cells [.int .i64 0, .int .i64 0, .str [], .sl 0 true []]) = s1
  have hsub1 : Sub st s1 := by rw [← hs1]; exact ((Sub.refl st).put hb6).put hb9
  have e6 : s1 b6 = some (.cells [.int .i64 0, .int .i64 0, .str [], .sl 0 true []]) := by rw [← hs1, upd_ne _ _ n69]; exact upd_same _ _ _
  have e9 : s1 b9 = some (.cells [.int .i64 0, .int .i64 0, .str [], .sl 0 true []]) := by rw [← hs1]; exact upd_same _ _ _
  have no : ∀ (c p : Int) (s : St), Sub st s → s b6 = some (.cells [.int .i64 0, .int .i64 0, .str [], .sl 0 true []]) → st b6 = none → synthZ sig ctx t = (c, p) → c ≠ 0 →
      e_store s 4 (.ptr b6 0) (.agg [.int .i64 0, .int .i64 0, .str [], .sl 0 true []]) fun s => qb (q_load s true 4 (.ptr b6 0)) fun r => retR (Owns (synthP sig ctx t) st) (.tup [r, .int .i64 c, .int .i64 p]) s := fun c p s hsub h6 hn hq hc => by
    rw [e_store_p _ _ _ _ _ _ _ h6]
    try simp
    try simp [q_load_p (upd_same _ _ _)]
    rw [synthP_no hq hc]
    exact Owns.tupInts [c, p] List.nodup_nil (zero_th _) (by simp) (hsub.put hn)
  refine callK_of (h_impl_checked sig ctx n_impl_Synth_1 n_impl_Synth_2 [.ref (tree t).cells] [.ref (tree t).cells, .ref [trees ctx], .ptr b9 0] t.termOK
    (SynQ sig ctx t b9 s1) s1 (fun _ => ?_) (fun hc hf s b5 hsub h5n h5 => ?_)) (fun q s h => ?_) (fun q s h => ?_)
  · apply c_impl_Synth_1
    unfold b_impl_Synth_1
    try simp
    refine callK_just (h_impl_TermOK t _) ?_
    exact Just.ret (Sub.refl _)
  · apply c_impl_Synth_2
    unfold b_impl_Synth_2
    obtain ⟨h1, h2, h3, h4⟩ := ctxOKT_right hc
    obtain ⟨ht, hts⟩ := termOK_of hf
    have n59 : b5 ≠ b9 := fun e => by rw [e, e9] at h5n; cases h5n
    have n56 : b5 ≠ b6 := fun e => by rw [e, e6] at h5n; cases h5n
    try simp
    refine hJ_of fun J hJ => ?_
    refine br_dec (fun hk4 => ?_) (fun hk4 => ?_)
    · have e : synthC sig ctx t = .inl (9, 0) := by unfold synthC; rw [if_pos hk4]
      refine callK_stops (h_impl_stop 9 0 (by omega) _) (fun h => by omega) (fun _ => panR_same ⟨9, 0, s1, .inr ⟨(9, 0), e, rfl, by omega, rfl⟩, hsub, fun b hb => hb, fun _ _ _ => rfl, .inr ⟨by omega, rfl⟩⟩)
    · refine hJ _ _ ?_
      have hfine := synth_fine h1 h2 ht (by omega) hk4
      have hfT : TermOKc b5 sig ctx (termC sig 900000 ctx) t.kids := fun x hx c p k s hc q0 q1 q2 q3 q4 => ⟨h_impl_checker_term b5 sig h1 900000 ctx x c p k (by omega) h2 (Tr.kids_lams ht hx) (by have := Tr.kid_size hx; omega) (by have := Tr.kid_size hx; omega) hc q0 q1 q2 q3 s q4, termC_fine h1 900000 ctx x c p k h2 (Tr.kids_lams ht hx) (by have := Tr.kid_size hx; omega) hc q2 q3⟩
      try simp
      refine callK_halts (h_impl_checker_found b5 sig h1 ctx h2 (by omega) (termC sig 900000 ctx) t hfT ht hk4 (by omega) 0 0 (by omega) (by omega) (by omega) (by omega) s h5) (fun a k hr => ?_) (fun c p k hr => ?_)
      · have e : synthC sig ctx t = .inr a := by unfold synthC; rw [if_neg hk4, hr]
        have f9 : (upd s b5 (ckr sig k)) b9 = some (.cells [.int .i64 0, .int .i64 0, .str [], .sl 0 true []]) := by rw [upd_ne _ _ n59.symm]; exact hsub _ _ e9
        rw [e_store_p _ _ _ _ _ _ _ f9]
        try simp
        refine retR_same ⟨0, 0, upd s1 b9 (.cells (tree a).cells), .inl ⟨a, e, rfl, rfl, rfl⟩, fun b o hb => ?_, fun b hb => ?_, fun b hb hbn => ?_, .inl ⟨rfl, rfl, rfl⟩⟩
        · by_cases hb9 : b = b9
          · subst hb9; rw [upd_same] at hb ⊢; exact hb
          · rw [upd_ne _ _ hb9] at hb ⊢
            have : b ≠ b5 := fun e => by rw [e, h5n] at hb; cases hb
            rw [upd_ne _ _ this]
            exact hsub _ _ hb
        · have : b ≠ b9 := fun e => by rw [e, e9] at hb; cases hb
          rw [upd_ne _ _ this]; exact hb
        · have : b ≠ b9 := fun e => by rw [e, e9] at hbn; cases hbn
          rw [upd_ne _ _ this, upd_ne _ _ hb]
      · have e : synthC sig ctx t = .inl (c, p) := by unfold synthC; rw [if_neg hk4, hr]
        have hc0 : c ≠ 0 := by have := hfine.1; rw [hr] at this; exact this.2.2.1 _ rfl
        refine panR_same ⟨c, p, s1, .inr ⟨(c, p), e, rfl, hc0, rfl⟩, fun b o hb => ?_, fun b hb => hb, fun b hb hbn => upd_ne _ _ hb, .inr ⟨hc0, rfl⟩⟩
        have : b ≠ b5 := fun e => by rw [e, h5n] at hb; cases hb
        rw [upd_ne _ _ this]
        exact hsub _ _ hb
  · unfold ChkR at h
    split at h
    · rename_i hl
      obtain ⟨rfl, h⟩ := h
      cases h
      try simp
      exact no 2 0 _ hsub1 e6 hb6 (by unfold synthZ checkedT; rw [if_pos hl]) (by omega)
    · rename_i hl
      split at h
      · rename_i hl2
        obtain ⟨rfl, h⟩ := h
        cases h
        try simp
        exact no 1 0 _ hsub1 e6 hb6 (by unfold synthZ checkedT; rw [if_neg hl, if_pos hl2]) (by omega)
      · rename_i hl2
        obtain ⟨c, p, hq, h⟩ := h
        cases h
        rcases hq with ⟨a, ha, rfl, rfl, rfl⟩ | ⟨e, he, rfl, hc0, rfl⟩
        · have hl3 : (ctxOKT sig ctx && t.termOK) = true := by simpa using hl2
          rw [synthP_yes hl hl3 ha]
          rw [Bool.and_eq_true] at hl3
          obtain ⟨h1, h2, h3, h4⟩ := ctxOKT_right hl3.1
          obtain ⟨ht, hts⟩ := termOK_of hl3.2
          have hk4 : t.kind ≠ 4 := fun hk => by unfold synthC at ha; rw [if_pos hk] at ha; cases ha
          have hasz := ((synth_fine h1 h2 ht (by omega) hk4).2 a (by unfold synthC at ha; rw [if_neg hk4] at ha; exact ha)).1.2
          try simp
          try simp [q_load_p (upd_same _ _ _)]
          generalize hs2 : upd s1 b9 (.cells (tree a).cells) = s2
          have n6 : st b9 = none := hb9
          have hsub2 : Sub st s2 := by rw [← hs2]; exact hsub1.put n6
          have f6 : s2 b6 = some (.cells [.int .i64 0, .int .i64 0, .str [], .sl 0 true []]) := by rw [← hs2, upd_ne _ _ n69]; exact e6
          refine callK_owns (h_impl_clone_own a (by omega) s2) fun p D s3 hD hT hfr ho => ?_
          have keep : ∀ c o, s2 c = some o → s3 c = some o := fun c o hc => by
            rw [ho c (fun h => by rw [hfr c h] at hc; cases hc)]; exact hc
          have g6 := keep _ _ f6
          obtain ⟨q, rfl, hTq⟩ := Th.tree.1 hT
          obtain ⟨c1, c2, c3, c4⟩ := th_row_cell hTq
          rw [e_store_p _ _ _ _ _ _ _ g6]
          try simp [c1, c2, c3, c4]
          try simp [q_load_p (upd_same _ _ _)]
          refine Owns.tupInts [0, 0] hD (Th.tree.2 ⟨q, rfl, hTq.frame _ _ _ fun c hc => ?_⟩) (fun c hc => hsub2.isNone (hfr c hc)) ((hsub2.trans keep).put hb6)
          have : c ≠ b6 := fun e => by rw [e] at hc; rw [hfr b6 hc] at f6; cases f6
          rw [upd_ne _ _ this]
        · simp
          rw [decide_eq_false hc0, br_false]
          exact no c p _ hsub1 e6 hb6 (by unfold synthZ checkedT; rw [if_neg hl, if_neg hl2]; unfold synthF; rw [he]) hc0
  · unfold ChkR at h
    split at h
    · obtain ⟨_, h⟩ := h; cases h
    · split at h
      · obtain ⟨_, h⟩ := h; cases h
      · obtain ⟨c, p, _, h⟩ := h; cases h
end Go.H.Tryz
