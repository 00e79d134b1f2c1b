/- Part of a proof that the program answers as the reference does: FC60, FC61, FC62, FC63, FC64. -/
import Derived.Test.YtemgbochnkpihaaGreatDoorHY
import Derived.Test.YtemgbochnkpihaaGreatDoorHQ
import Derived.Test.YtemgbochnkpihaaGreatDoorHZ
import Derived.Test.YtemgbochnkpihaaGreatDoorHV
/- Contracts: marks of typed constants. -/
set_option linter.unusedVariables false
set_option linter.unusedSimpArgs false
namespace Go.H.Tryz
open Go Go.H

theorem set5_0z (a b c d e x : PV) : setRange [a, b, c, d, e] 0 [x] = [x, b, c, d, e] := rfl
theorem set5_1z (a b c d e x : PV) : setRange [a, b, c, d, e] 1 [x] = [a, x, c, d, e] := rfl
theorem set5_2z (a b c d e x : PV) : setRange [a, b, c, d, e] 2 [x] = [a, b, x, d, e] := rfl
theorem set5_3z (a b c d e x : PV) : setRange [a, b, c, d, e] 3 [x] = [a, b, c, x, e] := rfl
theorem h_laws_markTypedS (ds : List Ty) (k : Int) (p : PV) (D : List Nat) (st : St) (hk : 0 ≤ k) (hb : k + Ty.reaches ds ≤ 1000000000000) (hD : D.Nodup) (hT : Th st (typeds ds) p D) :
    HCalls prog n_laws_markTypedS [p, .int .i64 k] st (MarkR p D (typeds (markYs ds k).1) (.int .i64 (markYs ds k).2) st) := by
  apply c_laws_markTypedS
  unfold b_laws_markTypedS
  generalize hv : markYs ds k = v
  have hT2 := hT
  rw [typeds, Th.row] at hT
  rcases hT with ⟨h0, ⟨e, f, rfl⟩, rfl⟩ | ⟨b, xs, cap, D', rfl, hbb, hx, rfl, hel⟩
  · have hts : ds = [] := by simpa using h0
    subst hts
    rw [markYs] at hv
    subst hv
    refine hFix_unroll ?_
    try simp
    exact retR_same ⟨rfl, hT2, fun _ _ => rfl⟩
  · simp
    rw [List.nodup_cons] at hD
    have hll := reach_lenY ds
    refine loop_idx (β := Int × List Ty × List PV × St) ds (fun z i => [.int .i64 z.1, .int .i64 (i : Int)]) (fun z => z.2.2.2)
      (fun z i rest => z.2.1.length = i ∧ z.2.2.2 b = some (.vec 5 z.2.2.1 cap) ∧ Ths z.2.2.2 ((z.2.1 ++ rest).map typed) z.2.2.1 D' ∧ (∀ c, c ∉ b :: D' → z.2.2.2 c = st c) ∧ 0 ≤ z.1 ∧ z.1 + Ty.reaches rest ≤ 1000000000000 ∧ z.2.1 ++ (markYs rest z.1).1 = v.1 ∧ (markYs rest z.1).2 = v.2) ?_ ?_ (k, [], xs, st) ⟨rfl, hbb, by simpa using hx, fun _ _ => rfl, hk, hb, by rw [hv]; simp, by rw [hv]⟩
    · rintro i x rest ⟨k, done, xs, s⟩ hi hxi ⟨hdl, hbs, hxs, hoff, hk, hb, hq1, hq2⟩ kk
      simp only at hdl hbs hxs hoff hk hb hq1 hq2
      simp only [List.map_append, List.map_cons] at hxs
      obtain ⟨ys1, y, ys2, D1, Dx, D2, rfl, rfl, hyl, g1, g2, g3⟩ := Ths.split hxs
      simp only [List.length_map] at hyl
      obtain ⟨q, rfl, hTq⟩ := Th.typed.1 g2
      have eil : ys1.length = i := by omega
      simp only [List.nodup_append, List.mem_append] at hD
      obtain ⟨hbD, hD1, ⟨hDx, hD2, hx2⟩, h1x⟩ := hD
      have hsz : Ty.reaches (x :: rest) = x.reach + Ty.reaches rest := by simp [Ty.reaches]
      have hxr : x.reach = 4 + 3 * Tr.sizes x.type.kids := rfl
      rw [hsz] at hb
      rw [markYs] at hq1 hq2
      simp only at hq1 hq2
      try simp [hi]
      refine callK_just (h_laws_markText _ (by omega) _) ?_
      try simp
      refine e_store_part hbs (by rw [← eil]; exact get_mid _ _ _) rfl rfl rfl (by simp [set5_0z, set5_1z, set5_2z, set5_3z]) ?_
      rw [← eil, set_mid, wrap64 (by omega) (by omega)]
      refine e_store_part (upd_same _ _ _) (get_mid _ _ _) rfl rfl rfl (by simp [set5_0z, set5_1z, set5_2z, set5_3z]) ?_
      rw [set_mid, wrap64 (by omega) (by omega)]
      try simp
      refine e_store_part (upd_same _ _ _) (get_mid _ _ _) rfl rfl rfl (by simp [set5_0z, set5_1z, set5_2z, set5_3z]) ?_
      rw [set_mid, wrap64 (by omega) (by omega)]
      try simp
      refine callK_just (h_laws_markText _ (by omega) _) ?_
      try simp
      refine e_store_part (upd_same _ _ _) (get_mid _ _ _) rfl rfl rfl (by simp [set5_0z, set5_1z, set5_2z, set5_3z]) ?_
      rw [set_mid, wrap64 (by omega) (by omega)]
      try simp
      rw [q_load_e (upd_same _ _ _) (get_mid _ _ _)]
      have cells5 : ∀ (a b c d f x0 x1 x2 x3 : PV), setRange (setRange (setRange (setRange [a, b, c, d, f] 0 [x0]) 1 [x1]) 2 [x2]) 3 [x3] = [x0, x1, x2, x3, f] := fun _ _ _ _ _ _ _ _ _ => rfl
      try simp only [set5_0z, set5_1z, set5_2z, set5_3z]
      have eqc : ∀ a b c d f : PV, (PV.agg [a, b, c, d, f]).cells.drop 4 = [f] := fun _ _ _ _ _ => rfl
      rw [eqc, row_take hTq]
      simp only [qb_some]
      generalize hs3 : upd s b (.vec 5 (ys1 ++ PV.agg [.str (mtext k), .int .i64 (k + 1), .int .i64 (k + 1 + 1), .str (mtext (k + 1 + 1 + 1)), q] :: ys2) cap) = s3
      have hb3 : s3 b = some (.vec 5 (ys1 ++ PV.agg [.str (mtext k), .int .i64 (k + 1), .int .i64 (k + 1 + 1), .str (mtext (k + 1 + 1 + 1)), q] :: ys2) cap) := by rw [← hs3]; exact upd_same _ _ _
      have hoff3 : ∀ c, c ≠ b → s3 c = s c := fun c hc => by rw [← hs3]; exact upd_ne _ _ hc
      have nb : ∀ c, c ∈ D1 ∨ c ∈ Dx ∨ c ∈ D2 → c ≠ b := fun c hc e => by subst e; exact hbD hc
      have hTq3 : Th s3 (trees x.type.kids) q Dx := hTq.frame _ _ _ fun c hc => hoff3 c (nb c (.inr (.inl hc)))
      refine callK_mark (h_laws_markTreeS _ x.type.kids (k + 1 + 1 + 1 + 1) q Dx s3 (Nat.le_refl _) (by omega) (by omega) hDx hTq3) fun s4 hT4 hoff4 => ?_
      try simp
      rw [show ys1.length = i from eil, W_idx hi (by unfold maxLen; omega)]
      have emk : markY x k = (⟨mtext k, .mk (k + 1) (k + 1 + 1) (mtext (k + 1 + 1 + 1)) (markTs x.type.kids (k + 1 + 1 + 1 + 1)).1⟩, (markTs x.type.kids (k + 1 + 1 + 1 + 1)).2) := by
        unfold markY
        rw [show k + 2 = k + 1 + 1 by omega, show k + 3 = k + 1 + 1 + 1 by omega, show k + 4 = k + 1 + 1 + 1 + 1 by omega]
      rw [emk] at hq1 hq2
      have hend := markTs_end x.type.kids (k + 1 + 1 + 1 + 1)
      refine kk ((markTs x.type.kids (k + 1 + 1 + 1 + 1)).2, done ++ [⟨mtext k, .mk (k + 1) (k + 1 + 1) (mtext (k + 1 + 1 + 1)) (markTs x.type.kids (k + 1 + 1 + 1 + 1)).1⟩], ys1 ++ PV.agg [.str (mtext k), .int .i64 (k + 1), .int .i64 (k + 1 + 1), .str (mtext (k + 1 + 1 + 1)), q] :: ys2, s4) ⟨by simp; omega, ?_, ?_, ?_, by first | omega | (simp only; omega), by first | omega | (simp only; omega), by simpa using hq1, hq2⟩
      · simp only
        rw [hoff4 b (fun h => nb b (.inr (.inl h)) rfl)]
        exact hb3
      · simp only [List.append_assoc, List.map_append, List.map_cons, List.cons_append, List.nil_append, List.map_nil]
        refine Ths.join (g1.frame _ _ _ fun c hc => ?_) (Ths.cons (Th.typed.2 ⟨q, rfl, hT4⟩) (g3.frame _ _ _ fun c hc => ?_))
        · rw [hoff4 c (fun h => h1x c hc c (.inl h) rfl), hoff3 c (nb c (.inl hc))]
        · rw [hoff4 c (fun h => hx2 c h c hc rfl), hoff3 c (nb c (.inr (.inr hc)))]
      · intro c hc
        simp only [List.mem_cons, List.mem_append, not_or] at hc
        simp only
        rw [hoff4 c hc.2.2.1, hoff3 c hc.1]
        exact hoff c (by simp only [List.mem_cons, List.mem_append, not_or]; exact hc)
    · rintro ⟨k, done, xs, s⟩ ⟨hdl, hbs, hxs, hoff, hk, hb, hq1, hq2⟩
      simp only at hdl hbs hxs hoff hk hb hq1 hq2
      simp only [markYs, List.append_nil] at hq1 hq2 hxs
      try simp
      refine retR_same ⟨by rw [← hq2], ?_, hoff⟩
      first | rw [Th.row] | rw [typeds, Th.row]
      refine .inr ⟨b, xs, cap, D', ?_, hbs, by rw [← hq1]; exact hxs, rfl, fun y hy => ?_⟩
      · rw [← hq1]; simp [hdl]
      · simp only [List.mem_map] at hy
        obtain ⟨t, _, rfl⟩ := hy
        exact typed_el t
theorem h_laws_heldTypedS (ds : List Ty) (k : Int) (hk : 0 ≤ k) (hb : k + Ty.reaches ds ≤ 1000000000000) (st : St) :
    HCalls prog n_laws_heldTypedS [typeds (markYs ds k).1, .int .i64 k] st (Just (.int .i64 (markYs ds k).2) st) := by
  apply c_laws_heldTypedS
  unfold b_laws_heldTypedS
  generalize hv : (markYs ds k).2 = v
  generalize hms : (markYs ds k).1 = ms
  have hll := reach_lenY ds
  have hml : ms.length = ds.length := by rw [← hms]; exact markYs_len ds k
  try simp
  refine loop_idx (β := Int) ms (fun z i => [.int .i64 z, .int .i64 (i : Int)]) (fun _ => st)
    (fun z i rest => ∃ r : List Ty, rest = (markYs r z).1 ∧ 0 ≤ z ∧ z + Ty.reaches r ≤ 1000000000000 ∧ (markYs r z).2 = v) ?_ ?_ k ⟨ds, hms.symm, hk, hb, hv⟩
  · rintro i x rest k hi hx ⟨r, hr, hk, hb, hq⟩ kk
    cases r with
    | nil => rw [markYs] at hr; cases hr
    | cons t r =>
      rw [markYs] at hr hq
      simp only [List.cons.injEq] at hr
      obtain ⟨rfl, rfl⟩ := hr
      have hsz : Ty.reaches (t :: r) = t.reach + Ty.reaches r := by simp [Ty.reaches]
      have hxr : t.reach = 4 + 3 * Tr.sizes t.type.kids := rfl
      rw [hsz] at hb
      simp only at hq
      have emk : markY t k = (⟨mtext k, .mk (k + 1) (k + 1 + 1) (mtext (k + 1 + 1 + 1)) (markTs t.type.kids (k + 1 + 1 + 1 + 1)).1⟩, (markTs t.type.kids (k + 1 + 1 + 1 + 1)).2) := by
        unfold markY
        rw [show k + 2 = k + 1 + 1 by omega, show k + 3 = k + 1 + 1 + 1 by omega, show k + 4 = k + 1 + 1 + 1 + 1 by omega]
      rw [emk] at hx hq
      have hend := markTs_end t.type.kids (k + 1 + 1 + 1 + 1)
      try simp [hi, ia_typed _ hx]
      refine callK_just (h_laws_markText _ (by omega) _) ?_
      try simp
      rw [wrap64 (by omega) (by omega)]
      try simp
      rw [wrap64 (by omega) (by omega)]
      try simp
      rw [wrap64 (by omega) (by omega)]
      refine callK_just (h_laws_markText _ (by omega) _) ?_
      try simp
      rw [wrap64 (by omega) (by omega)]
      refine callK_just (by simpa using h_laws_heldTreeS _ t.type.kids (k + 1 + 1 + 1 + 1) st (Nat.le_refl _) (by omega) (by omega)) ?_
      try simp
      refine br_dec (fun h => by omega) (fun h => ?_)
      rw [W_idx hi (by unfold maxLen; omega)]
      refine kk _ ⟨r, ?_, by omega, by omega, ?_⟩
      · rw [emk]
      · exact hq
  · rintro k ⟨r, hr, hk, hb, hq⟩
    cases r with
    | nil => rw [markYs] at hq; simp; exact Just.int hq
    | cons t r => rw [markYs] at hr; cases hr
end Go.H.Tryz
/- Contracts: the reference's SimpleSig. -/
set_option linter.unusedVariables false
set_option linter.unusedSimpArgs false
namespace Go.H.Tryz
open Go Go.H

/-- The constants with their simple types. -/
def simpleL (sig : List Dc) : List Ty := sig.filterMap fun d => if d.fam = true then none else some ⟨d.name, eraseT d.type⟩
def simpleZ (sig : List Dc) : Int := if sig.length > 4096 then 2 else if sigOKT sig = false then 1 else 0
def simpleO (sig : List Dc) : List Ty := if simpleZ sig = 0 then simpleL sig else []
def simpleP (sig : List Dc) : PV := .tup (typeds (simpleO sig) :: [simpleZ sig].map (PV.int .i64))
theorem simpleL_snoc (l : List Dc) (d : Dc) : simpleL (l ++ [d]) = simpleL l ++ (if d.fam = true then [] else [⟨d.name, eraseT d.type⟩]) := by
  unfold simpleL
  rw [List.filterMap_append]
  cases hf : d.fam <;> simp [hf]
theorem simpleL_len (l : List Dc) : (simpleL l).length ≤ l.length := by
  unfold simpleL
  exact List.length_filterMap_le _ _
theorem simpleP_no {sig : List Dc} {c : Int} (h : simpleZ sig = c) (hc : c ≠ 0) : simpleP sig = .tup (.sl 5 false [] :: [c].map (PV.int .i64)) := by
  unfold simpleP simpleO
  rw [h, if_neg hc]
  rfl
theorem h_spec_l05Simple (sig : List Dc) (hr : SigR sig) (st : St) : HCalls prog n_spec_l05Simple [decls sig] st (Just (typeds (simpleL sig)) st) := by
  apply c_spec_l05Simple
  unfold b_spec_l05Simple
  have hlen := hr.len
  try simp
  refine loop_idx (β := PV × St) sig (fun z i => [z.1, .int .i64 (i : Int)]) (fun z => z.2) (fun z i rest => Grow st 5 ((simpleL (sig.take i)).map typed) z.1 z.2) ?_ ?_ (_, st) (Grow.nil st 5 5)
  · rintro i x rest ⟨p, s1⟩ hi hx q0 kk
    simp only at q0
    have hxm := List.mem_of_getElem? hx
    have hll := simpleL_len (sig.take i)
    rw [List.length_take] at hll
    try simp [hi, ia_decl _ hx]
    cases hf : x.fam with
    | true =>
      try simp
      rw [W_idx hi (by unfold maxLen; omega)]
      refine kk (p, s1) ?_
      simp only
      rw [take_snoc hx, simpleL_snoc, if_pos hf, List.append_nil]
      exact q0
    | false =>
      try simp
      have hty := (hr.types x hxm).1
      rw [hf] at hty
      refine callK_just (h_spec_l01Erase x.type hty _) ?_
      have r0 : q_struct [PV.str [], PV.int IntKind.i64 0, PV.int IntKind.i64 0, PV.str [], PV.sl 0 true []] [(0, 1, PV.str x.name), (1, 4, tree (eraseT x.type))] = some (typed ⟨x.name, eraseT x.type⟩) := by
        rw [← typed_agg, typed_cells, tree_cells]
        rw [tree_eq]
        rfl
      try simp
      rw [r0]
      try simp
      refine q0.append (elems_sl _ _ _ _) (by simp; omega) fun p2 s2 q2 => ?_
      rw [W_idx hi (by unfold maxLen; omega)]
      refine kk (p2, s2) ?_
      simp only
      rw [take_snoc hx, simpleL_snoc, if_neg (by rw [hf]; simp), List.map_append]
      exact q2
  · rintro ⟨p, s1⟩ q0
    simp only at q0
    rw [List.take_of_length_le (Nat.le_refl _)] at q0
    try simp
    exact Just.conv q0.freeze
theorem h_spec_SimpleSig (sig : List Dc) (st : St) : HCalls prog n_spec_SimpleSig [decls sig] st (Just (simpleP sig) st) := by
  apply c_spec_SimpleSig
  unfold b_spec_SimpleSig
  have no : ∀ (c : Int) (s : St), Sub st s → simpleZ sig = c → c ≠ 0 → retR (Just (simpleP sig) st) (.tup [.sl 5 true [], .int .i64 c]) s := fun c s hs hq hc => by
    rw [simpleP_no hq hc]
    exact retR_conv (Conv.trans (Conv.tup (Conv.cons (Conv.sl_to _ 5 5 true [] (.inr rfl)) (Conv.refl _ _))) (Conv.sub hs)) ⟨rfl, rfl⟩
  try simp
  refine br_dec (fun h => no 2 st (Sub.refl _) (by unfold simpleZ; rw [if_pos (by omega)]) (by omega)) (fun h => ?_)
  have hl : ¬ sig.length > 4096 := by omega
  refine callK_just (by simpa using h_spec_SigOK sig _) ?_
  try simp
  refine br_of (fun g => ?_) (fun g => no 1 st (Sub.refl _) (by unfold simpleZ; rw [if_neg hl, if_pos g]) (by omega))
  obtain ⟨hr, hl40⟩ := sigOKT_right g
  refine callK_just (by simpa using h_spec_l05Simple sig hr _) ?_
  have e : simpleP sig = .tup (typeds (simpleL sig) :: [0].map (PV.int .i64)) := by
    have hz : simpleZ sig = 0 := by unfold simpleZ; rw [if_neg hl, if_neg (by rw [g]; simp)]
    unfold simpleP simpleO
    rw [hz, if_pos rfl]
  rw [e]
  exact Just.ret (Sub.refl _)
end Go.H.Tryz
/- Contracts: the program's SimpleSig, if erase hands back what its caller owns; the law FnExactSimpleSig from that. -/
set_option linter.unusedVariables false
set_option linter.unusedSimpArgs false
namespace Go.H.Tryz
open Go Go.H

theorem h_impl_SimpleSig_of (he : ∀ (t : Tr), t.isFam false = true → ∀ st, HCalls prog n_impl_erase [tree t] st (Owns (tree (eraseT t)) st)) (sig : List Dc) (st : St) : HCalls prog n_impl_SimpleSig [decls sig] st (Owns (simpleP sig) st) := by
  refine HCalls.wf e_impl_SimpleSig fun hw => ?_
  have hw1 := (decls_wf hw.1).1
  unfold maxLen at hw1
  apply c_impl_SimpleSig
  unfold b_impl_SimpleSig
  have no : ∀ (c : Int) (s : St), Sub st s → simpleZ sig = c → c ≠ 0 → retR (Owns (simpleP sig) st) (.tup [.sl 0 true [], .int .i64 c]) s := fun c s hs hq hc => by
    rw [simpleP_no hq hc]
    exact Owns.none [c] hs
  try simp
  refine callK_just (by simpa using h_impl_longLists (sig.length : Int) [] (by simp) _) ?_
  try simp
  refine br_dec (fun h => no 2 st (Sub.refl _) (by unfold simpleZ; rw [if_pos (by omega)]) (by omega)) (fun h => ?_)
  have hl : ¬ sig.length > 4096 := by omega
  refine callK_just (by simpa using h_impl_SigOK sig _) ?_
  try simp
  refine br_of (fun g => ?_) (fun g => no 1 st (Sub.refl _) (by unfold simpleZ; rw [if_neg hl, if_pos g]) (by omega))
  obtain ⟨hr, hl40⟩ := sigOKT_right g
  have e : simpleP sig = .tup (typeds (simpleL sig) :: [0].map (PV.int .i64)) := by
    have hz : simpleZ sig = 0 := by unfold simpleZ; rw [if_neg hl, if_neg (by rw [g]; simp)]
    unfold simpleP simpleO
    rw [hz, if_pos rfl]
  rw [e]
  refine loop_idx (β := PV × List Nat × St) sig (fun z i => [z.1, .int .i64 (i : Int)]) (fun z => z.2.2) (fun z i rest => Rw st z.2.2 5 ((simpleL (sig.take i)).map typed) z.1 z.2.1) ?_ ?_ (_, [], st) (Rw.start (Sub.refl st) 5 5)
  · rintro i x rest ⟨p, D, s1⟩ hi hx q0 kk
    simp only at q0
    have hxm := List.mem_of_getElem? hx
    have hll := simpleL_len (sig.take i)
    rw [List.length_take] at hll
    try simp [hi, ia_decl _ hx]
    intro b5 hb5
    rw [e_store_p _ _ _ _ _ _ _ (upd_same _ _ _)]
    try simp
    have q1 := q0.put hb5 (.cells (decl x).cells)
    have e5 := upd_same s1 b5 (.cells (decl x).cells)
    generalize upd s1 b5 (.cells (decl x).cells) = s2 at q1 e5
    try simp [q_load_p e5]
    cases hf : x.fam with
    | true =>
      try simp
      rw [W_idx hi (by unfold maxLen; omega)]
      refine kk (p, D, s2) ?_
      simp only
      rw [take_snoc hx, simpleL_snoc, if_pos hf, List.append_nil]
      exact q1
    | false =>
      try simp
      have hty := (hr.types x hxm).1
      rw [hf] at hty
      refine callK_owns (he x.type hty s2) fun y Dx s3 hDx hTx hfx hox => ?_
      have keep : ∀ c o, s2 c = some o → s3 c = some o := fun c o hc => by
        rw [hox c (fun h => by rw [hfx c h] at hc; cases hc)]; exact hc
      have q2 : Rw st s3 5 ((simpleL (sig.take i)).map typed) p D := q1.frame (fun c hc => by
        obtain ⟨o, ho⟩ := q1.live hc
        rw [ho]; exact keep c o ho) (q1.sub.trans keep)
      have f5 := keep _ _ e5
      obtain ⟨q, rfl, hTq⟩ := Th.tree.1 hTx
      obtain ⟨c1, c2, c3, c4⟩ := th_row_cell hTq
      try simp [q_load_p f5]
      have r0 : q_struct [PV.str [], PV.int IntKind.i64 0, PV.int IntKind.i64 0, PV.str [], PV.sl 0 true []] [(0, 1, PV.str x.name), (1, 4, PV.agg [.int .i64 (eraseT x.type).kind, .int .i64 (eraseT x.type).n, .str (eraseT x.type).name, q])] = some (.agg [.str x.name, .int .i64 (eraseT x.type).kind, .int .i64 (eraseT x.type).n, .str (eraseT x.type).name, q]) := by
        try simp [q_struct, fillL, c1]
      rw [r0]
      simp only [qb_some]
      rw [if_pos ⟨rfl, fun z hz => by simp [PV.cells] at hz; rcases hz with rfl | rfl | rfl | rfl | rfl <;> first | rfl | exact c1⟩]
      simp only [qb_some]
      refine q2.append (y' := typed ⟨x.name, eraseT x.type⟩) (Th.typed.2 ⟨q, rfl, hTq⟩) (typed_el _) hDx (fun c hc => q1.sub.isNone (hfx c hc)) (fun c hc h => by obtain ⟨o, ho⟩ := q1.live hc; rw [hfx c h] at ho; cases ho) (elems_sl _ _ _ _) (by simp; omega) fun p2 s4 D2 q3 _ _ => ?_
      rw [W_idx hi (by unfold maxLen; omega)]
      refine kk (p2, D2, s4) ?_
      simp only
      rw [take_snoc hx, simpleL_snoc, if_neg (by rw [hf]; simp), List.map_append]
      exact q3
  · rintro ⟨p, D, s1⟩ q0
    simp only at q0
    rw [List.take_of_length_le (Nat.le_refl _)] at q0
    try simp
    exact Owns.tupInts [0] q0.nodup q0.th q0.fresh q0.sub
end Go.H.Tryz
/- Contracts: the law FnExactSimpleSig, if erase hands back what its caller owns. -/
set_option linter.unusedVariables false
set_option linter.unusedSimpArgs false
namespace Go.H.Tryz
open Go Go.H

theorem simpleL_reach {sig : List Dc} (h : ∀ d ∈ sig, d.fam = false → FF d.type) : Ty.reaches (simpleL sig) ≤ 4000004 * sig.length := by
  induction sig with
  | nil => simp [simpleL, Ty.reaches]
  | cons d l ih =>
    have ih := ih (fun x hx => h x (by simp [hx]))
    unfold simpleL at ih ⊢
    rw [List.filterMap_cons]
    cases hf : d.fam with
    | true => simp at ih ⊢; omega
    | false =>
      have h1 := (erase_fine (h d (by simp) hf)).2.1
      have h2 := Tr.size_kids (eraseT d.type)
      simp [Ty.reaches, Ty.reach] at ih ⊢
      omega
theorem simpleO_reach (sig : List Dc) : Ty.reaches (simpleO sig) ≤ 1000000000 := by
  unfold simpleO
  split
  · rename_i h
    unfold simpleZ at h
    split at h
    · cases h
    · split at h
      · cases h
      · rename_i h1 h2
        obtain ⟨hr, hl⟩ := sigOKT_right (by simpa using h2)
        have := simpleL_reach (sig := sig) fun d hd hf => by have := hr.types d hd; rw [hf] at this; exact this
        omega
  · simp [Ty.reaches]
theorem mark_pos3 (ds : List Dc) : 0 ≤ (markDs ds 1).2 := by rw [markDs_end]; omega
theorem h_laws_FnExactSimpleSig_of (he : ∀ (t : Tr), t.isFam false = true → ∀ st, HCalls prog n_impl_erase [tree t] st (Owns (tree (eraseT t)) st)) (x0 : List Dc) (hb : Dc.bulks x0 ≤ 1048576) (st : St) : HCalls prog n_laws_FnExactSimpleSig [decls x0] st (Just (.bool true) st) := by
  apply c_laws_FnExactSimpleSig
  unfold b_laws_FnExactSimpleSig
  have hre := reaches_bulks x0
  obtain ⟨out, c, e, hout⟩ : ∃ out c, simpleP x0 = .tup (typeds out :: [c].map (PV.int .i64)) ∧ Ty.reaches out ≤ 1000000000 := ⟨simpleO x0, _, rfl, simpleO_reach x0⟩
  have hspec : ∀ st, HCalls prog n_spec_SimpleSig [decls x0] st (Just (.tup (typeds out :: [c].map (PV.int .i64))) st) := fun st => e ▸ h_spec_SimpleSig x0 st
  have himpl : ∀ st, HCalls prog n_impl_SimpleSig [decls x0] st (Owns (.tup (typeds out :: [c].map (PV.int .i64))) st) := fun st => e ▸ h_impl_SimpleSig_of he x0 st
  clear e
  refine callK_just (by simpa using h_laws_szDeclS x0 1048576 (by omega) (by omega) _) ?_
  rw [show left 1048576 (Dc.bulks x0) = 1048576 - (Dc.bulks x0 : Int) by unfold left; rw [if_pos (by omega)]]
  try simp
  refine br_dec (fun h => by omega) (fun _ => ?_)
  refine callK_just (by simpa using h_laws_toDeclS x0 (by omega) _) ?_
  refine callK_just (by simpa using hspec _) ?_
  try simp only [List.map_cons, List.map_nil]
  try simp
  refine callK_hnew (Hold.start st) (by simpa using h_laws_toDeclS_own x0 (by omega) st) fun p0 D0 s1 h1 _ => ?_
  refine callK_hgives h1 (us' := [decls x0]) (.held h1.th .nil) (himpl noSt) fun t Dg s2 h2 _ => ?_
  obtain ⟨pg, rfl, hTg⟩ := Th.tupInts_inv h2.th
  have h2 := h2.as hTg
  try simp only [List.map_cons, List.map_nil]
  try simp
  refine callK_hlook (us' := [typeds out, typeds out]) (.held h2.th (.same .nil)) rfl (h_laws_eqTypedS _ _ _) ?_
  try simp
  refine callK_just (by simpa using h_laws_toDeclS x0 (by omega) _) ?_
  refine callK_hlook (us' := [decls x0, decls x0]) (.held h2.tail.th (.same .nil)) rfl (h_laws_eqDeclS _ _ _) ?_
  try simp
  have h3 := h2.swap
  have hp1 := mark_pos3 x0
  refine callK_hmark h3 (h_laws_markDeclS x0 1 p0 D0 s2 (by omega) (by omega) h3.nodup h3.th) fun s3 h4 _ => ?_
  try simp
  refine br_dec (fun h => by omega) (fun _ => ?_)
  have h5 := h4.swap
  refine callK_hlook (us' := [typeds out, typeds out]) (.held h5.th (.same .nil)) rfl (h_laws_eqTypedS _ _ _) ?_
  try simp
  have hend := markYs_end out 1
  refine callK_hmark h5 (h_laws_markTypedS out 1 pg Dg s3 (by omega) (by omega) h5.nodup h5.th) fun s4 h6 _ => ?_
  refine callK_hlook (us' := [typeds (markYs out 1).1, .int .i64 1]) (.held h6.th (.same .nil)) rfl (h_laws_heldTypedS out 1 (by omega) (by omega) _) ?_
  try simp
  refine br_dec (fun h => by omega) (fun _ => ?_)
  refine callK_just (by simpa using h_laws_toDeclS x0 (by omega) _) ?_
  refine callK_just (by simpa using Owns.just (himpl s4)) ?_
  try simp only [List.map_cons, List.map_nil]
  try simp
  refine callK_just (by simpa using h_laws_eqTypedS out out _) ?_
  try simp
  refine callK_hlook (us' := [typeds (markYs out 1).1, .int .i64 1]) (.held h6.th (.same .nil)) rfl (h_laws_heldTypedS out 1 (by omega) (by omega) _) ?_
  try simp
  refine br_dec (fun h => by omega) (fun _ => ?_)
  exact Just.bool rfl h6.sub
end Go.H.Tryz
/- Contracts: erase hands back what its caller owns; the law FnExactSimpleSig. -/
set_option linter.unusedVariables false
set_option linter.unusedSimpArgs false
namespace Go.H.Tryz
open Go Go.H

theorem e_lit_own {st : St} {esz len : Nat} {ps : List (Nat × PV)} {K : PV → St → Prop} {e : Nat} {f : Bool} {xs : List PV} (hq : q_lit esz len 0 [] ps = some (.sl e f xs)) (hl : 0 < len)
    (h : ∀ b, st b = none → K (.vsl b len len) (upd st b (.vec esz xs len))) : e_lit st esz len ps K := by
  unfold e_lit
  rw [hq]
  exact .inl ⟨hl, h⟩
theorem h_impl_erase_own (t : Tr) (hf : t.isFam false = true) (st : St) : HCalls prog n_impl_erase [tree t] st (Owns (tree (eraseT t)) st) := by
  induction t using Tr.ind generalizing st with
  | _ t ih =>
  apply co_impl_erase
  unfold bo_impl_erase
  refine e_box_ref (tree_isJunk _) ?_
  intro b2 hb2
  have hsub : ∀ o, Sub st (upd st b2 o) := fun o => (Sub.refl st).put hb2
  try simp
  refine br_dec (fun h2 => ?_) (fun h2 => ?_)
  · cases hb : t.bare 2 with
    | false => rw [Tr.isFam_bad h2 hb] at hf; cases hf
    | true =>
      obtain ⟨x, y, hxy⟩ := bare_two hb
      rw [Tr.isFam_pi h2 hxy] at hf
      simp only [Bool.and_eq_true] at hf
      have x0 : t.kids[0]? = some x := by rw [hxy]; rfl
      have y1 : t.kids[1]? = some y := by rw [hxy]; rfl
      have e0 := upd_same st b2 (.cells [.int .i64 0, .int .i64 0, .str [], .sl 0 true []])
      have hs0 := hsub (.cells [.int .i64 0, .int .i64 0, .str [], .sl 0 true []])
      generalize upd st b2 (.cells [.int .i64 0, .int .i64 0, .str [], .sl 0 true []]) = s0 at e0 hs0
      try simp [ia_tree0 _ x0, ia_tree1 _ y1]
      refine callK_owns (ih x (by rw [hxy]; simp) hf.2.1 s0) fun p1 D1 s1 hD1 hT1 hf1 ho1 => ?_
      have k1 : ∀ c o, s0 c = some o → s1 c = some o := fun c o hc => by
        rw [ho1 c (fun h => by rw [hf1 c h] at hc; cases hc)]; exact hc
      try simp
      refine callK_owns (ih y (by rw [hxy]; simp) hf.2.2 s1) fun p2 D2 s2 hD2 hT2 hf2 ho2 => ?_
      have k2 : ∀ c o, s1 c = some o → s2 c = some o := fun c o hc => by
        rw [ho2 c (fun h => by rw [hf2 c h] at hc; cases hc)]; exact hc
      have live1 : ∀ c ∈ D1, ∃ o, s1 c = some o := fun c hc => by obtain ⟨o, h1, _⟩ := (Ths.solid _ _ _ (Ths.one hT1)).2 c hc; exact ⟨o, h1⟩
      have live2 : ∀ c ∈ D2, ∃ o, s2 c = some o := fun c hc => by obtain ⟨o, h1, _⟩ := (Ths.solid _ _ _ (Ths.one hT2)).2 c hc; exact ⟨o, h1⟩
      have hd12 : ∀ c ∈ D1, c ∉ D2 := fun c hc h => by obtain ⟨o, h1⟩ := live1 c hc; rw [hf2 c h] at h1; cases h1
      have hT1' : Th s2 (tree (eraseT x)) p1 D1 := hT1.frame _ _ _ fun c hc => by obtain ⟨o, h1⟩ := live1 c hc; rw [h1]; exact k2 c o h1
      have z1 := hT1.elOK (tree_el (eraseT x))
      have z2 := hT2.elOK (tree_el (eraseT y))
      have f0 := k2 _ _ (k1 _ _ e0)
      have w1 := hT1.ncells
      have w2 := hT2.ncells
      refine e_lit_own (e := 4) (f := true) (xs := [p1, p2]) ?_ (by decide) fun b hb => ?_
      · simp only [q_lit, List.reverse_cons, List.reverse_nil, List.nil_append, List.cons_append]
        rw [if_pos ⟨trivial, z1.1, z1.2⟩, if_pos ⟨trivial, z2.1, z2.2⟩, if_pos trivial]
      have hnb : b2 ≠ b := fun e => by rw [e, hb] at f0; cases f0
      have r0 : q_struct [PV.int IntKind.i64 0, PV.int IntKind.i64 0, PV.str [], PV.sl 0 true []] [(0, 1, PV.int IntKind.i64 10), (3, 1, PV.vsl b 2 2)] = some (.agg [.int .i64 10, .int .i64 0, .str [], .vsl b 2 2]) := rfl
      rw [r0]
      simp only [qb_some]
      have f1 : upd s2 b (.vec 4 [p1, p2] 2) b2 = some (.cells [.int .i64 0, .int .i64 0, .str [], .sl 0 true []]) := by rw [upd_ne _ _ hnb]; exact f0
      rw [e_store_p _ _ _ _ _ _ _ f1]
      try simp
      try simp [q_load_p (upd_same _ _ _)]
      have hbD1 : b ∉ D1 := fun h => by obtain ⟨o, h1⟩ := live1 b h; rw [k2 b o h1] at hb; cases hb
      have hbD2 : b ∉ D2 := fun h => by obtain ⟨o, h1⟩ := live2 b h; rw [h1] at hb; cases hb
      have n1 : ∀ c ∈ D1, c ≠ b2 := fun c hc e => by rw [e] at hc; rw [hf1 b2 hc] at e0; cases e0
      have n2 : ∀ c ∈ D2, c ≠ b2 := fun c hc e => by rw [e] at hc; have h1 := hf2 b2 hc; rw [k1 _ _ e0] at h1; cases h1
      rw [eraseT_pi h2 hxy]
      refine Owns.ret (D := b :: (D1 ++ D2)) ?_ (Th.tree.2 ⟨.vsl b 2 2, rfl, Th.row.2 (.inr ⟨b, [p1, p2], 2, D1 ++ D2, rfl, ?_, ?_, rfl, fun y hy => ?_⟩)⟩) ?_ ?_
      · rw [List.nodup_cons, List.mem_append, List.nodup_append]
        exact ⟨fun h => h.elim hbD1 hbD2, hD1, hD2, fun a ha c hc e => hd12 a ha (e ▸ hc)⟩
      · rw [upd_ne _ _ (Ne.symm hnb)]; exact upd_same _ _ _
      · have fr : ∀ c, c ≠ b → c ≠ b2 → (upd (upd s2 b (.vec 4 [p1, p2] 2)) b2 (.cells [.int .i64 10, .int .i64 0, .str [], .vsl b 2 2])) c = s2 c := fun c h1 h2 => by rw [upd_ne _ _ h2, upd_ne _ _ h1]
        have a1 : Th (upd (upd s2 b (.vec 4 [p1, p2] 2)) b2 (.cells [.int .i64 10, .int .i64 0, .str [], .vsl b 2 2])) _ _ _ := hT1'.frame _ _ _ fun c hc => fr c (fun e => hbD1 (e ▸ hc)) (n1 c hc)
        have a2 : Th (upd (upd s2 b (.vec 4 [p1, p2] 2)) b2 (.cells [.int .i64 10, .int .i64 0, .str [], .vsl b 2 2])) _ _ _ := hT2.frame _ _ _ fun c hc => fr c (fun e => hbD2 (e ▸ hc)) (n2 c hc)
        exact Ths.join (Ths.one a1) (Ths.one a2)
      · simp only [List.mem_map] at hy
        obtain ⟨t, _, rfl⟩ := hy
        exact tree_el t
      · have nn : ∀ c, s0 c = none → st c = none := fun c hc => hs0.isNone hc
        have nn1 : ∀ c, s1 c = none → st c = none := fun c hc => (hs0.trans k1).isNone hc
        have nn2 : ∀ c, s2 c = none → st c = none := fun c hc => ((hs0.trans k1).trans k2).isNone hc
        intro c hc
        rcases List.mem_cons.1 hc with rfl | hc
        · exact nn2 _ hb
        · rcases List.mem_append.1 hc with hc | hc
          · exact nn _ (hf1 c hc)
          · exact nn1 _ (hf2 c hc)
      · exact (((hs0.trans k1).trans k2).put (((hs0.trans k1).trans k2).isNone hb)).put hb2
  · rw [eraseT_head h2]
    rw [show q_struct [PV.int IntKind.i64 0, PV.int IntKind.i64 0, PV.str [], PV.sl 0 true []] [(0, 1, PV.int IntKind.i64 9), (2, 1, PV.str t.name)] = some (.agg [.int .i64 9, .int .i64 0, .str t.name, .sl 0 true []]) from rfl]
    try simp
    try simp [q_load_p (upd_same _ _ _)]
    refine Owns.ret (D := []) List.nodup_nil (Th.tree.2 ⟨.sl 0 true [], rfl, Th.row.2 (.inl ⟨rfl, ⟨0, true, rfl⟩, rfl⟩)⟩) (by simp) (hsub _)
theorem h_laws_FnExactSimpleSig (x0 : List Dc) (hb : Dc.bulks x0 ≤ 1048576) (st : St) : HCalls prog n_laws_FnExactSimpleSig [decls x0] st (Just (.bool true) st) :=
  h_laws_FnExactSimpleSig_of h_impl_erase_own x0 hb st
end Go.H.Tryz
