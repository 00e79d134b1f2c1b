/- Part of a proof that the program answers as the reference does: EDC40, EDC41, EDC42, EDC43, EDC48, EDC49, EDC50. -/
import Derived.Test.YtcgobhgnoobifaaGreatDoorHY
import Derived.Test.YtcgobhgnoobifaaGreatDoorHO
import Derived.Test.YtcgobhgnoobifaaGreatDoorHZ
/- Contracts: what the laws write over values that are owned, and read again. -/
set_option linter.unusedVariables false
set_option linter.unusedSimpArgs false
namespace Go.H.Tryz
open Go Go.H

theorem h_laws_markText (k : Int) (hk : k ≤ 1000000000000) (st : St) : HCalls prog n_laws_markText [.int .i64 k] st (Just (.str (mtext k)) st) := by
  apply c_laws_markText
  unfold b_laws_markText
  try simp
  refine br_dec (fun h => Just.same (by unfold mtext; rw [if_pos h])) (fun h => ?_)
  generalize hv : mtext k = v
  unfold mtext at hv
  rw [if_neg h] at hv
  refine hFix_rec (σ := Nat × List UInt8) (fun z => z.1) (fun z => [.int .i64 (z.1 : Int), .str z.2]) (fun _ => st) (fun z => z.1 + z.2.length ≤ 1000000000000 ∧ 109 :: digs z.1 z.2 = v) ?_ (k.toNat, []) ⟨by simp; omega, hv⟩ |> fun h => by simpa [show ((k.toNat : Nat) : Int) = k from by omega] using h
  rintro ⟨n, acc⟩ ⟨h1, h2⟩ ih
  simp only at h1 h2 ih
  try simp
  by_cases h0 : n = 0
  · subst h0
    rw [digs, if_pos rfl] at h2
    try simp
    rw [if_pos (by omega)]
    exact Just.same (by rw [← h2])
  · rw [digs, if_neg h0] at h2
    refine br_dec (fun h3 => ?_) (fun h3 => by omega)
    have e1 : (n : Int).tmod 10 = ((n % 10 : Nat) : Int) := by rw [Int.ofNat_tmod]; rfl
    have e2 : (n : Int).tdiv 10 = ((n / 10 : Nat) : Int) := by rw [Int.ofNat_tdiv]; rfl
    have e3 : IntKind.i64.wrap (48 + ((n % 10 : Nat) : Int)) = ((48 + n % 10 : Nat) : Int) := by rw [wrap64 (by omega) (by omega)]; omega
    have e4 : IntKind.u8.wrap ((48 + n % 10 : Nat) : Int) = ((48 + n % 10 : Nat) : Int) := by
      have : n % 10 < 10 := Nat.mod_lt _ (by omega)
      try simp [IntKind.wrap, IntKind.bits, IntKind.signed]
      omega
    have r1 : q_int .rem .i64 (n : Int) 10 = some (.int .i64 ((n % 10 : Nat) : Int)) := by
      rw [← e1]; rfl
    have r2 : q_bin .add (.int .i64 48) (.int .i64 ((n % 10 : Nat) : Int)) = some (.int .i64 ((48 + n % 10 : Nat) : Int)) := by
      rw [q_bin_int, q_add, e3]
    have r3 : q_conv .u8 (.int .i64 ((48 + n % 10 : Nat) : Int)) = some (.int .u8 ((48 + n % 10 : Nat) : Int)) := by
      rw [q_conv_int, e4]
    have r4 : q_bstr (.sl 1 true [.int .u8 ((48 + n % 10 : Nat) : Int)]) = some (.str [UInt8.ofNat (48 + n % 10)]) := rfl
    have r5 : q_int .quo .i64 (n : Int) 10 = some (.int .i64 ((n / 10 : Nat) : Int)) := by
      show some (PV.int .i64 (IntKind.i64.wrap ((n : Int).tdiv 10))) = _
      rw [e2, wrap64 (by omega) (by omega)]
    have r6 : q_bin .add (.str [UInt8.ofNat (48 + n % 10)]) (.str acc) = some (.str (UInt8.ofNat (48 + n % 10) :: acc)) := by
      rw [q_bin_str, q_sadd, if_pos (by simp; omega)]; rfl
    have r7 : q_lit 1 1 0 [] [(0, .int .u8 ((48 + n % 10 : Nat) : Int))] = some (.sl 1 true [.int .u8 ((48 + n % 10 : Nat) : Int)]) := rfl
    rw [r1]
    simp only [qb_some]
    rw [r2]
    simp only [qb_some]
    rw [r3]
    simp only [qb_some]
    rw [if_pos ⟨rfl, fun x hx => by rw [cells_int, List.mem_singleton] at hx; rw [hx]; rfl⟩]
    simp only [qb_some]
    rw [r4]
    simp only [qb_some]
    rw [r6]
    simp only [qb_some]
    rw [r5]
    simp only [qb_some]
    exact ih (n / 10, UInt8.ofNat (48 + n % 10) :: acc) (by simp only; omega) ⟨by simp only [List.length_cons]; omega, h2⟩
theorem h_laws_markTreeS : ∀ (N : Nat) (ts : List Tr) (k : Int) (p : PV) (D : List Nat) (st : St), Tr.sizes ts ≤ N → 0 ≤ k → k + 3 * Tr.sizes ts ≤ 1000000000000 → D.Nodup → Th st (trees ts) p D →
    HCalls prog n_laws_markTreeS [p, .int .i64 k] st (MarkR p D (trees (markTs ts k).1) (.int .i64 (markTs ts k).2) st) := by
  intro N
  induction N with
  | zero =>
    intro ts k p D st hN hk hb hD hT
    have hts : ts = [] := by
      cases ts with
      | nil => rfl
      | cons t r => simp only [Tr.sizes, List.map_cons, List.sum_cons] at hN; have := t.size_pos; omega
    subst hts
    rw [markTs_nil]
    apply c_laws_markTreeS
    unfold b_laws_markTreeS
    have hT2 := hT
    rw [trees, Th.row] at hT
    rcases hT with ⟨_, ⟨e, f, rfl⟩, rfl⟩ | ⟨b, xs, cap, D', rfl, hbb, hx, rfl, _⟩
    · refine hFix_unroll ?_
      try simp
      exact retR_same ⟨rfl, hT2, fun _ _ => rfl⟩
    · refine hFix_unroll ?_
      try simp
      exact retR_same ⟨rfl, hT2, fun _ _ => rfl⟩
  | succ N ih =>
    intro ts k p D st hN hk hb hD hT
    apply c_laws_markTreeS
    unfold b_laws_markTreeS
    generalize hv : markTs ts k = v
    have hll := Tr.len_sizes ts
    have hT2 := hT
    rw [trees, Th.row] at hT
    rcases hT with ⟨h0, ⟨e, f, rfl⟩, rfl⟩ | ⟨b, xs, cap, D', rfl, hbb, hx, rfl, hel⟩
    · have hts : ts = [] := by simpa using h0
      subst hts
      rw [markTs_nil] at hv
      subst hv
      refine hFix_unroll ?_
      try simp
      exact retR_same ⟨rfl, hT2, fun _ _ => rfl⟩
    · simp
      rw [List.nodup_cons] at hD
      refine loop_idx (β := Int × List Tr × List PV × St) ts (fun z i => [.int .i64 z.1, .int .i64 (i : Int)]) (fun z => z.2.2.2)
        (fun z i rest => z.2.1.length = i ∧ z.2.2.2 b = some (.vec 4 z.2.2.1 cap) ∧ Ths z.2.2.2 ((z.2.1 ++ rest).map tree) z.2.2.1 D' ∧ (∀ c, c ∉ b :: D' → z.2.2.2 c = st c) ∧ 0 ≤ z.1 ∧ z.1 + 3 * Tr.sizes rest ≤ 1000000000000 ∧ Tr.sizes rest ≤ Tr.sizes ts ∧ z.2.1 ++ (markTs rest z.1).1 = v.1 ∧ (markTs rest z.1).2 = v.2) ?_ ?_ (k, [], xs, st) ⟨rfl, hbb, by simpa using hx, fun _ _ => rfl, hk, hb, Nat.le_refl _, by rw [hv]; simp, by rw [hv]⟩
      · rintro i x rest ⟨k, done, xs, s⟩ hi hxi ⟨hdl, hbs, hxs, hoff, hk, hb, hle, hq1, hq2⟩ kk
        simp only at hdl hbs hxs hoff hk hb hle hq1 hq2
        simp only [List.map_append, List.map_cons] at hxs
        obtain ⟨ys1, y, ys2, D1, Dx, D2, rfl, rfl, hyl, g1, g2, g3⟩ := Ths.split hxs
        simp only [List.length_map] at hyl
        obtain ⟨q, rfl, hTq⟩ := Th.tree.1 g2
        have eil : ys1.length = i := by omega
        simp only [List.nodup_append, List.mem_append] at hD
        obtain ⟨hbD, hD1, ⟨hDx, hD2, hx2⟩, h1x⟩ := hD
        have hsz : Tr.sizes (x :: rest) = x.size + Tr.sizes rest := by simp [Tr.sizes]
        have hxk := Tr.size_kids x
        rw [hsz] at hb hle
        rw [markTs_cons] at hq1 hq2
        simp only at hq1 hq2
        try simp [hi]
        refine e_store_part hbs (by rw [← eil]; exact get_mid _ _ _) rfl rfl rfl (by simp) ?_
        rw [← eil, set_mid, wrap64 (by omega) (by omega)]
        try simp
        refine e_store_part (upd_same _ _ _) (get_mid _ _ _) rfl rfl rfl (by simp) ?_
        rw [set_mid, wrap64 (by omega) (by omega)]
        try simp
        refine callK_just (h_laws_markText _ (by omega) _) ?_
        try simp
        refine e_store_part (upd_same _ _ _) (get_mid _ _ _) rfl rfl rfl (by simp) ?_
        rw [set_mid, wrap64 (by omega) (by omega)]
        try simp
        rw [q_load_e (upd_same _ _ _) (get_mid _ _ _)]
        have eqc : ∀ a b c d : PV, (PV.agg [a, b, c, d]).cells.drop 3 = [d] := fun _ _ _ _ => rfl
        rw [eqc]
        generalize hs3 : upd s b (.vec 4 (ys1 ++ PV.agg [.int .i64 k, .int .i64 (k + 1), .str (mtext (k + 1 + 1)), q] :: ys2) cap) = s3
        have hb3 : s3 b = some (.vec 4 (ys1 ++ PV.agg [.int .i64 k, .int .i64 (k + 1), .str (mtext (k + 1 + 1)), q] :: ys2) cap) := by rw [← hs3]; exact upd_same _ _ _
        have hoff3 : ∀ c, c ≠ b → s3 c = s c := fun c hc => by rw [← hs3]; exact upd_ne _ _ hc
        have nb : ∀ c, c ∈ D1 ∨ c ∈ Dx ∨ c ∈ D2 → c ≠ b := fun c hc e => by subst e; exact hbD hc
        have hTq3 : Th s3 (trees x.kids) q Dx := hTq.frame _ _ _ fun c hc => hoff3 c (nb c (.inr (.inl hc)))
        have hqc : takeV false 1 [q] = some q := by
          obtain ⟨_, _, _⟩ := hTq.ncells
          rw [trees, Th.row] at hTq
          rcases hTq with ⟨_, ⟨e, f, rfl⟩, rfl⟩ | ⟨b, xs, cap, D', rfl, _⟩ <;> rfl
        rw [hqc]
        simp only [qb_some]
        refine callK_mark (ih x.kids (k + 1 + 1 + 1) q Dx s3 (by omega) (by omega) (by omega) hDx hTq3) fun s4 hT4 hoff4 => ?_
        try simp
        rw [show ys1.length = i from eil, W_idx hi (by unfold maxLen; omega)]
        have ekk : k + 3 = k + 1 + 1 + 1 := by omega
        have ek2 : k + 2 = k + 1 + 1 := by omega
        have emk : markT x k = (.mk k (k + 1) (mtext (k + 1 + 1)) (markTs x.kids (k + 1 + 1 + 1)).1, (markTs x.kids (k + 1 + 1 + 1)).2) := by rw [markT_eq, ekk, ek2]
        rw [emk] at hq1 hq2
        have hend := markTs_end x.kids (k + 1 + 1 + 1)
        refine kk ((markTs x.kids (k + 1 + 1 + 1)).2, done ++ [.mk k (k + 1) (mtext (k + 1 + 1)) (markTs x.kids (k + 1 + 1 + 1)).1], ys1 ++ PV.agg [.int .i64 k, .int .i64 (k + 1), .str (mtext (k + 1 + 1)), q] :: ys2, s4) ⟨by simp; omega, ?_, ?_, ?_, by first | omega | (simp only; omega), by first | omega | (simp only; omega), by first | omega | (simp only; omega), by simpa using hq1, hq2⟩
        · simp only
          rw [hoff4 b (fun h => nb b (.inr (.inl h)) rfl)]
          exact hb3
        · simp only [List.append_assoc, List.map_append, List.map_cons, List.cons_append, List.nil_append, List.map_nil]
          refine Ths.join (g1.frame _ _ _ fun c hc => ?_) (Ths.cons (Th.tree.2 ⟨q, rfl, hT4⟩) (g3.frame _ _ _ fun c hc => ?_))
          · rw [hoff4 c (fun h => h1x c hc c (.inl h) rfl), hoff3 c (nb c (.inl hc))]
          · rw [hoff4 c (fun h => hx2 c h c hc rfl), hoff3 c (nb c (.inr (.inr hc)))]
        · intro c hc
          simp only [List.mem_cons, List.mem_append, not_or] at hc
          simp only
          rw [hoff4 c hc.2.2.1, hoff3 c hc.1]
          exact hoff c (by simp only [List.mem_cons, List.mem_append, not_or]; exact hc)
      · rintro ⟨k, done, xs, s⟩ ⟨hdl, hbs, hxs, hoff, hk, hb, hle, hq1, hq2⟩
        simp only at hdl hbs hxs hoff hk hb hle hq1 hq2
        rw [markTs_nil] at hq1 hq2
        simp only [List.append_nil] at hq1 hxs
        try simp
        refine retR_same ⟨by rw [← hq2], ?_, hoff⟩
        first | rw [Th.row] | rw [trees, Th.row]
        refine .inr ⟨b, xs, cap, D', ?_, hbs, by rw [← hq1]; exact hxs, rfl, fun y hy => ?_⟩
        · rw [← hq1]; simp [hdl]
        · simp only [List.mem_map] at hy
          obtain ⟨t, _, rfl⟩ := hy
          exact tree_el t
/-- A tree whose kids are marked. -/
def markK (t : Tr) (k : Int) : Tr := .mk t.kind t.n t.name (markTs t.kids k).1
theorem row_take {s : St} {ks : List Tr} {q : PV} {D : List Nat} (h : Th s (trees ks) q D) (n : Nat) (r : List PV) : takeV false n (q :: r) = some q := by
  rw [trees, Th.row] at h
  rcases h with ⟨_, ⟨e, f, rfl⟩, rfl⟩ | ⟨b, xs, cap, D', rfl, _⟩ <;> rfl
theorem h_laws_markTree (t : Tr) (k : Int) (hk : 0 ≤ k) (hb : k + 3 * Tr.sizes t.kids ≤ 1000000000000) (p : PV) (D : List Nat) (hD : D.Nodup) (st : St) (hT : Th st (tree t) p D) :
    HCalls prog n_laws_markTree [p, .int .i64 k] st (MarkR p D (tree (markK t k)) (.int .i64 (markTs t.kids k).2) st) := by
  obtain ⟨q, rfl, hq⟩ := Th.tree.1 hT
  apply c_laws_markTree
  unfold b_laws_markTree
  refine e_box_ref rfl ?_
  try simp
  rw [row_take hq]
  simp only [qb_some]
  refine callK_mark (h_laws_markTreeS _ t.kids k q D st (Nat.le_refl _) hk hb hD hq) fun s' h1 h2 => ?_
  exact retR_same ⟨rfl, Th.tree.2 ⟨q, rfl, h1⟩, h2⟩
theorem reach_len (l : List Dc) : l.length ≤ Dc.reaches l := by
  induction l with
  | nil => simp
  | cons d l ih => simp only [Dc.reaches, List.map_cons, List.sum_cons, List.length_cons, Dc.reach] at ih ⊢; omega
@[simp] theorem set6_2s (a b c d e f x : PV) : setRange [a, b, c, d, e, f] 2 [x] = [a, b, x, d, e, f] := rfl
@[simp] theorem set6_3s (a b c d e f x : PV) : setRange [a, b, c, d, e, f] 3 [x] = [a, b, c, x, e, f] := rfl
@[simp] theorem set6_4s (a b c d e f x : PV) : setRange [a, b, c, d, e, f] 4 [x] = [a, b, c, d, x, f] := rfl
theorem rem3 (k : Int) : q_int .rem .i64 k 3 = some (.int .i64 (k.tmod 3)) := rfl
theorem h_laws_markDeclS (ds : List Dc) (k : Int) (p : PV) (D : List Nat) (st : St) (hk : 0 ≤ k) (hb : k + Dc.reaches ds ≤ 1000000000000) (hD : D.Nodup) (hT : Th st (decls ds) p D) :
    HCalls prog n_laws_markDeclS [p, .int .i64 k] st (MarkR p D (decls (markDs ds k).1) (.int .i64 (markDs ds k).2) st) := by
  apply c_laws_markDeclS
  unfold b_laws_markDeclS
  generalize hv : markDs ds k = v
  have hT2 := hT
  rw [decls, Th.row] at hT
  rcases hT with ⟨h0, ⟨e, f, rfl⟩, rfl⟩ | ⟨b, xs, cap, D', rfl, hbb, hx, rfl, hel⟩
  · have hts : ds = [] := by simpa using h0
    subst hts
    rw [markDs] at hv
    subst hv
    refine hFix_unroll ?_
    try simp
    exact retR_same ⟨rfl, hT2, fun _ _ => rfl⟩
  · simp
    rw [List.nodup_cons] at hD
    have hll := reach_len ds
    refine loop_idx (β := Int × List Dc × List PV × St) ds (fun z i => [.int .i64 z.1, .int .i64 (i : Int)]) (fun z => z.2.2.2)
      (fun z i rest => z.2.1.length = i ∧ z.2.2.2 b = some (.vec 6 z.2.2.1 cap) ∧ Ths z.2.2.2 ((z.2.1 ++ rest).map decl) z.2.2.1 D' ∧ (∀ c, c ∉ b :: D' → z.2.2.2 c = st c) ∧ 0 ≤ z.1 ∧ z.1 + Dc.reaches rest ≤ 1000000000000 ∧ z.2.1 ++ (markDs rest z.1).1 = v.1 ∧ (markDs rest z.1).2 = v.2) ?_ ?_ (k, [], xs, st) ⟨rfl, hbb, by simpa using hx, fun _ _ => rfl, hk, hb, by rw [hv]; simp, by rw [hv]⟩
    · rintro i x rest ⟨k, done, xs, s⟩ hi hxi ⟨hdl, hbs, hxs, hoff, hk, hb, hq1, hq2⟩ kk
      simp only at hdl hbs hxs hoff hk hb hq1 hq2
      simp only [List.map_append, List.map_cons] at hxs
      obtain ⟨ys1, y, ys2, D1, Dx, D2, rfl, rfl, hyl, g1, g2, g3⟩ := Ths.split hxs
      simp only [List.length_map] at hyl
      obtain ⟨q, rfl, hTq⟩ := Th.decl.1 g2
      have eil : ys1.length = i := by omega
      simp only [List.nodup_append, List.mem_append] at hD
      obtain ⟨hbD, hD1, ⟨hDx, hD2, hx2⟩, h1x⟩ := hD
      have hsz : Dc.reaches (x :: rest) = x.reach + Dc.reaches rest := by simp [Dc.reaches]
      have hxr : x.reach = 5 + 3 * Tr.sizes x.type.kids := rfl
      rw [hsz] at hb
      rw [markDs] at hq1 hq2
      simp only at hq1 hq2
      try simp [hi]
      refine callK_just (h_laws_markText _ (by omega) _) ?_
      try simp
      refine e_store_part hbs (by rw [← eil]; exact get_mid _ _ _) rfl rfl rfl (by simp) ?_
      rw [← eil, set_mid, wrap64 (by omega) (by omega)]
      simp only [rem3, qb_some]
      try simp
      refine e_store_part (upd_same _ _ _) (get_mid _ _ _) rfl rfl rfl (by simp) ?_
      rw [set_mid, wrap64 (by omega) (by omega)]
      try simp
      refine e_store_part (upd_same _ _ _) (get_mid _ _ _) rfl rfl rfl (by simp) ?_
      rw [set_mid, wrap64 (by omega) (by omega)]
      try simp
      refine e_store_part (upd_same _ _ _) (get_mid _ _ _) rfl rfl rfl (by simp) ?_
      rw [set_mid, wrap64 (by omega) (by omega)]
      try simp
      refine callK_just (h_laws_markText _ (by omega) _) ?_
      try simp
      refine e_store_part (upd_same _ _ _) (get_mid _ _ _) rfl rfl rfl (by simp) ?_
      rw [set_mid, wrap64 (by omega) (by omega)]
      try simp
      rw [q_load_e (upd_same _ _ _) (get_mid _ _ _)]
      have cells6 : ∀ (a b c d e f x0 x1 x2 x3 x4 : PV), setRange (setRange (setRange (setRange (setRange [a, b, c, d, e, f] 0 [x0]) 1 [x1]) 2 [x2]) 3 [x3]) 4 [x4] = [x0, x1, x2, x3, x4, f] := fun _ _ _ _ _ _ _ _ _ _ _ => rfl
      try rw [cells6]
      have eqc : ∀ a b c d e f : PV, (PV.agg [a, b, c, d, e, f]).cells.drop 5 = [f] := fun _ _ _ _ _ _ => rfl
      rw [eqc, row_take hTq]
      simp only [qb_some]
      generalize hs3 : upd s b (.vec 6 (ys1 ++ PV.agg [.str (mtext k), .bool (decide ((k + 1).tmod 3 = 0)), .int .i64 (k + 1 + 1), .int .i64 (k + 1 + 1 + 1), .str (mtext (k + 1 + 1 + 1 + 1)), q] :: ys2) cap) = s3
      have hb3 : s3 b = some (.vec 6 (ys1 ++ PV.agg [.str (mtext k), .bool (decide ((k + 1).tmod 3 = 0)), .int .i64 (k + 1 + 1), .int .i64 (k + 1 + 1 + 1), .str (mtext (k + 1 + 1 + 1 + 1)), q] :: ys2) cap) := by rw [← hs3]; exact upd_same _ _ _
      have hoff3 : ∀ c, c ≠ b → s3 c = s c := fun c hc => by rw [← hs3]; exact upd_ne _ _ hc
      have nb : ∀ c, c ∈ D1 ∨ c ∈ Dx ∨ c ∈ D2 → c ≠ b := fun c hc e => by subst e; exact hbD hc
      have hTq3 : Th s3 (trees x.type.kids) q Dx := hTq.frame _ _ _ fun c hc => hoff3 c (nb c (.inr (.inl hc)))
      refine callK_mark (h_laws_markTreeS _ x.type.kids (k + 1 + 1 + 1 + 1 + 1) q Dx s3 (Nat.le_refl _) (by omega) (by omega) hDx hTq3) fun s4 hT4 hoff4 => ?_
      try simp
      rw [show ys1.length = i from eil, W_idx hi (by unfold maxLen; omega)]
      have emk : markD x k = (⟨mtext k, decide ((k + 1).tmod 3 = 0), .mk (k + 1 + 1) (k + 1 + 1 + 1) (mtext (k + 1 + 1 + 1 + 1)) (markTs x.type.kids (k + 1 + 1 + 1 + 1 + 1)).1⟩, (markTs x.type.kids (k + 1 + 1 + 1 + 1 + 1)).2) := by
        unfold markD
        rw [show k + 2 = k + 1 + 1 by omega, show k + 3 = k + 1 + 1 + 1 by omega, show k + 4 = k + 1 + 1 + 1 + 1 by omega, show k + 5 = k + 1 + 1 + 1 + 1 + 1 by omega]
      rw [emk] at hq1 hq2
      have hend := markTs_end x.type.kids (k + 1 + 1 + 1 + 1 + 1)
      refine kk ((markTs x.type.kids (k + 1 + 1 + 1 + 1 + 1)).2, done ++ [⟨mtext k, decide ((k + 1).tmod 3 = 0), .mk (k + 1 + 1) (k + 1 + 1 + 1) (mtext (k + 1 + 1 + 1 + 1)) (markTs x.type.kids (k + 1 + 1 + 1 + 1 + 1)).1⟩], ys1 ++ PV.agg [.str (mtext k), .bool (decide ((k + 1).tmod 3 = 0)), .int .i64 (k + 1 + 1), .int .i64 (k + 1 + 1 + 1), .str (mtext (k + 1 + 1 + 1 + 1)), q] :: ys2, s4) ⟨by simp; omega, ?_, ?_, ?_, by first | omega | (simp only; omega), by first | omega | (simp only; omega), by simpa using hq1, hq2⟩
      · simp only
        rw [hoff4 b (fun h => nb b (.inr (.inl h)) rfl)]
        exact hb3
      · simp only [List.append_assoc, List.map_append, List.map_cons, List.cons_append, List.nil_append, List.map_nil]
        refine Ths.join (g1.frame _ _ _ fun c hc => ?_) (Ths.cons (Th.decl.2 ⟨q, rfl, hT4⟩) (g3.frame _ _ _ fun c hc => ?_))
        · rw [hoff4 c (fun h => h1x c hc c (.inl h) rfl), hoff3 c (nb c (.inl hc))]
        · rw [hoff4 c (fun h => hx2 c h c hc rfl), hoff3 c (nb c (.inr (.inr hc)))]
      · intro c hc
        simp only [List.mem_cons, List.mem_append, not_or] at hc
        simp only
        rw [hoff4 c hc.2.2.1, hoff3 c hc.1]
        exact hoff c (by simp only [List.mem_cons, List.mem_append, not_or]; exact hc)
    · rintro ⟨k, done, xs, s⟩ ⟨hdl, hbs, hxs, hoff, hk, hb, hq1, hq2⟩
      simp only at hdl hbs hxs hoff hk hb hq1 hq2
      simp only [markDs, List.append_nil] at hq1 hq2 hxs
      try simp
      refine retR_same ⟨by rw [← hq2], ?_, hoff⟩
      first | rw [Th.row] | rw [decls, Th.row]
      refine .inr ⟨b, xs, cap, D', ?_, hbs, by rw [← hq1]; exact hxs, rfl, fun y hy => ?_⟩
      · rw [← hq1]; simp [hdl]
      · simp only [List.mem_map] at hy
        obtain ⟨t, _, rfl⟩ := hy
        exact decl_el t
end Go.H.Tryz
/- Contracts: marks that are read again; copies that own all that they reach. -/
set_option linter.unusedVariables false
set_option linter.unusedSimpArgs false
namespace Go.H.Tryz
open Go Go.H

theorem h_laws_heldTreeS : ∀ (N : Nat) (ts : List Tr) (k : Int) (st : St), Tr.sizes ts ≤ N → 0 ≤ k → k + 3 * Tr.sizes ts ≤ 1000000000000 →
    HCalls prog n_laws_heldTreeS [trees (markTs ts k).1, .int .i64 k] st (Just (.int .i64 (markTs ts k).2) st) := by
  intro N
  induction N with
  | zero =>
    intro ts k st hN hk hb
    have hts : ts = [] := by
      cases ts with
      | nil => rfl
      | cons t r => simp only [Tr.sizes, List.map_cons, List.sum_cons] at hN; have := t.size_pos; omega
    subst hts
    rw [markTs_nil]
    apply c_laws_heldTreeS
    unfold b_laws_heldTreeS
    refine hFix_unroll ?_
    try simp
    exact Just.ret (Sub.refl _)
  | succ N ih =>
    intro ts k st hN hk hb
    apply c_laws_heldTreeS
    unfold b_laws_heldTreeS
    generalize hv : (markTs ts k).2 = v
    generalize hms : (markTs ts k).1 = ms
    have hll := Tr.len_sizes ts
    have hml : ms.length = ts.length := by rw [← hms]; exact markTs_len ts k
    try simp
    refine loop_idx (β := Int) ms (fun z i => [.int .i64 z, .int .i64 (i : Int)]) (fun _ => st)
      (fun z i rest => ∃ r : List Tr, rest = (markTs r z).1 ∧ 0 ≤ z ∧ z + 3 * Tr.sizes r ≤ 1000000000000 ∧ Tr.sizes r ≤ Tr.sizes ts ∧ (markTs r z).2 = v) ?_ ?_ k ⟨ts, hms.symm, hk, hb, Nat.le_refl _, hv⟩
    · rintro i x rest k hi hx ⟨r, hr, hk, hb, hle, hq⟩ kk
      cases r with
      | nil => rw [markTs_nil] at hr; cases hr
      | cons t r =>
        rw [markTs_cons] at hr hq
        simp only [List.cons.injEq] at hr
        obtain ⟨rfl, rfl⟩ := hr
        have hsz : Tr.sizes (t :: r) = t.size + Tr.sizes r := by simp [Tr.sizes]
        have hxk := Tr.size_kids t
        rw [hsz] at hb hle
        simp only at hq
        rw [markT_eq] at hx
        have hend := markTs_end t.kids (k + 1 + 1 + 1)
        have e3 : k + 3 = k + 1 + 1 + 1 := by omega
        have e2 : k + 2 = k + 1 + 1 := by omega
        try simp [hi, ia_tree _ hx]
        rw [wrap64 (by omega) (by omega)]
        try simp
        rw [wrap64 (by omega) (by omega)]
        refine callK_just (h_laws_markText _ (by omega) _) ?_
        try simp [e2]
        rw [wrap64 (by omega) (by omega), e3]
        refine callK_just (by simpa using ih t.kids (k + 1 + 1 + 1) st (by omega) (by omega) (by omega)) ?_
        try simp
        refine br_dec (fun h => by omega) (fun h => ?_)
        rw [W_idx hi (by unfold maxLen; omega)]
        refine kk _ ⟨r, ?_, by omega, by omega, by omega, ?_⟩
        · rw [markT_eq, e3]
        · rw [markT_eq, e3] at hq; exact hq
    · rintro k ⟨r, hr, hk, hb, hle, hq⟩
      cases r with
      | nil => rw [markTs_nil] at hq; simp; exact Just.int hq
      | cons t r => rw [markTs_cons] at hr; cases hr
theorem h_laws_heldTree (t : Tr) (k : Int) (hk : 0 ≤ k) (hb : k + 3 * Tr.sizes t.kids ≤ 1000000000000) (st : St) :
    HCalls prog n_laws_heldTree [tree (markK t k), .int .i64 k] st (Just (.int .i64 (markTs t.kids k).2) st) := by
  apply c_laws_heldTree
  unfold b_laws_heldTree
  have hend := markTs_end t.kids k
  refine e_box_ref (tree_isJunk _) ?_
  try simp [markK]
  refine callK_just (by simpa using h_laws_heldTreeS _ t.kids k st (Nat.le_refl _) hk hb) ?_
  try simp
  refine br_dec (fun h => by omega) (fun h => ?_)
  exact Just.ret (Sub.refl _)
theorem h_laws_heldDeclS (ds : List Dc) (k : Int) (hk : 0 ≤ k) (hb : k + Dc.reaches ds ≤ 1000000000000) (st : St) :
    HCalls prog n_laws_heldDeclS [decls (markDs ds k).1, .int .i64 k] st (Just (.int .i64 (markDs ds k).2) st) := by
  apply c_laws_heldDeclS
  unfold b_laws_heldDeclS
  generalize hv : (markDs ds k).2 = v
  generalize hms : (markDs ds k).1 = ms
  have hll := reach_len ds
  have hml : ms.length = ds.length := by rw [← hms]; exact markDs_len ds k
  try simp
  refine loop_idx (β := Int) ms (fun z i => [.int .i64 z, .int .i64 (i : Int)]) (fun _ => st)
    (fun z i rest => ∃ r : List Dc, rest = (markDs r z).1 ∧ 0 ≤ z ∧ z + Dc.reaches r ≤ 1000000000000 ∧ (markDs r z).2 = v) ?_ ?_ k ⟨ds, hms.symm, hk, hb, hv⟩
  · rintro i x rest k hi hx ⟨r, hr, hk, hb, hq⟩ kk
    cases r with
    | nil => rw [markDs] at hr; cases hr
    | cons t r =>
      rw [markDs] at hr hq
      simp only [List.cons.injEq] at hr
      obtain ⟨rfl, rfl⟩ := hr
      have hsz : Dc.reaches (t :: r) = t.reach + Dc.reaches r := by simp [Dc.reaches]
      have hxr : t.reach = 5 + 3 * Tr.sizes t.type.kids := rfl
      rw [hsz] at hb
      simp only at hq
      have emk : markD t k = (⟨mtext k, decide ((k + 1).tmod 3 = 0), .mk (k + 1 + 1) (k + 1 + 1 + 1) (mtext (k + 1 + 1 + 1 + 1)) (markTs t.type.kids (k + 1 + 1 + 1 + 1 + 1)).1⟩, (markTs t.type.kids (k + 1 + 1 + 1 + 1 + 1)).2) := by
        unfold markD
        rw [show k + 2 = k + 1 + 1 by omega, show k + 3 = k + 1 + 1 + 1 by omega, show k + 4 = k + 1 + 1 + 1 + 1 by omega, show k + 5 = k + 1 + 1 + 1 + 1 + 1 by omega]
      rw [emk] at hx hq
      have hend := markTs_end t.type.kids (k + 1 + 1 + 1 + 1 + 1)
      try simp [hi, ia_decl _ hx]
      refine callK_just (h_laws_markText _ (by omega) _) ?_
      try simp
      rw [wrap64 (by omega) (by omega)]
      simp only [rem3, qb_some]
      try simp
      rw [wrap64 (by omega) (by omega)]
      try simp
      rw [wrap64 (by omega) (by omega)]
      try simp
      rw [wrap64 (by omega) (by omega)]
      refine callK_just (h_laws_markText _ (by omega) _) ?_
      try simp
      rw [wrap64 (by omega) (by omega)]
      refine callK_just (by simpa using h_laws_heldTreeS _ t.type.kids (k + 1 + 1 + 1 + 1 + 1) st (Nat.le_refl _) (by omega) (by omega)) ?_
      try simp
      refine br_dec (fun h => by omega) (fun h => ?_)
      rw [W_idx hi (by unfold maxLen; omega)]
      refine kk _ ⟨r, ?_, by omega, by omega, ?_⟩
      · rw [emk]
      · exact hq
  · rintro k ⟨r, hr, hk, hb, hq⟩
    cases r with
    | nil => rw [markDs] at hq; simp; exact Just.int hq
    | cons t r => rw [markDs] at hr; cases hr
end Go.H.Tryz
/- Contracts: copies that own all that they reach. -/
set_option linter.unusedVariables false
set_option linter.unusedSimpArgs false
namespace Go.H.Tryz
open Go Go.H

theorem Owns.mono_res {P : Program} {g : FuncId} {us : List PV} {p' : PV} {st : St} (hc : HCalls P g us st (Owns p' st)) : HCalls P g us st (Owns p' st) := hc
theorem th_row_cell {s : St} {ks : List Tr} {q : PV} {D : List Nat} (h : Th s (trees ks) q D) : q.cellOK = true ∧ q.ncells = 1 ∧ q.isJunk = false ∧ q.cells = [q] := by
  rw [trees, Th.row] at h
  rcases h with ⟨_, ⟨e, f, rfl⟩, rfl⟩ | ⟨b, xs, cap, D', rfl, _⟩ <;> exact ⟨rfl, rfl, rfl, rfl⟩
theorem h_laws_toTree_own_of (t : Tr) (st : St) (ih : ∀ st, HCalls prog n_laws_toTreeS [trees t.kids] st (Owns (trees t.kids) st)) :
    HCalls prog n_laws_toTree [tree t] st (Owns (tree t) st) := by
  apply c_laws_toTree
  unfold b_laws_toTree
  refine e_box_ref (tree_isJunk _) ?_
  intro b1 hb1 b2 hb2
  have hne : b1 ≠ b2 := fun e => by rw [← e, upd_same] at hb2; cases hb2
  have hb2' : st b2 = none := by rw [upd_ne _ _ hne.symm] at hb2; exact hb2
  try simp [q_load_p, upd_apply, hb1, hb2]
  generalize hs : upd (upd st b1 (.cells [.int .i64 0, .int .i64 0, .str [], .sl 0 true []])) b2 (.cells [.int .i64 t.kind, .int .i64 t.n, .str t.name, .sl 0 true []]) = s
  have e1 : s b1 = some (.cells [.int .i64 0, .int .i64 0, .str [], .sl 0 true []]) := by rw [← hs, upd_ne _ _ hne]; exact upd_same _ _ _
  have e2 : s b2 = some (.cells [.int .i64 t.kind, .int .i64 t.n, .str t.name, .sl 0 true []]) := by rw [← hs]; exact upd_same _ _ _
  have hsub : Sub st s := by rw [← hs]; exact ((Sub.refl st).put hb1).put (by rw [upd_ne _ _ hne.symm] at hb2; exact hb2)
  refine callK_owns (by simpa using ih s) fun q D s2 hD hT hf ho => ?_
  have keep : ∀ c o, s c = some o → s2 c = some o := fun c o hc => by
    rw [ho c (fun h => by rw [hf c h] at hc; cases hc)]; exact hc
  have f1 := keep _ _ e1
  have f2 := keep _ _ e2
  obtain ⟨c1, c2, c3, c4⟩ := th_row_cell (by simpa using hT)
  try simp
  rw [e_store_p _ _ _ _ _ _ _ f2]
  try simp [c1, c2, c3, c4]
  try simp [q_load_p (upd_same _ _ _)]
  have g1 : ∀ o, (upd s2 b2 o) b1 = some (.cells [.int .i64 0, .int .i64 0, .str [], .sl 0 true []]) := fun o => by rw [upd_ne _ _ hne]; exact f1
  rw [e_store_p _ _ _ _ _ _ _ (g1 _)]
  try simp [c1]
  try simp [q_load_p (upd_same _ _ _)]
  have nD : ∀ c ∈ D, c ≠ b1 ∧ c ≠ b2 := fun c hc => ⟨(fun e => by rw [e] at hc; rw [hf b1 hc] at e1; cases e1), (fun e => by rw [e] at hc; rw [hf b2 hc] at e2; cases e2)⟩
  refine Owns.ret hD (Th.tree.2 ⟨q, rfl, hT.frame _ _ _ fun c hc => ?_⟩) (fun c hc => hsub.isNone (hf c hc)) ?_
  · rw [upd_ne _ _ (nD c hc).1, upd_ne _ _ (nD c hc).2]
  · exact ((hsub.trans keep).put hb2').put hb1
theorem h_laws_toTreeS_own_of (ts : List Tr) (hn : ts.length ≤ 1000000000) (st : St) (ih : ∀ t ∈ ts, ∀ st, HCalls prog n_laws_toTree [tree t] st (Owns (tree t) st)) :
    HCalls prog n_laws_toTreeS [trees ts] st (Owns (trees ts) st) := by
  apply c_laws_toTreeS
  unfold b_laws_toTreeS
  try simp
  refine ⟨rfl, by simp, by omega, ?_⟩
  try simp
  refine ⟨by omega, by omega, ?_⟩
  intro b hb
  refine loop_idx (β := List PV × List Nat × St) ts (fun _ i => [.int .i64 (i : Int)]) (fun z => z.2.2)
    (fun z i rest => z.2.2 b = some (.vec 4 (z.1 ++ List.replicate (ts.length - i) (.agg [.int .i64 0, .int .i64 0, .str [], .sl 0 true []])) ts.length) ∧ z.1.length = i ∧ Ths z.2.2 ((ts.take i).map tree) z.1 z.2.1 ∧ z.2.1.Nodup ∧ b ∉ z.2.1 ∧ (∀ c ∈ z.2.1, st c = none) ∧ (∀ c, c ∉ b :: z.2.1 → z.2.2 c = st c)) ?_ ?_ ([], [], upd st b _) ⟨by simp only [Nat.sub_zero, List.nil_append]; exact upd_same _ _ _, rfl, by simp [Ths], List.nodup_nil, by simp, by simp, fun c hc => upd_ne _ _ (by simpa using hc)⟩
  · rintro i x rest ⟨ys, D, s⟩ hi hx ⟨hbs, hyl, hys, hD, hbD, hf, ho⟩ kk
    simp only at hbs hyl hys hD hbD hf ho
    try simp [hi, ia_tree _ hx]
    refine callK_owns (ih x (List.mem_of_getElem? hx) s) fun p Dx s2 hDx hTx hfx hox => ?_
    have keep : ∀ c o, s c = some o → s2 c = some o := fun c o hc => by
      rw [hox c (fun h => by rw [hfx c h] at hc; cases hc)]; exact hc
    have liveD : ∀ c ∈ D, ∃ o, s c = some o := fun c hc => by obtain ⟨o, h1, _⟩ := (Ths.solid _ _ _ hys).2 c hc; exact ⟨o, h1⟩
    have hxb : b ∉ Dx := fun h => by rw [hfx b h] at hbs; cases hbs
    have hxD : ∀ c ∈ D, c ∉ Dx := fun c hc h => by obtain ⟨o, ho'⟩ := liveD c hc; rw [hfx c h] at ho'; cases ho'
    have erep : List.replicate (ts.length - i) (PV.agg [.int .i64 0, .int .i64 0, .str [], .sl 0 true []]) = .agg [.int .i64 0, .int .i64 0, .str [], .sl 0 true []] :: List.replicate (ts.length - (i + 1)) (.agg [.int .i64 0, .int .i64 0, .str [], .sl 0 true []]) := by
      rw [show ts.length - i = (ts.length - (i + 1)) + 1 by omega, List.replicate_succ]
    rw [erep] at hbs
    have hb2 := keep _ _ hbs
    have hp := hTx.elOK (tree_el x)
    obtain ⟨hp1, hp2, hp3⟩ := hTx.ncells
    try simp [hi]
    refine e_store_el hb2 (by rw [← hyl]; exact get_mid _ _ _) rfl hp.1 hp.2 (by rw [hp2]; exact tree_isAgg x) hp3 ?_
    rw [← hyl, set_mid, hyl, W_idx hi (by unfold maxLen; omega)]
    refine kk (ys ++ [p], D ++ Dx, upd s2 b (.vec 4 (ys ++ p :: List.replicate (ts.length - (i + 1)) (.agg [.int .i64 0, .int .i64 0, .str [], .sl 0 true []])) ts.length)) ⟨?_, by simp [hyl], ?_, ?_, ?_, ?_, ?_⟩
    · simp only [List.append_assoc, List.cons_append, List.nil_append]
      exact upd_same _ _ _
    · rw [take_snoc hx, List.map_append]
      refine Ths.join (hys.frame _ _ _ fun c hc => ?_) (Ths.one (hTx.frame _ _ _ fun c hc => ?_))
      · have : c ≠ b := fun e => hbD (e ▸ hc)
        simp only
        rw [upd_ne _ _ this, hox c (hxD c hc)]
      · have : c ≠ b := fun e => hxb (e ▸ hc)
        simp only
        rw [upd_ne _ _ this]
    · rw [List.nodup_append]
      exact ⟨hD, hDx, fun a ha c hc e => hxD a ha (e ▸ hc)⟩
    · simp only [List.mem_append, not_or]
      exact ⟨hbD, hxb⟩
    · intro c hc
      rcases List.mem_append.1 hc with hc | hc
      · exact hf c hc
      · have h1 := hfx c hc
        by_cases hcD : c ∈ D
        · exact hf c hcD
        · have : c ≠ b := fun e => hxb (e ▸ hc)
          rw [← ho c (by simp [this, hcD])]
          exact h1
    · intro c hc
      simp only [List.mem_cons, List.mem_append, not_or] at hc
      simp only
      rw [upd_ne _ _ hc.1, hox c hc.2.2]
      exact ho c (by simp [hc.1, hc.2.1])
  · rintro ⟨ys, D, s⟩ ⟨hbs, hyl, hys, hD, hbD, hf, ho⟩
    simp only at hbs hyl hys hD hbD hf ho
    simp only [Nat.sub_self, List.replicate_zero, List.append_nil] at hbs
    rw [List.take_of_length_le (Nat.le_refl _)] at hys
    try simp
    refine Owns.ret (D := b :: D) (List.nodup_cons.2 ⟨hbD, hD⟩) (Th.row.2 (.inr ⟨b, ys, ts.length, D, by simp, hbs, hys, rfl, fun y hy => ?_⟩)) ?_ ?_
    · simp only [List.mem_map] at hy
      obtain ⟨t, _, rfl⟩ := hy
      exact tree_el t
    · intro c hc
      rcases List.mem_cons.1 hc with rfl | hc
      · exact hb
      · exact hf c hc
    · intro c o hc
      have : c ∉ b :: D := fun h => by
        rcases List.mem_cons.1 h with rfl | h
        · rw [hb] at hc; cases hc
        · rw [hf c h] at hc; cases hc
      rw [ho c this]; exact hc
theorem h_laws_toTree_own (t : Tr) (hn : t.bulk ≤ 1000000000) (st : St) : HCalls prog n_laws_toTree [tree t] st (Owns (tree t) st) := by
  induction t using Tr.ind generalizing st with
  | _ t ih =>
  have hb := Tr.bulk_bulks t
  refine h_laws_toTree_own_of t st fun st => h_laws_toTreeS_own_of _ (by unfold Tr.bulks at hb; omega) st fun x hx st => ih x hx ?_ st
  have := Tr.bulk_mem hx
  omega
theorem h_laws_toTreeS_own (ts : List Tr) (hn : Tr.bulks ts ≤ 1000000000) (st : St) : HCalls prog n_laws_toTreeS [trees ts] st (Owns (trees ts) st) :=
  h_laws_toTreeS_own_of ts (by unfold Tr.bulks at hn; omega) st fun x hx st => h_laws_toTree_own x (by have := Tr.bulk_mem hx; omega) st
theorem h_laws_toDeclS_own_of (ts : List Dc) (hn : ts.length ≤ 1000000000) (st : St) (ih : ∀ t ∈ ts, ∀ st, HCalls prog n_laws_toDecl [decl t] st (Owns (decl t) st)) :
    HCalls prog n_laws_toDeclS [decls ts] st (Owns (decls ts) st) := by
  apply c_laws_toDeclS
  unfold b_laws_toDeclS
  try simp
  refine ⟨rfl, by simp, by omega, ?_⟩
  try simp
  refine ⟨by omega, by omega, ?_⟩
  intro b hb
  refine loop_idx (β := List PV × List Nat × St) ts (fun _ i => [.int .i64 (i : Int)]) (fun z => z.2.2)
    (fun z i rest => z.2.2 b = some (.vec 6 (z.1 ++ List.replicate (ts.length - i) (.agg [.str [], .bool false, .int .i64 0, .int .i64 0, .str [], .sl 0 true []])) ts.length) ∧ z.1.length = i ∧ Ths z.2.2 ((ts.take i).map decl) z.1 z.2.1 ∧ z.2.1.Nodup ∧ b ∉ z.2.1 ∧ (∀ c ∈ z.2.1, st c = none) ∧ (∀ c, c ∉ b :: z.2.1 → z.2.2 c = st c)) ?_ ?_ ([], [], upd st b _) ⟨by simp only [Nat.sub_zero, List.nil_append]; exact upd_same _ _ _, rfl, by simp [Ths], List.nodup_nil, by simp, by simp, fun c hc => upd_ne _ _ (by simpa using hc)⟩
  · rintro i x rest ⟨ys, D, s⟩ hi hx ⟨hbs, hyl, hys, hD, hbD, hf, ho⟩ kk
    simp only at hbs hyl hys hD hbD hf ho
    try simp [hi, ia_decl _ hx]
    refine callK_owns (ih x (List.mem_of_getElem? hx) s) fun p Dx s2 hDx hTx hfx hox => ?_
    have keep : ∀ c o, s c = some o → s2 c = some o := fun c o hc => by
      rw [hox c (fun h => by rw [hfx c h] at hc; cases hc)]; exact hc
    have liveD : ∀ c ∈ D, ∃ o, s c = some o := fun c hc => by obtain ⟨o, h1, _⟩ := (Ths.solid _ _ _ hys).2 c hc; exact ⟨o, h1⟩
    have hxb : b ∉ Dx := fun h => by rw [hfx b h] at hbs; cases hbs
    have hxD : ∀ c ∈ D, c ∉ Dx := fun c hc h => by obtain ⟨o, ho'⟩ := liveD c hc; rw [hfx c h] at ho'; cases ho'
    have erep : List.replicate (ts.length - i) (PV.agg [.str [], .bool false, .int .i64 0, .int .i64 0, .str [], .sl 0 true []]) = .agg [.str [], .bool false, .int .i64 0, .int .i64 0, .str [], .sl 0 true []] :: List.replicate (ts.length - (i + 1)) (.agg [.str [], .bool false, .int .i64 0, .int .i64 0, .str [], .sl 0 true []]) := by
      rw [show ts.length - i = (ts.length - (i + 1)) + 1 by omega, List.replicate_succ]
    rw [erep] at hbs
    have hb2 := keep _ _ hbs
    have hp := hTx.elOK (decl_el x)
    obtain ⟨hp1, hp2, hp3⟩ := hTx.ncells
    try simp [hi]
    refine e_store_el hb2 (by rw [← hyl]; exact get_mid _ _ _) rfl hp.1 hp.2 (by rw [hp2]; exact decl_isAgg x) hp3 ?_
    rw [← hyl, set_mid, hyl, W_idx hi (by unfold maxLen; omega)]
    refine kk (ys ++ [p], D ++ Dx, upd s2 b (.vec 6 (ys ++ p :: List.replicate (ts.length - (i + 1)) (.agg [.str [], .bool false, .int .i64 0, .int .i64 0, .str [], .sl 0 true []])) ts.length)) ⟨?_, by simp [hyl], ?_, ?_, ?_, ?_, ?_⟩
    · simp only [List.append_assoc, List.cons_append, List.nil_append]
      exact upd_same _ _ _
    · rw [take_snoc hx, List.map_append]
      refine Ths.join (hys.frame _ _ _ fun c hc => ?_) (Ths.one (hTx.frame _ _ _ fun c hc => ?_))
      · have : c ≠ b := fun e => hbD (e ▸ hc)
        simp only
        rw [upd_ne _ _ this, hox c (hxD c hc)]
      · have : c ≠ b := fun e => hxb (e ▸ hc)
        simp only
        rw [upd_ne _ _ this]
    · rw [List.nodup_append]
      exact ⟨hD, hDx, fun a ha c hc e => hxD a ha (e ▸ hc)⟩
    · simp only [List.mem_append, not_or]
      exact ⟨hbD, hxb⟩
    · intro c hc
      rcases List.mem_append.1 hc with hc | hc
      · exact hf c hc
      · have h1 := hfx c hc
        by_cases hcD : c ∈ D
        · exact hf c hcD
        · have : c ≠ b := fun e => hxb (e ▸ hc)
          rw [← ho c (by simp [this, hcD])]
          exact h1
    · intro c hc
      simp only [List.mem_cons, List.mem_append, not_or] at hc
      simp only
      rw [upd_ne _ _ hc.1, hox c hc.2.2]
      exact ho c (by simp [hc.1, hc.2.1])
  · rintro ⟨ys, D, s⟩ ⟨hbs, hyl, hys, hD, hbD, hf, ho⟩
    simp only at hbs hyl hys hD hbD hf ho
    simp only [Nat.sub_self, List.replicate_zero, List.append_nil] at hbs
    rw [List.take_of_length_le (Nat.le_refl _)] at hys
    try simp
    refine Owns.ret (D := b :: D) (List.nodup_cons.2 ⟨hbD, hD⟩) (Th.row.2 (.inr ⟨b, ys, ts.length, D, by simp, hbs, hys, rfl, fun y hy => ?_⟩)) ?_ ?_
    · simp only [List.mem_map] at hy
      obtain ⟨t, _, rfl⟩ := hy
      exact decl_el t
    · intro c hc
      rcases List.mem_cons.1 hc with rfl | hc
      · exact hb
      · exact hf c hc
    · intro c o hc
      have : c ∉ b :: D := fun h => by
        rcases List.mem_cons.1 h with rfl | h
        · rw [hb] at hc; cases hc
        · rw [hf c h] at hc; cases hc
      rw [ho c this]; exact hc
theorem h_laws_toDecl_own (d : Dc) (hn : d.bulk ≤ 1000000000) (st : St) : HCalls prog n_laws_toDecl [decl d] st (Owns (decl d) st) := by
  apply c_laws_toDecl
  unfold b_laws_toDecl
  have hb0 : d.type.bulk ≤ 1000000000 := by unfold Dc.bulk at hn; omega
  refine e_box_ref (decl_isJunk _) ?_
  intro b1 hb1 b2 hb2
  have hne : b1 ≠ b2 := fun e => by rw [← e, upd_same] at hb2; cases hb2
  have hb2' : st b2 = none := by rw [upd_ne _ _ hne.symm] at hb2; exact hb2
  try simp [q_load_p, upd_apply, hb1, hb2]
  generalize hs : upd (upd st b1 (.cells [.str [], .bool false, .int .i64 0, .int .i64 0, .str [], .sl 0 true []])) b2 (.cells [.str d.name, .bool d.fam, .int .i64 0, .int .i64 0, .str [], .sl 0 true []]) = s
  have e1 : s b1 = some (.cells [.str [], .bool false, .int .i64 0, .int .i64 0, .str [], .sl 0 true []]) := by rw [← hs, upd_ne _ _ hne]; exact upd_same _ _ _
  have e2 : s b2 = some (.cells [.str d.name, .bool d.fam, .int .i64 0, .int .i64 0, .str [], .sl 0 true []]) := by rw [← hs]; exact upd_same _ _ _
  have hsub : Sub st s := by rw [← hs]; exact ((Sub.refl st).put hb1).put (by rw [upd_ne _ _ hne.symm] at hb2; exact hb2)
  refine callK_owns (h_laws_toTree_own d.type hb0 s) fun p D s2 hD hT hf ho => ?_
  have keep : ∀ c o, s c = some o → s2 c = some o := fun c o hc => by
    rw [ho c (fun h => by rw [hf c h] at hc; cases hc)]; exact hc
  have f1 := keep _ _ e1
  have f2 := keep _ _ e2
  obtain ⟨q, rfl, hTq⟩ := Th.tree.1 hT
  obtain ⟨c1, c2, c3, c4⟩ := th_row_cell hTq
  try simp
  rw [e_store_p _ _ _ _ _ _ _ f2]
  have r6 : ∀ a b c d e f x y z w : PV, setRange [a, b, c, d, e, f] 2 [x, y, z, w] = [a, b, x, y, z, w] := fun _ _ _ _ _ _ _ _ _ _ => rfl
  try simp [c1, r6]
  try simp [q_load_p (upd_same _ _ _)]
  have g1 : ∀ o, (upd s2 b2 o) b1 = some (.cells [.str [], .bool false, .int .i64 0, .int .i64 0, .str [], .sl 0 true []]) := fun o => by rw [upd_ne _ _ hne]; exact f1
  rw [e_store_p _ _ _ _ _ _ _ (g1 _)]
  have r66 : ∀ a b c d e f x y z w v u : PV, setRange [a, b, c, d, e, f] 0 [x, y, z, w, v, u] = [x, y, z, w, v, u] := fun _ _ _ _ _ _ _ _ _ _ _ _ => rfl
  try simp [c1, r66]
  try simp [q_load_p (upd_same _ _ _)]
  have nD : ∀ c ∈ D, c ≠ b1 ∧ c ≠ b2 := fun c hc => ⟨(fun e => by rw [e] at hc; rw [hf b1 hc] at e1; cases e1), (fun e => by rw [e] at hc; rw [hf b2 hc] at e2; cases e2)⟩
  refine Owns.ret hD (Th.decl.2 ⟨q, rfl, hTq.frame _ _ _ fun c hc => ?_⟩) (fun c hc => hsub.isNone (hf c hc)) ?_
  · rw [upd_ne _ _ (nD c hc).1, upd_ne _ _ (nD c hc).2]
  · exact ((hsub.trans keep).put hb2').put hb1
theorem h_laws_toDeclS_own (ts : List Dc) (hn : Dc.bulks ts ≤ 1000000000) (st : St) : HCalls prog n_laws_toDeclS [decls ts] st (Owns (decls ts) st) :=
  h_laws_toDeclS_own_of ts (by have := Dc.length_le ts; omega) st fun x hx st => h_laws_toDecl_own x (by have := Dc.bulk_mem hx; omega) st

/-! ### The program's copies -/
theorem h_impl_clone_own (t : Tr) (hsz : t.size ≤ 1000000000) (st : St) : HCalls prog n_impl_clone [tree t] st (Owns (tree t) st) := by
  induction t using Tr.ind generalizing st with
  | _ t ih =>
  have hl := t.kids_len
  apply c_impl_clone
  unfold b_impl_clone
  refine e_box_own (tree_isJunk _) fun b1 hb1 => ?_
  intro b2 hb2
  have hne : b1 ≠ b2 := fun e => by rw [← e, upd_same] at hb2; cases hb2
  rw [upd_ne _ _ hne.symm] at hb2
  generalize hs : upd (upd st b1 (.cells (tree t).cells)) b2 (.cells [.int .i64 0, .int .i64 0, .str [], .sl 0 true []]) = s
  have e1 : s b1 = some (.cells (tree t).cells) := by rw [← hs, upd_ne _ _ hne]; exact upd_same _ _ _
  have e2 : s b2 = some (.cells [.int .i64 0, .int .i64 0, .str [], .sl 0 true []]) := by rw [← hs]; exact upd_same _ _ _
  have hsub : Sub st s := by
    rw [← hs]
    refine ((Sub.refl st).put hb1).put hb2
  clear hs
  try simp [q_load_p e1]
  have hall : HCalls prog n_impl_cloneAll [trees t.kids] s (Owns (trees t.kids) s) := by
    apply c_impl_cloneAll
    unfold b_impl_cloneAll
    try simp
    refine loop_idx (β := PV × List Nat × St) t.kids (fun z i => [z.1, .int .i64 (i : Int)]) (fun z => z.2.2) (fun z i rest => Rw s z.2.2 4 ((t.kids.take i).map tree) z.1 z.2.1) ?_ ?_ (_, [], s) (Rw.start (Sub.refl s) 4 4)
    · rintro i x rest ⟨p, D, s1⟩ hi hx q0 kk
      simp only at q0
      try simp [hi, ia_tree _ hx]
      intro b5 hb5
      try simp
      try simp [q_load_p (upd_same _ _ _)]
      have q1 := q0.put hb5 (.cells (tree x).cells)
      generalize upd s1 b5 (.cells (tree x).cells) = s2 at q1
      refine callK_owns (ih x (List.mem_of_getElem? hx) (by have := Tr.kid_size (List.mem_of_getElem? hx); omega) s2) fun y Dx s3 hDx hTx hfx hox => ?_
      have keep : ∀ c o, s2 c = some o → s3 c = some o := fun c o hc => by
        rw [hox c (fun h => by rw [hfx c h] at hc; cases hc)]; exact hc
      have q2 : Rw s s3 4 ((t.kids.take i).map tree) p D := q1.frame (fun c hc => by
        obtain ⟨o, ho⟩ := q1.live hc
        rw [ho]; exact keep c o ho) (q1.sub.trans keep)
      have hy := hTx.elOK (tree_el x)
      obtain ⟨n1, n2, n3⟩ := hTx.ncells
      rw [tree_ncells] at n1
      have hya := hy.2
      rw [List.all_eq_true] at hya
      try simp
      rw [if_pos ⟨n1, hya⟩]
      try simp
      refine q2.append hTx (tree_el x) hDx (fun c hc => q1.sub.isNone (hfx c hc)) (fun c hc h => by obtain ⟨o, ho⟩ := q1.live hc; rw [hfx c h] at ho; cases ho) (elems_sl _ _ _ _) (by simp; omega) fun p2 s4 D2 q3 _ _ => ?_
      rw [W_idx hi (by unfold maxLen; omega)]
      refine kk (p2, D2, s4) ?_
      simp only
      rw [take_snoc hx, List.map_append]
      exact q3
    · rintro ⟨p, D, s1⟩ q0
      simp only at q0
      rw [List.take_of_length_le (Nat.le_refl _)] at q0
      try simp
      exact Owns.row q0
  refine callK_owns (by simpa using hall) fun q D s2 hD hT hf ho => ?_
  have keep : ∀ c o, s c = some o → s2 c = some o := fun c o hc => by
    rw [ho c (fun h => by rw [hf c h] at hc; cases hc)]; exact hc
  have f1 := keep _ _ e1
  have f2 := keep _ _ e2
  obtain ⟨c1, c2, c3, c4⟩ := th_row_cell (by simpa using hT)
  try simp
  rw [e_store_p _ _ _ _ _ _ _ f1]
  try simp [c1, c2, c3, c4]
  try simp [q_load_p (upd_same _ _ _)]
  have g2 : ∀ o, (upd s2 b1 o) b2 = some (.cells [.int .i64 0, .int .i64 0, .str [], .sl 0 true []]) := fun o => by rw [upd_ne _ _ hne.symm]; exact f2
  rw [e_store_p _ _ _ _ _ _ _ (g2 _)]
  try simp [c1]
  try simp [q_load_p (upd_same _ _ _)]
  have nD : ∀ c ∈ D, c ≠ b1 ∧ c ≠ b2 := fun c hc => ⟨(fun e => by rw [e] at hc; rw [hf b1 hc] at e1; cases e1), (fun e => by rw [e] at hc; rw [hf b2 hc] at e2; cases e2)⟩
  refine Owns.ret hD (Th.tree.2 ⟨q, rfl, hT.frame _ _ _ fun c hc => ?_⟩) (fun c hc => hsub.isNone (hf c hc)) ?_
  · rw [upd_ne _ _ (nD c hc).2, upd_ne _ _ (nD c hc).1]
  · exact ((hsub.trans keep).put hb1).put hb2
end Go.H.Tryz
/- Contracts: AddDecl and BuildSig, on both sides. -/
set_option linter.unusedVariables false
set_option linter.unusedSimpArgs false
namespace Go.H.Tryz
open Go Go.H

theorem h_impl_cloneDecl_own (d : Dc) (hsz : d.type.size ≤ 1000000000) (st : St) : HCalls prog n_impl_cloneDecl [decl d] st (Owns (decl d) st) := by
  apply c_impl_cloneDecl
  unfold b_impl_cloneDecl
  refine e_box_ref (decl_isJunk _) ?_
  intro b2 hb2
  have e2 := upd_same st b2 (.cells [.str [], .bool false, .int .i64 0, .int .i64 0, .str [], .sl 0 true []])
  have hsub : Sub st (upd st b2 (.cells [.str [], .bool false, .int .i64 0, .int .i64 0, .str [], .sl 0 true []])) := (Sub.refl st).put hb2
  generalize upd st b2 (.cells [.str [], .bool false, .int .i64 0, .int .i64 0, .str [], .sl 0 true []]) = s at e2 hsub
  try simp
  refine callK_owns (h_impl_clone_own d.type hsz s) fun p D s2 hD hT hf ho => ?_
  have keep : ∀ c o, s c = some o → s2 c = some o := fun c o hc => by
    rw [ho c (fun h => by rw [hf c h] at hc; cases hc)]; exact hc
  have f2 := keep _ _ e2
  obtain ⟨q, rfl, hTq⟩ := Th.tree.1 hT
  obtain ⟨c1, c2, c3, c4⟩ := th_row_cell hTq
  have r0 : q_struct [PV.str [], PV.bool false, PV.int IntKind.i64 0, PV.int IntKind.i64 0, PV.str [], PV.sl 0 true []] [(0, 1, PV.str d.name), (1, 1, PV.bool d.fam), (2, 4, PV.agg [.int .i64 d.type.kind, .int .i64 d.type.n, .str d.type.name, q])] = some (.agg [.str d.name, .bool d.fam, .int .i64 d.type.kind, .int .i64 d.type.n, .str d.type.name, q]) := by
    try simp [q_struct, fillL, c1]
  try simp
  rw [r0]
  simp only [qb_some]
  rw [e_store_p _ _ _ _ _ _ _ f2]
  have r66 : ∀ a b c d e f x y z w v u : PV, setRange [a, b, c, d, e, f] 0 [x, y, z, w, v, u] = [x, y, z, w, v, u] := fun _ _ _ _ _ _ _ _ _ _ _ _ => rfl
  try simp [c1, r66]
  try simp [q_load_p (upd_same _ _ _)]
  refine Owns.ret hD (Th.decl.2 ⟨q, rfl, hTq.frame _ _ _ fun c hc => ?_⟩) (fun c hc => hsub.isNone (hf c hc)) ((hsub.trans keep).put hb2)
  have : c ≠ b2 := fun e => by rw [e] at hc; rw [hf b2 hc] at e2; cases e2
  rw [upd_ne _ _ this]
/-- A row is handed back that is new and that may grow. -/
def RwR (esz : Nat) (xs' : List PV) (st : St) : Res → St → Prop := fun r s => ∃ p D, r = .ret p ∧ Rw st s esz xs' p D ∧ ∀ b, b ∉ D → s b = st b
theorem RwR.ret {st s : St} {esz : Nat} {xs' : List PV} {p : PV} {D : List Nat} (h : Rw st s esz xs' p D) : retR (RwR esz xs' st) p s := by
  refine retR_conv (p' := p) (st' := fun b => if b ∈ D then s b else st b) (Conv.sub fun b o hb => ?_) ⟨p, D, rfl, h.frame (fun b hb => by simp only [if_pos hb]) (fun b o hb => ?_), fun b hb => by simp only [if_neg hb]⟩
  · by_cases hbD : b ∈ D
    · rw [if_pos hbD] at hb; exact hb
    · rw [if_neg hbD] at hb; exact h.sub b o hb
  · have : b ∉ D := fun hd => by rw [h.fresh b hd] at hb; cases hb
    simp only [if_neg this]
    exact hb
theorem RwR.owns {P : Program} {g : FuncId} {us : List PV} {st : St} {esz : Nat} {xs' : List PV} (hc : HCalls P g us st (RwR esz xs' st)) : HCalls P g us st (Owns (.sl esz false xs') st) :=
  hc.mono fun r s h => by
    obtain ⟨p, D, h1, h2, h3⟩ := h
    exact ⟨p, D, h1, h2.nodup, h2.th, h2.fresh, h3⟩
theorem callK_rw {P : Program} {g : FuncId} {us : List PV} {st : St} {K Kp : PV → St → Prop} {esz : Nat} {xs' : List PV} (hc : HCalls P g us st (RwR esz xs' st)) (hk : ∀ p D s, Rw st s esz xs' p D → (∀ b, b ∉ D → s b = st b) → K p s) : callK P g us st K Kp := by
  refine callK_of hc (fun p s h => ?_) (fun p s h => ?_)
  · obtain ⟨q, D, h1, h2, h3⟩ := h; cases h1; exact hk _ D s h2 h3
  · obtain ⟨q, D, h1, _⟩ := h; cases h1
theorem h_impl_cloneSig_rw (sig : List Dc) (hl : sig.length ≤ 1000000) (hsz : ∀ d ∈ sig, d.type.size ≤ 1000000000) (st : St) : HCalls prog n_impl_cloneSig [decls sig] st (RwR 6 (sig.map decl) st) := by
  apply c_impl_cloneSig
  unfold b_impl_cloneSig
  try simp
  refine loop_idx (β := PV × List Nat × St) sig (fun z i => [z.1, .int .i64 (i : Int)]) (fun z => z.2.2) (fun z i rest => Rw st z.2.2 6 ((sig.take i).map decl) z.1 z.2.1) ?_ ?_ (_, [], st) (Rw.start (Sub.refl st) 6 6)
  · rintro i x rest ⟨p, D, s1⟩ hi hx q0 kk
    simp only at q0
    try simp [hi, ia_decl _ hx]
    intro b5 hb5
    try simp
    try simp [q_load_p (upd_same _ _ _)]
    have q1 := q0.put hb5 (.cells (decl x).cells)
    generalize upd s1 b5 (.cells (decl x).cells) = s2 at q1
    refine callK_owns (h_impl_cloneDecl_own x (hsz x (List.mem_of_getElem? hx)) s2) fun y Dx s3 hDx hTx hfx hox => ?_
    have keep : ∀ c o, s2 c = some o → s3 c = some o := fun c o hc => by
      rw [hox c (fun h => by rw [hfx c h] at hc; cases hc)]; exact hc
    have q2 : Rw st s3 6 ((sig.take i).map decl) p D := q1.frame (fun c hc => by
      obtain ⟨o, ho⟩ := q1.live hc
      rw [ho]; exact keep c o ho) (q1.sub.trans keep)
    have hy := hTx.elOK (decl_el x)
    obtain ⟨n1, n2, n3⟩ := hTx.ncells
    rw [decl_ncells] at n1
    have hya := hy.2
    rw [List.all_eq_true] at hya
    try simp
    rw [if_pos ⟨n1, hya⟩]
    try simp
    refine q2.append hTx (decl_el x) hDx (fun c hc => q1.sub.isNone (hfx c hc)) (fun c hc h => by obtain ⟨o, ho⟩ := q1.live hc; rw [hfx c h] at ho; cases ho) (elems_sl _ _ _ _) (by simp; omega) fun p2 s4 D2 q3 _ _ => ?_
    rw [W_idx hi (by unfold maxLen; omega)]
    refine kk (p2, D2, s4) ?_
    simp only
    rw [take_snoc hx, List.map_append]
    exact q3
  · rintro ⟨p, D, s1⟩ q0
    simp only at q0
    rw [List.take_of_length_le (Nat.le_refl _)] at q0
    try simp
    exact RwR.ret q0
theorem h_impl_cloneSig_own (sig : List Dc) (hl : sig.length ≤ 1000000) (hsz : ∀ d ∈ sig, d.type.size ≤ 1000000000) (st : St) : HCalls prog n_impl_cloneSig [decls sig] st (Owns (decls sig) st) := RwR.owns (h_impl_cloneSig_rw sig hl hsz st)
/-- Why a declaration can not stand behind a right signature. -/
def addT (sig : List Dc) (d : Dc) : Fz := if (declT sig d).1 ≠ 0 then declT sig d else if 40 ≤ sig.length then (17, 0) else (0, 0)
theorem h_impl_addFault (sig : List Dc) (hs : SigR sig) (d : Dc) (st : St) : HCalls prog n_impl_addFault [decls sig, decl d] st (Just (haltP (addT sig d)) st) := by
  apply c_impl_addFault
  unfold b_impl_addFault
  generalize hv : addT sig d = v
  unfold addT at hv
  refine e_box_ref (decl_isJunk _) ?_
  intro b4 hb4
  have e4 : ∀ o, (upd st b4 (.cells o)) b4 = some (.cells o) := fun o => upd_same _ _ _
  have hsub : ∀ o, Sub st (upd st b4 o) := fun o => (Sub.refl st).put hb4
  try simp
  refine callK_just (h_impl_declForm d _) ?_
  try simp
  refine br_of (fun g1 => ?_) (fun g1 => ?_)
  rotate_left
  · have hd : declT sig d = (1, 0) := by unfold declT; rw [if_pos g1]
    rw [hd, if_pos (by decide)] at hv
    rw [show q_struct [PV.int IntKind.i64 0, PV.int IntKind.i64 0] [(0, 1, PV.int IntKind.i64 1)] = some (.agg [.int .i64 1, .int .i64 0]) from rfl]
    try simp
    try simp [q_load_p (upd_same _ _ _)]
    rw [← hv]
    exact Just.ret (hsub _)
  · refine callK_just (by simpa using h_impl_has sig hs.len d.name _) ?_
    try simp
    refine br_of (fun g2 => ?_) (fun g2 => ?_)
    · have hd : declT sig d = (6, 0) := by unfold declT; rw [if_neg (by rw [g1]; simp), if_pos g2]
      rw [hd, if_pos (by decide)] at hv
      rw [show q_struct [PV.int IntKind.i64 0, PV.int IntKind.i64 0] [(0, 1, PV.int IntKind.i64 6)] = some (.agg [.int .i64 6, .int .i64 0]) from rfl]
      try simp
      try simp [q_load_p (upd_same _ _ _)]
      rw [← hv]
      exact Just.ret (hsub _)
    · have hd : declT sig d = declFaultT sig d := by unfold declT; rw [if_neg (by rw [g1]; simp), if_neg (by rw [g2]; simp)]
      rw [hd] at hv
      refine callK_just (by simpa using h_impl_declFault sig hs d (form_fk g1) _) ?_
      unfold haltP
      intro b5 hb5
      have n45 : b4 ≠ b5 := fun e => by rw [← e, e4] at hb5; cases hb5
      rw [upd_ne _ _ n45.symm] at hb5
      try simp
      try simp [q_load_p (upd_same _ _ _)]
      have i4 : ∀ o, (upd (upd st b4 (.cells [.int .i64 0, .int .i64 0])) b5 o) b4 = some (.cells [.int .i64 0, .int .i64 0]) := fun o => by rw [upd_ne _ _ n45]; exact e4 _
      have hsub2 : ∀ o o', Sub st (upd (upd (upd st b4 (.cells [.int .i64 0, .int .i64 0])) b5 o) b4 o') := fun o o' => (((Sub.refl st).put hb4).put hb5).put hb4
      refine br_dec (fun g3 => ?_) (fun g3 => ?_)
      · rw [if_neg (by simpa using g3)] at hv
        refine br_dec (fun g4 => ?_) (fun g4 => ?_)
        · rw [if_pos (by omega)] at hv
          rw [show q_struct [PV.int IntKind.i64 0, PV.int IntKind.i64 0] [(0, 1, PV.int IntKind.i64 17)] = some (.agg [.int .i64 17, .int .i64 0]) from rfl]
          simp only [qb_some]
          rw [e_store_p _ _ _ _ _ _ _ (i4 _)]
          try simp
          try simp [q_load_p (upd_same _ _ _)]
          rw [← hv]
          exact Just.ret (hsub2 _ _)
        · rw [if_neg (by omega)] at hv
          rw [show q_struct [PV.int IntKind.i64 0, PV.int IntKind.i64 0] [] = some (.agg [.int .i64 0, .int .i64 0]) from rfl]
          simp only [qb_some]
          rw [e_store_p _ _ _ _ _ _ _ (i4 _)]
          try simp
          try simp [q_load_p (upd_same _ _ _)]
          rw [← hv]
          exact Just.ret (hsub2 _ _)
      · rw [if_pos (by simpa using g3)] at hv
        rw [e_store_p _ _ _ _ _ _ _ (i4 _)]
        try simp
        try simp [q_load_p (upd_same _ _ _)]
        rw [← hv]
        exact Just.ret (hsub2 _ _)
/-- The first declaration that can not stand, why and where. -/
def buildGo (sig : List Dc) : Nat → List Dc → Int × Int × Int
  | _, [] => (0, 0, 0)
  | i, d :: r => if (declT (sig.take i) d).1 ≠ 0 then ((declT (sig.take i) d).1, i, (declT (sig.take i) d).2) else buildGo sig (i + 1) r
def buildT (sig : List Dc) : Int × Int × Int := if sig.length > 4096 then (2, 0, 0) else if sig.length > 40 then (17, 0, 0) else buildGo sig 0 sig
def buildOut (sig : List Dc) : List Dc := if (buildT sig).1 = 0 then sig else []
def buildP (sig : List Dc) : PV := .tup (decls (buildOut sig) :: [(buildT sig).1, (buildT sig).2.1, (buildT sig).2.2].map (PV.int .i64))
theorem Owns.tupInts {st s : St} {x p : PV} {D : List Nat} (ns : List Int) (hD : D.Nodup) (h : Th s x p D) (hf : ∀ b ∈ D, st b = none) (hs : Sub st s) : retR (Owns (.tup (x :: ns.map (PV.int .i64))) st) (.tup (p :: ns.map (PV.int .i64))) s :=
  Owns.ret hD (Th.tupInts ns h) hf hs
theorem Owns.none {st s : St} {esz e : Nat} (ns : List Int) (hs : Sub st s) : retR (Owns (.tup (.sl esz false [] :: ns.map (PV.int .i64))) st) (.tup (.sl e true [] :: ns.map (PV.int .i64))) s :=
  Owns.tupInts ns (D := []) List.nodup_nil (Th.row.2 (.inl ⟨rfl, ⟨e, true, rfl⟩, rfl⟩)) (by simp) hs
theorem h_impl_BuildSig (sig : List Dc) (st : St) : HCalls prog n_impl_BuildSig [decls sig] st (Owns (buildP sig) st) := by
  refine HCalls.wf e_impl_BuildSig fun hw => ?_
  have hw1 := (decls_wf hw.1).1
  unfold maxLen at hw1
  apply c_impl_BuildSig
  unfold b_impl_BuildSig
  have none : ∀ (c i p : Int) (s : St), Sub st s → buildT sig = (c, i, p) → c ≠ 0 → retR (Owns (buildP sig) st) (.tup [.sl 0 true [], .int .i64 c, .int .i64 i, .int .i64 p]) s := fun c i p s hs hq hc => by
    have e : buildP sig = .tup (.sl 6 false [] :: [c, i, p].map (PV.int .i64)) := by unfold buildP buildOut; rw [hq, if_neg hc]; rfl
    rw [e]
    exact Owns.none [c, i, p] hs
  generalize hv : buildT sig = v at none
  unfold buildT at hv
  try simp
  refine callK_just (by simpa using h_impl_longLists (sig.length : Int) [] (by simp) _) ?_
  try simp
  refine br_dec (fun h => ?_) (fun h => ?_)
  · rw [if_pos (by omega)] at hv
    exact none 2 0 0 st (Sub.refl _) hv.symm (by decide)
  · rw [if_neg (by omega)] at hv
    refine br_dec (fun h => ?_) (fun h40 => ?_)
    · rw [if_pos (by omega)] at hv
      exact none 17 0 0 st (Sub.refl _) hv.symm (by decide)
    · rw [if_neg (by omega)] at hv
      refine loop_idx (β := St) sig (fun _ i => [.int .i64 (i : Int)]) (fun s => s) (fun s i rest => buildGo sig i rest = v ∧ Sub st s ∧ SigR (sig.take i)) ?_ ?_ st ⟨hv, Sub.refl _, SigR.nil⟩
      · rintro i d rest s hi hx ⟨hq, hs, hr⟩ kk
        rw [buildGo] at hq
        try simp [hi, ia_decl _ hx]
        intro b7 hb7
        try simp
        have hs7 : Sub st (upd s b7 (.cells (decl d).cells)) := hs.put (hs.isNone hb7)
        have e7 := upd_same s b7 (.cells (decl d).cells)
        generalize upd s b7 (.cells (decl d).cells) = s1 at hs7 e7
        refine hJ_of fun J hJ => ?_
        have hadd : addT (sig.take i) d = if (declT (sig.take i) d).1 ≠ 0 then declT (sig.take i) d else (0, 0) := by
          unfold addT
          split
          · rfl
          · rw [if_neg (by simp; omega)]
        have key : ∀ (b8 : Nat) (s : St), Sub st s → s b8 = some (.cells [.int .i64 (addT (sig.take i) d).1, .int .i64 (addT (sig.take i) d).2]) → J [.ptr b8 0] s := by
          intro b8 s hs8 e8
          refine hJ _ _ ?_
          try simp [q_load_p e8]
          rw [hadd]
          refine br_dec (fun g => ?_) (fun g => ?_)
          · have g2 : (declT (sig.take i) d).1 = 0 := by
              by_cases h0 : (declT (sig.take i) d).1 = 0
              · exact h0
              · rw [if_pos h0] at g; exact g
            rw [if_neg (by simpa using g2)] at hq
            rw [W_idx hi (by unfold maxLen; omega)]
            refine kk _ ⟨hq, hs8, ?_⟩
            rw [take_snoc hx]
            obtain ⟨k1, k2, _⟩ := declT_ok g2
            exact hr.snoc (by simp; omega) k1 k2
          · have g2 : (declT (sig.take i) d).1 ≠ 0 := fun h0 => by rw [if_neg (by simpa using h0)] at g; exact g rfl
            rw [if_pos g2] at hq
            rw [if_pos g2]
            exact none _ _ _ s hs8 hq.symm g2
        rw [sliceE_take _ (by simp; omega), ← List.map_take]
        try simp [q_load_p e7]
        refine ⟨?_, ?_⟩
        · refine callK_just (by simpa using h_impl_addFault (sig.take i) hr d _) ?_
          intro b8 hb8
          have n7 : b7 ≠ b8 := fun e => by rw [← e, e7] at hb8; cases hb8
          unfold haltP
          try simp [q_load_p (show (upd s1 b8 (.cells [.int .i64 0, .int .i64 0])) b7 = some (.cells (decl d).cells) from by rw [upd_ne _ _ n7]; exact e7)]
          exact key b8 _ (hs7.put (hs7.isNone hb8)) (upd_same _ _ _)
        · intro b8 hb8
          have n7 : b7 ≠ b8 := fun e => by rw [← e, e7] at hb8; cases hb8
          try simp [q_load_p (show (upd s1 b8 (.cells [.int .i64 0, .int .i64 0])) b7 = some (.cells (decl d).cells) from by rw [upd_ne _ _ n7]; exact e7)]
          refine callK_just (by simpa using h_impl_addFault (sig.take i) hr d _) ?_
          unfold haltP
          try simp
          exact key b8 _ (hs7.put (hs7.isNone hb8)) (upd_same _ _ _)
      · rintro s ⟨hq, hs, hr⟩
        rw [List.take_of_length_le (Nat.le_refl _)] at hr
        rw [buildGo] at hq
        try simp
        refine callK_owns (by simpa using h_impl_cloneSig_own sig (by omega) (fun d hd => by have := (hr.types d hd).2; omega) s) fun p D s2 hD hT hf ho => ?_
        have hbt : buildT sig = (0, 0, 0) := by unfold buildT; rw [if_neg (by omega), if_neg (by omega), hv, ← hq]
        have e : buildP sig = .tup (decls sig :: [0, 0, 0].map (PV.int .i64)) := by unfold buildP buildOut; rw [hbt]; rfl
        rw [e]
        refine Owns.tupInts [0, 0, 0] hD (by simpa using hT) (fun c hc => hs.isNone (hf c hc)) fun c o hc => ?_
        have h1 := hs c o hc
        rw [ho c (fun h => by rw [hf c h] at h1; cases h1)]
        exact h1
end Go.H.Tryz
/- Contracts: Synth, on both sides. -/
set_option linter.unusedVariables false
set_option linter.unusedSimpArgs false
namespace Go.H.Tryz
open Go Go.H

def blank : Tr := .mk 0 0 [] []
/-- The family of a term, or what stands against it. -/
def synthC (sig : List Dc) (ctx : List Tr) (t : Tr) : Fz ⊕ Tr := if t.kind = 4 then .inl (9, 0) else (foundC (termC sig 900000 ctx) sig ctx t 0 0).1
def synthF (sig : List Dc) (ctx : List Tr) (t : Tr) : Fz := match synthC sig ctx t with | .inl e => e | .inr _ => (0, 0)
def synthZ (sig : List Dc) (ctx : List Tr) (t : Tr) : Fz := checkedT sig ctx t.termOK (synthF sig ctx t)
def synthT (sig : List Dc) (ctx : List Tr) (t : Tr) : Tr := if (synthZ sig ctx t).1 = 0 then (match synthC sig ctx t with | .inr a => a | .inl _ => blank) else blank
def synthP (sig : List Dc) (ctx : List Tr) (t : Tr) : PV := .tup (tree (synthT sig ctx t) :: [(synthZ sig ctx t).1, (synthZ sig ctx t).2].map (PV.int .i64))
theorem synthP_no {sig : List Dc} {ctx : List Tr} {t : Tr} {c p : Int} (h : synthZ sig ctx t = (c, p)) (hc : c ≠ 0) : synthP sig ctx t = .tup (tree blank :: [c, p].map (PV.int .i64)) := by
  unfold synthP synthT
  rw [h, if_neg hc]
theorem synthP_yes {sig : List Dc} {ctx : List Tr} {t a : Tr} (hl : ¬ (sig.length > 4096 ∨ ctx.length > 4096)) (h1 : (ctxOKT sig ctx && t.termOK) = true) (h : synthC sig ctx t = .inr a) : synthP sig ctx t = .tup (tree a :: [0, 0].map (PV.int .i64)) := by
  have e : synthZ sig ctx t = (0, 0) := by
    unfold synthZ checkedT synthF
    rw [if_neg hl, if_neg (by rw [h1]; simp), h]
  unfold synthP synthT
  rw [e, if_pos rfl, h]
theorem zero_th (s : St) : Th s (tree blank) (.agg [.int .i64 0, .int .i64 0, .str [], .sl 0 true []]) [] :=
  Th.tree.2 ⟨.sl 0 true [], rfl, Th.row.2 (.inl ⟨rfl, ⟨0, true, rfl⟩, rfl⟩)⟩
theorem synth_fine {sig : List Dc} {ctx : List Tr} {t : Tr} (hs : SigR sig) (hc : ∀ a ∈ ctx, FF a) (ht : t.isTerm false = true) (hts : t.size ≤ 900000) (hk4 : t.kind ≠ 4) :
    CntOK (foundC (termC sig 900000 ctx) sig ctx t 0 0) 0 ∧ ∀ b, (foundC (termC sig 900000 ctx) sig ctx t 0 0).1 = .inr b → FF b ∧ b.kind = 3 :=
  foundC_fine hs hc ht hk4 hts (by omega) (by omega) (fun x hx b p s' hb p1 p2 => termC_fine hs 900000 ctx x b p s' hc (Tr.kids_lams ht hx) (by have := Tr.kid_size hx; omega) hb (by omega) p2)
/-- How the work on a term ends: its family is stored, or what stands against it is told. -/
def SynQ (sig : List Dc) (ctx : List Tr) (t : Tr) (b9 : Nat) (s1 : St) (c p : Int) (st' : St) : Prop :=
  (∃ a, synthC sig ctx t = .inr a ∧ c = 0 ∧ p = 0 ∧ st' = upd s1 b9 (.cells (tree a).cells)) ∨ ∃ e, synthC sig ctx t = .inl e ∧ e = (c, p) ∧ c ≠ 0 ∧ st' = s1
theorem h_impl_Synth (sig : List Dc) (ctx : List Tr) (t : Tr) (st : St) : HCalls prog n_impl_Synth [decls sig, trees ctx, tree t] st (Owns (synthP sig ctx t) st) := by
  apply c_impl_Synth
  unfold b_impl_Synth
  refine e_box_ref rfl ?_
  refine e_box_ref (tree_isJunk _) ?_
  intro b6 hb6
  rw [show q_struct [PV.int IntKind.i64 0, PV.int IntKind.i64 0, PV.str [], PV.sl 0 true []] [] = some (.agg [.int .i64 0, .int .i64 0, .str [], .sl 0 true []]) from rfl]
  simp only [qb_some]
  intro b9 hb9
  have n69 : b6 ≠ b9 := fun e => by rw [← e, upd_same] at hb9; cases hb9
  rw [upd_ne _ _ n69.symm] at hb9
  rw [e_store_p _ _ _ _ _ _ _ (upd_same _ _ _)]
  try simp
  generalize hs1 : upd (upd st b6 (.cells [.int .i64 0, .int .i64 0, .str [], .sl 0 true []])) b9 (.cells [.int .i64 0, .int .i64 0, .str [], .sl 0 true []]) = s1
  have hsub1 : Sub st s1 := by rw [← hs1]; exact ((Sub.refl st).put hb6).put hb9
  have e6 : s1 b6 = some (.cells [.int .i64 0, .int .i64 0, .str [], .sl 0 true []]) := by rw [← hs1, upd_ne _ _ n69]; exact upd_same _ _ _
  have e9 : s1 b9 = some (.cells [.int .i64 0, .int .i64 0, .str [], .sl 0 true []]) := by rw [← hs1]; exact upd_same _ _ _
  have no : ∀ (c p : Int) (s : St), Sub st s → s b6 = some (.cells [.int .i64 0, .int .i64 0, .str [], .sl 0 true []]) → st b6 = none → synthZ sig ctx t = (c, p) → c ≠ 0 →
      e_store s 4 (.ptr b6 0) (.agg [.int .i64 0, .int .i64 0, .str [], .sl 0 true []]) fun s => qb (q_load s true 4 (.ptr b6 0)) fun r => retR (Owns (synthP sig ctx t) st) (.tup [r, .int .i64 c, .int .i64 p]) s := fun c p s hsub h6 hn hq hc => by
    rw [e_store_p _ _ _ _ _ _ _ h6]
    try simp
    try simp [q_load_p (upd_same _ _ _)]
    rw [synthP_no hq hc]
    exact Owns.tupInts [c, p] List.nodup_nil (zero_th _) (by simp) (hsub.put hn)
  refine callK_of (h_impl_checked sig ctx n_impl_Synth_1 n_impl_Synth_2 [.ref (tree t).cells] [.ref (tree t).cells, .ref [trees ctx], .ptr b9 0] t.termOK
    (SynQ sig ctx t b9 s1) s1 (fun _ => ?_) (fun hc hf s b5 hsub h5n h5 => ?_)) (fun q s h => ?_) (fun q s h => ?_)
  · apply c_impl_Synth_1
    unfold b_impl_Synth_1
    try simp
    refine callK_just (h_impl_TermOK t _) ?_
    exact Just.ret (Sub.refl _)
  · apply c_impl_Synth_2
    unfold b_impl_Synth_2
    obtain ⟨h1, h2, h3, h4⟩ := ctxOKT_right hc
    obtain ⟨ht, hts⟩ := termOK_of hf
    have n59 : b5 ≠ b9 := fun e => by rw [e, e9] at h5n; cases h5n
    have n56 : b5 ≠ b6 := fun e => by rw [e, e6] at h5n; cases h5n
    try simp
    refine hJ_of fun J hJ => ?_
    refine br_dec (fun hk4 => ?_) (fun hk4 => ?_)
    · have e : synthC sig ctx t = .inl (9, 0) := by unfold synthC; rw [if_pos hk4]
      refine callK_stops (h_impl_stop 9 0 (by omega) _) (fun h => by omega) (fun _ => panR_same ⟨9, 0, s1, .inr ⟨(9, 0), e, rfl, by omega, rfl⟩, hsub, fun b hb => hb, fun _ _ _ => rfl, .inr ⟨by omega, rfl⟩⟩)
    · refine hJ _ _ ?_
      have hfine := synth_fine h1 h2 ht (by omega) hk4
      have hfT : TermOKc b5 sig ctx (termC sig 900000 ctx) t.kids := fun x hx c p k s hc q0 q1 q2 q3 q4 => ⟨h_impl_checker_term b5 sig h1 900000 ctx x c p k (by omega) h2 (Tr.kids_lams ht hx) (by have := Tr.kid_size hx; omega) (by have := Tr.kid_size hx; omega) hc q0 q1 q2 q3 s q4, termC_fine h1 900000 ctx x c p k h2 (Tr.kids_lams ht hx) (by have := Tr.kid_size hx; omega) hc q2 q3⟩
      try simp
      refine callK_halts (h_impl_checker_found b5 sig h1 ctx h2 (by omega) (termC sig 900000 ctx) t hfT ht hk4 (by omega) 0 0 (by omega) (by omega) (by omega) (by omega) s h5) (fun a k hr => ?_) (fun c p k hr => ?_)
      · have e : synthC sig ctx t = .inr a := by unfold synthC; rw [if_neg hk4, hr]
        have f9 : (upd s b5 (ckr sig k)) b9 = some (.cells [.int .i64 0, .int .i64 0, .str [], .sl 0 true []]) := by rw [upd_ne _ _ n59.symm]; exact hsub _ _ e9
        rw [e_store_p _ _ _ _ _ _ _ f9]
        try simp
        refine retR_same ⟨0, 0, upd s1 b9 (.cells (tree a).cells), .inl ⟨a, e, rfl, rfl, rfl⟩, fun b o hb => ?_, fun b hb => ?_, fun b hb hbn => ?_, .inl ⟨rfl, rfl, rfl⟩⟩
        · by_cases hb9 : b = b9
          · subst hb9; rw [upd_same] at hb ⊢; exact hb
          · rw [upd_ne _ _ hb9] at hb ⊢
            have : b ≠ b5 := fun e => by rw [e, h5n] at hb; cases hb
            rw [upd_ne _ _ this]
            exact hsub _ _ hb
        · have : b ≠ b9 := fun e => by rw [e, e9] at hb; cases hb
          rw [upd_ne _ _ this]; exact hb
        · have : b ≠ b9 := fun e => by rw [e, e9] at hbn; cases hbn
          rw [upd_ne _ _ this, upd_ne _ _ hb]
      · have e : synthC sig ctx t = .inl (c, p) := by unfold synthC; rw [if_neg hk4, hr]
        have hc0 : c ≠ 0 := by have := hfine.1; rw [hr] at this; exact this.2.2.1 _ rfl
        refine panR_same ⟨c, p, s1, .inr ⟨(c, p), e, rfl, hc0, rfl⟩, fun b o hb => ?_, fun b hb => hb, fun b hb hbn => upd_ne _ _ hb, .inr ⟨hc0, rfl⟩⟩
        have : b ≠ b5 := fun e => by rw [e, h5n] at hb; cases hb
        rw [upd_ne _ _ this]
        exact hsub _ _ hb
  · unfold ChkR at h
    split at h
    · rename_i hl
      obtain ⟨rfl, h⟩ := h
      cases h
      try simp
      exact no 2 0 _ hsub1 e6 hb6 (by unfold synthZ checkedT; rw [if_pos hl]) (by omega)
    · rename_i hl
      split at h
      · rename_i hl2
        obtain ⟨rfl, h⟩ := h
        cases h
        try simp
        exact no 1 0 _ hsub1 e6 hb6 (by unfold synthZ checkedT; rw [if_neg hl, if_pos hl2]) (by omega)
      · rename_i hl2
        obtain ⟨c, p, hq, h⟩ := h
        cases h
        rcases hq with ⟨a, ha, rfl, rfl, rfl⟩ | ⟨e, he, rfl, hc0, rfl⟩
        · have hl3 : (ctxOKT sig ctx && t.termOK) = true := by simpa using hl2
          rw [synthP_yes hl hl3 ha]
          rw [Bool.and_eq_true] at hl3
          obtain ⟨h1, h2, h3, h4⟩ := ctxOKT_right hl3.1
          obtain ⟨ht, hts⟩ := termOK_of hl3.2
          have hk4 : t.kind ≠ 4 := fun hk => by unfold synthC at ha; rw [if_pos hk] at ha; cases ha
          have hasz := ((synth_fine h1 h2 ht (by omega) hk4).2 a (by unfold synthC at ha; rw [if_neg hk4] at ha; exact ha)).1.2
          try simp
          try simp [q_load_p (upd_same _ _ _)]
          generalize hs2 : upd s1 b9 (.cells (tree a).cells) = s2
          have n6 : st b9 = none := hb9
          have hsub2 : Sub st s2 := by rw [← hs2]; exact hsub1.put n6
          have f6 : s2 b6 = some (.cells [.int .i64 0, .int .i64 0, .str [], .sl 0 true []]) := by rw [← hs2, upd_ne _ _ n69]; exact e6
          refine callK_owns (h_impl_clone_own a (by omega) s2) fun p D s3 hD hT hfr ho => ?_
          have keep : ∀ c o, s2 c = some o → s3 c = some o := fun c o hc => by
            rw [ho c (fun h => by rw [hfr c h] at hc; cases hc)]; exact hc
          have g6 := keep _ _ f6
          obtain ⟨q, rfl, hTq⟩ := Th.tree.1 hT
          obtain ⟨c1, c2, c3, c4⟩ := th_row_cell hTq
          rw [e_store_p _ _ _ _ _ _ _ g6]
          try simp [c1, c2, c3, c4]
          try simp [q_load_p (upd_same _ _ _)]
          refine Owns.tupInts [0, 0] hD (Th.tree.2 ⟨q, rfl, hTq.frame _ _ _ fun c hc => ?_⟩) (fun c hc => hsub2.isNone (hfr c hc)) ((hsub2.trans keep).put hb6)
          have : c ≠ b6 := fun e => by rw [e] at hc; rw [hfr b6 hc] at f6; cases f6
          rw [upd_ne _ _ this]
        · simp
          rw [decide_eq_false hc0, br_false]
          exact no c p _ hsub1 e6 hb6 (by unfold synthZ checkedT; rw [if_neg hl, if_neg hl2]; unfold synthF; rw [he]) hc0
  · unfold ChkR at h
    split at h
    · obtain ⟨_, h⟩ := h; cases h
    · split at h
      · obtain ⟨_, h⟩ := h; cases h
      · obtain ⟨c, p, _, h⟩ := h; cases h
end Go.H.Tryz
/- Contracts: the reference Synth. -/
set_option linter.unusedVariables false
set_option linter.unusedSimpArgs false
namespace Go.H.Tryz
open Go Go.H

theorem h_spec_Synth (sig : List Dc) (ctx : List Tr) (t : Tr) (st : St) : HCalls prog n_spec_Synth [decls sig, trees ctx, tree t] st (Just (synthP sig ctx t) st) := by
  apply c_spec_Synth
  unfold b_spec_Synth
  refine e_box_ref (tree_isJunk _) ?_
  intro b6 hb6
  have e6 := upd_same st b6 (.cells [.int .i64 0, .int .i64 0, .str [], .sl 0 true []])
  have hsub1 : Sub st (upd st b6 (.cells [.int .i64 0, .int .i64 0, .str [], .sl 0 true []])) := (Sub.refl st).put hb6
  generalize upd st b6 (.cells [.int .i64 0, .int .i64 0, .str [], .sl 0 true []]) = s1 at e6 hsub1
  try simp
  refine callK_just (h_spec_TermOK t _) ?_
  refine callK_just (by simpa using h_spec_l04Begin sig ctx t.termOK _) ?_
  rw [show q_struct [PV.int IntKind.i64 0, PV.int IntKind.i64 0, PV.str [], PV.sl 0 true []] [] = some (.agg [.int .i64 0, .int .i64 0, .str [], .sl 0 true []]) from rfl]
  simp only [qb_some]
  have eb : tree blank = .agg [.int .i64 0, .int .i64 0, .str [], .sl 4 false []] := by rw [tree_eq]; rfl
  have zero : ∀ (s : St), Conv [PV.agg [.int .i64 0, .int .i64 0, .str [], .sl 0 true []]] s [tree blank] s := fun s => eb ▸
    Conv.agg (Conv.cons (Conv.refl _ _) (Conv.cons (Conv.refl _ _) (Conv.cons (Conv.refl _ _) (Conv.sl_to _ 0 4 true [] (.inr rfl))))) rfl rfl
  have ret : ∀ (c p : Int) (s : St), Sub st s → synthZ sig ctx t = (c, p) → c ≠ 0 → retR (Just (synthP sig ctx t) st) (.tup [.agg [.int .i64 0, .int .i64 0, .str [], .sl 0 true []], .int .i64 c, .int .i64 p]) s := fun c p s hsub hq hc => by
    rw [synthP_no hq hc]
    exact retR_conv (Conv.trans (Conv.tup (Conv.cons (zero s) (Conv.refl _ _))) (Conv.sub hsub)) ⟨rfl, rfl⟩
  have no : ∀ (c p : Int) (s : St), Sub st s → s b6 = some (.cells [.int .i64 0, .int .i64 0, .str [], .sl 0 true []]) → synthZ sig ctx t = (c, p) → c ≠ 0 →
      e_store s 4 (.ptr b6 0) (.agg [.int .i64 0, .int .i64 0, .str [], .sl 0 true []]) fun s => qb (q_load s true 4 (.ptr b6 0)) fun r => retR (Just (synthP sig ctx t) st) (.tup [r, .int .i64 c, .int .i64 p]) s := fun c p s hsub h6 hq hc => by
    rw [e_store_p _ _ _ _ _ _ _ h6]
    try simp
    try simp [q_load_p (upd_same _ _ _)]
    exact ret c p _ (hsub.put hb6) hq hc
  try simp
  refine br_dec (fun g => ?_) (fun g => ?_)
  · obtain ⟨g1, g2⟩ := beginT_ok g
    obtain ⟨h1, h2, h3, h4⟩ := ctxOKT_right g1
    obtain ⟨ht, hts⟩ := termOK_of g2
    have hl : ¬ (sig.length > 4096 ∨ ctx.length > 4096) := by omega
    have hl2 : (ctxOKT sig ctx && t.termOK) = true := by rw [g1, g2]; rfl
    have hz : ∀ e, synthC sig ctx t = .inl e → synthZ sig ctx t = e := fun e he => by
      unfold synthZ checkedT synthF
      rw [if_neg hl, if_neg (by rw [hl2]; simp), he]
    refine br_dec (fun hk4 => ?_) (fun hk4 => ?_)
    · exact no 9 0 _ hsub1 e6 (hz _ (by unfold synthC; rw [if_pos hk4])) (by omega)
    · have hfine := synth_fine h1 h2 ht (by omega) hk4
      refine callK_check fun b b' hb hb' hsr har => ?_
      have hsub2 := around_fresh har hb hb'
      have hfT : TermOKs b b' sig ctx (termC sig 900000 ctx) t.kids := fun x hx c p k s hc q0 q1 q2 q3 q4 => ⟨h_spec_l04Run_term b b' sig h1 900000 ctx x c p k (by omega) h2 (Tr.kids_lams ht hx) (by have := Tr.kid_size hx; omega) (by have := Tr.kid_size hx; omega) hc q0 q1 q2 q3 s q4, termC_fine h1 900000 ctx x c p k h2 (Tr.kids_lams ht hx) (by have := Tr.kid_size hx; omega) hc q2 q3⟩
      generalize upd (upd s1 b' (cnt 0)) b (srun sig b' 0 0) = s2 at hsr har hsub2
      have f6 := hsub2 _ _ e6
      have n6 : b6 ≠ b := fun e => by rw [← e, e6] at hb; cases hb
      have n6' : b6 ≠ b' := fun e => by rw [← e, e6] at hb'; cases hb'
      refine callK_runS (by simpa using h_spec_l04Run_synth b b' sig h1 ctx h2 (by omega) (termC sig 900000 ctx) t hfT ht hk4 (by omega) 0 0 (by omega) (by omega) (by omega) (by omega) s2 hsr) (fun a k v hr hv => ?_) (fun c p k v hr hv => ?_)
      · cases hv
        have e : synthC sig ctx t = .inr a := by unfold synthC; rw [if_neg hk4, hr]
        have hasz := (hfine.2 a (by rw [hr])).1.2
        have hsub3 : Sub s1 (upd (upd s2 b' (cnt k)) b (srun sig b' 0 0)) := around_fresh (around_trans har (((Around2.refl b b' s2).draw' _).draw _)) hb hb'
        have g6 := hsub3 _ _ e6
        generalize upd (upd s2 b' (cnt k)) b (srun sig b' 0 0) = s3 at hsub3 g6
        try simp
        intro b11 hb11
        rw [e_store_p _ _ _ _ _ _ _ (upd_same _ _ _)]
        try simp
        try simp [q_load_p (upd_same _ _ _)]
        refine callK_just (h_spec_l01Copy a (by omega) _) ?_
        have n11 : b6 ≠ b11 := fun e => by rw [← e, g6] at hb11; cases hb11
        rw [e_store_p _ _ _ _ _ _ _ (by rw [upd_ne _ _ n11]; exact g6)]
        try simp
        try simp [q_load_p (upd_same _ _ _)]
        rw [synthP_yes hl hl2 e]
        exact Just.ret (((hsub1.trans hsub3).put (by cases hs : st b11 with | none => rfl | some o => have := (hsub1.trans hsub3) _ _ hs; rw [hb11] at this; cases this)).put hb6)
      · obtain ⟨z0, z1, z2, z3, rfl, d0, d1, d2, d3⟩ := hv
        have e : synthC sig ctx t = .inl (c, p) := by unfold synthC; rw [if_neg hk4, hr]
        have hc0 : c ≠ 0 := by have := hfine.1; rw [hr] at this; exact this.2.2.1 _ rfl
        have hsub3 : Sub s1 (upd (upd s2 b' (cnt k)) b (srun sig b' c p)) := around_fresh (around_trans har (((Around2.refl b b' s2).draw' _).draw _)) hb hb'
        have g6 := hsub3 _ _ e6
        have gb := upd_same (upd s2 b' (cnt k)) b (srun sig b' c p)
        generalize upd (upd s2 b' (cnt k)) b (srun sig b' c p) = s3 at hsub3 g6 gb
        try simp
        intro b11 hb11
        rw [e_store_p _ _ _ _ _ _ _ (upd_same _ _ _)]
        have n11 : b6 ≠ b11 := fun e => by rw [← e, g6] at hb11; cases hb11
        have n11b : b ≠ b11 := fun e => by rw [← e, gb] at hb11; cases hb11
        try simp [d0, d1, d2, d3]
        have gb' : ∀ o, (upd s3 b11 o) b = some (.cells [decls sig, .ptr b' 0, .int .i64 c, .int .i64 p]) := fun o => by rw [upd_ne _ _ n11b]; exact gb
        have g6' : ∀ o, (upd s3 b11 o) b6 = some (.cells [.int .i64 0, .int .i64 0, .str [], .sl 0 true []]) := fun o => by rw [upd_ne _ _ n11]; exact g6
        try simp [q_load_p (gb' _)]
        have gb2 : ∀ o o', (upd (upd s3 b11 o) b6 o') b = some (.cells [decls sig, .ptr b' 0, .int .i64 c, .int .i64 p]) := fun o o' => by rw [upd_ne _ _ n6.symm]; exact gb' o
        rw [e_store_p _ _ _ _ _ _ _ (g6' _)]
        try simp [q_load_p (gb2 _ _)]
        try simp [q_load_p (upd_same _ _ _)]
        exact ret c p _ (((hsub1.trans hsub3).put (by cases hs : st b11 with | none => rfl | some o => have := (hsub1.trans hsub3) _ _ hs; rw [hb11] at this; cases this)).put hb6) (hz _ e) hc0
  · have : synthZ sig ctx t = (beginT sig ctx t.termOK, 0) := by unfold synthZ; rw [checkedT_begin, if_pos g]
    exact no _ _ _ hsub1 e6 this g
end Go.H.Tryz
/- Contracts: the law FnExactSynth. -/
set_option linter.unusedVariables false
set_option linter.unusedSimpArgs false
namespace Go.H.Tryz
open Go Go.H

theorem _root_.Go.H.Hold.last4 {st s : St} {x y z w : It} {L : List It} (h : Hold st s (x :: y :: z :: w :: L)) : Hold st s (w :: x :: y :: z :: L) := by
  have h1 := h.its
  have h2 : Its s (x :: w :: y :: z :: L) := ⟨h1.1, h1.2.1, fun u hu => h1.2.2.1 u (by simp only [List.mem_cons] at hu ⊢; rcases hu with rfl | rfl | rfl | hu <;> simp [*]), h1.2.2.2.rot⟩
  exact ⟨h2.swap, h.sub, fun u hu => h.fresh u (by simp only [List.mem_cons] at hu ⊢; rcases hu with rfl | rfl | rfl | rfl | hu <;> simp [*])⟩
theorem mark_pos0 (ds : List Dc) : 0 ≤ (markDs ds 1).2 := by rw [markDs_end]; omega
theorem synthT_size (sig : List Dc) (ctx : List Tr) (t : Tr) : (synthT sig ctx t).size ≤ 150 := by
  unfold synthT
  have hb : blank.size ≤ 150 := by unfold blank; rw [Tr.size_kids]; simp [Tr.sizes]
  split
  · rename_i h
    cases hC : synthC sig ctx t with
    | inl e => exact hb
    | inr a =>
      simp only
      unfold synthZ checkedT at h
      split at h
      · cases h
      · split at h
        · cases h
        · rename_i hl hl2
          have hl3 : (ctxOKT sig ctx && t.termOK) = true := by simpa using hl2
          rw [Bool.and_eq_true] at hl3
          obtain ⟨h1, h2, h3, h4⟩ := ctxOKT_right hl3.1
          obtain ⟨ht, hts⟩ := termOK_of hl3.2
          have hk4 : t.kind ≠ 4 := fun hk => by unfold synthC at hC; rw [if_pos hk] at hC; cases hC
          exact ((synth_fine h1 h2 ht (by omega) hk4).2 a (by unfold synthC at hC; rw [if_neg hk4] at hC; exact hC)).1.2
  · exact hb
theorem h_laws_FnExactSynth (x0 : List Dc) (x1 : List Tr) (x2 : Tr) (hb : Dc.bulks x0 + Tr.bulks x1 + x2.bulk ≤ 1048576) (st : St) : HCalls prog n_laws_FnExactSynth [decls x0, trees x1, tree x2] st (Just (.bool true) st) := by
  apply c_laws_FnExactSynth
  unfold b_laws_FnExactSynth
  have hre := reaches_bulks x0
  have hsz1 := sizes_bulks x1
  have hsz2 := sizes_bulks x2.kids
  have hbk := Tr.bulk_bulks x2
  obtain ⟨out, c, p, e, hout⟩ : ∃ out c p, synthP x0 x1 x2 = .tup (tree out :: [c, p].map (PV.int .i64)) ∧ out.size ≤ 150 := ⟨synthT x0 x1 x2, _, _, rfl, synthT_size _ _ _⟩
  have hspec : ∀ st, HCalls prog n_spec_Synth [decls x0, trees x1, tree x2] st (Just (.tup (tree out :: [c, p].map (PV.int .i64))) st) := fun st => e ▸ h_spec_Synth x0 x1 x2 st
  have himpl : ∀ st, HCalls prog n_impl_Synth [decls x0, trees x1, tree x2] st (Owns (.tup (tree out :: [c, p].map (PV.int .i64))) st) := fun st => e ▸ h_impl_Synth x0 x1 x2 st
  clear e
  have hok := Tr.size_kids out
  refine e_box_ref (tree_isJunk _) ?_
  refine callK_just (by simpa using h_laws_szDeclS x0 1048576 (by omega) (by omega) _) ?_
  rw [show left 1048576 (Dc.bulks x0) = 1048576 - (Dc.bulks x0 : Int) by unfold left; rw [if_pos (by omega)]]
  try simp
  refine br_of (fun h => by simp at h; omega) (fun _ => ?_)
  refine callK_just (by simpa using h_laws_szTreeS x1 (1048576 - (Dc.bulks x0 : Int)) (by omega) (by omega) _) ?_
  rw [show left (1048576 - (Dc.bulks x0 : Int)) (Tr.bulks x1) = 1048576 - (Dc.bulks x0 : Int) - (Tr.bulks x1 : Int) by unfold left; rw [if_pos (by omega)]]
  try simp
  refine br_of (fun h => by simp at h; omega) (fun _ => ?_)
  refine callK_just (by simpa using h_laws_szTree x2 (1048576 - (Dc.bulks x0 : Int) - (Tr.bulks x1 : Int)) (by omega) (by omega) _) ?_
  rw [show left (1048576 - (Dc.bulks x0 : Int) - (Tr.bulks x1 : Int)) x2.bulk = 1048576 - (Dc.bulks x0 : Int) - (Tr.bulks x1 : Int) - (x2.bulk : Int) by unfold left; rw [if_pos (by omega)]]
  try simp
  refine br_of (fun h => by simp at h; omega) (fun _ => ?_)
  refine hJ_of fun J hJ => ?_
  have key : ∀ bs, st bs = none → J [.ptr bs 0, .int .i64 c, .int .i64 p] (upd st bs (.cells (tree out).cells)) := by
    intro bs hbs
    refine hJ _ _ ?_
    clear hJ
    have hsub0 : Sub st (upd st bs (.cells (tree out).cells)) := (Sub.refl st).put hbs
    have e0 := upd_same st bs (.cells (tree out).cells)
    generalize upd st bs (.cells (tree out).cells) = s0 at hsub0 e0
    have hlo : ∀ (b : Nat) (s : St), s b = some (.cells (tree out).cells) → q_load s true 4 (.ptr b 0) = some (tree out) := fun b s h => by rw [q_load_p h]; simp
    have hl4 : ∀ (b : Nat) (s : St) (x : Tr) (q : PV), s b = some (.cells [.int .i64 x.kind, .int .i64 x.n, .str x.name, q]) → q_load s true 4 (.ptr b 0) = some (.agg [.int .i64 x.kind, .int .i64 x.n, .str x.name, q]) := fun b s x q h => by rw [q_load_p h]; rfl
    try simp
    refine callK_hnew (Hold.start s0) (by simpa using h_laws_toDeclS_own x0 (by omega) s0) fun p0 D0 s1 h1 k1 => ?_
    have e1 := k1 _ _ e0
    refine callK_hnew h1 (by simpa using h_laws_toTreeS_own x1 (by omega) s1) fun p1 D1 s2 h2 k2 => ?_
    have e2 := k2 _ _ e1
    refine callK_hnew h2 (by simpa using h_laws_toTree_own x2 (by omega) s2) fun p2 D2 s3 h3 k3 => ?_
    have e3 := k3 _ _ e2
    obtain ⟨q, rfl, hTq⟩ := Th.tree.1 h3.th
    obtain ⟨q1, q2, q3, q4⟩ := th_row_cell hTq
    intro bv hbv
    rw [e_store_p _ _ _ _ _ _ _ (upd_same _ _ _)]
    have r44 : ∀ a b c d x y z w : PV, setRange [a, b, c, d] 0 [x, y, z, w] = [x, y, z, w] := fun _ _ _ _ _ _ _ _ => rfl
    try simp [q1, q2, q3, q4, r44]
    have h3 := h3.put hbv (.cells [.int .i64 x2.kind, .int .i64 x2.n, .str x2.name, q])
    have v4 := upd_same s3 bv (.cells [.int .i64 x2.kind, .int .i64 x2.n, .str x2.name, q])
    have e4 : (upd s3 bv (.cells [.int .i64 x2.kind, .int .i64 x2.n, .str x2.name, q])) bs = some (.cells (tree out).cells) := by
      rw [upd_ne _ _ (fun e => by rw [e, hbv] at e3; cases e3)]; exact e3
    generalize upd s3 bv (.cells [.int .i64 x2.kind, .int .i64 x2.n, .str x2.name, q]) = s4 at h3 v4 e4
    rw [hl4 _ _ x2 q v4]
    simp only [qb_some]
    refine callK_hgives h3 (us' := [decls x0, trees x1, tree x2]) (.held h3.tail.tail.th (.held h3.tail.th (.held h3.th .nil))) (himpl noSt) fun tu Dg s5 h5 k5 => ?_
    have v5 := k5 _ _ v4
    have e5 := k5 _ _ e4
    obtain ⟨pg, rfl, hTg⟩ := Th.tupInts_inv h5.th
    have h5 := h5.as hTg
    obtain ⟨qg, rfl, hTqg⟩ := Th.tree.1 hTg
    obtain ⟨g1, g2, g3, g4⟩ := th_row_cell hTqg
    try simp only [List.map_cons, List.map_nil]
    try simp
    intro bw hbw
    rw [e_store_p _ _ _ _ _ _ _ (upd_same _ _ _)]
    try simp [g1, g2, g3, g4, r44]
    have h5 := h5.put hbw (.cells [.int .i64 out.kind, .int .i64 out.n, .str out.name, qg])
    have w6 := upd_same s5 bw (.cells [.int .i64 out.kind, .int .i64 out.n, .str out.name, qg])
    have v6 : (upd s5 bw (.cells [.int .i64 out.kind, .int .i64 out.n, .str out.name, qg])) bv = some (.cells [.int .i64 x2.kind, .int .i64 x2.n, .str x2.name, q]) := by
      rw [upd_ne _ _ (fun e => by rw [e, hbw] at v5; cases v5)]; exact v5
    have e6 : (upd s5 bw (.cells [.int .i64 out.kind, .int .i64 out.n, .str out.name, qg])) bs = some (.cells (tree out).cells) := by
      rw [upd_ne _ _ (fun e => by rw [e, hbw] at e5; cases e5)]; exact e5
    generalize upd s5 bw (.cells [.int .i64 out.kind, .int .i64 out.n, .str out.name, qg]) = s6 at h5 w6 v6 e6
    rw [hl4 _ _ out qg w6]
    simp only [qb_some]
    rw [hlo _ _ e6]
    simp only [qb_some]
    refine callK_hlook (us' := [tree out, tree out]) (.held h5.th (.same .nil)) rfl (h_laws_eqTree _ _ _) ?_
    try simp
    refine callK_just (by simpa using h_laws_toDeclS x0 (by omega) _) ?_
    refine callK_hlook (us' := [decls x0, decls x0]) (.held h5.tail.tail.tail.th (.same .nil)) rfl (h_laws_eqDeclS _ _ _) ?_
    try simp
    refine callK_just (by simpa using h_laws_toTreeS x1 (by omega) _) ?_
    refine callK_hlook (us' := [trees x1, trees x1]) (.held h5.tail.tail.th (.same .nil)) rfl (h_laws_eqTreeS _ _ _) ?_
    try simp
    rw [hl4 _ _ x2 q v6]
    simp only [qb_some]
    refine callK_just (by simpa using h_laws_toTree x2 (by omega) _) ?_
    refine ⟨hl4 _ _ x2 q v6, ?_⟩
    refine callK_hlook (us' := [tree x2, tree x2]) (.held h5.tail.th (.same .nil)) rfl (h_laws_eqTree _ _ _) ?_
    try simp
    have h6 := h5.last4
    have hp1 := mark_pos0 x0
    have hend1 := markDs_end x0 1
    refine callK_hmark h6 (h_laws_markDeclS x0 1 p0 D0 s6 (by omega) (by omega) h6.nodup h6.th) fun s7 h7 k7 => ?_
    have v7 := k7 _ _ v6
    have w7 := k7 _ _ w6
    have e7 := k7 _ _ e6
    have h8 := h7.last4
    have hend2 := markTs_end x1 (markDs x0 1).2
    refine callK_hmark h8 (h_laws_markTreeS _ x1 (markDs x0 1).2 p1 D1 s7 (Nat.le_refl _) hp1 (by omega) h8.nodup h8.th) fun s8 h9 k8 => ?_
    have v8 := k8 _ _ v7
    have w8 := k8 _ _ w7
    have e8 := k8 _ _ e7
    have h10 := h9.last4
    rw [hl4 _ _ x2 q v8]
    simp only [qb_some]
    have hend3 := markTs_end x2.kids (markTs x1 (markDs x0 1).2).2
    refine callK_hmark h10 (h_laws_markTree x2 (markTs x1 (markDs x0 1).2).2 (by omega) (by omega) _ D2 h10.nodup s8 h10.th) fun s9 h11 k9 => ?_
    have w9 := k9 _ _ w8
    have e9 := k9 _ _ e8
    have h12 := h11.last4
    try simp
    refine br_of (fun h => by simp at h; omega) (fun _ => ?_)
    rw [hl4 _ _ out qg w9]
    simp only [qb_some]
    rw [hlo _ _ e9]
    simp only [qb_some]
    refine callK_hlook (us' := [tree out, tree out]) (.held h12.th (.same .nil)) rfl (h_laws_eqTree _ _ _) ?_
    try simp
    rw [hl4 _ _ out qg w9]
    simp only [qb_some]
    have hend4 := markTs_end out.kids 1
    refine callK_hmark h12 (h_laws_markTree out 1 (by omega) (by omega) _ Dg h12.nodup s9 h12.th) fun s10 h13 k10 => ?_
    have w10 := k10 _ _ w9
    have e10 := k10 _ _ e9
    rw [hl4 _ _ out qg w10]
    simp only [qb_some]
    refine callK_hlook (us' := [tree (markK out 1), .int .i64 1]) (.held h13.th (.same .nil)) rfl (h_laws_heldTree out 1 (by omega) (by omega) _) ?_
    try simp
    refine br_of (fun h => by simp at h; omega) (fun _ => ?_)
    clear k1 k2 k3 k5 k7 k8 k9 k10 h1 h2 h3 h5 h6 h7 h8 h9 h10 h11 h12
    refine hJ_of fun J2 hJ2 => ?_
    have key2 : ∀ b, s10 b = none → J2 [.ptr b 0, .int .i64 c, .int .i64 p] (upd s10 b (.cells (tree out).cells)) := by
      intro bz hbz
      refine hJ2 _ _ ?_
      have h14 := h13.put hbz (.cells (tree out).cells)
      have z14 := upd_same s10 bz (.cells (tree out).cells)
      have nz : ∀ b o, s10 b = some o → (upd s10 bz (.cells (tree out).cells)) b = some o := fun b o h => by rw [upd_ne _ _ (fun e => by rw [e, hbz] at h; cases h)]; exact h
      have w14 := nz _ _ w10
      have e14 := nz _ _ e10
      generalize upd s10 bz (.cells (tree out).cells) = s14 at h14 z14 w14 e14
      try simp
      rw [hlo _ _ z14]
      simp only [qb_some]
      rw [hlo _ _ e14]
      simp only [qb_some]
      refine callK_just (h_laws_eqTree _ _ _) ?_
      try simp
      rw [hl4 _ _ out qg w14]
      simp only [qb_some]
      refine callK_hlook (us' := [tree (markK out 1), .int .i64 1]) (.held h14.th (.same .nil)) rfl (h_laws_heldTree out 1 (by omega) (by omega) _) ?_
      try simp
      refine br_of (fun h => by simp at h; omega) (fun _ => ?_)
      exact Just.bool rfl (hsub0.trans h14.sub)
    clear hJ2
    have put : ∀ b, s10 b = none → e_store (upd s10 b (.cells [.int .i64 0, .int .i64 0, .str [], .sl 0 true []])) 4 (.ptr b 0) (tree out) fun s => J2 [.ptr b 0, .int .i64 c, .int .i64 p] s := fun b hb => by
      rw [e_store_p _ _ _ _ _ _ _ (upd_same _ _ _)]
      try simp
      exact key2 b hb
    try simp
    have again : ∀ s, HCalls prog n_impl_Synth [decls x0, trees x1, tree x2] s (Just (.tup (tree out :: [c, p].map (PV.int .i64))) s) := fun s => Owns.just (himpl s)
    refine ⟨callK_just (by simpa using h_laws_toDeclS x0 (by omega) _) ⟨callK_just (by simpa using h_laws_toTreeS x1 (by omega) _) ⟨callK_just (by simpa using h_laws_toTree x2 (by omega) _) ⟨?_, ?_⟩, ?_⟩, ?_⟩, ?_⟩
    · refine callK_just (by simpa using again _) ?_
      try simp only [List.map_cons, List.map_nil]
      try simp
      intro b hb
      first | exact put b hb | exact key2 b hb
    · intro b hb
      refine callK_just (by simpa using again _) ?_
      try simp only [List.map_cons, List.map_nil]
      try simp
      first | exact put b hb | exact key2 b hb
    · intro b hb
      refine callK_just (by simpa using h_laws_toTree x2 (by omega) _) ?_
      refine callK_just (by simpa using again _) ?_
      try simp only [List.map_cons, List.map_nil]
      try simp
      first | exact put b hb | exact key2 b hb
    · intro b hb
      refine callK_just (by simpa using h_laws_toTreeS x1 (by omega) _) ?_
      refine callK_just (by simpa using h_laws_toTree x2 (by omega) _) ?_
      refine callK_just (by simpa using again _) ?_
      try simp only [List.map_cons, List.map_nil]
      try simp
      first | exact put b hb | exact key2 b hb
    · intro b hb
      refine callK_just (by simpa using h_laws_toDeclS x0 (by omega) _) ?_
      refine callK_just (by simpa using h_laws_toTreeS x1 (by omega) _) ?_
      refine callK_just (by simpa using h_laws_toTree x2 (by omega) _) ?_
      refine callK_just (by simpa using again _) ?_
      try simp only [List.map_cons, List.map_nil]
      try simp
      first | exact put b hb | exact key2 b hb
  clear hJ
  have put : ∀ b, st b = none → e_store (upd st b (.cells [.int .i64 0, .int .i64 0, .str [], .sl 0 true []])) 4 (.ptr b 0) (tree out) fun s => J [.ptr b 0, .int .i64 c, .int .i64 p] s := fun b hb => by
    rw [e_store_p _ _ _ _ _ _ _ (upd_same _ _ _)]
    try simp
    exact key b hb
  try simp
  refine ⟨callK_just (by simpa using h_laws_toDeclS x0 (by omega) _) ⟨callK_just (by simpa using h_laws_toTreeS x1 (by omega) _) ⟨callK_just (by simpa using h_laws_toTree x2 (by omega) _) ⟨?_, ?_⟩, ?_⟩, ?_⟩, ?_⟩
  · refine callK_just (by simpa using hspec _) ?_
    try simp only [List.map_cons, List.map_nil]
    try simp
    intro b hb
    first | exact put b hb | exact key b hb
  · intro b hb
    refine callK_just (by simpa using hspec _) ?_
    try simp only [List.map_cons, List.map_nil]
    try simp
    first | exact put b hb | exact key b hb
  · intro b hb
    refine callK_just (by simpa using h_laws_toTree x2 (by omega) _) ?_
    refine callK_just (by simpa using hspec _) ?_
    try simp only [List.map_cons, List.map_nil]
    try simp
    first | exact put b hb | exact key b hb
  · intro b hb
    refine callK_just (by simpa using h_laws_toTreeS x1 (by omega) _) ?_
    refine callK_just (by simpa using h_laws_toTree x2 (by omega) _) ?_
    refine callK_just (by simpa using hspec _) ?_
    try simp only [List.map_cons, List.map_nil]
    try simp
    first | exact put b hb | exact key b hb
  · intro b hb
    refine callK_just (by simpa using h_laws_toDeclS x0 (by omega) _) ?_
    refine callK_just (by simpa using h_laws_toTreeS x1 (by omega) _) ?_
    refine callK_just (by simpa using h_laws_toTree x2 (by omega) _) ?_
    refine callK_just (by simpa using hspec _) ?_
    try simp only [List.map_cons, List.map_nil]
    try simp
    first | exact put b hb | exact key b hb
end Go.H.Tryz
