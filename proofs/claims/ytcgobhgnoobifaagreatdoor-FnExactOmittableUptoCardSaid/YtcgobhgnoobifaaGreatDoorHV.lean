/- Part of a proof that the program answers as the reference does: EDC40, EDC41, EDC42, EDC43, EDC51, EDC52, EDC53, EDC54. -/
import Derived.Test.YtcgobhgnoobifaaGreatDoorHO
import Derived.Test.YtcgobhgnoobifaaGreatDoorHQ
import Derived.Test.YtcgobhgnoobifaaGreatDoorHX
import Derived.Test.YtcgobhgnoobifaaGreatDoorHY
import Derived.Test.YtcgobhgnoobifaaGreatDoorHZ
/- Contracts: what the laws write over values that are owned, and read again. -/
set_option linter.unusedVariables false
set_option linter.unusedSimpArgs false
namespace Go.H.Tryz
open Go Go.H

theorem h_laws_markText (k : Int) (hk : k ≤ 1000000000000) (st : St) : HCalls prog n_laws_markText [.int .i64 k] st (Just (.str (mtext k)) st) := by
  apply c_laws_markText
  unfold b_laws_markText
  try simp
  refine br_dec (fun h => Just.same (by unfold mtext; rw [if_pos h])) (fun h => ?_)
  generalize hv : mtext k = v
  unfold mtext at hv
  rw [if_neg h] at hv
  refine hFix_rec (σ := Nat × List UInt8) (fun z => z.1) (fun z => [.int .i64 (z.1 : Int), .str z.2]) (fun _ => st) (fun z => z.1 + z.2.length ≤ 1000000000000 ∧ 109 :: digs z.1 z.2 = v) ?_ (k.toNat, []) ⟨by simp; omega, hv⟩ |> fun h => by simpa [show ((k.toNat : Nat) : Int) = k from by omega] using h
  rintro ⟨n, acc⟩ ⟨h1, h2⟩ ih
  simp only at h1 h2 ih
  try simp
  by_cases h0 : n = 0
  · subst h0
    rw [digs, if_pos rfl] at h2
    try simp
    rw [if_pos (by omega)]
    exact Just.same (by rw [← h2])
  · rw [digs, if_neg h0] at h2
    refine br_dec (fun h3 => ?_) (fun h3 => by omega)
    have e1 : (n : Int).tmod 10 = ((n % 10 : Nat) : Int) := by rw [Int.ofNat_tmod]; rfl
    have e2 : (n : Int).tdiv 10 = ((n / 10 : Nat) : Int) := by rw [Int.ofNat_tdiv]; rfl
    have e3 : IntKind.i64.wrap (48 + ((n % 10 : Nat) : Int)) = ((48 + n % 10 : Nat) : Int) := by rw [wrap64 (by omega) (by omega)]; omega
    have e4 : IntKind.u8.wrap ((48 + n % 10 : Nat) : Int) = ((48 + n % 10 : Nat) : Int) := by
      have : n % 10 < 10 := Nat.mod_lt _ (by omega)
      try simp [IntKind.wrap, IntKind.bits, IntKind.signed]
      omega
    have r1 : q_int .rem .i64 (n : Int) 10 = some (.int .i64 ((n % 10 : Nat) : Int)) := by
      rw [← e1]; rfl
    have r2 : q_bin .add (.int .i64 48) (.int .i64 ((n % 10 : Nat) : Int)) = some (.int .i64 ((48 + n % 10 : Nat) : Int)) := by
      rw [q_bin_int, q_add, e3]
    have r3 : q_conv .u8 (.int .i64 ((48 + n % 10 : Nat) : Int)) = some (.int .u8 ((48 + n % 10 : Nat) : Int)) := by
      rw [q_conv_int, e4]
    have r4 : q_bstr (.sl 1 true [.int .u8 ((48 + n % 10 : Nat) : Int)]) = some (.str [UInt8.ofNat (48 + n % 10)]) := rfl
    have r5 : q_int .quo .i64 (n : Int) 10 = some (.int .i64 ((n / 10 : Nat) : Int)) := by
      show some (PV.int .i64 (IntKind.i64.wrap ((n : Int).tdiv 10))) = _
      rw [e2, wrap64 (by omega) (by omega)]
    have r6 : q_bin .add (.str [UInt8.ofNat (48 + n % 10)]) (.str acc) = some (.str (UInt8.ofNat (48 + n % 10) :: acc)) := by
      rw [q_bin_str, q_sadd, if_pos (by simp; omega)]; rfl
    have r7 : q_lit 1 1 0 [] [(0, .int .u8 ((48 + n % 10 : Nat) : Int))] = some (.sl 1 true [.int .u8 ((48 + n % 10 : Nat) : Int)]) := rfl
    rw [r1]
    simp only [qb_some]
    rw [r2]
    simp only [qb_some]
    rw [r3]
    simp only [qb_some]
    rw [if_pos ⟨rfl, fun x hx => by rw [cells_int, List.mem_singleton] at hx; rw [hx]; rfl⟩]
    simp only [qb_some]
    rw [r4]
    simp only [qb_some]
    rw [r6]
    simp only [qb_some]
    rw [r5]
    simp only [qb_some]
    exact ih (n / 10, UInt8.ofNat (48 + n % 10) :: acc) (by simp only; omega) ⟨by simp only [List.length_cons]; omega, h2⟩
theorem h_laws_markTreeS : ∀ (N : Nat) (ts : List Tr) (k : Int) (p : PV) (D : List Nat) (st : St), Tr.sizes ts ≤ N → 0 ≤ k → k + 3 * Tr.sizes ts ≤ 1000000000000 → D.Nodup → Th st (trees ts) p D →
    HCalls prog n_laws_markTreeS [p, .int .i64 k] st (MarkR p D (trees (markTs ts k).1) (.int .i64 (markTs ts k).2) st) := by
  intro N
  induction N with
  | zero =>
    intro ts k p D st hN hk hb hD hT
    have hts : ts = [] := by
      cases ts with
      | nil => rfl
      | cons t r => simp only [Tr.sizes, List.map_cons, List.sum_cons] at hN; have := t.size_pos; omega
    subst hts
    rw [markTs_nil]
    apply c_laws_markTreeS
    unfold b_laws_markTreeS
    have hT2 := hT
    rw [trees, Th.row] at hT
    rcases hT with ⟨_, ⟨e, f, rfl⟩, rfl⟩ | ⟨b, xs, cap, D', rfl, hbb, hx, rfl, _⟩
    · refine hFix_unroll ?_
      try simp
      exact retR_same ⟨rfl, hT2, fun _ _ => rfl⟩
    · refine hFix_unroll ?_
      try simp
      exact retR_same ⟨rfl, hT2, fun _ _ => rfl⟩
  | succ N ih =>
    intro ts k p D st hN hk hb hD hT
    apply c_laws_markTreeS
    unfold b_laws_markTreeS
    generalize hv : markTs ts k = v
    have hll := Tr.len_sizes ts
    have hT2 := hT
    rw [trees, Th.row] at hT
    rcases hT with ⟨h0, ⟨e, f, rfl⟩, rfl⟩ | ⟨b, xs, cap, D', rfl, hbb, hx, rfl, hel⟩
    · have hts : ts = [] := by simpa using h0
      subst hts
      rw [markTs_nil] at hv
      subst hv
      refine hFix_unroll ?_
      try simp
      exact retR_same ⟨rfl, hT2, fun _ _ => rfl⟩
    · simp
      rw [List.nodup_cons] at hD
      refine loop_idx (β := Int × List Tr × List PV × St) ts (fun z i => [.int .i64 z.1, .int .i64 (i : Int)]) (fun z => z.2.2.2)
        (fun z i rest => z.2.1.length = i ∧ z.2.2.2 b = some (.vec 4 z.2.2.1 cap) ∧ Ths z.2.2.2 ((z.2.1 ++ rest).map tree) z.2.2.1 D' ∧ (∀ c, c ∉ b :: D' → z.2.2.2 c = st c) ∧ 0 ≤ z.1 ∧ z.1 + 3 * Tr.sizes rest ≤ 1000000000000 ∧ Tr.sizes rest ≤ Tr.sizes ts ∧ z.2.1 ++ (markTs rest z.1).1 = v.1 ∧ (markTs rest z.1).2 = v.2) ?_ ?_ (k, [], xs, st) ⟨rfl, hbb, by simpa using hx, fun _ _ => rfl, hk, hb, Nat.le_refl _, by rw [hv]; simp, by rw [hv]⟩
      · rintro i x rest ⟨k, done, xs, s⟩ hi hxi ⟨hdl, hbs, hxs, hoff, hk, hb, hle, hq1, hq2⟩ kk
        simp only at hdl hbs hxs hoff hk hb hle hq1 hq2
        simp only [List.map_append, List.map_cons] at hxs
        obtain ⟨ys1, y, ys2, D1, Dx, D2, rfl, rfl, hyl, g1, g2, g3⟩ := Ths.split hxs
        simp only [List.length_map] at hyl
        obtain ⟨q, rfl, hTq⟩ := Th.tree.1 g2
        have eil : ys1.length = i := by omega
        simp only [List.nodup_append, List.mem_append] at hD
        obtain ⟨hbD, hD1, ⟨hDx, hD2, hx2⟩, h1x⟩ := hD
        have hsz : Tr.sizes (x :: rest) = x.size + Tr.sizes rest := by simp [Tr.sizes]
        have hxk := Tr.size_kids x
        rw [hsz] at hb hle
        rw [markTs_cons] at hq1 hq2
        simp only at hq1 hq2
        try simp [hi]
        refine e_store_part hbs (by rw [← eil]; exact get_mid _ _ _) rfl rfl rfl (by simp) ?_
        rw [← eil, set_mid, wrap64 (by omega) (by omega)]
        try simp
        refine e_store_part (upd_same _ _ _) (get_mid _ _ _) rfl rfl rfl (by simp) ?_
        rw [set_mid, wrap64 (by omega) (by omega)]
        try simp
        refine callK_just (h_laws_markText _ (by omega) _) ?_
        try simp
        refine e_store_part (upd_same _ _ _) (get_mid _ _ _) rfl rfl rfl (by simp) ?_
        rw [set_mid, wrap64 (by omega) (by omega)]
        try simp
        rw [q_load_e (upd_same _ _ _) (get_mid _ _ _)]
        have eqc : ∀ a b c d : PV, (PV.agg [a, b, c, d]).cells.drop 3 = [d] := fun _ _ _ _ => rfl
        rw [eqc]
        generalize hs3 : upd s b (.vec 4 (ys1 ++ PV.agg [.int .i64 k, .int .i64 (k + 1), .str (mtext (k + 1 + 1)), q] :: ys2) cap) = s3
        have hb3 : s3 b = some (.vec 4 (ys1 ++ PV.agg [.int .i64 k, .int .i64 (k + 1), .str (mtext (k + 1 + 1)), q] :: ys2) cap) := by rw [← hs3]; exact upd_same _ _ _
        have hoff3 : ∀ c, c ≠ b → s3 c = s c := fun c hc => by rw [← hs3]; exact upd_ne _ _ hc
        have nb : ∀ c, c ∈ D1 ∨ c ∈ Dx ∨ c ∈ D2 → c ≠ b := fun c hc e => by subst e; exact hbD hc
        have hTq3 : Th s3 (trees x.kids) q Dx := hTq.frame _ _ _ fun c hc => hoff3 c (nb c (.inr (.inl hc)))
        have hqc : takeV false 1 [q] = some q := by
          obtain ⟨_, _, _⟩ := hTq.ncells
          rw [trees, Th.row] at hTq
          rcases hTq with ⟨_, ⟨e, f, rfl⟩, rfl⟩ | ⟨b, xs, cap, D', rfl, _⟩ <;> rfl
        rw [hqc]
        simp only [qb_some]
        refine callK_mark (ih x.kids (k + 1 + 1 + 1) q Dx s3 (by omega) (by omega) (by omega) hDx hTq3) fun s4 hT4 hoff4 => ?_
        try simp
        rw [show ys1.length = i from eil, W_idx hi (by unfold maxLen; omega)]
        have ekk : k + 3 = k + 1 + 1 + 1 := by omega
        have ek2 : k + 2 = k + 1 + 1 := by omega
        have emk : markT x k = (.mk k (k + 1) (mtext (k + 1 + 1)) (markTs x.kids (k + 1 + 1 + 1)).1, (markTs x.kids (k + 1 + 1 + 1)).2) := by rw [markT_eq, ekk, ek2]
        rw [emk] at hq1 hq2
        have hend := markTs_end x.kids (k + 1 + 1 + 1)
        refine kk ((markTs x.kids (k + 1 + 1 + 1)).2, done ++ [.mk k (k + 1) (mtext (k + 1 + 1)) (markTs x.kids (k + 1 + 1 + 1)).1], ys1 ++ PV.agg [.int .i64 k, .int .i64 (k + 1), .str (mtext (k + 1 + 1)), q] :: ys2, s4) ⟨by simp; omega, ?_, ?_, ?_, by first | omega | (simp only; omega), by first | omega | (simp only; omega), by first | omega | (simp only; omega), by simpa using hq1, hq2⟩
        · simp only
          rw [hoff4 b (fun h => nb b (.inr (.inl h)) rfl)]
          exact hb3
        · simp only [List.append_assoc, List.map_append, List.map_cons, List.cons_append, List.nil_append, List.map_nil]
          refine Ths.join (g1.frame _ _ _ fun c hc => ?_) (Ths.cons (Th.tree.2 ⟨q, rfl, hT4⟩) (g3.frame _ _ _ fun c hc => ?_))
          · rw [hoff4 c (fun h => h1x c hc c (.inl h) rfl), hoff3 c (nb c (.inl hc))]
          · rw [hoff4 c (fun h => hx2 c h c hc rfl), hoff3 c (nb c (.inr (.inr hc)))]
        · intro c hc
          simp only [List.mem_cons, List.mem_append, not_or] at hc
          simp only
          rw [hoff4 c hc.2.2.1, hoff3 c hc.1]
          exact hoff c (by simp only [List.mem_cons, List.mem_append, not_or]; exact hc)
      · rintro ⟨k, done, xs, s⟩ ⟨hdl, hbs, hxs, hoff, hk, hb, hle, hq1, hq2⟩
        simp only at hdl hbs hxs hoff hk hb hle hq1 hq2
        rw [markTs_nil] at hq1 hq2
        simp only [List.append_nil] at hq1 hxs
        try simp
        refine retR_same ⟨by rw [← hq2], ?_, hoff⟩
        first | rw [Th.row] | rw [trees, Th.row]
        refine .inr ⟨b, xs, cap, D', ?_, hbs, by rw [← hq1]; exact hxs, rfl, fun y hy => ?_⟩
        · rw [← hq1]; simp [hdl]
        · simp only [List.mem_map] at hy
          obtain ⟨t, _, rfl⟩ := hy
          exact tree_el t
/-- A tree whose kids are marked. -/
def markK (t : Tr) (k : Int) : Tr := .mk t.kind t.n t.name (markTs t.kids k).1
theorem row_take {s : St} {ks : List Tr} {q : PV} {D : List Nat} (h : Th s (trees ks) q D) (n : Nat) (r : List PV) : takeV false n (q :: r) = some q := by
  rw [trees, Th.row] at h
  rcases h with ⟨_, ⟨e, f, rfl⟩, rfl⟩ | ⟨b, xs, cap, D', rfl, _⟩ <;> rfl
theorem h_laws_markTree (t : Tr) (k : Int) (hk : 0 ≤ k) (hb : k + 3 * Tr.sizes t.kids ≤ 1000000000000) (p : PV) (D : List Nat) (hD : D.Nodup) (st : St) (hT : Th st (tree t) p D) :
    HCalls prog n_laws_markTree [p, .int .i64 k] st (MarkR p D (tree (markK t k)) (.int .i64 (markTs t.kids k).2) st) := by
  obtain ⟨q, rfl, hq⟩ := Th.tree.1 hT
  apply c_laws_markTree
  unfold b_laws_markTree
  refine e_box_ref rfl ?_
  try simp
  rw [row_take hq]
  simp only [qb_some]
  refine callK_mark (h_laws_markTreeS _ t.kids k q D st (Nat.le_refl _) hk hb hD hq) fun s' h1 h2 => ?_
  exact retR_same ⟨rfl, Th.tree.2 ⟨q, rfl, h1⟩, h2⟩
theorem reach_len (l : List Dc) : l.length ≤ Dc.reaches l := by
  induction l with
  | nil => simp
  | cons d l ih => simp only [Dc.reaches, List.map_cons, List.sum_cons, List.length_cons, Dc.reach] at ih ⊢; omega
@[simp] theorem set6_2s (a b c d e f x : PV) : setRange [a, b, c, d, e, f] 2 [x] = [a, b, x, d, e, f] := rfl
@[simp] theorem set6_3s (a b c d e f x : PV) : setRange [a, b, c, d, e, f] 3 [x] = [a, b, c, x, e, f] := rfl
@[simp] theorem set6_4s (a b c d e f x : PV) : setRange [a, b, c, d, e, f] 4 [x] = [a, b, c, d, x, f] := rfl
theorem rem3 (k : Int) : q_int .rem .i64 k 3 = some (.int .i64 (k.tmod 3)) := rfl
theorem h_laws_markDeclS (ds : List Dc) (k : Int) (p : PV) (D : List Nat) (st : St) (hk : 0 ≤ k) (hb : k + Dc.reaches ds ≤ 1000000000000) (hD : D.Nodup) (hT : Th st (decls ds) p D) :
    HCalls prog n_laws_markDeclS [p, .int .i64 k] st (MarkR p D (decls (markDs ds k).1) (.int .i64 (markDs ds k).2) st) := by
  apply c_laws_markDeclS
  unfold b_laws_markDeclS
  generalize hv : markDs ds k = v
  have hT2 := hT
  rw [decls, Th.row] at hT
  rcases hT with ⟨h0, ⟨e, f, rfl⟩, rfl⟩ | ⟨b, xs, cap, D', rfl, hbb, hx, rfl, hel⟩
  · have hts : ds = [] := by simpa using h0
    subst hts
    rw [markDs] at hv
    subst hv
    refine hFix_unroll ?_
    try simp
    exact retR_same ⟨rfl, hT2, fun _ _ => rfl⟩
  · simp
    rw [List.nodup_cons] at hD
    have hll := reach_len ds
    refine loop_idx (β := Int × List Dc × List PV × St) ds (fun z i => [.int .i64 z.1, .int .i64 (i : Int)]) (fun z => z.2.2.2)
      (fun z i rest => z.2.1.length = i ∧ z.2.2.2 b = some (.vec 6 z.2.2.1 cap) ∧ Ths z.2.2.2 ((z.2.1 ++ rest).map decl) z.2.2.1 D' ∧ (∀ c, c ∉ b :: D' → z.2.2.2 c = st c) ∧ 0 ≤ z.1 ∧ z.1 + Dc.reaches rest ≤ 1000000000000 ∧ z.2.1 ++ (markDs rest z.1).1 = v.1 ∧ (markDs rest z.1).2 = v.2) ?_ ?_ (k, [], xs, st) ⟨rfl, hbb, by simpa using hx, fun _ _ => rfl, hk, hb, by rw [hv]; simp, by rw [hv]⟩
    · rintro i x rest ⟨k, done, xs, s⟩ hi hxi ⟨hdl, hbs, hxs, hoff, hk, hb, hq1, hq2⟩ kk
      simp only at hdl hbs hxs hoff hk hb hq1 hq2
      simp only [List.map_append, List.map_cons] at hxs
      obtain ⟨ys1, y, ys2, D1, Dx, D2, rfl, rfl, hyl, g1, g2, g3⟩ := Ths.split hxs
      simp only [List.length_map] at hyl
      obtain ⟨q, rfl, hTq⟩ := Th.decl.1 g2
      have eil : ys1.length = i := by omega
      simp only [List.nodup_append, List.mem_append] at hD
      obtain ⟨hbD, hD1, ⟨hDx, hD2, hx2⟩, h1x⟩ := hD
      have hsz : Dc.reaches (x :: rest) = x.reach + Dc.reaches rest := by simp [Dc.reaches]
      have hxr : x.reach = 5 + 3 * Tr.sizes x.type.kids := rfl
      rw [hsz] at hb
      rw [markDs] at hq1 hq2
      simp only at hq1 hq2
      try simp [hi]
      refine callK_just (h_laws_markText _ (by omega) _) ?_
      try simp
      refine e_store_part hbs (by rw [← eil]; exact get_mid _ _ _) rfl rfl rfl (by simp) ?_
      rw [← eil, set_mid, wrap64 (by omega) (by omega)]
      simp only [rem3, qb_some]
      try simp
      refine e_store_part (upd_same _ _ _) (get_mid _ _ _) rfl rfl rfl (by simp) ?_
      rw [set_mid, wrap64 (by omega) (by omega)]
      try simp
      refine e_store_part (upd_same _ _ _) (get_mid _ _ _) rfl rfl rfl (by simp) ?_
      rw [set_mid, wrap64 (by omega) (by omega)]
      try simp
      refine e_store_part (upd_same _ _ _) (get_mid _ _ _) rfl rfl rfl (by simp) ?_
      rw [set_mid, wrap64 (by omega) (by omega)]
      try simp
      refine callK_just (h_laws_markText _ (by omega) _) ?_
      try simp
      refine e_store_part (upd_same _ _ _) (get_mid _ _ _) rfl rfl rfl (by simp) ?_
      rw [set_mid, wrap64 (by omega) (by omega)]
      try simp
      rw [q_load_e (upd_same _ _ _) (get_mid _ _ _)]
      have cells6 : ∀ (a b c d e f x0 x1 x2 x3 x4 : PV), setRange (setRange (setRange (setRange (setRange [a, b, c, d, e, f] 0 [x0]) 1 [x1]) 2 [x2]) 3 [x3]) 4 [x4] = [x0, x1, x2, x3, x4, f] := fun _ _ _ _ _ _ _ _ _ _ _ => rfl
      try rw [cells6]
      have eqc : ∀ a b c d e f : PV, (PV.agg [a, b, c, d, e, f]).cells.drop 5 = [f] := fun _ _ _ _ _ _ => rfl
      rw [eqc, row_take hTq]
      simp only [qb_some]
      generalize hs3 : upd s b (.vec 6 (ys1 ++ PV.agg [.str (mtext k), .bool (decide ((k + 1).tmod 3 = 0)), .int .i64 (k + 1 + 1), .int .i64 (k + 1 + 1 + 1), .str (mtext (k + 1 + 1 + 1 + 1)), q] :: ys2) cap) = s3
      have hb3 : s3 b = some (.vec 6 (ys1 ++ PV.agg [.str (mtext k), .bool (decide ((k + 1).tmod 3 = 0)), .int .i64 (k + 1 + 1), .int .i64 (k + 1 + 1 + 1), .str (mtext (k + 1 + 1 + 1 + 1)), q] :: ys2) cap) := by rw [← hs3]; exact upd_same _ _ _
      have hoff3 : ∀ c, c ≠ b → s3 c = s c := fun c hc => by rw [← hs3]; exact upd_ne _ _ hc
      have nb : ∀ c, c ∈ D1 ∨ c ∈ Dx ∨ c ∈ D2 → c ≠ b := fun c hc e => by subst e; exact hbD hc
      have hTq3 : Th s3 (trees x.type.kids) q Dx := hTq.frame _ _ _ fun c hc => hoff3 c (nb c (.inr (.inl hc)))
      refine callK_mark (h_laws_markTreeS _ x.type.kids (k + 1 + 1 + 1 + 1 + 1) q Dx s3 (Nat.le_refl _) (by omega) (by omega) hDx hTq3) fun s4 hT4 hoff4 => ?_
      try simp
      rw [show ys1.length = i from eil, W_idx hi (by unfold maxLen; omega)]
      have emk : markD x k = (⟨mtext k, decide ((k + 1).tmod 3 = 0), .mk (k + 1 + 1) (k + 1 + 1 + 1) (mtext (k + 1 + 1 + 1 + 1)) (markTs x.type.kids (k + 1 + 1 + 1 + 1 + 1)).1⟩, (markTs x.type.kids (k + 1 + 1 + 1 + 1 + 1)).2) := by
        unfold markD
        rw [show k + 2 = k + 1 + 1 by omega, show k + 3 = k + 1 + 1 + 1 by omega, show k + 4 = k + 1 + 1 + 1 + 1 by omega, show k + 5 = k + 1 + 1 + 1 + 1 + 1 by omega]
      rw [emk] at hq1 hq2
      have hend := markTs_end x.type.kids (k + 1 + 1 + 1 + 1 + 1)
      refine kk ((markTs x.type.kids (k + 1 + 1 + 1 + 1 + 1)).2, done ++ [⟨mtext k, decide ((k + 1).tmod 3 = 0), .mk (k + 1 + 1) (k + 1 + 1 + 1) (mtext (k + 1 + 1 + 1 + 1)) (markTs x.type.kids (k + 1 + 1 + 1 + 1 + 1)).1⟩], ys1 ++ PV.agg [.str (mtext k), .bool (decide ((k + 1).tmod 3 = 0)), .int .i64 (k + 1 + 1), .int .i64 (k + 1 + 1 + 1), .str (mtext (k + 1 + 1 + 1 + 1)), q] :: ys2, s4) ⟨by simp; omega, ?_, ?_, ?_, by first | omega | (simp only; omega), by first | omega | (simp only; omega), by simpa using hq1, hq2⟩
      · simp only
        rw [hoff4 b (fun h => nb b (.inr (.inl h)) rfl)]
        exact hb3
      · simp only [List.append_assoc, List.map_append, List.map_cons, List.cons_append, List.nil_append, List.map_nil]
        refine Ths.join (g1.frame _ _ _ fun c hc => ?_) (Ths.cons (Th.decl.2 ⟨q, rfl, hT4⟩) (g3.frame _ _ _ fun c hc => ?_))
        · rw [hoff4 c (fun h => h1x c hc c (.inl h) rfl), hoff3 c (nb c (.inl hc))]
        · rw [hoff4 c (fun h => hx2 c h c hc rfl), hoff3 c (nb c (.inr (.inr hc)))]
      · intro c hc
        simp only [List.mem_cons, List.mem_append, not_or] at hc
        simp only
        rw [hoff4 c hc.2.2.1, hoff3 c hc.1]
        exact hoff c (by simp only [List.mem_cons, List.mem_append, not_or]; exact hc)
    · rintro ⟨k, done, xs, s⟩ ⟨hdl, hbs, hxs, hoff, hk, hb, hq1, hq2⟩
      simp only at hdl hbs hxs hoff hk hb hq1 hq2
      simp only [markDs, List.append_nil] at hq1 hq2 hxs
      try simp
      refine retR_same ⟨by rw [← hq2], ?_, hoff⟩
      first | rw [Th.row] | rw [decls, Th.row]
      refine .inr ⟨b, xs, cap, D', ?_, hbs, by rw [← hq1]; exact hxs, rfl, fun y hy => ?_⟩
      · rw [← hq1]; simp [hdl]
      · simp only [List.mem_map] at hy
        obtain ⟨t, _, rfl⟩ := hy
        exact decl_el t
end Go.H.Tryz
/- Contracts: marks that are read again; copies that own all that they reach. -/
set_option linter.unusedVariables false
set_option linter.unusedSimpArgs false
namespace Go.H.Tryz
open Go Go.H

theorem h_laws_heldTreeS : ∀ (N : Nat) (ts : List Tr) (k : Int) (st : St), Tr.sizes ts ≤ N → 0 ≤ k → k + 3 * Tr.sizes ts ≤ 1000000000000 →
    HCalls prog n_laws_heldTreeS [trees (markTs ts k).1, .int .i64 k] st (Just (.int .i64 (markTs ts k).2) st) := by
  intro N
  induction N with
  | zero =>
    intro ts k st hN hk hb
    have hts : ts = [] := by
      cases ts with
      | nil => rfl
      | cons t r => simp only [Tr.sizes, List.map_cons, List.sum_cons] at hN; have := t.size_pos; omega
    subst hts
    rw [markTs_nil]
    apply c_laws_heldTreeS
    unfold b_laws_heldTreeS
    refine hFix_unroll ?_
    try simp
    exact Just.ret (Sub.refl _)
  | succ N ih =>
    intro ts k st hN hk hb
    apply c_laws_heldTreeS
    unfold b_laws_heldTreeS
    generalize hv : (markTs ts k).2 = v
    generalize hms : (markTs ts k).1 = ms
    have hll := Tr.len_sizes ts
    have hml : ms.length = ts.length := by rw [← hms]; exact markTs_len ts k
    try simp
    refine loop_idx (β := Int) ms (fun z i => [.int .i64 z, .int .i64 (i : Int)]) (fun _ => st)
      (fun z i rest => ∃ r : List Tr, rest = (markTs r z).1 ∧ 0 ≤ z ∧ z + 3 * Tr.sizes r ≤ 1000000000000 ∧ Tr.sizes r ≤ Tr.sizes ts ∧ (markTs r z).2 = v) ?_ ?_ k ⟨ts, hms.symm, hk, hb, Nat.le_refl _, hv⟩
    · rintro i x rest k hi hx ⟨r, hr, hk, hb, hle, hq⟩ kk
      cases r with
      | nil => rw [markTs_nil] at hr; cases hr
      | cons t r =>
        rw [markTs_cons] at hr hq
        simp only [List.cons.injEq] at hr
        obtain ⟨rfl, rfl⟩ := hr
        have hsz : Tr.sizes (t :: r) = t.size + Tr.sizes r := by simp [Tr.sizes]
        have hxk := Tr.size_kids t
        rw [hsz] at hb hle
        simp only at hq
        rw [markT_eq] at hx
        have hend := markTs_end t.kids (k + 1 + 1 + 1)
        have e3 : k + 3 = k + 1 + 1 + 1 := by omega
        have e2 : k + 2 = k + 1 + 1 := by omega
        try simp [hi, ia_tree _ hx]
        rw [wrap64 (by omega) (by omega)]
        try simp
        rw [wrap64 (by omega) (by omega)]
        refine callK_just (h_laws_markText _ (by omega) _) ?_
        try simp [e2]
        rw [wrap64 (by omega) (by omega), e3]
        refine callK_just (by simpa using ih t.kids (k + 1 + 1 + 1) st (by omega) (by omega) (by omega)) ?_
        try simp
        refine br_dec (fun h => by omega) (fun h => ?_)
        rw [W_idx hi (by unfold maxLen; omega)]
        refine kk _ ⟨r, ?_, by omega, by omega, by omega, ?_⟩
        · rw [markT_eq, e3]
        · rw [markT_eq, e3] at hq; exact hq
    · rintro k ⟨r, hr, hk, hb, hle, hq⟩
      cases r with
      | nil => rw [markTs_nil] at hq; simp; exact Just.int hq
      | cons t r => rw [markTs_cons] at hr; cases hr
theorem h_laws_heldTree (t : Tr) (k : Int) (hk : 0 ≤ k) (hb : k + 3 * Tr.sizes t.kids ≤ 1000000000000) (st : St) :
    HCalls prog n_laws_heldTree [tree (markK t k), .int .i64 k] st (Just (.int .i64 (markTs t.kids k).2) st) := by
  apply c_laws_heldTree
  unfold b_laws_heldTree
  have hend := markTs_end t.kids k
  refine e_box_ref (tree_isJunk _) ?_
  try simp [markK]
  refine callK_just (by simpa using h_laws_heldTreeS _ t.kids k st (Nat.le_refl _) hk hb) ?_
  try simp
  refine br_dec (fun h => by omega) (fun h => ?_)
  exact Just.ret (Sub.refl _)
theorem h_laws_heldDeclS (ds : List Dc) (k : Int) (hk : 0 ≤ k) (hb : k + Dc.reaches ds ≤ 1000000000000) (st : St) :
    HCalls prog n_laws_heldDeclS [decls (markDs ds k).1, .int .i64 k] st (Just (.int .i64 (markDs ds k).2) st) := by
  apply c_laws_heldDeclS
  unfold b_laws_heldDeclS
  generalize hv : (markDs ds k).2 = v
  generalize hms : (markDs ds k).1 = ms
  have hll := reach_len ds
  have hml : ms.length = ds.length := by rw [← hms]; exact markDs_len ds k
  try simp
  refine loop_idx (β := Int) ms (fun z i => [.int .i64 z, .int .i64 (i : Int)]) (fun _ => st)
    (fun z i rest => ∃ r : List Dc, rest = (markDs r z).1 ∧ 0 ≤ z ∧ z + Dc.reaches r ≤ 1000000000000 ∧ (markDs r z).2 = v) ?_ ?_ k ⟨ds, hms.symm, hk, hb, hv⟩
  · rintro i x rest k hi hx ⟨r, hr, hk, hb, hq⟩ kk
    cases r with
    | nil => rw [markDs] at hr; cases hr
    | cons t r =>
      rw [markDs] at hr hq
      simp only [List.cons.injEq] at hr
      obtain ⟨rfl, rfl⟩ := hr
      have hsz : Dc.reaches (t :: r) = t.reach + Dc.reaches r := by simp [Dc.reaches]
      have hxr : t.reach = 5 + 3 * Tr.sizes t.type.kids := rfl
      rw [hsz] at hb
      simp only at hq
      have emk : markD t k = (⟨mtext k, decide ((k + 1).tmod 3 = 0), .mk (k + 1 + 1) (k + 1 + 1 + 1) (mtext (k + 1 + 1 + 1 + 1)) (markTs t.type.kids (k + 1 + 1 + 1 + 1 + 1)).1⟩, (markTs t.type.kids (k + 1 + 1 + 1 + 1 + 1)).2) := by
        unfold markD
        rw [show k + 2 = k + 1 + 1 by omega, show k + 3 = k + 1 + 1 + 1 by omega, show k + 4 = k + 1 + 1 + 1 + 1 by omega, show k + 5 = k + 1 + 1 + 1 + 1 + 1 by omega]
      rw [emk] at hx hq
      have hend := markTs_end t.type.kids (k + 1 + 1 + 1 + 1 + 1)
      try simp [hi, ia_decl _ hx]
      refine callK_just (h_laws_markText _ (by omega) _) ?_
      try simp
      rw [wrap64 (by omega) (by omega)]
      simp only [rem3, qb_some]
      try simp
      rw [wrap64 (by omega) (by omega)]
      try simp
      rw [wrap64 (by omega) (by omega)]
      try simp
      rw [wrap64 (by omega) (by omega)]
      refine callK_just (h_laws_markText _ (by omega) _) ?_
      try simp
      rw [wrap64 (by omega) (by omega)]
      refine callK_just (by simpa using h_laws_heldTreeS _ t.type.kids (k + 1 + 1 + 1 + 1 + 1) st (Nat.le_refl _) (by omega) (by omega)) ?_
      try simp
      refine br_dec (fun h => by omega) (fun h => ?_)
      rw [W_idx hi (by unfold maxLen; omega)]
      refine kk _ ⟨r, ?_, by omega, by omega, ?_⟩
      · rw [emk]
      · exact hq
  · rintro k ⟨r, hr, hk, hb, hq⟩
    cases r with
    | nil => rw [markDs] at hq; simp; exact Just.int hq
    | cons t r => rw [markDs] at hr; cases hr
end Go.H.Tryz
/- Contracts: copies that own all that they reach. -/
set_option linter.unusedVariables false
set_option linter.unusedSimpArgs false
namespace Go.H.Tryz
open Go Go.H

theorem Owns.mono_res {P : Program} {g : FuncId} {us : List PV} {p' : PV} {st : St} (hc : HCalls P g us st (Owns p' st)) : HCalls P g us st (Owns p' st) := hc
theorem th_row_cell {s : St} {ks : List Tr} {q : PV} {D : List Nat} (h : Th s (trees ks) q D) : q.cellOK = true ∧ q.ncells = 1 ∧ q.isJunk = false ∧ q.cells = [q] := by
  rw [trees, Th.row] at h
  rcases h with ⟨_, ⟨e, f, rfl⟩, rfl⟩ | ⟨b, xs, cap, D', rfl, _⟩ <;> exact ⟨rfl, rfl, rfl, rfl⟩
theorem h_laws_toTree_own_of (t : Tr) (st : St) (ih : ∀ st, HCalls prog n_laws_toTreeS [trees t.kids] st (Owns (trees t.kids) st)) :
    HCalls prog n_laws_toTree [tree t] st (Owns (tree t) st) := by
  apply c_laws_toTree
  unfold b_laws_toTree
  refine e_box_ref (tree_isJunk _) ?_
  intro b1 hb1 b2 hb2
  have hne : b1 ≠ b2 := fun e => by rw [← e, upd_same] at hb2; cases hb2
  have hb2' : st b2 = none := by rw [upd_ne _ _ hne.symm] at hb2; exact hb2
  try simp [q_load_p, upd_apply, hb1, hb2]
  generalize hs : upd (upd st b1 (.cells [.int .i64 0, .int .i64 0, .str [], .sl 0 true []])) b2 (.cells [.int .i64 t.kind, .int .i64 t.n, .str t.name, .sl 0 true []]) = s
  have e1 : s b1 = some (.cells [.int .i64 0, .int .i64 0, .str [], .sl 0 true []]) := by rw [← hs, upd_ne _ _ hne]; exact upd_same _ _ _
  have e2 : s b2 = some (.cells [.int .i64 t.kind, .int .i64 t.n, .str t.name, .sl 0 true []]) := by rw [← hs]; exact upd_same _ _ _
  have hsub : Sub st s := by rw [← hs]; exact ((Sub.refl st).put hb1).put (by rw [upd_ne _ _ hne.symm] at hb2; exact hb2)
  refine callK_owns (by simpa using ih s) fun q D s2 hD hT hf ho => ?_
  have keep : ∀ c o, s c = some o → s2 c = some o := fun c o hc => by
    rw [ho c (fun h => by rw [hf c h] at hc; cases hc)]; exact hc
  have f1 := keep _ _ e1
  have f2 := keep _ _ e2
  obtain ⟨c1, c2, c3, c4⟩ := th_row_cell (by simpa using hT)
  try simp
  rw [e_store_p _ _ _ _ _ _ _ f2]
  try simp [c1, c2, c3, c4]
  try simp [q_load_p (upd_same _ _ _)]
  have g1 : ∀ o, (upd s2 b2 o) b1 = some (.cells [.int .i64 0, .int .i64 0, .str [], .sl 0 true []]) := fun o => by rw [upd_ne _ _ hne]; exact f1
  rw [e_store_p _ _ _ _ _ _ _ (g1 _)]
  try simp [c1]
  try simp [q_load_p (upd_same _ _ _)]
  have nD : ∀ c ∈ D, c ≠ b1 ∧ c ≠ b2 := fun c hc => ⟨(fun e => by rw [e] at hc; rw [hf b1 hc] at e1; cases e1), (fun e => by rw [e] at hc; rw [hf b2 hc] at e2; cases e2)⟩
  refine Owns.ret hD (Th.tree.2 ⟨q, rfl, hT.frame _ _ _ fun c hc => ?_⟩) (fun c hc => hsub.isNone (hf c hc)) ?_
  · rw [upd_ne _ _ (nD c hc).1, upd_ne _ _ (nD c hc).2]
  · exact ((hsub.trans keep).put hb2').put hb1
theorem h_laws_toTreeS_own_of (ts : List Tr) (hn : ts.length ≤ 1000000000) (st : St) (ih : ∀ t ∈ ts, ∀ st, HCalls prog n_laws_toTree [tree t] st (Owns (tree t) st)) :
    HCalls prog n_laws_toTreeS [trees ts] st (Owns (trees ts) st) := by
  apply c_laws_toTreeS
  unfold b_laws_toTreeS
  try simp
  refine ⟨rfl, by simp, by omega, ?_⟩
  try simp
  refine ⟨by omega, by omega, ?_⟩
  intro b hb
  refine loop_idx (β := List PV × List Nat × St) ts (fun _ i => [.int .i64 (i : Int)]) (fun z => z.2.2)
    (fun z i rest => z.2.2 b = some (.vec 4 (z.1 ++ List.replicate (ts.length - i) (.agg [.int .i64 0, .int .i64 0, .str [], .sl 0 true []])) ts.length) ∧ z.1.length = i ∧ Ths z.2.2 ((ts.take i).map tree) z.1 z.2.1 ∧ z.2.1.Nodup ∧ b ∉ z.2.1 ∧ (∀ c ∈ z.2.1, st c = none) ∧ (∀ c, c ∉ b :: z.2.1 → z.2.2 c = st c)) ?_ ?_ ([], [], upd st b _) ⟨by simp only [Nat.sub_zero, List.nil_append]; exact upd_same _ _ _, rfl, by simp [Ths], List.nodup_nil, by simp, by simp, fun c hc => upd_ne _ _ (by simpa using hc)⟩
  · rintro i x rest ⟨ys, D, s⟩ hi hx ⟨hbs, hyl, hys, hD, hbD, hf, ho⟩ kk
    simp only at hbs hyl hys hD hbD hf ho
    try simp [hi, ia_tree _ hx]
    refine callK_owns (ih x (List.mem_of_getElem? hx) s) fun p Dx s2 hDx hTx hfx hox => ?_
    have keep : ∀ c o, s c = some o → s2 c = some o := fun c o hc => by
      rw [hox c (fun h => by rw [hfx c h] at hc; cases hc)]; exact hc
    have liveD : ∀ c ∈ D, ∃ o, s c = some o := fun c hc => by obtain ⟨o, h1, _⟩ := (Ths.solid _ _ _ hys).2 c hc; exact ⟨o, h1⟩
    have hxb : b ∉ Dx := fun h => by rw [hfx b h] at hbs; cases hbs
    have hxD : ∀ c ∈ D, c ∉ Dx := fun c hc h => by obtain ⟨o, ho'⟩ := liveD c hc; rw [hfx c h] at ho'; cases ho'
    have erep : List.replicate (ts.length - i) (PV.agg [.int .i64 0, .int .i64 0, .str [], .sl 0 true []]) = .agg [.int .i64 0, .int .i64 0, .str [], .sl 0 true []] :: List.replicate (ts.length - (i + 1)) (.agg [.int .i64 0, .int .i64 0, .str [], .sl 0 true []]) := by
      rw [show ts.length - i = (ts.length - (i + 1)) + 1 by omega, List.replicate_succ]
    rw [erep] at hbs
    have hb2 := keep _ _ hbs
    have hp := hTx.elOK (tree_el x)
    obtain ⟨hp1, hp2, hp3⟩ := hTx.ncells
    try simp [hi]
    refine e_store_el hb2 (by rw [← hyl]; exact get_mid _ _ _) rfl hp.1 hp.2 (by rw [hp2]; exact tree_isAgg x) hp3 ?_
    rw [← hyl, set_mid, hyl, W_idx hi (by unfold maxLen; omega)]
    refine kk (ys ++ [p], D ++ Dx, upd s2 b (.vec 4 (ys ++ p :: List.replicate (ts.length - (i + 1)) (.agg [.int .i64 0, .int .i64 0, .str [], .sl 0 true []])) ts.length)) ⟨?_, by simp [hyl], ?_, ?_, ?_, ?_, ?_⟩
    · simp only [List.append_assoc, List.cons_append, List.nil_append]
      exact upd_same _ _ _
    · rw [take_snoc hx, List.map_append]
      refine Ths.join (hys.frame _ _ _ fun c hc => ?_) (Ths.one (hTx.frame _ _ _ fun c hc => ?_))
      · have : c ≠ b := fun e => hbD (e ▸ hc)
        simp only
        rw [upd_ne _ _ this, hox c (hxD c hc)]
      · have : c ≠ b := fun e => hxb (e ▸ hc)
        simp only
        rw [upd_ne _ _ this]
    · rw [List.nodup_append]
      exact ⟨hD, hDx, fun a ha c hc e => hxD a ha (e ▸ hc)⟩
    · simp only [List.mem_append, not_or]
      exact ⟨hbD, hxb⟩
    · intro c hc
      rcases List.mem_append.1 hc with hc | hc
      · exact hf c hc
      · have h1 := hfx c hc
        by_cases hcD : c ∈ D
        · exact hf c hcD
        · have : c ≠ b := fun e => hxb (e ▸ hc)
          rw [← ho c (by simp [this, hcD])]
          exact h1
    · intro c hc
      simp only [List.mem_cons, List.mem_append, not_or] at hc
      simp only
      rw [upd_ne _ _ hc.1, hox c hc.2.2]
      exact ho c (by simp [hc.1, hc.2.1])
  · rintro ⟨ys, D, s⟩ ⟨hbs, hyl, hys, hD, hbD, hf, ho⟩
    simp only at hbs hyl hys hD hbD hf ho
    simp only [Nat.sub_self, List.replicate_zero, List.append_nil] at hbs
    rw [List.take_of_length_le (Nat.le_refl _)] at hys
    try simp
    refine Owns.ret (D := b :: D) (List.nodup_cons.2 ⟨hbD, hD⟩) (Th.row.2 (.inr ⟨b, ys, ts.length, D, by simp, hbs, hys, rfl, fun y hy => ?_⟩)) ?_ ?_
    · simp only [List.mem_map] at hy
      obtain ⟨t, _, rfl⟩ := hy
      exact tree_el t
    · intro c hc
      rcases List.mem_cons.1 hc with rfl | hc
      · exact hb
      · exact hf c hc
    · intro c o hc
      have : c ∉ b :: D := fun h => by
        rcases List.mem_cons.1 h with rfl | h
        · rw [hb] at hc; cases hc
        · rw [hf c h] at hc; cases hc
      rw [ho c this]; exact hc
theorem h_laws_toTree_own (t : Tr) (hn : t.bulk ≤ 1000000000) (st : St) : HCalls prog n_laws_toTree [tree t] st (Owns (tree t) st) := by
  induction t using Tr.ind generalizing st with
  | _ t ih =>
  have hb := Tr.bulk_bulks t
  refine h_laws_toTree_own_of t st fun st => h_laws_toTreeS_own_of _ (by unfold Tr.bulks at hb; omega) st fun x hx st => ih x hx ?_ st
  have := Tr.bulk_mem hx
  omega
theorem h_laws_toTreeS_own (ts : List Tr) (hn : Tr.bulks ts ≤ 1000000000) (st : St) : HCalls prog n_laws_toTreeS [trees ts] st (Owns (trees ts) st) :=
  h_laws_toTreeS_own_of ts (by unfold Tr.bulks at hn; omega) st fun x hx st => h_laws_toTree_own x (by have := Tr.bulk_mem hx; omega) st
theorem h_laws_toDeclS_own_of (ts : List Dc) (hn : ts.length ≤ 1000000000) (st : St) (ih : ∀ t ∈ ts, ∀ st, HCalls prog n_laws_toDecl [decl t] st (Owns (decl t) st)) :
    HCalls prog n_laws_toDeclS [decls ts] st (Owns (decls ts) st) := by
  apply c_laws_toDeclS
  unfold b_laws_toDeclS
  try simp
  refine ⟨rfl, by simp, by omega, ?_⟩
  try simp
  refine ⟨by omega, by omega, ?_⟩
  intro b hb
  refine loop_idx (β := List PV × List Nat × St) ts (fun _ i => [.int .i64 (i : Int)]) (fun z => z.2.2)
    (fun z i rest => z.2.2 b = some (.vec 6 (z.1 ++ List.replicate (ts.length - i) (.agg [.str [], .bool false, .int .i64 0, .int .i64 0, .str [], .sl 0 true []])) ts.length) ∧ z.1.length = i ∧ Ths z.2.2 ((ts.take i).map decl) z.1 z.2.1 ∧ z.2.1.Nodup ∧ b ∉ z.2.1 ∧ (∀ c ∈ z.2.1, st c = none) ∧ (∀ c, c ∉ b :: z.2.1 → z.2.2 c = st c)) ?_ ?_ ([], [], upd st b _) ⟨by simp only [Nat.sub_zero, List.nil_append]; exact upd_same _ _ _, rfl, by simp [Ths], List.nodup_nil, by simp, by simp, fun c hc => upd_ne _ _ (by simpa using hc)⟩
  · rintro i x rest ⟨ys, D, s⟩ hi hx ⟨hbs, hyl, hys, hD, hbD, hf, ho⟩ kk
    simp only at hbs hyl hys hD hbD hf ho
    try simp [hi, ia_decl _ hx]
    refine callK_owns (ih x (List.mem_of_getElem? hx) s) fun p Dx s2 hDx hTx hfx hox => ?_
    have keep : ∀ c o, s c = some o → s2 c = some o := fun c o hc => by
      rw [hox c (fun h => by rw [hfx c h] at hc; cases hc)]; exact hc
    have liveD : ∀ c ∈ D, ∃ o, s c = some o := fun c hc => by obtain ⟨o, h1, _⟩ := (Ths.solid _ _ _ hys).2 c hc; exact ⟨o, h1⟩
    have hxb : b ∉ Dx := fun h => by rw [hfx b h] at hbs; cases hbs
    have hxD : ∀ c ∈ D, c ∉ Dx := fun c hc h => by obtain ⟨o, ho'⟩ := liveD c hc; rw [hfx c h] at ho'; cases ho'
    have erep : List.replicate (ts.length - i) (PV.agg [.str [], .bool false, .int .i64 0, .int .i64 0, .str [], .sl 0 true []]) = .agg [.str [], .bool false, .int .i64 0, .int .i64 0, .str [], .sl 0 true []] :: List.replicate (ts.length - (i + 1)) (.agg [.str [], .bool false, .int .i64 0, .int .i64 0, .str [], .sl 0 true []]) := by
      rw [show ts.length - i = (ts.length - (i + 1)) + 1 by omega, List.replicate_succ]
    rw [erep] at hbs
    have hb2 := keep _ _ hbs
    have hp := hTx.elOK (decl_el x)
    obtain ⟨hp1, hp2, hp3⟩ := hTx.ncells
    try simp [hi]
    refine e_store_el hb2 (by rw [← hyl]; exact get_mid _ _ _) rfl hp.1 hp.2 (by rw [hp2]; exact decl_isAgg x) hp3 ?_
    rw [← hyl, set_mid, hyl, W_idx hi (by unfold maxLen; omega)]
    refine kk (ys ++ [p], D ++ Dx, upd s2 b (.vec 6 (ys ++ p :: List.replicate (ts.length - (i + 1)) (.agg [.str [], .bool false, .int .i64 0, .int .i64 0, .str [], .sl 0 true []])) ts.length)) ⟨?_, by simp [hyl], ?_, ?_, ?_, ?_, ?_⟩
    · simp only [List.append_assoc, List.cons_append, List.nil_append]
      exact upd_same _ _ _
    · rw [take_snoc hx, List.map_append]
      refine Ths.join (hys.frame _ _ _ fun c hc => ?_) (Ths.one (hTx.frame _ _ _ fun c hc => ?_))
      · have : c ≠ b := fun e => hbD (e ▸ hc)
        simp only
        rw [upd_ne _ _ this, hox c (hxD c hc)]
      · have : c ≠ b := fun e => hxb (e ▸ hc)
        simp only
        rw [upd_ne _ _ this]
    · rw [List.nodup_append]
      exact ⟨hD, hDx, fun a ha c hc e => hxD a ha (e ▸ hc)⟩
    · simp only [List.mem_append, not_or]
      exact ⟨hbD, hxb⟩
    · intro c hc
      rcases List.mem_append.1 hc with hc | hc
      · exact hf c hc
      · have h1 := hfx c hc
        by_cases hcD : c ∈ D
        · exact hf c hcD
        · have : c ≠ b := fun e => hxb (e ▸ hc)
          rw [← ho c (by simp [this, hcD])]
          exact h1
    · intro c hc
      simp only [List.mem_cons, List.mem_append, not_or] at hc
      simp only
      rw [upd_ne _ _ hc.1, hox c hc.2.2]
      exact ho c (by simp [hc.1, hc.2.1])
  · rintro ⟨ys, D, s⟩ ⟨hbs, hyl, hys, hD, hbD, hf, ho⟩
    simp only at hbs hyl hys hD hbD hf ho
    simp only [Nat.sub_self, List.replicate_zero, List.append_nil] at hbs
    rw [List.take_of_length_le (Nat.le_refl _)] at hys
    try simp
    refine Owns.ret (D := b :: D) (List.nodup_cons.2 ⟨hbD, hD⟩) (Th.row.2 (.inr ⟨b, ys, ts.length, D, by simp, hbs, hys, rfl, fun y hy => ?_⟩)) ?_ ?_
    · simp only [List.mem_map] at hy
      obtain ⟨t, _, rfl⟩ := hy
      exact decl_el t
    · intro c hc
      rcases List.mem_cons.1 hc with rfl | hc
      · exact hb
      · exact hf c hc
    · intro c o hc
      have : c ∉ b :: D := fun h => by
        rcases List.mem_cons.1 h with rfl | h
        · rw [hb] at hc; cases hc
        · rw [hf c h] at hc; cases hc
      rw [ho c this]; exact hc
theorem h_laws_toDecl_own (d : Dc) (hn : d.bulk ≤ 1000000000) (st : St) : HCalls prog n_laws_toDecl [decl d] st (Owns (decl d) st) := by
  apply c_laws_toDecl
  unfold b_laws_toDecl
  have hb0 : d.type.bulk ≤ 1000000000 := by unfold Dc.bulk at hn; omega
  refine e_box_ref (decl_isJunk _) ?_
  intro b1 hb1 b2 hb2
  have hne : b1 ≠ b2 := fun e => by rw [← e, upd_same] at hb2; cases hb2
  have hb2' : st b2 = none := by rw [upd_ne _ _ hne.symm] at hb2; exact hb2
  try simp [q_load_p, upd_apply, hb1, hb2]
  generalize hs : upd (upd st b1 (.cells [.str [], .bool false, .int .i64 0, .int .i64 0, .str [], .sl 0 true []])) b2 (.cells [.str d.name, .bool d.fam, .int .i64 0, .int .i64 0, .str [], .sl 0 true []]) = s
  have e1 : s b1 = some (.cells [.str [], .bool false, .int .i64 0, .int .i64 0, .str [], .sl 0 true []]) := by rw [← hs, upd_ne _ _ hne]; exact upd_same _ _ _
  have e2 : s b2 = some (.cells [.str d.name, .bool d.fam, .int .i64 0, .int .i64 0, .str [], .sl 0 true []]) := by rw [← hs]; exact upd_same _ _ _
  have hsub : Sub st s := by rw [← hs]; exact ((Sub.refl st).put hb1).put (by rw [upd_ne _ _ hne.symm] at hb2; exact hb2)
  refine callK_owns (h_laws_toTree_own d.type hb0 s) fun p D s2 hD hT hf ho => ?_
  have keep : ∀ c o, s c = some o → s2 c = some o := fun c o hc => by
    rw [ho c (fun h => by rw [hf c h] at hc; cases hc)]; exact hc
  have f1 := keep _ _ e1
  have f2 := keep _ _ e2
  obtain ⟨q, rfl, hTq⟩ := Th.tree.1 hT
  obtain ⟨c1, c2, c3, c4⟩ := th_row_cell hTq
  try simp
  rw [e_store_p _ _ _ _ _ _ _ f2]
  have r6 : ∀ a b c d e f x y z w : PV, setRange [a, b, c, d, e, f] 2 [x, y, z, w] = [a, b, x, y, z, w] := fun _ _ _ _ _ _ _ _ _ _ => rfl
  try simp [c1, r6]
  try simp [q_load_p (upd_same _ _ _)]
  have g1 : ∀ o, (upd s2 b2 o) b1 = some (.cells [.str [], .bool false, .int .i64 0, .int .i64 0, .str [], .sl 0 true []]) := fun o => by rw [upd_ne _ _ hne]; exact f1
  rw [e_store_p _ _ _ _ _ _ _ (g1 _)]
  have r66 : ∀ a b c d e f x y z w v u : PV, setRange [a, b, c, d, e, f] 0 [x, y, z, w, v, u] = [x, y, z, w, v, u] := fun _ _ _ _ _ _ _ _ _ _ _ _ => rfl
  try simp [c1, r66]
  try simp [q_load_p (upd_same _ _ _)]
  have nD : ∀ c ∈ D, c ≠ b1 ∧ c ≠ b2 := fun c hc => ⟨(fun e => by rw [e] at hc; rw [hf b1 hc] at e1; cases e1), (fun e => by rw [e] at hc; rw [hf b2 hc] at e2; cases e2)⟩
  refine Owns.ret hD (Th.decl.2 ⟨q, rfl, hTq.frame _ _ _ fun c hc => ?_⟩) (fun c hc => hsub.isNone (hf c hc)) ?_
  · rw [upd_ne _ _ (nD c hc).1, upd_ne _ _ (nD c hc).2]
  · exact ((hsub.trans keep).put hb2').put hb1
theorem h_laws_toDeclS_own (ts : List Dc) (hn : Dc.bulks ts ≤ 1000000000) (st : St) : HCalls prog n_laws_toDeclS [decls ts] st (Owns (decls ts) st) :=
  h_laws_toDeclS_own_of ts (by have := Dc.length_le ts; omega) st fun x hx st => h_laws_toDecl_own x (by have := Dc.bulk_mem hx; omega) st

/-! ### The program's copies -/
theorem h_impl_clone_own (t : Tr) (hsz : t.size ≤ 1000000000) (st : St) : HCalls prog n_impl_clone [tree t] st (Owns (tree t) st) := by
  induction t using Tr.ind generalizing st with
  | _ t ih =>
  have hl := t.kids_len
  apply c_impl_clone
  unfold b_impl_clone
  refine e_box_own (tree_isJunk _) fun b1 hb1 => ?_
  intro b2 hb2
  have hne : b1 ≠ b2 := fun e => by rw [← e, upd_same] at hb2; cases hb2
  rw [upd_ne _ _ hne.symm] at hb2
  generalize hs : upd (upd st b1 (.cells (tree t).cells)) b2 (.cells [.int .i64 0, .int .i64 0, .str [], .sl 0 true []]) = s
  have e1 : s b1 = some (.cells (tree t).cells) := by rw [← hs, upd_ne _ _ hne]; exact upd_same _ _ _
  have e2 : s b2 = some (.cells [.int .i64 0, .int .i64 0, .str [], .sl 0 true []]) := by rw [← hs]; exact upd_same _ _ _
  have hsub : Sub st s := by
    rw [← hs]
    refine ((Sub.refl st).put hb1).put hb2
  clear hs
  try simp [q_load_p e1]
  have hall : HCalls prog n_impl_cloneAll [trees t.kids] s (Owns (trees t.kids) s) := by
    apply c_impl_cloneAll
    unfold b_impl_cloneAll
    try simp
    refine loop_idx (β := PV × List Nat × St) t.kids (fun z i => [z.1, .int .i64 (i : Int)]) (fun z => z.2.2) (fun z i rest => Rw s z.2.2 4 ((t.kids.take i).map tree) z.1 z.2.1) ?_ ?_ (_, [], s) (Rw.start (Sub.refl s) 4 4)
    · rintro i x rest ⟨p, D, s1⟩ hi hx q0 kk
      simp only at q0
      try simp [hi, ia_tree _ hx]
      intro b5 hb5
      try simp
      try simp [q_load_p (upd_same _ _ _)]
      have q1 := q0.put hb5 (.cells (tree x).cells)
      generalize upd s1 b5 (.cells (tree x).cells) = s2 at q1
      refine callK_owns (ih x (List.mem_of_getElem? hx) (by have := Tr.kid_size (List.mem_of_getElem? hx); omega) s2) fun y Dx s3 hDx hTx hfx hox => ?_
      have keep : ∀ c o, s2 c = some o → s3 c = some o := fun c o hc => by
        rw [hox c (fun h => by rw [hfx c h] at hc; cases hc)]; exact hc
      have q2 : Rw s s3 4 ((t.kids.take i).map tree) p D := q1.frame (fun c hc => by
        obtain ⟨o, ho⟩ := q1.live hc
        rw [ho]; exact keep c o ho) (q1.sub.trans keep)
      have hy := hTx.elOK (tree_el x)
      obtain ⟨n1, n2, n3⟩ := hTx.ncells
      rw [tree_ncells] at n1
      have hya := hy.2
      rw [List.all_eq_true] at hya
      try simp
      rw [if_pos ⟨n1, hya⟩]
      try simp
      refine q2.append hTx (tree_el x) hDx (fun c hc => q1.sub.isNone (hfx c hc)) (fun c hc h => by obtain ⟨o, ho⟩ := q1.live hc; rw [hfx c h] at ho; cases ho) (elems_sl _ _ _ _) (by simp; omega) fun p2 s4 D2 q3 _ _ => ?_
      rw [W_idx hi (by unfold maxLen; omega)]
      refine kk (p2, D2, s4) ?_
      simp only
      rw [take_snoc hx, List.map_append]
      exact q3
    · rintro ⟨p, D, s1⟩ q0
      simp only at q0
      rw [List.take_of_length_le (Nat.le_refl _)] at q0
      try simp
      exact Owns.row q0
  refine callK_owns (by simpa using hall) fun q D s2 hD hT hf ho => ?_
  have keep : ∀ c o, s c = some o → s2 c = some o := fun c o hc => by
    rw [ho c (fun h => by rw [hf c h] at hc; cases hc)]; exact hc
  have f1 := keep _ _ e1
  have f2 := keep _ _ e2
  obtain ⟨c1, c2, c3, c4⟩ := th_row_cell (by simpa using hT)
  try simp
  rw [e_store_p _ _ _ _ _ _ _ f1]
  try simp [c1, c2, c3, c4]
  try simp [q_load_p (upd_same _ _ _)]
  have g2 : ∀ o, (upd s2 b1 o) b2 = some (.cells [.int .i64 0, .int .i64 0, .str [], .sl 0 true []]) := fun o => by rw [upd_ne _ _ hne.symm]; exact f2
  rw [e_store_p _ _ _ _ _ _ _ (g2 _)]
  try simp [c1]
  try simp [q_load_p (upd_same _ _ _)]
  have nD : ∀ c ∈ D, c ≠ b1 ∧ c ≠ b2 := fun c hc => ⟨(fun e => by rw [e] at hc; rw [hf b1 hc] at e1; cases e1), (fun e => by rw [e] at hc; rw [hf b2 hc] at e2; cases e2)⟩
  refine Owns.ret hD (Th.tree.2 ⟨q, rfl, hT.frame _ _ _ fun c hc => ?_⟩) (fun c hc => hsub.isNone (hf c hc)) ?_
  · rw [upd_ne _ _ (nD c hc).2, upd_ne _ _ (nD c hc).1]
  · exact ((hsub.trans keep).put hb1).put hb2
end Go.H.Tryz
/- Contracts: AddDecl and BuildSig, on both sides. -/
set_option linter.unusedVariables false
set_option linter.unusedSimpArgs false
namespace Go.H.Tryz
open Go Go.H

theorem h_impl_cloneDecl_own (d : Dc) (hsz : d.type.size ≤ 1000000000) (st : St) : HCalls prog n_impl_cloneDecl [decl d] st (Owns (decl d) st) := by
  apply c_impl_cloneDecl
  unfold b_impl_cloneDecl
  refine e_box_ref (decl_isJunk _) ?_
  intro b2 hb2
  have e2 := upd_same st b2 (.cells [.str [], .bool false, .int .i64 0, .int .i64 0, .str [], .sl 0 true []])
  have hsub : Sub st (upd st b2 (.cells [.str [], .bool false, .int .i64 0, .int .i64 0, .str [], .sl 0 true []])) := (Sub.refl st).put hb2
  generalize upd st b2 (.cells [.str [], .bool false, .int .i64 0, .int .i64 0, .str [], .sl 0 true []]) = s at e2 hsub
  try simp
  refine callK_owns (h_impl_clone_own d.type hsz s) fun p D s2 hD hT hf ho => ?_
  have keep : ∀ c o, s c = some o → s2 c = some o := fun c o hc => by
    rw [ho c (fun h => by rw [hf c h] at hc; cases hc)]; exact hc
  have f2 := keep _ _ e2
  obtain ⟨q, rfl, hTq⟩ := Th.tree.1 hT
  obtain ⟨c1, c2, c3, c4⟩ := th_row_cell hTq
  have r0 : q_struct [PV.str [], PV.bool false, PV.int IntKind.i64 0, PV.int IntKind.i64 0, PV.str [], PV.sl 0 true []] [(0, 1, PV.str d.name), (1, 1, PV.bool d.fam), (2, 4, PV.agg [.int .i64 d.type.kind, .int .i64 d.type.n, .str d.type.name, q])] = some (.agg [.str d.name, .bool d.fam, .int .i64 d.type.kind, .int .i64 d.type.n, .str d.type.name, q]) := by
    try simp [q_struct, fillL, c1]
  try simp
  rw [r0]
  simp only [qb_some]
  rw [e_store_p _ _ _ _ _ _ _ f2]
  have r66 : ∀ a b c d e f x y z w v u : PV, setRange [a, b, c, d, e, f] 0 [x, y, z, w, v, u] = [x, y, z, w, v, u] := fun _ _ _ _ _ _ _ _ _ _ _ _ => rfl
  try simp [c1, r66]
  try simp [q_load_p (upd_same _ _ _)]
  refine Owns.ret hD (Th.decl.2 ⟨q, rfl, hTq.frame _ _ _ fun c hc => ?_⟩) (fun c hc => hsub.isNone (hf c hc)) ((hsub.trans keep).put hb2)
  have : c ≠ b2 := fun e => by rw [e] at hc; rw [hf b2 hc] at e2; cases e2
  rw [upd_ne _ _ this]
/-- A row is handed back that is new and that may grow. -/
def RwR (esz : Nat) (xs' : List PV) (st : St) : Res → St → Prop := fun r s => ∃ p D, r = .ret p ∧ Rw st s esz xs' p D ∧ ∀ b, b ∉ D → s b = st b
theorem RwR.ret {st s : St} {esz : Nat} {xs' : List PV} {p : PV} {D : List Nat} (h : Rw st s esz xs' p D) : retR (RwR esz xs' st) p s := by
  refine retR_conv (p' := p) (st' := fun b => if b ∈ D then s b else st b) (Conv.sub fun b o hb => ?_) ⟨p, D, rfl, h.frame (fun b hb => by simp only [if_pos hb]) (fun b o hb => ?_), fun b hb => by simp only [if_neg hb]⟩
  · by_cases hbD : b ∈ D
    · rw [if_pos hbD] at hb; exact hb
    · rw [if_neg hbD] at hb; exact h.sub b o hb
  · have : b ∉ D := fun hd => by rw [h.fresh b hd] at hb; cases hb
    simp only [if_neg this]
    exact hb
theorem RwR.owns {P : Program} {g : FuncId} {us : List PV} {st : St} {esz : Nat} {xs' : List PV} (hc : HCalls P g us st (RwR esz xs' st)) : HCalls P g us st (Owns (.sl esz false xs') st) :=
  hc.mono fun r s h => by
    obtain ⟨p, D, h1, h2, h3⟩ := h
    exact ⟨p, D, h1, h2.nodup, h2.th, h2.fresh, h3⟩
theorem callK_rw {P : Program} {g : FuncId} {us : List PV} {st : St} {K Kp : PV → St → Prop} {esz : Nat} {xs' : List PV} (hc : HCalls P g us st (RwR esz xs' st)) (hk : ∀ p D s, Rw st s esz xs' p D → (∀ b, b ∉ D → s b = st b) → K p s) : callK P g us st K Kp := by
  refine callK_of hc (fun p s h => ?_) (fun p s h => ?_)
  · obtain ⟨q, D, h1, h2, h3⟩ := h; cases h1; exact hk _ D s h2 h3
  · obtain ⟨q, D, h1, _⟩ := h; cases h1
theorem h_impl_cloneSig_rw (sig : List Dc) (hl : sig.length ≤ 1000000) (hsz : ∀ d ∈ sig, d.type.size ≤ 1000000000) (st : St) : HCalls prog n_impl_cloneSig [decls sig] st (RwR 6 (sig.map decl) st) := by
  apply c_impl_cloneSig
  unfold b_impl_cloneSig
  try simp
  refine loop_idx (β := PV × List Nat × St) sig (fun z i => [z.1, .int .i64 (i : Int)]) (fun z => z.2.2) (fun z i rest => Rw st z.2.2 6 ((sig.take i).map decl) z.1 z.2.1) ?_ ?_ (_, [], st) (Rw.start (Sub.refl st) 6 6)
  · rintro i x rest ⟨p, D, s1⟩ hi hx q0 kk
    simp only at q0
    try simp [hi, ia_decl _ hx]
    intro b5 hb5
    try simp
    try simp [q_load_p (upd_same _ _ _)]
    have q1 := q0.put hb5 (.cells (decl x).cells)
    generalize upd s1 b5 (.cells (decl x).cells) = s2 at q1
    refine callK_owns (h_impl_cloneDecl_own x (hsz x (List.mem_of_getElem? hx)) s2) fun y Dx s3 hDx hTx hfx hox => ?_
    have keep : ∀ c o, s2 c = some o → s3 c = some o := fun c o hc => by
      rw [hox c (fun h => by rw [hfx c h] at hc; cases hc)]; exact hc
    have q2 : Rw st s3 6 ((sig.take i).map decl) p D := q1.frame (fun c hc => by
      obtain ⟨o, ho⟩ := q1.live hc
      rw [ho]; exact keep c o ho) (q1.sub.trans keep)
    have hy := hTx.elOK (decl_el x)
    obtain ⟨n1, n2, n3⟩ := hTx.ncells
    rw [decl_ncells] at n1
    have hya := hy.2
    rw [List.all_eq_true] at hya
    try simp
    rw [if_pos ⟨n1, hya⟩]
    try simp
    refine q2.append hTx (decl_el x) hDx (fun c hc => q1.sub.isNone (hfx c hc)) (fun c hc h => by obtain ⟨o, ho⟩ := q1.live hc; rw [hfx c h] at ho; cases ho) (elems_sl _ _ _ _) (by simp; omega) fun p2 s4 D2 q3 _ _ => ?_
    rw [W_idx hi (by unfold maxLen; omega)]
    refine kk (p2, D2, s4) ?_
    simp only
    rw [take_snoc hx, List.map_append]
    exact q3
  · rintro ⟨p, D, s1⟩ q0
    simp only at q0
    rw [List.take_of_length_le (Nat.le_refl _)] at q0
    try simp
    exact RwR.ret q0
theorem h_impl_cloneSig_own (sig : List Dc) (hl : sig.length ≤ 1000000) (hsz : ∀ d ∈ sig, d.type.size ≤ 1000000000) (st : St) : HCalls prog n_impl_cloneSig [decls sig] st (Owns (decls sig) st) := RwR.owns (h_impl_cloneSig_rw sig hl hsz st)
/-- Why a declaration can not stand behind a right signature. -/
def addT (sig : List Dc) (d : Dc) : Fz := if (declT sig d).1 ≠ 0 then declT sig d else if 40 ≤ sig.length then (17, 0) else (0, 0)
theorem h_impl_addFault (sig : List Dc) (hs : SigR sig) (d : Dc) (st : St) : HCalls prog n_impl_addFault [decls sig, decl d] st (Just (haltP (addT sig d)) st) := by
  apply c_impl_addFault
  unfold b_impl_addFault
  generalize hv : addT sig d = v
  unfold addT at hv
  refine e_box_ref (decl_isJunk _) ?_
  intro b4 hb4
  have e4 : ∀ o, (upd st b4 (.cells o)) b4 = some (.cells o) := fun o => upd_same _ _ _
  have hsub : ∀ o, Sub st (upd st b4 o) := fun o => (Sub.refl st).put hb4
  try simp
  refine callK_just (h_impl_declForm d _) ?_
  try simp
  refine br_of (fun g1 => ?_) (fun g1 => ?_)
  rotate_left
  · have hd : declT sig d = (1, 0) := by unfold declT; rw [if_pos g1]
    rw [hd, if_pos (by decide)] at hv
    rw [show q_struct [PV.int IntKind.i64 0, PV.int IntKind.i64 0] [(0, 1, PV.int IntKind.i64 1)] = some (.agg [.int .i64 1, .int .i64 0]) from rfl]
    try simp
    try simp [q_load_p (upd_same _ _ _)]
    rw [← hv]
    exact Just.ret (hsub _)
  · refine callK_just (by simpa using h_impl_has sig hs.len d.name _) ?_
    try simp
    refine br_of (fun g2 => ?_) (fun g2 => ?_)
    · have hd : declT sig d = (6, 0) := by unfold declT; rw [if_neg (by rw [g1]; simp), if_pos g2]
      rw [hd, if_pos (by decide)] at hv
      rw [show q_struct [PV.int IntKind.i64 0, PV.int IntKind.i64 0] [(0, 1, PV.int IntKind.i64 6)] = some (.agg [.int .i64 6, .int .i64 0]) from rfl]
      try simp
      try simp [q_load_p (upd_same _ _ _)]
      rw [← hv]
      exact Just.ret (hsub _)
    · have hd : declT sig d = declFaultT sig d := by unfold declT; rw [if_neg (by rw [g1]; simp), if_neg (by rw [g2]; simp)]
      rw [hd] at hv
      refine callK_just (by simpa using h_impl_declFault sig hs d (form_fk g1) _) ?_
      unfold haltP
      intro b5 hb5
      have n45 : b4 ≠ b5 := fun e => by rw [← e, e4] at hb5; cases hb5
      rw [upd_ne _ _ n45.symm] at hb5
      try simp
      try simp [q_load_p (upd_same _ _ _)]
      have i4 : ∀ o, (upd (upd st b4 (.cells [.int .i64 0, .int .i64 0])) b5 o) b4 = some (.cells [.int .i64 0, .int .i64 0]) := fun o => by rw [upd_ne _ _ n45]; exact e4 _
      have hsub2 : ∀ o o', Sub st (upd (upd (upd st b4 (.cells [.int .i64 0, .int .i64 0])) b5 o) b4 o') := fun o o' => (((Sub.refl st).put hb4).put hb5).put hb4
      refine br_dec (fun g3 => ?_) (fun g3 => ?_)
      · rw [if_neg (by simpa using g3)] at hv
        refine br_dec (fun g4 => ?_) (fun g4 => ?_)
        · rw [if_pos (by omega)] at hv
          rw [show q_struct [PV.int IntKind.i64 0, PV.int IntKind.i64 0] [(0, 1, PV.int IntKind.i64 17)] = some (.agg [.int .i64 17, .int .i64 0]) from rfl]
          simp only [qb_some]
          rw [e_store_p _ _ _ _ _ _ _ (i4 _)]
          try simp
          try simp [q_load_p (upd_same _ _ _)]
          rw [← hv]
          exact Just.ret (hsub2 _ _)
        · rw [if_neg (by omega)] at hv
          rw [show q_struct [PV.int IntKind.i64 0, PV.int IntKind.i64 0] [] = some (.agg [.int .i64 0, .int .i64 0]) from rfl]
          simp only [qb_some]
          rw [e_store_p _ _ _ _ _ _ _ (i4 _)]
          try simp
          try simp [q_load_p (upd_same _ _ _)]
          rw [← hv]
          exact Just.ret (hsub2 _ _)
      · rw [if_pos (by simpa using g3)] at hv
        rw [e_store_p _ _ _ _ _ _ _ (i4 _)]
        try simp
        try simp [q_load_p (upd_same _ _ _)]
        rw [← hv]
        exact Just.ret (hsub2 _ _)
/-- The first declaration that can not stand, why and where. -/
def buildGo (sig : List Dc) : Nat → List Dc → Int × Int × Int
  | _, [] => (0, 0, 0)
  | i, d :: r => if (declT (sig.take i) d).1 ≠ 0 then ((declT (sig.take i) d).1, i, (declT (sig.take i) d).2) else buildGo sig (i + 1) r
def buildT (sig : List Dc) : Int × Int × Int := if sig.length > 4096 then (2, 0, 0) else if sig.length > 40 then (17, 0, 0) else buildGo sig 0 sig
def buildOut (sig : List Dc) : List Dc := if (buildT sig).1 = 0 then sig else []
def buildP (sig : List Dc) : PV := .tup (decls (buildOut sig) :: [(buildT sig).1, (buildT sig).2.1, (buildT sig).2.2].map (PV.int .i64))
theorem Owns.tupInts {st s : St} {x p : PV} {D : List Nat} (ns : List Int) (hD : D.Nodup) (h : Th s x p D) (hf : ∀ b ∈ D, st b = none) (hs : Sub st s) : retR (Owns (.tup (x :: ns.map (PV.int .i64))) st) (.tup (p :: ns.map (PV.int .i64))) s :=
  Owns.ret hD (Th.tupInts ns h) hf hs
theorem Owns.none {st s : St} {esz e : Nat} (ns : List Int) (hs : Sub st s) : retR (Owns (.tup (.sl esz false [] :: ns.map (PV.int .i64))) st) (.tup (.sl e true [] :: ns.map (PV.int .i64))) s :=
  Owns.tupInts ns (D := []) List.nodup_nil (Th.row.2 (.inl ⟨rfl, ⟨e, true, rfl⟩, rfl⟩)) (by simp) hs
theorem h_impl_BuildSig (sig : List Dc) (st : St) : HCalls prog n_impl_BuildSig [decls sig] st (Owns (buildP sig) st) := by
  refine HCalls.wf e_impl_BuildSig fun hw => ?_
  have hw1 := (decls_wf hw.1).1
  unfold maxLen at hw1
  apply c_impl_BuildSig
  unfold b_impl_BuildSig
  have none : ∀ (c i p : Int) (s : St), Sub st s → buildT sig = (c, i, p) → c ≠ 0 → retR (Owns (buildP sig) st) (.tup [.sl 0 true [], .int .i64 c, .int .i64 i, .int .i64 p]) s := fun c i p s hs hq hc => by
    have e : buildP sig = .tup (.sl 6 false [] :: [c, i, p].map (PV.int .i64)) := by unfold buildP buildOut; rw [hq, if_neg hc]; rfl
    rw [e]
    exact Owns.none [c, i, p] hs
  generalize hv : buildT sig = v at none
  unfold buildT at hv
  try simp
  refine callK_just (by simpa using h_impl_longLists (sig.length : Int) [] (by simp) _) ?_
  try simp
  refine br_dec (fun h => ?_) (fun h => ?_)
  · rw [if_pos (by omega)] at hv
    exact none 2 0 0 st (Sub.refl _) hv.symm (by decide)
  · rw [if_neg (by omega)] at hv
    refine br_dec (fun h => ?_) (fun h40 => ?_)
    · rw [if_pos (by omega)] at hv
      exact none 17 0 0 st (Sub.refl _) hv.symm (by decide)
    · rw [if_neg (by omega)] at hv
      refine loop_idx (β := St) sig (fun _ i => [.int .i64 (i : Int)]) (fun s => s) (fun s i rest => buildGo sig i rest = v ∧ Sub st s ∧ SigR (sig.take i)) ?_ ?_ st ⟨hv, Sub.refl _, SigR.nil⟩
      · rintro i d rest s hi hx ⟨hq, hs, hr⟩ kk
        rw [buildGo] at hq
        try simp [hi, ia_decl _ hx]
        intro b7 hb7
        try simp
        have hs7 : Sub st (upd s b7 (.cells (decl d).cells)) := hs.put (hs.isNone hb7)
        have e7 := upd_same s b7 (.cells (decl d).cells)
        generalize upd s b7 (.cells (decl d).cells) = s1 at hs7 e7
        refine hJ_of fun J hJ => ?_
        have hadd : addT (sig.take i) d = if (declT (sig.take i) d).1 ≠ 0 then declT (sig.take i) d else (0, 0) := by
          unfold addT
          split
          · rfl
          · rw [if_neg (by simp; omega)]
        have key : ∀ (b8 : Nat) (s : St), Sub st s → s b8 = some (.cells [.int .i64 (addT (sig.take i) d).1, .int .i64 (addT (sig.take i) d).2]) → J [.ptr b8 0] s := by
          intro b8 s hs8 e8
          refine hJ _ _ ?_
          try simp [q_load_p e8]
          rw [hadd]
          refine br_dec (fun g => ?_) (fun g => ?_)
          · have g2 : (declT (sig.take i) d).1 = 0 := by
              by_cases h0 : (declT (sig.take i) d).1 = 0
              · exact h0
              · rw [if_pos h0] at g; exact g
            rw [if_neg (by simpa using g2)] at hq
            rw [W_idx hi (by unfold maxLen; omega)]
            refine kk _ ⟨hq, hs8, ?_⟩
            rw [take_snoc hx]
            obtain ⟨k1, k2, _⟩ := declT_ok g2
            exact hr.snoc (by simp; omega) k1 k2
          · have g2 : (declT (sig.take i) d).1 ≠ 0 := fun h0 => by rw [if_neg (by simpa using h0)] at g; exact g rfl
            rw [if_pos g2] at hq
            rw [if_pos g2]
            exact none _ _ _ s hs8 hq.symm g2
        rw [sliceE_take _ (by simp; omega), ← List.map_take]
        try simp [q_load_p e7]
        refine ⟨?_, ?_⟩
        · refine callK_just (by simpa using h_impl_addFault (sig.take i) hr d _) ?_
          intro b8 hb8
          have n7 : b7 ≠ b8 := fun e => by rw [← e, e7] at hb8; cases hb8
          unfold haltP
          try simp [q_load_p (show (upd s1 b8 (.cells [.int .i64 0, .int .i64 0])) b7 = some (.cells (decl d).cells) from by rw [upd_ne _ _ n7]; exact e7)]
          exact key b8 _ (hs7.put (hs7.isNone hb8)) (upd_same _ _ _)
        · intro b8 hb8
          have n7 : b7 ≠ b8 := fun e => by rw [← e, e7] at hb8; cases hb8
          try simp [q_load_p (show (upd s1 b8 (.cells [.int .i64 0, .int .i64 0])) b7 = some (.cells (decl d).cells) from by rw [upd_ne _ _ n7]; exact e7)]
          refine callK_just (by simpa using h_impl_addFault (sig.take i) hr d _) ?_
          unfold haltP
          try simp
          exact key b8 _ (hs7.put (hs7.isNone hb8)) (upd_same _ _ _)
      · rintro s ⟨hq, hs, hr⟩
        rw [List.take_of_length_le (Nat.le_refl _)] at hr
        rw [buildGo] at hq
        try simp
        refine callK_owns (by simpa using h_impl_cloneSig_own sig (by omega) (fun d hd => by have := (hr.types d hd).2; omega) s) fun p D s2 hD hT hf ho => ?_
        have hbt : buildT sig = (0, 0, 0) := by unfold buildT; rw [if_neg (by omega), if_neg (by omega), hv, ← hq]
        have e : buildP sig = .tup (decls sig :: [0, 0, 0].map (PV.int .i64)) := by unfold buildP buildOut; rw [hbt]; rfl
        rw [e]
        refine Owns.tupInts [0, 0, 0] hD (by simpa using hT) (fun c hc => hs.isNone (hf c hc)) fun c o hc => ?_
        have h1 := hs c o hc
        rw [ho c (fun h => by rw [hf c h] at h1; cases h1)]
        exact h1
end Go.H.Tryz
/- Contracts: which arguments can be left out. -/
set_option linter.unusedVariables false
set_option linter.unusedSimpArgs false
namespace Go.H.Tryz
open Go Go.H

theorem h_impl_tells_of (ks : List Tr) (v : Tr) (st : St) (h : ∀ t ∈ ks, ∀ st, HCalls prog n_impl_tells_1 [tree t, .ref (tree v).cells] st (Just (.bool (tellT v t)) st)) : HCalls prog n_impl_tells [trees ks, tree v] st (Just (.bool (ks.any (tellT v))) st) := by
  apply c_impl_tells
  unfold b_impl_tells
  refine e_box_ref (tree_isJunk _) ?_
  refine callK_just (h_slices_ContainsFunc_impl_Tree_impl_Tree ks n_impl_tells_1 [] [.ref (tree v).cells] (tellT v) st (fun t ht => h t ht st)) ?_
  exact Just.ret (Sub.refl _)
theorem h_impl_tells_1 (t v : Tr) (st : St) : HCalls prog n_impl_tells_1 [tree t, .ref (tree v).cells] st (Just (.bool (tellT v t)) st) := by
  induction t using Tr.ind generalizing st with
  | _ t ih =>
    apply c_impl_tells_1
    unfold b_impl_tells_1
    rw [tellT_eq]
    refine e_box_ref (tree_isJunk _) ?_
    try simp
    refine callK_just (h_impl_same _ _ _) ?_
    try simp
    refine br_dec (fun h => Just.bool (by rw [decide_eq_true h]; rfl) (Sub.refl _)) (fun h => ?_)
    rw [decide_eq_false h, Bool.false_or]
    refine br_dec (fun h6 => ?_) (fun h6 => Just.bool (by rw [decide_eq_false h6]; rfl) (Sub.refl _))
    rw [decide_eq_true h6, Bool.true_and]
    refine callK_just (by simpa using h_impl_tells_of t.kids v _ (fun x hx s => ih x hx s)) ?_
    exact Just.ret (Sub.refl _)
theorem h_impl_tells (ks : List Tr) (v : Tr) (st : St) : HCalls prog n_impl_tells [trees ks, tree v] st (Just (.bool (ks.any (tellT v))) st) := h_impl_tells_of ks v st fun t _ s => h_impl_tells_1 t v s
theorem h_spec_l07Fixed (a : Tr) (n : Int) (ha : a.isSimple = true) (hsz : a.size ≤ 1000000) (h0 : 0 ≤ n) (h1 : n ≤ 1000000) (hl : a.args.length ≤ 1000000) (t : Tr) (ht : t.lamy = true) (hts : t.size ≤ 1000000) (st : St) :
    HCalls prog n_spec_l07Fixed [tree t, .int .i64 n, tree a] st (Just (.bool (tellT (longForm (Tr.var n []) a) t)) st) := by
  induction t using Tr.ind generalizing st with
  | _ t ih =>
    apply c_spec_l07Fixed
    unfold b_spec_l07Fixed
    generalize hv : tellT (longForm (Tr.var n []) a) t = v
    rw [tellT_eq] at hv
    refine e_box_ref (tree_isJunk _) ?_
    refine e_box_ref (tree_isJunk _) ?_
    try simp
    refine callK_just (by simpa using h_spec_l06Var t a (lamy_ok t ht) ha hsz hts _) ?_
    try simp
    have hiff := longVar_iff (x := t) (a := a) h0 h1 hl
    refine br_dec (fun h => ?_) (fun h => ?_)
    · rw [decide_eq_true (hiff.1 h), Bool.true_or] at hv
      exact Just.bool hv (Sub.refl _)
    · rw [decide_eq_false (fun e => h (hiff.2 e)), Bool.false_or] at hv
      refine br_dec (fun h6 => ?_) (fun h6 => Just.bool (by rw [decide_eq_false (by simpa using h6)] at hv; exact hv) (Sub.refl _))
      rw [decide_eq_true h6, Bool.true_and] at hv
      have hll := t.kids_len
      refine loop_idx (β := Unit) t.kids (fun _ i => [.int .i64 (i : Int)]) (fun _ => st) (fun _ i rest => rest.any (tellT (longForm (Tr.var n []) a)) = v) ?_ ?_ () hv
      · rintro i x rest _ hi hx hq kk
        have hxm := List.mem_of_getElem? hx
        try simp [hi, ia_tree _ hx]
        refine callK_just (ih x hxm (Tr.lamy_kids ht hxm) (by have := Tr.kid_size hxm; omega) _) ?_
        try simp
        rw [List.any_cons] at hq
        refine br_of (fun g => Just.bool (by rw [g] at hq; exact hq) (Sub.refl _)) (fun g => ?_)
        rw [W_idx hi (by unfold maxLen; omega)]
        refine kk () ?_
        rw [g, Bool.false_or] at hq
        exact hq
      · rintro _ hq
        try simp
        exact Just.bool (by rw [← hq]; rfl) (Sub.refl _)
theorem ff_kids {t x : Tr} (h : FF t) (hx : x ∈ t.kids) : x.lamy = true ∧ x.size ≤ 150 :=
  ⟨Tr.lamy_kids (fam_lamy t false h.1) hx, by have := h.2; have := Tr.kid_size hx; omega⟩
theorem erase_fine {d : Tr} (h : FF d) : (eraseT d).isSimple = true ∧ (eraseT d).size ≤ 1000000 ∧ (eraseT d).args.length ≤ 1000000 := by
  have key : ∀ d : Tr, FF d → (eraseT d).size ≤ d.size := by
    intro d
    induction d using Tr.ind with
    | _ d ih =>
      intro h
      by_cases h2 : d.kind = 2
      · obtain ⟨x, y, hxy, hx, hy, _⟩ := ff_pi h h2
        rw [eraseT_pi h2 hxy]
        have i1 := ih x (by rw [hxy]; simp) hx
        have i2 := ih y (by rw [hxy]; simp) hy
        have e1 : d.size = 1 + (x.size + y.size) := by rw [Tr.size_kids, hxy]; simp [Tr.sizes]
        have e2 : (Tr.arrow (eraseT x) (eraseT y)).size = 1 + ((eraseT x).size + (eraseT y).size) := by rw [Tr.size_kids]; simp [Tr.sizes, Tr.arrow]
        omega
      · rw [eraseT_head h2]
        have : (Tr.base d.name).size = 1 := by rw [Tr.size_kids]; simp [Tr.sizes, Tr.base]
        have := d.size_pos
        omega
  have h1 := key d h
  have h2 := h.2
  obtain ⟨h3, _⟩ := simple_size _ (eraseT d) rfl h.simple
  exact ⟨h.simple, by omega, by omega⟩
theorem Rw.bool {st s : St} {xs' : List PV} {p : PV} {D : List Nat} {b : Bool} {v : PV} {K : PV → St → Prop} (h : Rw st s 1 xs' p D) (hv : elems s 1 v = some [.bool b]) (hb : (xs'.length + 1) * 1 ≤ 140737488355328)
    (hk : ∀ p2 s2 D2, Rw st s2 1 (xs' ++ [.bool b]) p2 D2 → (∀ c o, s c = some o → c ∉ D → s2 c = some o) → (∀ c, c ∈ D2 → c ∈ D ∨ s c = none) → K p2 s2) : e_append s 1 1 p v K :=
  h.append (y' := .bool b) (y := .bool b) (Dy := []) (by simp [Th]) (bool_el b) List.nodup_nil (by simp) (by simp) hv hb fun p2 s2 D2 h1 h2 h3 =>
    hk p2 s2 D2 h1 (fun c o a b => h2 c o a b (by simp)) (fun c hc => (h3 c hc).imp id (fun h => by simpa using h))
theorem readsSub {st0 st st' : St} {esz : Nat} {acc : List PV} {p : PV} (h : Grow st0 esz acc p st) (hs : Sub st st') : Reads st' esz acc p := by
  refine ⟨h.len, fun i x k hx => ?_⟩
  rcases h with ⟨rfl, ⟨e, rfl⟩, rfl⟩ | ⟨b, cap, rfl, hcap, hn, rfl⟩
  · cases hx
  · have hi := (List.getElem?_eq_some_iff.1 hx).1
    exact ⟨.eptr b esz i 0, by simp [hi], fun agg n => by rw [q_load_e (hs _ _ (upd_same _ _ _)) hx]; rfl⟩
theorem h_impl_omittable (t : Tr) (ht : FF t) (st : St) : HCalls prog n_impl_omittable [tree t] st (Owns (boolsP (omitB t)) st) := by
  apply c_impl_omittable
  unfold b_impl_omittable
  generalize hv : piGo 150 [] t = v
  have hom : omitB t = v.1.mapIdx fun i d => v.2.kids.any (tellT (longForm (Tr.var (((v.1.length : Int) - 1) - i) []) (eraseT d))) := by unfold omitB; rw [hv]
  obtain ⟨f1, f2, f3⟩ := piGo_fine 150 [] t ht (by simp)
  rw [hv] at f1 f2 f3
  simp only [List.length_nil, Nat.zero_add] at f3
  refine e_box_own (tree_isJunk _) fun b1 hb1 => ?_
  try simp
  refine hFix_rec (σ := List Tr × Tr × PV × St × Nat) (fun z => z.2.1.size) (fun z => [z.2.2.1]) (fun z => z.2.2.2.1)
    (fun z => FF z.2.1 ∧ z.1.length + z.2.2.2.2 ≤ 150 ∧ z.2.1.size ≤ z.2.2.2.2 ∧ piGo z.2.2.2.2 z.1 z.2.1 = v ∧ Grow (upd st b1 (.cells (tree z.2.1).cells)) 4 (z.1.map tree) z.2.2.1 z.2.2.2.1) ?_ ([], t, _, _, 150) ⟨ht, by simp, ht.2, hv, Grow.nil _ 4 4⟩
  rintro ⟨acc, u, p, s, m⟩ ⟨i1, i2, i3, i4, i5⟩ ih
  simp only at i1 i2 i3 i4 i5 ih
  have e1 : s b1 = some (.cells (tree u).cells) := i5.sub _ _ (upd_same _ _ _)
  try simp [q_load_p e1]
  refine br_dec (fun hk => ?_) (fun hk => ?_)
  · obtain ⟨x, y, hxy, hx, hy, hsz⟩ := ff_pi i1 hk
    have x0 : u.kids[0]? = some x := by rw [hxy]; rfl
    have x1 : u.kids[1]? = some y := by rw [hxy]; rfl
    try simp [ia_tree0 _ x0, ia_tree1 _ x1]
    refine i5.append (elems_sl _ _ _ _) (by simp; omega) fun p2 s2 i6 => ?_
    have e2 : s2 b1 = some (.cells (tree u).cells) := i6.sub _ _ (upd_same _ _ _)
    refine ⟨by rw [q_load_p e2]; simp, ?_⟩
    rw [e_store_p _ _ _ _ _ _ _ e2]
    try simp
    have hu := u.size_pos
    obtain ⟨m, rfl⟩ : ∃ m', m = m' + 1 := ⟨m - 1, by omega⟩
    rw [piGo, if_pos hk, kid0 hxy, kid1 hxy] at i4
    have e3 : u.size = 1 + (x.size + y.size) := by rw [Tr.size_kids, hxy]; simp [Tr.sizes]
    have i7 := i6.store (.cells (tree y).cells) (upd_same _ _ _)
    rw [upd_upd] at i7
    have hxs := x.size_pos
    refine ih (acc ++ [x], y, p2, _, m) (by simp only; omega) ⟨hy, by simp; omega, by simp only; omega, i4, ?_⟩
    simp only [List.map_append, List.map_cons, List.map_nil]
    exact i7
  · rw [piGo_end hk] at i4
    subst i4
    simp only at hom f1 f2 f3
    have hst : Sub st s := ((Sub.refl st).put hb1).trans i5.sub
    clear ih
    rw [i5.len]
    try simp
    rw [wrap64 (n := (acc.length : Int) - 1) (by omega) (by omega)]
    generalize hB : (fun (i : Nat) (d : Tr) => u.kids.any (tellT (longForm (Tr.var (((acc.length : Int) - 1) - i) []) (eraseT d)))) = B at hom
    refine loop_idx (β := PV × List Nat × St) acc (fun z i => [z.1, .int .i64 (i : Int)]) (fun z => z.2.2) (fun z i rest => Rw s z.2.2 1 (((acc.mapIdx B).take i).map PV.bool) z.1 z.2.1) ?_ ?_ (_, [], s) (Rw.start (Sub.refl s) 1 1)
    · rintro i d rest ⟨q, D, s3⟩ hi hx q0 kk
      simp only at q0
      obtain ⟨a, ha, hla⟩ := (readsSub i5 q0.sub).get i (tree d) .i64 (by simp [hx])
      try simp [hi, ha, hla]
      intro b6 hb6
      rw [e_store_p _ _ _ _ _ _ _ (upd_same _ _ _)]
      try simp
      have q1 := q0.put hb6 (.cells (tree d).cells)
      have e6 := upd_same s3 b6 (.cells (tree d).cells)
      have e7 : (upd s3 b6 (.cells (tree d).cells)) b1 = some (.cells (tree u).cells) := q1.sub _ _ e1
      generalize upd s3 b6 (.cells (tree d).cells) = s4 at q1 e6 e7
      obtain ⟨d1, d2, d3⟩ := erase_fine (f1 d (List.mem_of_getElem? hx))
      rw [wrap64 (n := (acc.length : Int) - 1 - i) (by omega) (by omega)]
      try simp [q_load_p e6, q_load_p e7]
      refine callK_just (h_impl_variable0 _ _) ?_
      try simp [q_load_p e6, q_load_p e7]
      refine callK_just (h_impl_erase d (f1 d (List.mem_of_getElem? hx)).1 _) ?_
      try simp [q_load_p e6, q_load_p e7]
      refine callK_just (h_impl_longForm _ (eraseT d) d1 d2 (by rw [Tr.size_kids]; simp [Tr.var, Tr.sizes]) _) ?_
      try simp [q_load_p e6, q_load_p e7]
      refine callK_just (by simpa using h_impl_tells u.kids _ _) ?_
      have hBi : B i d = u.kids.any (tellT (longForm (Tr.var (((acc.length : Int) - 1) - i) []) (eraseT d))) := by rw [← hB]
      rw [← hBi]
      try simp [bool_el]
      refine Rw.bool q1 (elems_sl _ _ _ _) (by simp; omega) fun p2 s5 D2 q2 _ _ => ?_
      rw [W_idx hi (by unfold maxLen; omega)]
      refine kk (p2, D2, s5) ?_
      simp only
      rw [take_snoc (x := B i d) (by simp [List.getElem?_mapIdx, hx]), List.map_append]
      exact q2
    · rintro ⟨q, D, s3⟩ q0
      simp only at q0
      rw [List.take_of_length_le (by simp)] at q0
      try simp
      rw [hom]
      exact Owns.ret q0.nodup q0.th (fun c hc => hst.isNone (q0.fresh c hc)) (hst.trans q0.sub)
theorem h_spec_l07Omittable (t : Tr) (ht : FF t) (st : St) : HCalls prog n_spec_l07Omittable [tree t] st (Just (boolsP (omitB t)) st) := by
  apply c_spec_l07Omittable
  unfold b_spec_l07Omittable
  generalize hv : piGo 150 [] t = v
  have hom : omitB t = v.1.mapIdx fun i d => v.2.kids.any (tellT (longForm (Tr.var (((v.1.length : Int) - 1) - i) []) (eraseT d))) := by unfold omitB; rw [hv]
  obtain ⟨f1, f2, f3⟩ := piGo_fine 150 [] t ht (by simp)
  rw [hv] at f1 f2 f3
  simp only [List.length_nil, Nat.zero_add] at f3
  refine e_box_own (tree_isJunk _) fun b1 hb1 => ?_
  try simp
  refine hFix_rec (σ := List Tr × Tr × PV × St × Nat) (fun z => z.2.1.size) (fun z => [z.2.2.1]) (fun z => z.2.2.2.1)
    (fun z => FF z.2.1 ∧ (∀ d ∈ z.1, FF d) ∧ z.1.length + z.2.2.2.2 ≤ 150 ∧ z.2.1.size ≤ z.2.2.2.2 ∧ piGo z.2.2.2.2 z.1 z.2.1 = v ∧ Grow (upd st b1 (.cells (tree z.2.1).cells)) 4 ((z.1.map eraseT).map tree) z.2.2.1 z.2.2.2.1) ?_ ([], t, _, _, 150) ⟨ht, by simp, by simp, ht.2, hv, Grow.nil _ 4 4⟩
  rintro ⟨acc, u, p, s, m⟩ ⟨i1, i0, i2, i3, i4, i5⟩ ih
  simp only at i1 i2 i3 i4 i5 ih
  have e1 : s b1 = some (.cells (tree u).cells) := i5.sub _ _ (upd_same _ _ _)
  try simp [q_load_p e1]
  refine br_dec (fun hk => ?_) (fun hk => ?_)
  · obtain ⟨x, y, hxy, hx, hy, hsz⟩ := ff_pi i1 hk
    have x0 : u.kids[0]? = some x := by rw [hxy]; rfl
    have x1 : u.kids[1]? = some y := by rw [hxy]; rfl
    try simp [ia_tree0 _ x0, ia_tree1 _ x1]
    refine callK_just (h_spec_l01Erase x hx.1 _) ?_
    try simp
    refine i5.append (elems_sl _ _ _ _) (by simp; omega) fun p2 s2 i6 => ?_
    have e2 : s2 b1 = some (.cells (tree u).cells) := i6.sub _ _ (upd_same _ _ _)
    try simp [q_load_p e2, ia_tree1 _ x1]
    rw [e_store_p _ _ _ _ _ _ _ e2]
    try simp
    have hu := u.size_pos
    obtain ⟨m, rfl⟩ : ∃ m', m = m' + 1 := ⟨m - 1, by omega⟩
    rw [piGo, if_pos hk, kid0 hxy, kid1 hxy] at i4
    have e3 : u.size = 1 + (x.size + y.size) := by rw [Tr.size_kids, hxy]; simp [Tr.sizes]
    have i7 := i6.store (.cells (tree y).cells) (upd_same _ _ _)
    rw [upd_upd] at i7
    have hxs := x.size_pos
    refine ih (acc ++ [x], y, p2, _, m) (by simp only; omega) ⟨hy, fun d hd => ?_, by simp; omega, by simp only; omega, i4, ?_⟩
    · rcases List.mem_append.1 hd with hd | hd
      · exact i0 d hd
      · simp at hd; subst hd; exact hx
    · simp only [List.map_append, List.map_cons, List.map_nil]
      exact i7
  · rw [piGo_end hk] at i4
    subst i4
    simp only at hom f1 f2 f3
    have hst : Sub st s := ((Sub.refl st).put hb1).trans i5.sub
    clear ih
    have hlen : q_len p = some (.int .i64 (acc.length : Int)) := by have := i5.len; simpa using this
    try simp [hlen]
    rw [wrap64 (n := (acc.length : Int) - 1) (by omega) (by omega)]
    generalize hB : (fun (i : Nat) (d : Tr) => u.kids.any (tellT (longForm (Tr.var (((acc.length : Int) - 1) - i) []) (eraseT d)))) = B at hom
    refine loop_idx (β := PV × St) acc (fun z i => [z.1, .int .i64 (i : Int)]) (fun z => z.2) (fun z i rest => Grow s 1 (((acc.mapIdx B).take i).map PV.bool) z.1 z.2) ?_ ?_ (_, s) (Grow.nil s 1 1)
    · rintro i d rest ⟨q, s3⟩ hi hx q0 kk
      simp only at q0
      obtain ⟨a, ha, hla⟩ := (readsSub i5 q0.sub).get i (tree (eraseT d)) .i64 (by simp [hx])
      have e3 := q0.sub _ _ e1
      obtain ⟨d1, d2, d3⟩ := erase_fine (f1 d (List.mem_of_getElem? hx))
      have hBi : B i d = u.kids.any (tellT (longForm (Tr.var (((acc.length : Int) - 1) - i) []) (eraseT d))) := by rw [← hB]
      have hul := u.kids_len
      have husz := i1.2
      try simp [hi, ha]
      rw [wrap64 (n := (acc.length : Int) - 1 - i) (by omega) (by omega)]
      generalize hbd : B i d = v at hBi
      refine loop_idx (β := Bool) u.kids (fun z j => [.bool z, .int .i64 (j : Int)]) (fun _ => s3) (fun z j rest => (z || rest.any (tellT (longForm (Tr.var (((acc.length : Int) - 1) - i) []) (eraseT d)))) = v) ?_ ?_ false (by rw [hBi, Bool.false_or])
      · rintro j x rest2 z hj hxj hq kk2
        try simp [q_load_p e3, hj]
        rw [W_idx hj (by unfold maxLen; omega)]
        cases z with
        | true =>
          try simp
          exact kk2 true (by simpa using hq)
        | false =>
          have hxm := List.mem_of_getElem? hxj
          obtain ⟨l1, l2⟩ := ff_kids i1 hxm
          try simp [ia_tree _ hxj, hla]
          refine callK_just (h_spec_l07Fixed (eraseT d) ((acc.length : Int) - 1 - i) d1 d2 (by omega) (by omega) d3 x l1 (by omega) _) ?_
          try simp
          refine kk2 _ ?_
          rw [← hq, List.any_cons, Bool.false_or]
      · rintro z hq
        have hz : z = v := by simpa using hq
        subst hz
        try simp [q_load_p e3, bool_el]
        refine q0.append (elems_sl _ _ _ _) (by simp; omega) fun p2 s5 q2 => ?_
        rw [W_idx hi (by unfold maxLen; omega)]
        refine kk (p2, s5) ?_
        simp only
        rw [take_snoc (x := B i d) (by simp [List.getElem?_mapIdx, hx]), List.map_append, hbd]
        exact q2
    · rintro ⟨q, s3⟩ q0
      simp only at q0
      rw [List.take_of_length_le (by simp)] at q0
      try simp
      rw [hom]
      exact retR_conv (Conv.trans q0.freeze (Conv.sub hst)) ⟨rfl, rfl⟩
end Go.H.Tryz
/- Contracts: Omittable, on both sides. -/
set_option linter.unusedVariables false
set_option linter.unusedSimpArgs false
namespace Go.H.Tryz
open Go Go.H

def omitZ (sig : List Dc) (n : List UInt8) : Int := if sig.length > 4096 ∨ n.length > 65536 then 2 else if sigOKT sig = false then 1 else match declaredT sig n false with | none => 5 | some _ => 0
def omitO (sig : List Dc) (n : List UInt8) : List Bool := if omitZ sig n = 0 then (match declaredT sig n false with | some a => omitB a | none => []) else []
def omitP (sig : List Dc) (n : List UInt8) : PV := .tup (boolsP (omitO sig n) :: [omitZ sig n].map (PV.int .i64))
theorem omitP_no {sig : List Dc} {n : List UInt8} {c : Int} (h : omitZ sig n = c) (hc : c ≠ 0) : omitP sig n = .tup (.sl 1 false [] :: [c].map (PV.int .i64)) := by
  unfold omitP omitO
  rw [h, if_neg hc]
  rfl
theorem omitP_yes {sig : List Dc} {n : List UInt8} {a : Tr} (hl : ¬ (sig.length > 4096 ∨ n.length > 65536)) (h1 : sigOKT sig = true) (h : declaredT sig n false = some a) : omitP sig n = .tup (boolsP (omitB a) :: [0].map (PV.int .i64)) := by
  have e : omitZ sig n = 0 := by
    unfold omitZ
    rw [if_neg hl, if_neg (by rw [h1]; simp), h]
  unfold omitP omitO
  rw [e, if_pos rfl, h]
theorem h_impl_longText0 (n : List UInt8) (st : St) : HCalls prog n_impl_longText [.str n] st (Just (.bool (decide (n.length > 65536))) st) := by
  apply c_impl_longText
  unfold b_impl_longText
  try simp
  exact Just.bool (by simp; omega) (Sub.refl _)
theorem h_impl_Omittable (sig : List Dc) (n : List UInt8) (st : St) : HCalls prog n_impl_Omittable [decls sig, .str n] st (Owns (omitP sig n) st) := by
  refine HCalls.wf e_impl_Omittable fun hw => ?_
  have hw1 := (decls_wf hw.1).1
  unfold maxLen at hw1
  apply c_impl_Omittable
  unfold b_impl_Omittable
  have no : ∀ (c : Int) (s : St), Sub st s → omitZ sig n = c → c ≠ 0 → retR (Owns (omitP sig n) st) (.tup [.sl 0 true [], .int .i64 c]) s := fun c s hs hq hc => by
    rw [omitP_no hq hc]
    exact Owns.none [c] hs
  try simp
  refine callK_just (by simpa using h_impl_longLists (sig.length : Int) [] (by simp) _) ?_
  try simp
  refine br_dec (fun h => no 2 st (Sub.refl _) (by unfold omitZ; rw [if_pos (by omega)]) (by omega)) (fun h => ?_)
  refine callK_just (h_impl_longText0 n _) ?_
  try simp
  refine br_dec (fun h' => no 2 st (Sub.refl _) (by unfold omitZ; rw [if_pos (by omega)]) (by omega)) (fun h' => ?_)
  have hl : ¬ (sig.length > 4096 ∨ n.length > 65536) := by omega
  refine callK_just (by simpa using h_impl_SigOK sig _) ?_
  try simp
  refine br_of (fun g => ?_) (fun g => no 1 st (Sub.refl _) (by unfold omitZ; rw [if_neg hl, if_pos g]) (by omega))
  obtain ⟨hr, hl40⟩ := sigOKT_right g
  rw [show q_struct [PV.int IntKind.i64 0, PV.sl 0 true []] [(1, 1, PV.sl 6 false (List.map decl sig))] = some (.agg [.int .i64 0, decls sig]) from rfl]
  simp only [qb_some]
  refine e_box_own rfl fun b5 hb5 => ?_
  have hsub5 : ∀ o, Sub st (upd st b5 o) := fun o => (Sub.refl st).put hb5
  refine callK_just (h_impl_checker_declared b5 sig hr n false 0 _ (upd_same _ _ _)) ?_
  unfold declP
  cases hd : declaredT sig n false with
  | none =>
    try simp
    intro b6 hb6
    rw [e_store_p _ _ _ _ _ _ _ (upd_same _ _ _)]
    try simp
    exact no 5 _ ((hsub5 _).put ((hsub5 _).isNone hb6)) (by unfold omitZ; rw [if_neg hl, if_neg (by rw [g]; simp), hd]) (by omega)
  | some a =>
    try simp
    intro b6 hb6
    rw [e_store_p _ _ _ _ _ _ _ (upd_same _ _ _)]
    try simp
    try simp [q_load_p (upd_same _ _ _)]
    generalize hs : upd (upd st b5 (.cells [.int .i64 0, .sl 6 false (List.map decl sig)])) b6 (.cells (tree a).cells) = s
    have hsub : Sub st s := by rw [← hs]; exact (hsub5 _).put ((hsub5 _).isNone hb6)
    refine callK_owns (h_impl_omittable a (declaredT_ok hr hd) s) fun q D s2 hD hT hf ho => ?_
    have keep : ∀ c o, s c = some o → s2 c = some o := fun c o hc => by
      rw [ho c (fun h => by rw [hf c h] at hc; cases hc)]; exact hc
    rw [omitP_yes hl g hd]
    exact Owns.tupInts [0] hD hT (fun c hc => hsub.isNone (hf c hc)) (hsub.trans keep)
theorem h_spec_Omittable (sig : List Dc) (n : List UInt8) (st : St) : HCalls prog n_spec_Omittable [decls sig, .str n] st (Just (omitP sig n) st) := by
  apply c_spec_Omittable
  unfold b_spec_Omittable
  have no : ∀ (c : Int) (s : St), Sub st s → omitZ sig n = c → c ≠ 0 → retR (Just (omitP sig n) st) (.tup [.sl 1 true [], .int .i64 c]) s := fun c s hs hq hc => by
    rw [omitP_no hq hc]
    exact retR_conv (Conv.trans (Conv.tup (Conv.cons (Conv.sl_to _ 1 1 true [] (.inr rfl)) (Conv.refl _ _))) (Conv.sub hs)) ⟨rfl, rfl⟩
  try simp
  refine br_dec (fun h => no 2 st (Sub.refl _) (by unfold omitZ; rw [if_pos (by omega)]) (by omega)) (fun h => ?_)
  refine br_dec (fun h' => no 2 st (Sub.refl _) (by unfold omitZ; rw [if_pos (by omega)]) (by omega)) (fun h' => ?_)
  have hl : ¬ (sig.length > 4096 ∨ n.length > 65536) := by omega
  refine callK_just (by simpa using h_spec_SigOK sig _) ?_
  try simp
  refine br_of (fun g => ?_) (fun g => no 1 st (Sub.refl _) (by unfold omitZ; rw [if_neg hl, if_pos g]) (by omega))
  obtain ⟨hr, hl40⟩ := sigOKT_right g
  refine callK_just (by simpa using h_spec_l04Find sig n (by omega) _) ?_
  try simp
  rcases fstOf_cases (named n) sig with ⟨e1, e2⟩ | ⟨j, hj, e1, e2, e3⟩
  · have hd : declaredT sig n false = none := by unfold declaredT; rw [e2]
    rw [e1]
    try simp
    exact no 5 _ (Sub.refl _) (by unfold omitZ; rw [if_neg hl, if_neg (by rw [g]; simp), hd]) (by omega)
  · have hd : declaredT sig n false = if sig[j].fam = false then some sig[j].type else none := by unfold declaredT; rw [e3]
    rw [e1]
    try simp [ia_decls hj]
    refine br_dec (fun h => by omega) (fun _ => ?_)
    cases hf : sig[j].fam with
    | true =>
      rw [hf, if_neg (by simp)] at hd
      try simp
      exact no 5 _ (Sub.refl _) (by unfold omitZ; rw [if_neg hl, if_neg (by rw [g]; simp), hd]) (by omega)
    | false =>
      rw [hf, if_pos rfl] at hd
      try simp
      refine callK_just (by simpa using h_spec_l07Omittable sig[j].type (declaredT_ok hr hd) _) ?_
      rw [omitP_yes hl g hd]
      exact Just.ret (Sub.refl _)
end Go.H.Tryz
/- Contracts: the law FnExactOmittable. -/
set_option linter.unusedVariables false
set_option linter.unusedSimpArgs false
namespace Go.H.Tryz
open Go Go.H

/-- Truth values that are marked. -/
def markBs (n : Nat) (k : Int) : List Bool := (List.range n).map fun i : Nat => decide ((k + i).tmod 3 = 0)
theorem markBs_len (n : Nat) (k : Int) : (markBs n k).length = n := by simp [markBs]
theorem markBs_get {n : Nat} {k : Int} {i : Nat} (h : i < n) : (markBs n k)[i]? = some (decide ((k + i).tmod 3 = 0)) := by simp [markBs, h]
theorem ths_bools {s : St} : ∀ (bs : List Bool) (xs : List PV) (D : List Nat), Ths s (bs.map PV.bool) xs D → xs = bs.map PV.bool ∧ D = []
  | [], xs, D, h => by simp only [List.map_nil, Ths] at h; exact h
  | b :: bs, xs, D, h => by
    simp only [List.map_cons, Ths] at h
    obtain ⟨p, r, D1, D2, rfl, rfl, h1, h2⟩ := h
    simp only [Th] at h1
    obtain ⟨rfl, rfl⟩ := h1
    obtain ⟨rfl, rfl⟩ := ths_bools bs r D2 h2
    exact ⟨rfl, rfl⟩
theorem bools_ths {s : St} : ∀ (bs : List Bool), Ths s (bs.map PV.bool) (bs.map PV.bool) []
  | [] => Ths.nil s
  | b :: bs => by
    simp only [List.map_cons, Ths]
    exact ⟨_, _, [], [], rfl, rfl, by simp [Th], bools_ths bs⟩
theorem h_laws_eqBoolS (xs ys : List Bool) (hl : xs.length ≤ 1000000) (st : St) : HCalls prog n_laws_eqBoolS [boolsP xs, boolsP ys] st (Just (.bool (decide (xs = ys))) st) := by
  apply c_laws_eqBoolS
  unfold b_laws_eqBoolS
  try simp
  refine br_dec (fun h => ?_) (fun h => ?_)
  · refine hFix_rec (σ := Nat) (fun i => xs.length - i) (fun i => [.int .i64 (i : Int)]) (fun _ => st) (fun i => i ≤ xs.length ∧ (xs = ys ↔ xs.drop i = ys.drop i)) ?_ 0 ⟨by omega, by simp⟩
    rintro i ⟨hi, he⟩ ihl
    try simp
    refine br_dec (fun h2 => ?_) (fun h2 => ?_)
    · have hit : i < xs.length := by omega
      have hib : i < ys.length := by omega
      rw [ia_bool (List.getElem?_eq_getElem hit), ia_bool (List.getElem?_eq_getElem hib)]
      try simp
      rw [List.drop_eq_getElem_cons hit, List.drop_eq_getElem_cons hib, List.cons.injEq] at he
      refine br_of (fun h3 => ?_) (fun h3 => ?_)
      · have h4 : ¬ xs[i] = ys[i] := by simpa using h3
        rw [decide_eq_false (by rw [he]; simp [h4])]
        exact Just.ret (Sub.refl _)
      · have h4 : xs[i] = ys[i] := by simpa using h3
        rw [show IntKind.i64.wrap ((i : Int) + 1) = ((i + 1 : Nat) : Int) from W_succ (by unfold maxLen; omega)]
        exact ihl (i + 1) (by omega) ⟨by omega, by rw [he]; simp [h4]⟩
    · have e1 : xs.drop i = [] := by rw [List.drop_eq_nil_iff]; omega
      have e2 : ys.drop i = [] := by rw [List.drop_eq_nil_iff]; omega
      rw [decide_eq_true (he.2 (by rw [e1, e2]))]
      exact Just.ret (Sub.refl _)
  · rw [decide_eq_false (by intro e; rw [e] at h; exact h rfl)]
    exact Just.ret (Sub.refl _)
theorem h_laws_markBoolS (bs : List Bool) (k : Int) (hk : 0 ≤ k) (hb : k + bs.length ≤ 1000000000000) (p : PV) (D : List Nat) (st : St) (hD : D.Nodup) (hT : Th st (boolsP bs) p D) :
    HCalls prog n_laws_markBoolS [p, .int .i64 k] st (MarkR p D (boolsP (markBs bs.length k)) (.int .i64 (k + bs.length)) st) := by
  apply c_laws_markBoolS
  unfold b_laws_markBoolS
  have hT2 := hT
  rw [boolsP, Th.row] at hT
  rcases hT with ⟨h0, ⟨e, f, rfl⟩, rfl⟩ | ⟨b, xs, cap, D', rfl, hbb, hx, rfl, hel⟩
  · have hts : bs = [] := by simpa using h0
    subst hts
    refine hFix_unroll ?_
    try simp
    exact retR_same ⟨rfl, hT2, fun _ _ => rfl⟩
  · obtain ⟨rfl, rfl⟩ := ths_bools bs xs D' hx
    try simp
    refine loop_idx (β := St) bs (fun z i => [.int .i64 (k + i), .int .i64 (i : Int)]) (fun z => z)
      (fun z i rest => z b = some (.vec 1 (((markBs bs.length k).take i ++ bs.drop i).map PV.bool) cap) ∧ ∀ c, c ≠ b → z c = st c) ?_ ?_ st ⟨by simpa using hbb, fun _ _ => rfl⟩ |> fun h => by simpa using h
    · rintro i x rest s hi hxi ⟨hbs, hoff⟩ kk
      try simp only at hbs hoff
      obtain ⟨hi', hxe⟩ := List.getElem?_eq_some_iff.1 hxi
      have hd : bs.drop i = x :: bs.drop (i + 1) := by rw [List.drop_eq_getElem_cons hi', hxe]
      rw [hd, List.map_append, List.map_cons] at hbs
      have htl : ((markBs bs.length k).take i).length = i := by rw [List.length_take, markBs_len]; omega
      try simp [hi]
      simp only [rem3, qb_some]
      try simp
      refine e_store_el (y := .bool x) hbs (by have := get_mid (((markBs bs.length k).take i).map PV.bool) ((bs.drop (i + 1)).map PV.bool) (PV.bool x); rw [List.length_map, htl] at this; exact this) rfl rfl rfl rfl rfl ?_
      have hset := set_mid (((markBs bs.length k).take i).map PV.bool) ((bs.drop (i + 1)).map PV.bool) (PV.bool x) (PV.bool (decide ((k + i).tmod 3 = 0)))
      rw [List.length_map, htl] at hset
      rw [hset, W_idx hi (by unfold maxLen; omega), wrap64 (by omega) (by omega)]
      have e1 : k + (i : Int) + 1 = k + ((i + 1 : Nat) : Int) := by omega
      rw [e1]
      refine kk _ ⟨?_, fun c hc => by rw [upd_ne _ _ hc]; exact hoff c hc⟩
      rw [upd_same, take_snoc (markBs_get hi), List.map_append, List.map_append]
      try simp
    · rintro s ⟨hbs, hoff⟩
      try simp only at hbs hoff
      rw [List.take_of_length_le (by rw [markBs_len]; omega), List.drop_of_length_le (Nat.le_refl _), List.append_nil] at hbs
      try simp
      refine retR_same ⟨rfl, ?_, fun c hc => hoff c (by simpa using hc)⟩
      rw [boolsP, Th.row]
      refine .inr ⟨b, _, cap, [], by simp [markBs_len], hbs, bools_ths _, rfl, fun y hy => ?_⟩
      simp only [List.mem_map] at hy
      obtain ⟨t, _, rfl⟩ := hy
      exact bool_el t
theorem h_laws_heldBoolS (n : Nat) (k : Int) (hk : 0 ≤ k) (hb : k + n ≤ 1000000000000) (st : St) : HCalls prog n_laws_heldBoolS [boolsP (markBs n k), .int .i64 k] st (Just (.int .i64 (k + n)) st) := by
  apply c_laws_heldBoolS
  unfold b_laws_heldBoolS
  have hml := markBs_len n k
  try simp [hml]
  refine loop_idx (β := Unit) (markBs n k) (fun _ i => [.int .i64 (k + i), .int .i64 (i : Int)]) (fun _ => st) (fun _ _ _ => True) ?_ ?_ () trivial |> fun h => by simpa using h
  · rintro i x rest _ hi hx _ kk
    rw [hml] at hi
    rw [markBs_get hi] at hx
    try simp [hi, ia_bool (markBs_get hi)]
    simp only [rem3, qb_some]
    try simp
    rw [show IntKind.i64.wrap ((i : Int) + 1) = ((i + 1 : Nat) : Int) from W_succ (by unfold maxLen; omega), wrap64 (by omega) (by omega)]
    have e1 : k + (i : Int) + 1 = k + ((i + 1 : Nat) : Int) := by omega
    rw [e1]
    exact kk () trivial
  · rintro _ _
    try simp [hml]
    exact Just.ret (Sub.refl _)
theorem piGo_len (m : Nat) (t : Tr) (ht : FF t) : (piGo m [] t).1.length ≤ m := by
  have := (piGo_fine m [] t ht (by simp)).2.2
  simpa using this
theorem omitO_len (sig : List Dc) (n : List UInt8) : (omitO sig n).length ≤ 150 := by
  unfold omitO
  split
  · rename_i h
    unfold omitZ at h
    split at h
    · cases h
    · split at h
      · cases h
      · rename_i hg
        obtain ⟨hr, _⟩ := sigOKT_right (by simpa using hg)
        cases hd : declaredT sig n false with
        | none => simp
        | some a =>
          simp only
          unfold omitB
          rw [List.length_mapIdx]
          exact piGo_len 150 a (declaredT_ok hr hd)
  · simp
end Go.H.Tryz
/- Contracts: the law FnExactOmittable. -/
set_option linter.unusedVariables false
set_option linter.unusedSimpArgs false
namespace Go.H.Tryz
open Go Go.H

theorem mark_pos1 (ds : List Dc) : 0 ≤ (markDs ds 1).2 := by rw [markDs_end]; omega
theorem h_laws_FnExactOmittable (x0 : List Dc) (x1 : List UInt8) (hb : Dc.bulks x0 + x1.length ≤ 1048576) (st : St) : HCalls prog n_laws_FnExactOmittable [decls x0, .str x1] st (Just (.bool true) st) := by
  apply c_laws_FnExactOmittable
  unfold b_laws_FnExactOmittable
  have hre := reaches_bulks x0
  obtain ⟨out, c, e, hout⟩ : ∃ out c, omitP x0 x1 = .tup (boolsP out :: [c].map (PV.int .i64)) ∧ out.length ≤ 150 := ⟨omitO x0 x1, _, rfl, omitO_len x0 x1⟩
  have hspec : ∀ st, HCalls prog n_spec_Omittable [decls x0, .str x1] st (Just (.tup (boolsP out :: [c].map (PV.int .i64))) st) := fun st => e ▸ h_spec_Omittable x0 x1 st
  have himpl : ∀ st, HCalls prog n_impl_Omittable [decls x0, .str x1] st (Owns (.tup (boolsP out :: [c].map (PV.int .i64))) st) := fun st => e ▸ h_impl_Omittable x0 x1 st
  clear e
  try simp
  refine br_dec (fun h => by omega) (fun _ => ?_)
  refine callK_just (by simpa using h_laws_szDeclS x0 1048576 (by omega) (by omega) _) ?_
  rw [show left 1048576 (Dc.bulks x0) = 1048576 - (Dc.bulks x0 : Int) by unfold left; rw [if_pos (by omega)]]
  try simp
  refine br_dec (fun h => by omega) (fun _ => ?_)
  refine callK_just (by simpa using h_laws_toDeclS x0 (by omega) _) ?_
  refine callK_just (by simpa using hspec _) ?_
  try simp only [List.map_cons, List.map_nil]
  try simp
  refine callK_hnew (Hold.start st) (by simpa using h_laws_toDeclS_own x0 (by omega) st) fun p0 D0 s1 h1 _ => ?_
  refine callK_hgives h1 (us' := [decls x0, .str x1]) (.held h1.th (.same .nil)) (himpl noSt) fun t Dg s2 h2 _ => ?_
  obtain ⟨pg, rfl, hTg⟩ := Th.tupInts_inv h2.th
  have h2 := h2.as hTg
  try simp only [List.map_cons, List.map_nil]
  try simp
  refine callK_hlook (us' := [boolsP out, boolsP out]) (.held h2.th (.same .nil)) rfl (h_laws_eqBoolS _ _ (by omega) _) ?_
  try simp
  refine callK_just (by simpa using h_laws_toDeclS x0 (by omega) _) ?_
  refine callK_hlook (us' := [decls x0, decls x0]) (.held h2.tail.th (.same .nil)) rfl (h_laws_eqDeclS _ _ _) ?_
  try simp
  have h3 := h2.swap
  have hp1 := mark_pos1 x0
  refine callK_hmark h3 (h_laws_markDeclS x0 1 p0 D0 s2 (by omega) (by omega) h3.nodup h3.th) fun s3 h4 _ => ?_
  try simp
  refine br_dec (fun h => by omega) (fun _ => ?_)
  have h5 := h4.swap
  refine callK_hlook (us' := [boolsP out, boolsP out]) (.held h5.th (.same .nil)) rfl (h_laws_eqBoolS _ _ (by omega) _) ?_
  try simp
  refine callK_hmark h5 (h_laws_markBoolS out 1 (by omega) (by omega) pg Dg s3 h5.nodup h5.th) fun s4 h6 _ => ?_
  refine callK_hlook (us' := [boolsP (markBs out.length 1), .int .i64 1]) (.held h6.th (.same .nil)) rfl (h_laws_heldBoolS out.length 1 (by omega) (by omega) _) ?_
  try simp
  refine br_dec (fun h => by omega) (fun _ => ?_)
  refine callK_just (by simpa using h_laws_toDeclS x0 (by omega) _) ?_
  refine callK_just (by simpa using Owns.just (himpl s4)) ?_
  try simp only [List.map_cons, List.map_nil]
  try simp
  refine callK_just (h_laws_eqBoolS out out (by omega) _) ?_
  try simp
  refine callK_hlook (us' := [boolsP (markBs out.length 1), .int .i64 1]) (.held h6.th (.same .nil)) rfl (h_laws_heldBoolS out.length 1 (by omega) (by omega) _) ?_
  try simp
  refine br_dec (fun h => by omega) (fun _ => ?_)
  exact Just.bool rfl h6.sub
end Go.H.Tryz
