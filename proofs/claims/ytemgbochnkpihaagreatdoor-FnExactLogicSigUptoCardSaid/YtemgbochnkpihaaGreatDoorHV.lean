/- Part of a proof that the program answers as the reference does: FC40, FC41, FC42, FC43, FC51, FC52. -/
import Derived.Test.YtemgbochnkpihaaGreatDoorHX
import Derived.Test.YtemgbochnkpihaaGreatDoorHY
import Derived.Test.YtemgbochnkpihaaGreatDoorHO
import Derived.Test.YtemgbochnkpihaaGreatDoorHQ
import Derived.Test.YtemgbochnkpihaaGreatDoorHZ
/- Contracts: what the laws write over values that are owned, and read again. -/
set_option linter.unusedVariables false
set_option linter.unusedSimpArgs false
namespace Go.H.Tryz
open Go Go.H

theorem h_laws_markText (k : Int) (hk : k ≤ 1000000000000) (st : St) : HCalls prog n_laws_markText [.int .i64 k] st (Just (.str (mtext k)) st) := by
  apply c_laws_markText
  unfold b_laws_markText
  try simp
  refine br_dec (fun h => Just.same (by unfold mtext; rw [if_pos h])) (fun h => ?_)
  generalize hv : mtext k = v
  unfold mtext at hv
  rw [if_neg h] at hv
  refine hFix_rec (σ := Nat × List UInt8) (fun z => z.1) (fun z => [.int .i64 (z.1 : Int), .str z.2]) (fun _ => st) (fun z => z.1 + z.2.length ≤ 1000000000000 ∧ 109 :: digs z.1 z.2 = v) ?_ (k.toNat, []) ⟨by simp; omega, hv⟩ |> fun h => by simpa [show ((k.toNat : Nat) : Int) = k from by omega] using h
  rintro ⟨n, acc⟩ ⟨h1, h2⟩ ih
  simp only at h1 h2 ih
  try simp
  by_cases h0 : n = 0
  · subst h0
    rw [digs, if_pos rfl] at h2
    try simp
    rw [if_pos (by omega)]
    exact Just.same (by rw [← h2])
  · rw [digs, if_neg h0] at h2
    refine br_dec (fun h3 => ?_) (fun h3 => by omega)
    have e1 : (n : Int).tmod 10 = ((n % 10 : Nat) : Int) := by rw [Int.ofNat_tmod]; rfl
    have e2 : (n : Int).tdiv 10 = ((n / 10 : Nat) : Int) := by rw [Int.ofNat_tdiv]; rfl
    have e3 : IntKind.i64.wrap (48 + ((n % 10 : Nat) : Int)) = ((48 + n % 10 : Nat) : Int) := by rw [wrap64 (by omega) (by omega)]; omega
    have e4 : IntKind.u8.wrap ((48 + n % 10 : Nat) : Int) = ((48 + n % 10 : Nat) : Int) := by
      have : n % 10 < 10 := Nat.mod_lt _ (by omega)
      try simp [IntKind.wrap, IntKind.bits, IntKind.signed]
      omega
    have r1 : q_int .rem .i64 (n : Int) 10 = some (.int .i64 ((n % 10 : Nat) : Int)) := by
      rw [← e1]; rfl
    have r2 : q_bin .add (.int .i64 48) (.int .i64 ((n % 10 : Nat) : Int)) = some (.int .i64 ((48 + n % 10 : Nat) : Int)) := by
      rw [q_bin_int, q_add, e3]
    have r3 : q_conv .u8 (.int .i64 ((48 + n % 10 : Nat) : Int)) = some (.int .u8 ((48 + n % 10 : Nat) : Int)) := by
      rw [q_conv_int, e4]
    have r4 : q_bstr (.sl 1 true [.int .u8 ((48 + n % 10 : Nat) : Int)]) = some (.str [UInt8.ofNat (48 + n % 10)]) := rfl
    have r5 : q_int .quo .i64 (n : Int) 10 = some (.int .i64 ((n / 10 : Nat) : Int)) := by
      show some (PV.int .i64 (IntKind.i64.wrap ((n : Int).tdiv 10))) = _
      rw [e2, wrap64 (by omega) (by omega)]
    have r6 : q_bin .add (.str [UInt8.ofNat (48 + n % 10)]) (.str acc) = some (.str (UInt8.ofNat (48 + n % 10) :: acc)) := by
      rw [q_bin_str, q_sadd, if_pos (by simp; omega)]; rfl
    have r7 : q_lit 1 1 0 [] [(0, .int .u8 ((48 + n % 10 : Nat) : Int))] = some (.sl 1 true [.int .u8 ((48 + n % 10 : Nat) : Int)]) := rfl
    rw [r1]
    simp only [qb_some]
    rw [r2]
    simp only [qb_some]
    rw [r3]
    simp only [qb_some]
    rw [if_pos ⟨rfl, fun x hx => by rw [cells_int, List.mem_singleton] at hx; rw [hx]; rfl⟩]
    simp only [qb_some]
    rw [r4]
    simp only [qb_some]
    rw [r6]
    simp only [qb_some]
    rw [r5]
    simp only [qb_some]
    exact ih (n / 10, UInt8.ofNat (48 + n % 10) :: acc) (by simp only; omega) ⟨by simp only [List.length_cons]; omega, h2⟩
theorem h_laws_markTreeS : ∀ (N : Nat) (ts : List Tr) (k : Int) (p : PV) (D : List Nat) (st : St), Tr.sizes ts ≤ N → 0 ≤ k → k + 3 * Tr.sizes ts ≤ 1000000000000 → D.Nodup → Th st (trees ts) p D →
    HCalls prog n_laws_markTreeS [p, .int .i64 k] st (MarkR p D (trees (markTs ts k).1) (.int .i64 (markTs ts k).2) st) := by
  intro N
  induction N with
  | zero =>
    intro ts k p D st hN hk hb hD hT
    have hts : ts = [] := by
      cases ts with
      | nil => rfl
      | cons t r => simp only [Tr.sizes, List.map_cons, List.sum_cons] at hN; have := t.size_pos; omega
    subst hts
    rw [markTs_nil]
    apply c_laws_markTreeS
    unfold b_laws_markTreeS
    have hT2 := hT
    rw [trees, Th.row] at hT
    rcases hT with ⟨_, ⟨e, f, rfl⟩, rfl⟩ | ⟨b, xs, cap, D', rfl, hbb, hx, rfl, _⟩
    · refine hFix_unroll ?_
      try simp
      exact retR_same ⟨rfl, hT2, fun _ _ => rfl⟩
    · refine hFix_unroll ?_
      try simp
      exact retR_same ⟨rfl, hT2, fun _ _ => rfl⟩
  | succ N ih =>
    intro ts k p D st hN hk hb hD hT
    apply c_laws_markTreeS
    unfold b_laws_markTreeS
    generalize hv : markTs ts k = v
    have hll := Tr.len_sizes ts
    have hT2 := hT
    rw [trees, Th.row] at hT
    rcases hT with ⟨h0, ⟨e, f, rfl⟩, rfl⟩ | ⟨b, xs, cap, D', rfl, hbb, hx, rfl, hel⟩
    · have hts : ts = [] := by simpa using h0
      subst hts
      rw [markTs_nil] at hv
      subst hv
      refine hFix_unroll ?_
      try simp
      exact retR_same ⟨rfl, hT2, fun _ _ => rfl⟩
    · simp
      rw [List.nodup_cons] at hD
      refine loop_idx (β := Int × List Tr × List PV × St) ts (fun z i => [.int .i64 z.1, .int .i64 (i : Int)]) (fun z => z.2.2.2)
        (fun z i rest => z.2.1.length = i ∧ z.2.2.2 b = some (.vec 4 z.2.2.1 cap) ∧ Ths z.2.2.2 ((z.2.1 ++ rest).map tree) z.2.2.1 D' ∧ (∀ c, c ∉ b :: D' → z.2.2.2 c = st c) ∧ 0 ≤ z.1 ∧ z.1 + 3 * Tr.sizes rest ≤ 1000000000000 ∧ Tr.sizes rest ≤ Tr.sizes ts ∧ z.2.1 ++ (markTs rest z.1).1 = v.1 ∧ (markTs rest z.1).2 = v.2) ?_ ?_ (k, [], xs, st) ⟨rfl, hbb, by simpa using hx, fun _ _ => rfl, hk, hb, Nat.le_refl _, by rw [hv]; simp, by rw [hv]⟩
      · rintro i x rest ⟨k, done, xs, s⟩ hi hxi ⟨hdl, hbs, hxs, hoff, hk, hb, hle, hq1, hq2⟩ kk
        simp only at hdl hbs hxs hoff hk hb hle hq1 hq2
        simp only [List.map_append, List.map_cons] at hxs
        obtain ⟨ys1, y, ys2, D1, Dx, D2, rfl, rfl, hyl, g1, g2, g3⟩ := Ths.split hxs
        simp only [List.length_map] at hyl
        obtain ⟨q, rfl, hTq⟩ := Th.tree.1 g2
        have eil : ys1.length = i := by omega
        simp only [List.nodup_append, List.mem_append] at hD
        obtain ⟨hbD, hD1, ⟨hDx, hD2, hx2⟩, h1x⟩ := hD
        have hsz : Tr.sizes (x :: rest) = x.size + Tr.sizes rest := by simp [Tr.sizes]
        have hxk := Tr.size_kids x
        rw [hsz] at hb hle
        rw [markTs_cons] at hq1 hq2
        simp only at hq1 hq2
        try simp [hi]
        refine e_store_part hbs (by rw [← eil]; exact get_mid _ _ _) rfl rfl rfl (by simp) ?_
        rw [← eil, set_mid, wrap64 (by omega) (by omega)]
        try simp
        refine e_store_part (upd_same _ _ _) (get_mid _ _ _) rfl rfl rfl (by simp) ?_
        rw [set_mid, wrap64 (by omega) (by omega)]
        try simp
        refine callK_just (h_laws_markText _ (by omega) _) ?_
        try simp
        refine e_store_part (upd_same _ _ _) (get_mid _ _ _) rfl rfl rfl (by simp) ?_
        rw [set_mid, wrap64 (by omega) (by omega)]
        try simp
        rw [q_load_e (upd_same _ _ _) (get_mid _ _ _)]
        have eqc : ∀ a b c d : PV, (PV.agg [a, b, c, d]).cells.drop 3 = [d] := fun _ _ _ _ => rfl
        rw [eqc]
        generalize hs3 : upd s b (.vec 4 (ys1 ++ PV.agg [.int .i64 k, .int .i64 (k + 1), .str (mtext (k + 1 + 1)), q] :: ys2) cap) = s3
        have hb3 : s3 b = some (.vec 4 (ys1 ++ PV.agg [.int .i64 k, .int .i64 (k + 1), .str (mtext (k + 1 + 1)), q] :: ys2) cap) := by rw [← hs3]; exact upd_same _ _ _
        have hoff3 : ∀ c, c ≠ b → s3 c = s c := fun c hc => by rw [← hs3]; exact upd_ne _ _ hc
        have nb : ∀ c, c ∈ D1 ∨ c ∈ Dx ∨ c ∈ D2 → c ≠ b := fun c hc e => by subst e; exact hbD hc
        have hTq3 : Th s3 (trees x.kids) q Dx := hTq.frame _ _ _ fun c hc => hoff3 c (nb c (.inr (.inl hc)))
        have hqc : takeV false 1 [q] = some q := by
          obtain ⟨_, _, _⟩ := hTq.ncells
          rw [trees, Th.row] at hTq
          rcases hTq with ⟨_, ⟨e, f, rfl⟩, rfl⟩ | ⟨b, xs, cap, D', rfl, _⟩ <;> rfl
        rw [hqc]
        simp only [qb_some]
        refine callK_mark (ih x.kids (k + 1 + 1 + 1) q Dx s3 (by omega) (by omega) (by omega) hDx hTq3) fun s4 hT4 hoff4 => ?_
        try simp
        rw [show ys1.length = i from eil, W_idx hi (by unfold maxLen; omega)]
        have ekk : k + 3 = k + 1 + 1 + 1 := by omega
        have ek2 : k + 2 = k + 1 + 1 := by omega
        have emk : markT x k = (.mk k (k + 1) (mtext (k + 1 + 1)) (markTs x.kids (k + 1 + 1 + 1)).1, (markTs x.kids (k + 1 + 1 + 1)).2) := by rw [markT_eq, ekk, ek2]
        rw [emk] at hq1 hq2
        have hend := markTs_end x.kids (k + 1 + 1 + 1)
        refine kk ((markTs x.kids (k + 1 + 1 + 1)).2, done ++ [.mk k (k + 1) (mtext (k + 1 + 1)) (markTs x.kids (k + 1 + 1 + 1)).1], ys1 ++ PV.agg [.int .i64 k, .int .i64 (k + 1), .str (mtext (k + 1 + 1)), q] :: ys2, s4) ⟨by simp; omega, ?_, ?_, ?_, by first | omega | (simp only; omega), by first | omega | (simp only; omega), by first | omega | (simp only; omega), by simpa using hq1, hq2⟩
        · simp only
          rw [hoff4 b (fun h => nb b (.inr (.inl h)) rfl)]
          exact hb3
        · simp only [List.append_assoc, List.map_append, List.map_cons, List.cons_append, List.nil_append, List.map_nil]
          refine Ths.join (g1.frame _ _ _ fun c hc => ?_) (Ths.cons (Th.tree.2 ⟨q, rfl, hT4⟩) (g3.frame _ _ _ fun c hc => ?_))
          · rw [hoff4 c (fun h => h1x c hc c (.inl h) rfl), hoff3 c (nb c (.inl hc))]
          · rw [hoff4 c (fun h => hx2 c h c hc rfl), hoff3 c (nb c (.inr (.inr hc)))]
        · intro c hc
          simp only [List.mem_cons, List.mem_append, not_or] at hc
          simp only
          rw [hoff4 c hc.2.2.1, hoff3 c hc.1]
          exact hoff c (by simp only [List.mem_cons, List.mem_append, not_or]; exact hc)
      · rintro ⟨k, done, xs, s⟩ ⟨hdl, hbs, hxs, hoff, hk, hb, hle, hq1, hq2⟩
        simp only at hdl hbs hxs hoff hk hb hle hq1 hq2
        rw [markTs_nil] at hq1 hq2
        simp only [List.append_nil] at hq1 hxs
        try simp
        refine retR_same ⟨by rw [← hq2], ?_, hoff⟩
        first | rw [Th.row] | rw [trees, Th.row]
        refine .inr ⟨b, xs, cap, D', ?_, hbs, by rw [← hq1]; exact hxs, rfl, fun y hy => ?_⟩
        · rw [← hq1]; simp [hdl]
        · simp only [List.mem_map] at hy
          obtain ⟨t, _, rfl⟩ := hy
          exact tree_el t
theorem row_take {s : St} {ks : List Tr} {q : PV} {D : List Nat} (h : Th s (trees ks) q D) (n : Nat) (r : List PV) : takeV false n (q :: r) = some q := by
  rw [trees, Th.row] at h
  rcases h with ⟨_, ⟨e, f, rfl⟩, rfl⟩ | ⟨b, xs, cap, D', rfl, _⟩ <;> rfl
theorem reach_len (l : List Dc) : l.length ≤ Dc.reaches l := by
  induction l with
  | nil => simp
  | cons d l ih => simp only [Dc.reaches, List.map_cons, List.sum_cons, List.length_cons, Dc.reach] at ih ⊢; omega
@[simp] theorem set6_2s (a b c d e f x : PV) : setRange [a, b, c, d, e, f] 2 [x] = [a, b, x, d, e, f] := rfl
@[simp] theorem set6_3s (a b c d e f x : PV) : setRange [a, b, c, d, e, f] 3 [x] = [a, b, c, x, e, f] := rfl
@[simp] theorem set6_4s (a b c d e f x : PV) : setRange [a, b, c, d, e, f] 4 [x] = [a, b, c, d, x, f] := rfl
theorem rem3 (k : Int) : q_int .rem .i64 k 3 = some (.int .i64 (k.tmod 3)) := rfl
theorem h_laws_markDeclS (ds : List Dc) (k : Int) (p : PV) (D : List Nat) (st : St) (hk : 0 ≤ k) (hb : k + Dc.reaches ds ≤ 1000000000000) (hD : D.Nodup) (hT : Th st (decls ds) p D) :
    HCalls prog n_laws_markDeclS [p, .int .i64 k] st (MarkR p D (decls (markDs ds k).1) (.int .i64 (markDs ds k).2) st) := by
  apply c_laws_markDeclS
  unfold b_laws_markDeclS
  generalize hv : markDs ds k = v
  have hT2 := hT
  rw [decls, Th.row] at hT
  rcases hT with ⟨h0, ⟨e, f, rfl⟩, rfl⟩ | ⟨b, xs, cap, D', rfl, hbb, hx, rfl, hel⟩
  · have hts : ds = [] := by simpa using h0
    subst hts
    rw [markDs] at hv
    subst hv
    refine hFix_unroll ?_
    try simp
    exact retR_same ⟨rfl, hT2, fun _ _ => rfl⟩
  · simp
    rw [List.nodup_cons] at hD
    have hll := reach_len ds
    refine loop_idx (β := Int × List Dc × List PV × St) ds (fun z i => [.int .i64 z.1, .int .i64 (i : Int)]) (fun z => z.2.2.2)
      (fun z i rest => z.2.1.length = i ∧ z.2.2.2 b = some (.vec 6 z.2.2.1 cap) ∧ Ths z.2.2.2 ((z.2.1 ++ rest).map decl) z.2.2.1 D' ∧ (∀ c, c ∉ b :: D' → z.2.2.2 c = st c) ∧ 0 ≤ z.1 ∧ z.1 + Dc.reaches rest ≤ 1000000000000 ∧ z.2.1 ++ (markDs rest z.1).1 = v.1 ∧ (markDs rest z.1).2 = v.2) ?_ ?_ (k, [], xs, st) ⟨rfl, hbb, by simpa using hx, fun _ _ => rfl, hk, hb, by rw [hv]; simp, by rw [hv]⟩
    · rintro i x rest ⟨k, done, xs, s⟩ hi hxi ⟨hdl, hbs, hxs, hoff, hk, hb, hq1, hq2⟩ kk
      simp only at hdl hbs hxs hoff hk hb hq1 hq2
      simp only [List.map_append, List.map_cons] at hxs
      obtain ⟨ys1, y, ys2, D1, Dx, D2, rfl, rfl, hyl, g1, g2, g3⟩ := Ths.split hxs
      simp only [List.length_map] at hyl
      obtain ⟨q, rfl, hTq⟩ := Th.decl.1 g2
      have eil : ys1.length = i := by omega
      simp only [List.nodup_append, List.mem_append] at hD
      obtain ⟨hbD, hD1, ⟨hDx, hD2, hx2⟩, h1x⟩ := hD
      have hsz : Dc.reaches (x :: rest) = x.reach + Dc.reaches rest := by simp [Dc.reaches]
      have hxr : x.reach = 5 + 3 * Tr.sizes x.type.kids := rfl
      rw [hsz] at hb
      rw [markDs] at hq1 hq2
      simp only at hq1 hq2
      try simp [hi]
      refine callK_just (h_laws_markText _ (by omega) _) ?_
      try simp
      refine e_store_part hbs (by rw [← eil]; exact get_mid _ _ _) rfl rfl rfl (by simp) ?_
      rw [← eil, set_mid, wrap64 (by omega) (by omega)]
      simp only [rem3, qb_some]
      try simp
      refine e_store_part (upd_same _ _ _) (get_mid _ _ _) rfl rfl rfl (by simp) ?_
      rw [set_mid, wrap64 (by omega) (by omega)]
      try simp
      refine e_store_part (upd_same _ _ _) (get_mid _ _ _) rfl rfl rfl (by simp) ?_
      rw [set_mid, wrap64 (by omega) (by omega)]
      try simp
      refine e_store_part (upd_same _ _ _) (get_mid _ _ _) rfl rfl rfl (by simp) ?_
      rw [set_mid, wrap64 (by omega) (by omega)]
      try simp
      refine callK_just (h_laws_markText _ (by omega) _) ?_
      try simp
      refine e_store_part (upd_same _ _ _) (get_mid _ _ _) rfl rfl rfl (by simp) ?_
      rw [set_mid, wrap64 (by omega) (by omega)]
      try simp
      rw [q_load_e (upd_same _ _ _) (get_mid _ _ _)]
      have cells6 : ∀ (a b c d e f x0 x1 x2 x3 x4 : PV), setRange (setRange (setRange (setRange (setRange [a, b, c, d, e, f] 0 [x0]) 1 [x1]) 2 [x2]) 3 [x3]) 4 [x4] = [x0, x1, x2, x3, x4, f] := fun _ _ _ _ _ _ _ _ _ _ _ => rfl
      try rw [cells6]
      have eqc : ∀ a b c d e f : PV, (PV.agg [a, b, c, d, e, f]).cells.drop 5 = [f] := fun _ _ _ _ _ _ => rfl
      rw [eqc, row_take hTq]
      simp only [qb_some]
      generalize hs3 : upd s b (.vec 6 (ys1 ++ PV.agg [.str (mtext k), .bool (decide ((k + 1).tmod 3 = 0)), .int .i64 (k + 1 + 1), .int .i64 (k + 1 + 1 + 1), .str (mtext (k + 1 + 1 + 1 + 1)), q] :: ys2) cap) = s3
      have hb3 : s3 b = some (.vec 6 (ys1 ++ PV.agg [.str (mtext k), .bool (decide ((k + 1).tmod 3 = 0)), .int .i64 (k + 1 + 1), .int .i64 (k + 1 + 1 + 1), .str (mtext (k + 1 + 1 + 1 + 1)), q] :: ys2) cap) := by rw [← hs3]; exact upd_same _ _ _
      have hoff3 : ∀ c, c ≠ b → s3 c = s c := fun c hc => by rw [← hs3]; exact upd_ne _ _ hc
      have nb : ∀ c, c ∈ D1 ∨ c ∈ Dx ∨ c ∈ D2 → c ≠ b := fun c hc e => by subst e; exact hbD hc
      have hTq3 : Th s3 (trees x.type.kids) q Dx := hTq.frame _ _ _ fun c hc => hoff3 c (nb c (.inr (.inl hc)))
      refine callK_mark (h_laws_markTreeS _ x.type.kids (k + 1 + 1 + 1 + 1 + 1) q Dx s3 (Nat.le_refl _) (by omega) (by omega) hDx hTq3) fun s4 hT4 hoff4 => ?_
      try simp
      rw [show ys1.length = i from eil, W_idx hi (by unfold maxLen; omega)]
      have emk : markD x k = (⟨mtext k, decide ((k + 1).tmod 3 = 0), .mk (k + 1 + 1) (k + 1 + 1 + 1) (mtext (k + 1 + 1 + 1 + 1)) (markTs x.type.kids (k + 1 + 1 + 1 + 1 + 1)).1⟩, (markTs x.type.kids (k + 1 + 1 + 1 + 1 + 1)).2) := by
        unfold markD
        rw [show k + 2 = k + 1 + 1 by omega, show k + 3 = k + 1 + 1 + 1 by omega, show k + 4 = k + 1 + 1 + 1 + 1 by omega, show k + 5 = k + 1 + 1 + 1 + 1 + 1 by omega]
      rw [emk] at hq1 hq2
      have hend := markTs_end x.type.kids (k + 1 + 1 + 1 + 1 + 1)
      refine kk ((markTs x.type.kids (k + 1 + 1 + 1 + 1 + 1)).2, done ++ [⟨mtext k, decide ((k + 1).tmod 3 = 0), .mk (k + 1 + 1) (k + 1 + 1 + 1) (mtext (k + 1 + 1 + 1 + 1)) (markTs x.type.kids (k + 1 + 1 + 1 + 1 + 1)).1⟩], ys1 ++ PV.agg [.str (mtext k), .bool (decide ((k + 1).tmod 3 = 0)), .int .i64 (k + 1 + 1), .int .i64 (k + 1 + 1 + 1), .str (mtext (k + 1 + 1 + 1 + 1)), q] :: ys2, s4) ⟨by simp; omega, ?_, ?_, ?_, by first | omega | (simp only; omega), by first | omega | (simp only; omega), by simpa using hq1, hq2⟩
      · simp only
        rw [hoff4 b (fun h => nb b (.inr (.inl h)) rfl)]
        exact hb3
      · simp only [List.append_assoc, List.map_append, List.map_cons, List.cons_append, List.nil_append, List.map_nil]
        refine Ths.join (g1.frame _ _ _ fun c hc => ?_) (Ths.cons (Th.decl.2 ⟨q, rfl, hT4⟩) (g3.frame _ _ _ fun c hc => ?_))
        · rw [hoff4 c (fun h => h1x c hc c (.inl h) rfl), hoff3 c (nb c (.inl hc))]
        · rw [hoff4 c (fun h => hx2 c h c hc rfl), hoff3 c (nb c (.inr (.inr hc)))]
      · intro c hc
        simp only [List.mem_cons, List.mem_append, not_or] at hc
        simp only
        rw [hoff4 c hc.2.2.1, hoff3 c hc.1]
        exact hoff c (by simp only [List.mem_cons, List.mem_append, not_or]; exact hc)
    · rintro ⟨k, done, xs, s⟩ ⟨hdl, hbs, hxs, hoff, hk, hb, hq1, hq2⟩
      simp only at hdl hbs hxs hoff hk hb hq1 hq2
      simp only [markDs, List.append_nil] at hq1 hq2 hxs
      try simp
      refine retR_same ⟨by rw [← hq2], ?_, hoff⟩
      first | rw [Th.row] | rw [decls, Th.row]
      refine .inr ⟨b, xs, cap, D', ?_, hbs, by rw [← hq1]; exact hxs, rfl, fun y hy => ?_⟩
      · rw [← hq1]; simp [hdl]
      · simp only [List.mem_map] at hy
        obtain ⟨t, _, rfl⟩ := hy
        exact decl_el t
end Go.H.Tryz
/- Contracts: marks that are read again; copies that own all that they reach. -/
set_option linter.unusedVariables false
set_option linter.unusedSimpArgs false
namespace Go.H.Tryz
open Go Go.H

theorem h_laws_heldTreeS : ∀ (N : Nat) (ts : List Tr) (k : Int) (st : St), Tr.sizes ts ≤ N → 0 ≤ k → k + 3 * Tr.sizes ts ≤ 1000000000000 →
    HCalls prog n_laws_heldTreeS [trees (markTs ts k).1, .int .i64 k] st (Just (.int .i64 (markTs ts k).2) st) := by
  intro N
  induction N with
  | zero =>
    intro ts k st hN hk hb
    have hts : ts = [] := by
      cases ts with
      | nil => rfl
      | cons t r => simp only [Tr.sizes, List.map_cons, List.sum_cons] at hN; have := t.size_pos; omega
    subst hts
    rw [markTs_nil]
    apply c_laws_heldTreeS
    unfold b_laws_heldTreeS
    refine hFix_unroll ?_
    try simp
    exact Just.ret (Sub.refl _)
  | succ N ih =>
    intro ts k st hN hk hb
    apply c_laws_heldTreeS
    unfold b_laws_heldTreeS
    generalize hv : (markTs ts k).2 = v
    generalize hms : (markTs ts k).1 = ms
    have hll := Tr.len_sizes ts
    have hml : ms.length = ts.length := by rw [← hms]; exact markTs_len ts k
    try simp
    refine loop_idx (β := Int) ms (fun z i => [.int .i64 z, .int .i64 (i : Int)]) (fun _ => st)
      (fun z i rest => ∃ r : List Tr, rest = (markTs r z).1 ∧ 0 ≤ z ∧ z + 3 * Tr.sizes r ≤ 1000000000000 ∧ Tr.sizes r ≤ Tr.sizes ts ∧ (markTs r z).2 = v) ?_ ?_ k ⟨ts, hms.symm, hk, hb, Nat.le_refl _, hv⟩
    · rintro i x rest k hi hx ⟨r, hr, hk, hb, hle, hq⟩ kk
      cases r with
      | nil => rw [markTs_nil] at hr; cases hr
      | cons t r =>
        rw [markTs_cons] at hr hq
        simp only [List.cons.injEq] at hr
        obtain ⟨rfl, rfl⟩ := hr
        have hsz : Tr.sizes (t :: r) = t.size + Tr.sizes r := by simp [Tr.sizes]
        have hxk := Tr.size_kids t
        rw [hsz] at hb hle
        simp only at hq
        rw [markT_eq] at hx
        have hend := markTs_end t.kids (k + 1 + 1 + 1)
        have e3 : k + 3 = k + 1 + 1 + 1 := by omega
        have e2 : k + 2 = k + 1 + 1 := by omega
        try simp [hi, ia_tree _ hx]
        rw [wrap64 (by omega) (by omega)]
        try simp
        rw [wrap64 (by omega) (by omega)]
        refine callK_just (h_laws_markText _ (by omega) _) ?_
        try simp [e2]
        rw [wrap64 (by omega) (by omega), e3]
        refine callK_just (by simpa using ih t.kids (k + 1 + 1 + 1) st (by omega) (by omega) (by omega)) ?_
        try simp
        refine br_dec (fun h => by omega) (fun h => ?_)
        rw [W_idx hi (by unfold maxLen; omega)]
        refine kk _ ⟨r, ?_, by omega, by omega, by omega, ?_⟩
        · rw [markT_eq, e3]
        · rw [markT_eq, e3] at hq; exact hq
    · rintro k ⟨r, hr, hk, hb, hle, hq⟩
      cases r with
      | nil => rw [markTs_nil] at hq; simp; exact Just.int hq
      | cons t r => rw [markTs_cons] at hr; cases hr
theorem h_laws_heldDeclS (ds : List Dc) (k : Int) (hk : 0 ≤ k) (hb : k + Dc.reaches ds ≤ 1000000000000) (st : St) :
    HCalls prog n_laws_heldDeclS [decls (markDs ds k).1, .int .i64 k] st (Just (.int .i64 (markDs ds k).2) st) := by
  apply c_laws_heldDeclS
  unfold b_laws_heldDeclS
  generalize hv : (markDs ds k).2 = v
  generalize hms : (markDs ds k).1 = ms
  have hll := reach_len ds
  have hml : ms.length = ds.length := by rw [← hms]; exact markDs_len ds k
  try simp
  refine loop_idx (β := Int) ms (fun z i => [.int .i64 z, .int .i64 (i : Int)]) (fun _ => st)
    (fun z i rest => ∃ r : List Dc, rest = (markDs r z).1 ∧ 0 ≤ z ∧ z + Dc.reaches r ≤ 1000000000000 ∧ (markDs r z).2 = v) ?_ ?_ k ⟨ds, hms.symm, hk, hb, hv⟩
  · rintro i x rest k hi hx ⟨r, hr, hk, hb, hq⟩ kk
    cases r with
    | nil => rw [markDs] at hr; cases hr
    | cons t r =>
      rw [markDs] at hr hq
      simp only [List.cons.injEq] at hr
      obtain ⟨rfl, rfl⟩ := hr
      have hsz : Dc.reaches (t :: r) = t.reach + Dc.reaches r := by simp [Dc.reaches]
      have hxr : t.reach = 5 + 3 * Tr.sizes t.type.kids := rfl
      rw [hsz] at hb
      simp only at hq
      have emk : markD t k = (⟨mtext k, decide ((k + 1).tmod 3 = 0), .mk (k + 1 + 1) (k + 1 + 1 + 1) (mtext (k + 1 + 1 + 1 + 1)) (markTs t.type.kids (k + 1 + 1 + 1 + 1 + 1)).1⟩, (markTs t.type.kids (k + 1 + 1 + 1 + 1 + 1)).2) := by
        unfold markD
        rw [show k + 2 = k + 1 + 1 by omega, show k + 3 = k + 1 + 1 + 1 by omega, show k + 4 = k + 1 + 1 + 1 + 1 by omega, show k + 5 = k + 1 + 1 + 1 + 1 + 1 by omega]
      rw [emk] at hx hq
      have hend := markTs_end t.type.kids (k + 1 + 1 + 1 + 1 + 1)
      try simp [hi, ia_decl _ hx]
      refine callK_just (h_laws_markText _ (by omega) _) ?_
      try simp
      rw [wrap64 (by omega) (by omega)]
      simp only [rem3, qb_some]
      try simp
      rw [wrap64 (by omega) (by omega)]
      try simp
      rw [wrap64 (by omega) (by omega)]
      try simp
      rw [wrap64 (by omega) (by omega)]
      refine callK_just (h_laws_markText _ (by omega) _) ?_
      try simp
      rw [wrap64 (by omega) (by omega)]
      refine callK_just (by simpa using h_laws_heldTreeS _ t.type.kids (k + 1 + 1 + 1 + 1 + 1) st (Nat.le_refl _) (by omega) (by omega)) ?_
      try simp
      refine br_dec (fun h => by omega) (fun h => ?_)
      rw [W_idx hi (by unfold maxLen; omega)]
      refine kk _ ⟨r, ?_, by omega, by omega, ?_⟩
      · rw [emk]
      · exact hq
  · rintro k ⟨r, hr, hk, hb, hq⟩
    cases r with
    | nil => rw [markDs] at hq; simp; exact Just.int hq
    | cons t r => rw [markDs] at hr; cases hr
end Go.H.Tryz
/- Contracts: copies that own all that they reach. -/
set_option linter.unusedVariables false
set_option linter.unusedSimpArgs false
namespace Go.H.Tryz
open Go Go.H

theorem th_row_cell {s : St} {ks : List Tr} {q : PV} {D : List Nat} (h : Th s (trees ks) q D) : q.cellOK = true ∧ q.ncells = 1 ∧ q.isJunk = false ∧ q.cells = [q] := by
  rw [trees, Th.row] at h
  rcases h with ⟨_, ⟨e, f, rfl⟩, rfl⟩ | ⟨b, xs, cap, D', rfl, _⟩ <;> exact ⟨rfl, rfl, rfl, rfl⟩
/-! ### The program's copies -/
theorem h_impl_clone_own (t : Tr) (hsz : t.size ≤ 1000000000) (st : St) : HCalls prog n_impl_clone [tree t] st (Owns (tree t) st) := by
  induction t using Tr.ind generalizing st with
  | _ t ih =>
  have hl := t.kids_len
  apply c_impl_clone
  unfold b_impl_clone
  refine e_box_own (tree_isJunk _) fun b1 hb1 => ?_
  intro b2 hb2
  have hne : b1 ≠ b2 := fun e => by rw [← e, upd_same] at hb2; cases hb2
  rw [upd_ne _ _ hne.symm] at hb2
  generalize hs : upd (upd st b1 (.cells (tree t).cells)) b2 (.cells [.int .i64 0, .int .i64 0, .str [], .sl 0 true []]) = s
  have e1 : s b1 = some (.cells (tree t).cells) := by rw [← hs, upd_ne _ _ hne]; exact upd_same _ _ _
  have e2 : s b2 = some (.cells [.int .i64 0, .int .i64 0, .str [], .sl 0 true []]) := by rw [← hs]; exact upd_same _ _ _
  have hsub : Sub st s := by
    rw [← hs]
    refine ((Sub.refl st).put hb1).put hb2
  clear hs
  try simp [q_load_p e1]
  have hall : HCalls prog n_impl_cloneAll [trees t.kids] s (Owns (trees t.kids) s) := by
    apply c_impl_cloneAll
    unfold b_impl_cloneAll
    try simp
    refine loop_idx (β := PV × List Nat × St) t.kids (fun z i => [z.1, .int .i64 (i : Int)]) (fun z => z.2.2) (fun z i rest => Rw s z.2.2 4 ((t.kids.take i).map tree) z.1 z.2.1) ?_ ?_ (_, [], s) (Rw.start (Sub.refl s) 4 4)
    · rintro i x rest ⟨p, D, s1⟩ hi hx q0 kk
      simp only at q0
      try simp [hi, ia_tree _ hx]
      intro b5 hb5
      try simp
      try simp [q_load_p (upd_same _ _ _)]
      have q1 := q0.put hb5 (.cells (tree x).cells)
      generalize upd s1 b5 (.cells (tree x).cells) = s2 at q1
      refine callK_owns (ih x (List.mem_of_getElem? hx) (by have := Tr.kid_size (List.mem_of_getElem? hx); omega) s2) fun y Dx s3 hDx hTx hfx hox => ?_
      have keep : ∀ c o, s2 c = some o → s3 c = some o := fun c o hc => by
        rw [hox c (fun h => by rw [hfx c h] at hc; cases hc)]; exact hc
      have q2 : Rw s s3 4 ((t.kids.take i).map tree) p D := q1.frame (fun c hc => by
        obtain ⟨o, ho⟩ := q1.live hc
        rw [ho]; exact keep c o ho) (q1.sub.trans keep)
      have hy := hTx.elOK (tree_el x)
      obtain ⟨n1, n2, n3⟩ := hTx.ncells
      rw [tree_ncells] at n1
      have hya := hy.2
      rw [List.all_eq_true] at hya
      try simp
      rw [if_pos ⟨n1, hya⟩]
      try simp
      refine q2.append hTx (tree_el x) hDx (fun c hc => q1.sub.isNone (hfx c hc)) (fun c hc h => by obtain ⟨o, ho⟩ := q1.live hc; rw [hfx c h] at ho; cases ho) (elems_sl _ _ _ _) (by simp; omega) fun p2 s4 D2 q3 _ _ => ?_
      rw [W_idx hi (by unfold maxLen; omega)]
      refine kk (p2, D2, s4) ?_
      simp only
      rw [take_snoc hx, List.map_append]
      exact q3
    · rintro ⟨p, D, s1⟩ q0
      simp only at q0
      rw [List.take_of_length_le (Nat.le_refl _)] at q0
      try simp
      exact Owns.row q0
  refine callK_owns (by simpa using hall) fun q D s2 hD hT hf ho => ?_
  have keep : ∀ c o, s c = some o → s2 c = some o := fun c o hc => by
    rw [ho c (fun h => by rw [hf c h] at hc; cases hc)]; exact hc
  have f1 := keep _ _ e1
  have f2 := keep _ _ e2
  obtain ⟨c1, c2, c3, c4⟩ := th_row_cell (by simpa using hT)
  try simp
  rw [e_store_p _ _ _ _ _ _ _ f1]
  try simp [c1, c2, c3, c4]
  try simp [q_load_p (upd_same _ _ _)]
  have g2 : ∀ o, (upd s2 b1 o) b2 = some (.cells [.int .i64 0, .int .i64 0, .str [], .sl 0 true []]) := fun o => by rw [upd_ne _ _ hne.symm]; exact f2
  rw [e_store_p _ _ _ _ _ _ _ (g2 _)]
  try simp [c1]
  try simp [q_load_p (upd_same _ _ _)]
  have nD : ∀ c ∈ D, c ≠ b1 ∧ c ≠ b2 := fun c hc => ⟨(fun e => by rw [e] at hc; rw [hf b1 hc] at e1; cases e1), (fun e => by rw [e] at hc; rw [hf b2 hc] at e2; cases e2)⟩
  refine Owns.ret hD (Th.tree.2 ⟨q, rfl, hT.frame _ _ _ fun c hc => ?_⟩) (fun c hc => hsub.isNone (hf c hc)) ?_
  · rw [upd_ne _ _ (nD c hc).2, upd_ne _ _ (nD c hc).1]
  · exact ((hsub.trans keep).put hb1).put hb2
end Go.H.Tryz
/- Contracts: AddDecl and BuildSig, on both sides. -/
set_option linter.unusedVariables false
set_option linter.unusedSimpArgs false
namespace Go.H.Tryz
open Go Go.H

/-- A row is handed back that is new and that may grow. -/
def RwR (esz : Nat) (xs' : List PV) (st : St) : Res → St → Prop := fun r s => ∃ p D, r = .ret p ∧ Rw st s esz xs' p D ∧ ∀ b, b ∉ D → s b = st b
theorem RwR.ret {st s : St} {esz : Nat} {xs' : List PV} {p : PV} {D : List Nat} (h : Rw st s esz xs' p D) : retR (RwR esz xs' st) p s := by
  refine retR_conv (p' := p) (st' := fun b => if b ∈ D then s b else st b) (Conv.sub fun b o hb => ?_) ⟨p, D, rfl, h.frame (fun b hb => by simp only [if_pos hb]) (fun b o hb => ?_), fun b hb => by simp only [if_neg hb]⟩
  · by_cases hbD : b ∈ D
    · rw [if_pos hbD] at hb; exact hb
    · rw [if_neg hbD] at hb; exact h.sub b o hb
  · have : b ∉ D := fun hd => by rw [h.fresh b hd] at hb; cases hb
    simp only [if_neg this]
    exact hb
theorem RwR.owns {P : Program} {g : FuncId} {us : List PV} {st : St} {esz : Nat} {xs' : List PV} (hc : HCalls P g us st (RwR esz xs' st)) : HCalls P g us st (Owns (.sl esz false xs') st) :=
  hc.mono fun r s h => by
    obtain ⟨p, D, h1, h2, h3⟩ := h
    exact ⟨p, D, h1, h2.nodup, h2.th, h2.fresh, h3⟩
/-- Why a declaration can not stand behind a right signature. -/
def addT (sig : List Dc) (d : Dc) : Fz := if (declT sig d).1 ≠ 0 then declT sig d else if 40 ≤ sig.length then (17, 0) else (0, 0)
theorem h_impl_addFault (sig : List Dc) (hs : SigR sig) (d : Dc) (st : St) : HCalls prog n_impl_addFault [decls sig, decl d] st (Just (haltP (addT sig d)) st) := by
  apply c_impl_addFault
  unfold b_impl_addFault
  generalize hv : addT sig d = v
  unfold addT at hv
  refine e_box_ref (decl_isJunk _) ?_
  intro b4 hb4
  have e4 : ∀ o, (upd st b4 (.cells o)) b4 = some (.cells o) := fun o => upd_same _ _ _
  have hsub : ∀ o, Sub st (upd st b4 o) := fun o => (Sub.refl st).put hb4
  try simp
  refine callK_just (h_impl_declForm d _) ?_
  try simp
  refine br_of (fun g1 => ?_) (fun g1 => ?_)
  rotate_left
  · have hd : declT sig d = (1, 0) := by unfold declT; rw [if_pos g1]
    rw [hd, if_pos (by decide)] at hv
    rw [show q_struct [PV.int IntKind.i64 0, PV.int IntKind.i64 0] [(0, 1, PV.int IntKind.i64 1)] = some (.agg [.int .i64 1, .int .i64 0]) from rfl]
    try simp
    try simp [q_load_p (upd_same _ _ _)]
    rw [← hv]
    exact Just.ret (hsub _)
  · refine callK_just (by simpa using h_impl_has sig hs.len d.name _) ?_
    try simp
    refine br_of (fun g2 => ?_) (fun g2 => ?_)
    · have hd : declT sig d = (6, 0) := by unfold declT; rw [if_neg (by rw [g1]; simp), if_pos g2]
      rw [hd, if_pos (by decide)] at hv
      rw [show q_struct [PV.int IntKind.i64 0, PV.int IntKind.i64 0] [(0, 1, PV.int IntKind.i64 6)] = some (.agg [.int .i64 6, .int .i64 0]) from rfl]
      try simp
      try simp [q_load_p (upd_same _ _ _)]
      rw [← hv]
      exact Just.ret (hsub _)
    · have hd : declT sig d = declFaultT sig d := by unfold declT; rw [if_neg (by rw [g1]; simp), if_neg (by rw [g2]; simp)]
      rw [hd] at hv
      refine callK_just (by simpa using h_impl_declFault sig hs d (form_fk g1) _) ?_
      unfold haltP
      intro b5 hb5
      have n45 : b4 ≠ b5 := fun e => by rw [← e, e4] at hb5; cases hb5
      rw [upd_ne _ _ n45.symm] at hb5
      try simp
      try simp [q_load_p (upd_same _ _ _)]
      have i4 : ∀ o, (upd (upd st b4 (.cells [.int .i64 0, .int .i64 0])) b5 o) b4 = some (.cells [.int .i64 0, .int .i64 0]) := fun o => by rw [upd_ne _ _ n45]; exact e4 _
      have hsub2 : ∀ o o', Sub st (upd (upd (upd st b4 (.cells [.int .i64 0, .int .i64 0])) b5 o) b4 o') := fun o o' => (((Sub.refl st).put hb4).put hb5).put hb4
      refine br_dec (fun g3 => ?_) (fun g3 => ?_)
      · rw [if_neg (by simpa using g3)] at hv
        refine br_dec (fun g4 => ?_) (fun g4 => ?_)
        · rw [if_pos (by omega)] at hv
          rw [show q_struct [PV.int IntKind.i64 0, PV.int IntKind.i64 0] [(0, 1, PV.int IntKind.i64 17)] = some (.agg [.int .i64 17, .int .i64 0]) from rfl]
          simp only [qb_some]
          rw [e_store_p _ _ _ _ _ _ _ (i4 _)]
          try simp
          try simp [q_load_p (upd_same _ _ _)]
          rw [← hv]
          exact Just.ret (hsub2 _ _)
        · rw [if_neg (by omega)] at hv
          rw [show q_struct [PV.int IntKind.i64 0, PV.int IntKind.i64 0] [] = some (.agg [.int .i64 0, .int .i64 0]) from rfl]
          simp only [qb_some]
          rw [e_store_p _ _ _ _ _ _ _ (i4 _)]
          try simp
          try simp [q_load_p (upd_same _ _ _)]
          rw [← hv]
          exact Just.ret (hsub2 _ _)
      · rw [if_pos (by simpa using g3)] at hv
        rw [e_store_p _ _ _ _ _ _ _ (i4 _)]
        try simp
        try simp [q_load_p (upd_same _ _ _)]
        rw [← hv]
        exact Just.ret (hsub2 _ _)
theorem Owns.tupInts {st s : St} {x p : PV} {D : List Nat} (ns : List Int) (hD : D.Nodup) (h : Th s x p D) (hf : ∀ b ∈ D, st b = none) (hs : Sub st s) : retR (Owns (.tup (x :: ns.map (PV.int .i64))) st) (.tup (p :: ns.map (PV.int .i64))) s :=
  Owns.ret hD (Th.tupInts ns h) hf hs
theorem Owns.none {st s : St} {esz e : Nat} (ns : List Int) (hs : Sub st s) : retR (Owns (.tup (.sl esz false [] :: ns.map (PV.int .i64))) st) (.tup (.sl e true [] :: ns.map (PV.int .i64))) s :=
  Owns.tupInts ns (D := []) List.nodup_nil (Th.row.2 (.inl ⟨rfl, ⟨e, true, rfl⟩, rfl⟩)) (by simp) hs
end Go.H.Tryz
/- Contracts: which arguments can be left out. -/
set_option linter.unusedVariables false
set_option linter.unusedSimpArgs false
namespace Go.H.Tryz
open Go Go.H

theorem Rw.bool {st s : St} {xs' : List PV} {p : PV} {D : List Nat} {b : Bool} {v : PV} {K : PV → St → Prop} (h : Rw st s 1 xs' p D) (hv : elems s 1 v = some [.bool b]) (hb : (xs'.length + 1) * 1 ≤ 140737488355328)
    (hk : ∀ p2 s2 D2, Rw st s2 1 (xs' ++ [.bool b]) p2 D2 → (∀ c o, s c = some o → c ∉ D → s2 c = some o) → (∀ c, c ∈ D2 → c ∈ D ∨ s c = none) → K p2 s2) : e_append s 1 1 p v K :=
  h.append (y' := .bool b) (y := .bool b) (Dy := []) (by simp [Th]) (bool_el b) List.nodup_nil (by simp) (by simp) hv hb fun p2 s2 D2 h1 h2 h3 =>
    hk p2 s2 D2 h1 (fun c o a b => h2 c o a b (by simp)) (fun c hc => (h3 c hc).imp id (fun h => by simpa using h))
end Go.H.Tryz
/- Contracts: Omittable, on both sides. -/
set_option linter.unusedVariables false
set_option linter.unusedSimpArgs false
namespace Go.H.Tryz
open Go Go.H

theorem h_impl_longText0 (n : List UInt8) (st : St) : HCalls prog n_impl_longText [.str n] st (Just (.bool (decide (n.length > 65536))) st) := by
  apply c_impl_longText
  unfold b_impl_longText
  try simp
  exact Just.bool (by simp; omega) (Sub.refl _)
end Go.H.Tryz
