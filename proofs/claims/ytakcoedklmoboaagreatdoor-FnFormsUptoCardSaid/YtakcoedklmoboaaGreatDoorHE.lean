/- Part of a proof that the program answers as the reference does: ZFC70, ZFC71, ZFC72, ZFC73, ZFC74, ZFC75, ZFC76, ZFC77. -/
import Derived.Test.YtakcoedklmoboaaGreatDoorHY
import Derived.Test.YtakcoedklmoboaaGreatDoorHR
/- Contracts: the program's parser: bytes, nodes, signs, runs. -/
set_option linter.unusedVariables false
set_option linter.unusedSimpArgs false
namespace Go.H.Tryz
open Go Go.H

variable {st0 st : St} {b : Nat} {t : List UInt8} {om : Bool} {sc : List (List UInt8)} {i nd : Nat}
abbrev PG {α : Type} (st0 : St) (b : Nat) (t : List UInt8) (om : Bool) (sc : List (List UInt8)) (val : α → PV) (r : PR α) : Res → St → Prop := PRes ty_impl_halt st0 b t om sc val r
def byteP (t : List UInt8) (j : Nat) : Int := match t[j]? with | some c => c.toNat | none => -1
theorem byteP_some {t : List UInt8} {j : Nat} {c : UInt8} (h : t[j]? = some c) : byteP t j = c.toNat := by unfold byteP; rw [h]
theorem byteP_none {t : List UInt8} {j : Nat} (h : t[j]? = none) : byteP t j = -1 := by unfold byteP; rw [h]
theorem byteP_eq {t : List UInt8} {j : Nat} (c : UInt8) : byteP t j = c.toNat ↔ t[j]? = some c := by
  unfold byteP
  cases h : t[j]? with
  | none => simp
  | some d =>
    simp only [Option.some.injEq]
    constructor
    · intro h; exact UInt8.toNat_inj.1 (by omega)
    · intro h; rw [h]
theorem e_setAt {q : PV} {i i' nd : Int} {K : St → Prop} (hb : st b = some (.cells (pC t om i q nd))) (h : K (upd st b (.cells (pC t om i' q nd)))) : e_store st 1 (.ptr b 1) (.int .i64 i') K := by
  rw [e_store_p _ _ _ _ _ _ _ hb]
  simpa [pC, setRange] using h
theorem e_setNd {q : PV} {i nd nd' : Int} {K : St → Prop} (hb : st b = some (.cells (pC t om i q nd))) (h : K (upd st b (.cells (pC t om i q nd')))) : e_store st 1 (.ptr b 3) (.int .i64 nd') K := by
  rw [e_store_p _ _ _ _ _ _ _ hb]
  simpa [pC, setRange] using h
theorem e_setSc {q q' : PV} {i nd : Int} {K : St → Prop} (hb : st b = some (.cells (pC t om i q nd))) (h1 : q'.cellOK = true ∧ q'.ncells = 1 ∧ q'.isJunk = false ∧ q'.cells = [q']) (h : K (upd st b (.cells (pC t om i q' nd)))) : e_store st 1 (.ptr b 2) q' K := by
  rw [e_store_p _ _ _ _ _ _ _ hb]
  obtain ⟨a1, a2, a3, a4⟩ := h1
  simpa [pC, setRange, a1, a2, a3, a4] using h
theorem q_ix_at {t : List UInt8} {j : Nat} {c : UInt8} (h : t[j]? = some c) : q_ix (.str t) (.int .i64 j) = some (.int .u8 c.toNat) := by simp [q_ix, h]
theorem h_impl_parser_byte {q : PV} {i' nd' : Int} (hb : st b = some (.cells (pC t om i' q nd'))) (j : Nat) : HCalls prog n_impl_parser_byte [.ptr b 0, .int .i64 j] st (Just (.int .i64 (byteP t j)) st) := by
  apply c_impl_parser_byte
  unfold b_impl_parser_byte
  generalize hv : byteP t j = v
  try simp [q_load_p hb, pC]
  refine br_dec (fun h => ?_) (fun h => ?_)
  · exact Just.int (by rw [← hv, byteP_none (List.getElem?_eq_none (by omega))])
  · have hj : j < t.length := by omega
    try simp [q_load_p hb, pC]
    rw [q_ix_at (List.getElem?_eq_getElem hj)]
    try simp
    rw [wrap64 (by omega) (by have := t[j].toNat_lt; omega)]
    exact Just.int (by rw [← hv, byteP_some (List.getElem?_eq_getElem hj)])
theorem blank_signs (c : UInt8) : decide (0 ≤ Lib.indexByte [32, 9, 10, 13] c) = blank c := by
  rw [Bool.eq_iff_iff, decide_eq_true_eq, (indexByte_neg c [32, 9, 10, 13]).1]
  unfold blank
  try simp [or_assoc]
theorem h_impl_parser_next (hp : PS st0 st b t om sc i nd) (ht : t.length ≤ 1000000) : HCalls prog n_impl_parser_next [.ptr b 0] st (PG st0 b t om sc (PV.int .i64) (.ok (byteP t (runE blank t i)) (runE blank t i) nd)) := by
  apply c_impl_parser_next
  unfold b_impl_parser_next
  intro k hk _
  refine hFix_rec (σ := St × Nat) (fun z => t.length - z.2) (fun _ => []) (fun z => z.1) (fun z => PS st0 z.1 b t om sc z.2 nd ∧ runE blank t z.2 = runE blank t i) ?_ (st, i) ⟨hp, rfl⟩
  rintro ⟨s, j⟩ ⟨h, he⟩ ih
  simp only at h he ih
  obtain ⟨q, hb, hq⟩ := h.ex
  have hle := h.le
  have fin : runE blank t j = j → k [] s := fun e => by
    refine hk _ _ ?_
    try simp [q_load_p hb, pC]
    refine callK_just (h_impl_parser_byte hb j) ?_
    rw [← he, e]
    exact PRes.ret h rfl
  intro k1 hk1 _
  try simp [q_load_p hb, pC]
  refine br_dec (fun hj => ?_) (fun hj => ?_)
  · have hj' : j < t.length := by omega
    try simp [q_load_p hb, pC]
    rw [q_ix_at (List.getElem?_eq_getElem hj')]
    simp only [qb_some]
    refine callK_just (h_strings_IndexByte _ _ _) ?_
    try simp
    refine hk1 _ _ ?_
    simp only [List.getD_cons_zero, cb]
    rw [blank_signs]
    refine br_of (fun hB => ?_) (fun hB => fin (runE_stop fun c hc => by rw [List.getElem?_eq_getElem hj'] at hc; cases hc; exact hB))
    try simp [q_load_p hb, pC]
    rw [wrap64 (by omega) (by omega)]
    refine e_setAt hb ?_
    refine ih (upd s b (.cells (pC t om ((j : Int) + 1) q nd)), j + 1) (by simp only; omega) ⟨?_, ?_⟩
    · have := h.move hb (i' := j + 1) (nd' := nd) (by omega) h.few
      simpa using this
    · rw [← he, ← runE_step (List.getElem?_eq_getElem hj') hB]
  · refine hk1 _ _ ?_
    simp only [List.getD_cons_zero, cb, br]
    exact fin (runE_stop fun c hc => by rw [List.getElem?_eq_none (by omega)] at hc; cases hc)
theorem h_impl_parser_node (hp : PS st0 st b t om sc i nd) (p : Int) : HCalls prog n_impl_parser_node [.ptr b 0, .int .i64 p] st (PG st0 b t om sc (fun _ => PV.tup []) (pNode nd p i)) := by
  apply c_impl_parser_node
  unfold b_impl_parser_node
  obtain ⟨q, hb, hq⟩ := hp.ex
  have hfew := hp.few
  obtain ⟨r, hr⟩ : ∃ r, pNode nd p i = r := ⟨_, rfl⟩
  rw [hr]
  unfold pNode at hr
  try simp [q_load_p hb, pC]
  rw [wrap64 (by omega) (by omega)]
  refine e_setNd hb ?_
  have e := upd_same st b (.cells (pC t om i q ((nd : Int) + 1)))
  have hm : nd + 1 ≤ 150 → PS st0 (upd st b (.cells (pC t om i q ((nd : Int) + 1)))) b t om sc i (nd + 1) := fun h => by simpa using hp.move hb (i' := i) (nd' := nd + 1) hp.le h
  have hsub := hp.sub.put (b := b) (o := .cells (pC t om i q ((nd : Int) + 1))) hp.own
  generalize upd st b (.cells (pC t om i q ((nd : Int) + 1))) = s at e hm hsub
  try simp [q_load_p e, pC]
  refine br_dec (fun h => ?_) (fun h => ?_)
  · rw [if_pos (by omega)] at hr
    subst hr
    refine callK_stops (h_impl_stop 11 p (by decide) _) (fun h => by cases h) fun _ => ?_
    exact PRes.pan hsub
  · rw [if_neg (by omega)] at hr
    subst hr
    exact PRes.ret (hm (by omega)) rfl
theorem h_impl_parser_expect (hp : PS st0 st b t om sc i nd) (ht : t.length ≤ 1000000) (c : UInt8) : HCalls prog n_impl_parser_expect [.ptr b 0, .int .i64 (c.toNat : Int)] st (PG st0 b t om sc (fun _ => PV.tup []) (pExpect t c i nd)) := by
  apply c_impl_parser_expect
  unfold b_impl_parser_expect
  refine callK_goes (β := Unit) (h_impl_parser_next hp ht) fun s h => ?_
  obtain ⟨q, hb, hq⟩ := h.ex
  have hle := h.le
  obtain ⟨r, hr⟩ : ∃ r, pExpect t c i nd = r := ⟨_, rfl⟩
  rw [hr]
  unfold pExpect at hr
  simp only [q_bin_int, q_neq, qb_some]
  intro k hk _
  simp only [cb]
  refine br_of (fun hc => ?_) (fun hc => ?_)
  · have hc' : ¬ byteP t (runE blank t i) = c.toNat := by simpa using hc
    rw [if_neg (fun e => hc' ((byteP_eq c).2 e))] at hr
    subst hr
    try simp [q_load_p hb, pC]
    refine callK_stops (h_impl_stop 4 _ (by decide) _) (fun h => by cases h) fun _ => ?_
    exact PRes.pan h.sub
  · have hc' : byteP t (runE blank t i) = c.toNat := by simpa using hc
    have hs := (byteP_eq c).1 hc'
    rw [if_pos hs] at hr
    subst hr
    have hlt := (List.getElem?_eq_some_iff.1 hs).1
    refine hk _ _ ?_
    try simp [q_load_p hb, pC]
    rw [wrap64 (by omega) (by omega)]
    refine e_setAt hb ?_
    refine PRes.ret ?_ rfl
    have := h.move hb (i' := runE blank t i + 1) (nd' := nd) (by omega) h.few
    simpa using this
theorem h_impl_parser_run (hp : PS st0 st b t om sc i nd) (ht : t.length ≤ 1000000) (f : UInt8 → Bool) (sg : List UInt8) (hf : ∀ c, decide (0 ≤ Lib.indexByte sg c) = f c) : HCalls prog n_impl_parser_run [.ptr b 0, .str sg] st (PG st0 b t om sc PV.str (.ok (cut t i (runE f t i)) (runE f t i) nd)) := by
  apply c_impl_parser_run
  unfold b_impl_parser_run
  obtain ⟨q0, hb0, hq0⟩ := hp.ex
  have hle0 := hp.le
  try simp [q_load_p hb0, pC]
  intro k hk _
  refine hFix_rec (σ := St × Nat) (fun z => t.length - z.2) (fun _ => []) (fun z => z.1) (fun z => PS st0 z.1 b t om sc z.2 nd ∧ runE f t z.2 = runE f t i) ?_ (st, i) ⟨hp, rfl⟩
  rintro ⟨s, j⟩ ⟨h, he⟩ ih
  simp only at h he ih
  obtain ⟨q, hb, hq⟩ := h.ex
  have hle := h.le
  have fin : runE f t j = j → k [] s := fun e => by
    refine hk _ _ ?_
    have hij : i ≤ j := by have := runE_ge f t i; omega
    try simp [q_load_p hb, pC, q_sliceS, q_slice, optI]
    rw [if_pos (by omega)]
    try simp
    rw [← he, e]
    exact PRes.ret h rfl
  intro k1 hk1 _
  try simp [q_load_p hb, pC]
  refine br_dec (fun hj => ?_) (fun hj => ?_)
  · have hj' : j < t.length := by omega
    try simp [q_load_p hb, pC]
    rw [q_ix_at (List.getElem?_eq_getElem hj')]
    simp only [qb_some]
    refine callK_just (h_strings_IndexByte _ _ _) ?_
    try simp
    refine hk1 _ _ ?_
    simp only [List.getD_cons_zero, cb]
    rw [hf]
    refine br_of (fun hB => ?_) (fun hB => fin (runE_stop fun c hc => by rw [List.getElem?_eq_getElem hj'] at hc; cases hc; exact hB))
    try simp [q_load_p hb, pC]
    rw [wrap64 (by omega) (by omega)]
    refine e_setAt hb ?_
    refine ih (upd s b (.cells (pC t om ((j : Int) + 1) q nd)), j + 1) (by simp only; omega) ⟨?_, ?_⟩
    · have := h.move hb (i' := j + 1) (nd' := nd) (by omega) h.few
      simpa using this
    · rw [← he, ← runE_step (List.getElem?_eq_getElem hj') hB]
  · refine hk1 _ _ ?_
    simp only [List.getD_cons_zero, cb, br]
    exact fin (runE_stop fun c hc => by rw [List.getElem?_eq_none (by omega)] at hc; cases hc)
end Go.H.Tryz
/- Contracts: a loop over slices.Backward; the program's parser: names in scope, binders. -/
set_option linter.unusedVariables false
set_option linter.unusedSimpArgs false
namespace Go.H.Tryz
open Go Go.H

theorem h_slices_Backward_string (q : PV) (hq : q.isJunk = false) (st : St) : HCalls prog n_slices_Backward_string_string [q] st (Just (.fn (.func n_slices_Backward_string_string_1) [] [.ref q.cells]) st) := by
  apply c_slices_Backward_string_string
  unfold b_slices_Backward_string_string
  exact e_box_ref hq (Just.ret (Sub.refl _))
theorem e_call_yield (P : Program) (st : St) (l : Nat) (xs : List PV) (K Kp : PV → St → Prop) : e_call P st (.fn (.yield l) [] []) xs K Kp = callY P l xs st K Kp := rfl
theorem orJ_of {Qj : List (HExit × (St → Prop))} {f g : HExit × (St → Prop) → Prop} (h : orJ Qj f) (hfg : ∀ e, f e → g e) : orJ Qj g := by
  induction Qj with
  | nil => exact h
  | cons e r ih => exact h.elim (fun h => .inl (hfg _ h)) (fun h => .inr (ih h))
theorem takeV_one {q : PV} (h : q.isAgg = false) (r : List PV) : takeV false 1 (q :: r) = some q := by
  cases q <;> first | rfl | (simp [PV.isAgg] at h)
/-- A loop over slices.Backward of a row that nobody turns. -/
theorem range_back {q : PV} {xs : List PV} {s0 : St} {round : List PV → St → (St → (St → Prop) → Prop) → (HExit → St → Prop) → Prop} {Qn : St → Prop} {Qj : List (HExit × (St → Prop))} (I : Nat → St → Prop) (J : HExit → St → Prop) (hl : xs.length ≤ 1000000) (hcell : ∀ x ∈ xs, x.cells = [x] ∧ x.isAgg = false) (hqc : q.isAgg = false)
    (hread : ∀ k s, I k s → Reads s 1 xs q) (hIu : ∀ l env r k s, s0 l = none → I k s → I k (upd s l (.loop env r))) (hJu : ∀ l env r e s, s0 l = none → J e s → J e (upd s l (.loop env r))) (h0 : I xs.length s0)
    (hr : ∀ l env r1 r2 k x s X, s0 l = none → xs[k]? = some x → s l = some (.loop env r1) → I (k + 1) s → (∀ s', s' l = some (.loop env r2) → I k s' → X .normal s') → (∀ e s', isJump e = true → s' l = some (.loop env r2) → J e s' → X e s') → round [.int .i64 k, x] s (beginJ l env r1 r2) X)
    (hn : ∀ l env r s, s0 l = none → s l = some (.loop env r) → I 0 s → Qn (del s l)) (hj : ∀ l env r e s, s0 l = none → s l = some (.loop env r) → J e s → orJ Qj (fun e' => e'.1 = e ∧ e'.2 (del s l))) :
    hRange prog (.fn (.func n_slices_Backward_string_string_1) [] [.ref [q]]) s0 round Qn Qj := by
  intro l env r1 r2 r3 hl0 hy
  show HCalls prog n_slices_Backward_string_string_1 [.fn (.yield l) [] [], .ref [q]] _ _
  apply c_slices_Backward_string_string_1
  unfold b_slices_Backward_string_string_1
  have hq2 := takeV_one hqc
  have hlen : q_len q = some (.int .i64 xs.length) := (hread _ _ h0).len
  try simp [hq2, hlen]
  rw [wrap64 (by omega) (by omega)]
  refine hFix_rec (σ := Nat × St) (fun z => z.1) (fun z => [.int .i64 ((z.1 : Int) - 1)]) (fun z => z.2) (fun z => z.2 l = some (.loop env r1) ∧ I z.1 z.2 ∧ z.1 ≤ xs.length) ?_ (xs.length, upd s0 l (.loop env r1)) ⟨upd_same _ _ _, hIu l _ _ _ _ hl0 h0, Nat.le_refl _⟩
  rintro ⟨k, s⟩ ⟨hs, hI, hk⟩ ih
  simp only at hs hI hk ih
  try simp
  refine br_dec (fun hc => ?_) (fun hc => ?_)
  · obtain ⟨k, rfl⟩ : ∃ k', k = k' + 1 := ⟨k - 1, by omega⟩
    have hkl : k < xs.length := by omega
    have hx := List.getElem?_eq_getElem hkl
    have e1 : ((k + 1 : Nat) : Int) - 1 = (k : Int) := by omega
    rw [e1]
    obtain ⟨a, ha, hload⟩ := (hread _ _ hI).get k _ .i64 hx
    rw [ha]
    simp only [qb_some]
    rw [hload]
    obtain ⟨c1, c2⟩ := hcell _ (List.getElem_mem hkl)
    have hone : takeV false 1 xs[k].cells = some xs[k] := by
      rw [c1]
      revert c2
      cases xs[k] <;> intro c2 <;> first | rfl | (simp [PV.isAgg] at c2)
    rw [hone]
    simp only [qb_some]
    rw [e_call_yield]
    refine hy _ _ _ _ hs (hr l env r1 r2 k _ _ _ hl0 hx hs hI (fun s' hl' h' => ?_) (fun e s' he hl' h' => ?_))
    · refine ⟨hl', ?_⟩
      try simp
      rw [wrap64 (by omega) (by omega)]
      exact ih (k, upd s' l (.loop env r1)) (by simp only; omega) ⟨upd_same _ _ _, hIu l _ _ _ _ hl0 h', by omega⟩
    · have key : retR (fun r s => match r with | .ret _ => (s l = some (.loop env r1) ∧ Qn (del s l)) ∨ orJ Qj (fun e => s l = some (.loop env (r3 e.1)) ∧ e.2 (del s l)) | .pan _ => False) (.tup []) (upd s' l (.loop env (r3 e))) := by
        refine retR_same (.inr ?_)
        exact orJ_of (hj l env (r3 e) e _ hl0 (upd_same _ _ _) (hJu l _ _ e s' hl0 h')) fun e' ⟨h1, h2⟩ => ⟨by rw [h1]; exact upd_same _ _ _, h2⟩
      refine ⟨hl', ?_⟩
      cases e with
      | normal => cases he
      | pan p => cases he
      | _ => simp; exact key
  · obtain rfl : k = 0 := by omega
    refine retR_same (.inl ⟨hs, hn l env r1 _ hl0 hs hI⟩)
variable {st0 st : St} {b : Nat} {t : List UInt8} {om : Bool} {sc : List (List UInt8)} {i nd : Nat}
def boundP (sc : List (List UInt8)) (w : List UInt8) : Int := match boundN sc w with | some n => n | none => -1
theorem boundN_none {sc : List (List UInt8)} {w : List UInt8} (h : ∀ j : Nat, sc[j]? ≠ some w) : boundN sc w = none := by
  unfold boundN
  rw [List.idxOf?_eq_none_iff]
  intro hm
  obtain ⟨j, hj⟩ := List.mem_iff_getElem?.1 (List.mem_reverse.1 hm)
  exact h j hj
theorem boundN_some {sc : List (List UInt8)} {w : List UInt8} {k : Nat} (h : sc[k]? = some w) (hl : ∀ j : Nat, k < j → sc[j]? ≠ some w) : boundN sc w = some (sc.length - 1 - k) := by
  have hk := (List.getElem?_eq_some_iff.1 h).1
  unfold boundN
  rw [List.idxOf?_eq_some_iff]
  refine ⟨by rw [List.length_reverse]; omega, ?_, ?_⟩
  · have h1 : sc.reverse[sc.length - 1 - k]? = some w := by
      rw [List.getElem?_reverse (by omega), ← h]
      congr 1
      omega
    have := (List.getElem?_eq_some_iff.1 h1).2
    simpa using this
  · intro j hj
    have hjl : j < sc.length := by omega
    intro e
    have h1 : sc.reverse[j]? = some w := by
      rw [List.getElem?_eq_getElem (by rw [List.length_reverse]; omega)]
      simpa using e
    rw [List.getElem?_reverse (by omega)] at h1
    exact hl _ (by omega) h1
theorem h_impl_parser_bound (hp : PS st0 st b t om sc i nd) (w : List UInt8) : HCalls prog n_impl_parser_bound [.ptr b 0, .str w] st (PG st0 b t om sc (PV.int .i64) (.ok (boundP sc w) i nd)) := by
  apply c_impl_parser_bound
  unfold b_impl_parser_bound
  refine e_box_ref rfl ?_
  refine e_box_ref rfl ?_
  intro v hv
  obtain ⟨q, hb, hq⟩ := hp.ex
  have hvb : b ≠ v := fun e => by rw [e, hv] at hb; cases hb
  have e1 := upd_same st v (.cells [.int .i64 0])
  have hs1 : Sub st (upd st v (.cells [.int .i64 0])) := (Sub.refl st).put hv
  have hb1 : upd st v (.cells [.int .i64 0]) b = some (.cells (pC t om i q nd)) := by rw [upd_ne _ _ hvb]; exact hb
  have hdeep := hp.deep
  have hfew := hp.few
  generalize hS : upd st v (.cells [.int .i64 0]) = s at e1 hs1 hb1
  obtain ⟨hrd, hj1, hj2⟩ := hp.scope hb
  have hagg : q.isAgg = false := by rcases hq with ⟨_, rfl⟩ | ⟨_, _, _, _, rfl, _⟩ <;> rfl
  try simp [q_load_p hb1, pC, takeV_one hagg]
  refine callK_just (h_slices_Backward_string q hj1 _) ?_
  rw [hj2]
  obtain ⟨r, hr⟩ : ∃ r, boundP sc w = r := ⟨_, rfl⟩
  rw [hr]
  refine range_back (I := fun k s' => Sub st s' ∧ s' v = some (.cells [.int .i64 0]) ∧ ∀ j, k ≤ j → sc[j]? ≠ some w) (J := fun e s' => e = .ret ∧ Sub st s' ∧ s' v = some (.cells [.int .i64 r])) (xs := sc.map PV.str) (by simp; omega) (fun x hx => ?_) hagg ?_ ?_ ?_ ⟨hs1, e1, fun j hj => ?_⟩ ?_ ?_ ?_
  · obtain ⟨y, _, rfl⟩ := List.mem_map.1 hx
    exact ⟨rfl, rfl⟩
  · rintro k s' ⟨h1, _, _⟩
    exact ((hp.grow h1).scope (h1 _ _ hb)).1
  · rintro l env r k s' hl ⟨h1, h2, h3⟩
    have hlv : v ≠ l := fun e => by rw [e, hl] at e1; cases e1
    exact ⟨h1.put (hs1.isNone hl), by rw [upd_ne _ _ hlv]; exact h2, h3⟩
  · rintro l env r e s' hl ⟨h1, h2, h3⟩
    have hlv : v ≠ l := fun e => by rw [e, hl] at e1; cases e1
    exact ⟨h1, h2.put (hs1.isNone hl), by rw [upd_ne _ _ hlv]; exact h3⟩
  · rw [List.length_map] at hj
    rw [List.getElem?_eq_none (by omega)]
    try simp
  · rintro l env r1 r2 k x s' X hl hx hsl ⟨h1, h2, h3⟩ hnorm hjump
    have hlv : v ≠ l := fun e => by rw [e, hl] at e1; cases e1
    have h1 := h1.put (o := .loop env r2) (hs1.isNone hl)
    have h2 : upd s' l (.loop env r2) v = some (.cells [.int .i64 0]) := by rw [upd_ne _ _ hlv]; exact h2
    rw [List.getElem?_map] at hx
    cases hy : sc[k]? with
    | none => rw [hy] at hx; cases hx
    | some y =>
    rw [hy] at hx
    cases hx
    have hkl := (List.getElem?_eq_some_iff.1 hy).1
    have hsl2 := upd_same s' l (.loop env r2)
    try simp
    refine ⟨hsl, ?_⟩
    generalize upd s' l (.loop env r2) = s2 at h1 h2 hsl2
    refine br_dec (fun e => ?_) (fun e => ?_)
    · subst e
      have hb2 := h1 _ _ hb
      try simp [q_load_p hb2, pC, takeV_one hagg]
      rw [((hp.grow h1).scope hb2).1.len]
      try simp
      rw [wrap64 (n := (sc.length : Int) - 1) (by omega) (by omega), wrap64 (by omega) (by omega)]
      rw [e_store_p _ _ _ _ _ _ _ h2]
      try simp
      refine hjump _ _ rfl (by rw [upd_ne _ _ (Ne.symm hlv)]; exact hsl2) ⟨rfl, h1.put hv, ?_⟩
      rw [upd_same]
      have hb3 := boundN_some hy (fun j hj => h3 j (by omega))
      have : r = (sc.length : Int) - 1 - k := by rw [← hr]; unfold boundP; rw [hb3]; simp only; omega
      rw [this]
    · refine hnorm _ hsl2 ⟨h1, h2, fun j hj => ?_⟩
      by_cases ej : j = k
      · rw [ej, hy]; intro h; exact e (by simpa using h)
      · exact h3 j (by omega)
  · rintro l env r' s' hl hsl ⟨h1, h2, h3⟩
    have hlv : v ≠ l := fun e => by rw [e, hl] at e1; cases e1
    have h1 := h1.del' (hs1.isNone hl)
    have h2 : del s' l v = some (.cells [.int .i64 0]) := by rw [del_ne _ hlv]; exact h2
    rw [e_store_p _ _ _ _ _ _ _ h2]
    try simp
    try simp [q_load_p (upd_same _ _ _)]
    refine PRes.ret (hp.grow (h1.put hv)) ?_
    rw [← hr]
    unfold boundP
    rw [boundN_none (fun j => h3 j (Nat.zero_le _))]
  · rintro l env r' e s' hl hsl ⟨rfl, h1, h2⟩
    have hlv : v ≠ l := fun e => by rw [e, hl] at e1; cases e1
    have h1 := h1.del' (hs1.isNone hl)
    have h2 : del s' l v = some (.cells [.int .i64 r]) := by rw [del_ne _ hlv]; exact h2
    refine .inl ⟨rfl, ?_⟩
    try simp [q_load_p h2]
    exact PRes.ret (hp.grow h1) rfl
end Go.H.Tryz
/- Contracts: the program's parser: binders, heads. -/
set_option linter.unusedVariables false
set_option linter.unusedSimpArgs false
namespace Go.H.Tryz
open Go Go.H

variable {st0 st : St} {b : Nat} {t : List UInt8} {om : Bool} {sc : List (List UInt8)} {i nd : Nat}
theorem wrapU8 (c : UInt8) : IntKind.wrap .u8 (c.toNat : Int) = c.toNat := by
  have := c.toNat_lt
  exact IntWalk.u8_in _ ⟨by omega, by omega⟩
theorem word_run (c : UInt8) : decide (0 ≤ Lib.indexByte wordSigns c) = wordC c := by
  rw [Bool.eq_iff_iff, decide_eq_true_eq, (indexByte_neg c wordSigns).1]
  have := word_signs c
  unfold wordC
  rw [← this]
  try simp
theorem h_impl_constant0 (w : List UInt8) (st : St) : HCalls prog n_impl_constant [.str w, .sl 0 true []] st (Just (tree (.mk 6 0 w [])) st) := by
  apply c_impl_constant
  unfold b_impl_constant
  intro b2 hb2
  rw [show q_struct [PV.int IntKind.i64 0, PV.int IntKind.i64 0, PV.str [], PV.sl 0 true []] [(0, 1, PV.int IntKind.i64 6), (2, 1, PV.str w), (3, 1, PV.sl 0 true [])] = some (.agg [.int .i64 6, .int .i64 0, .str w, .sl 0 true []]) from rfl]
  try simp
  try simp [q_load_p (upd_same _ _ _)]
  exact Just.tree (t := .mk 6 0 w []) rfl (.inr rfl) rfl rfl rfl ((Sub.refl st).put hb2)
theorem look_at (t : List UInt8) (j : Nat) : (t[j]? = none ∧ byteP t j = -1 ∧ headAt t j = false) ∨ ∃ c : UInt8, t[j]? = some c ∧ byteP t j = c.toNat ∧ headAt t j = letter c := by
  unfold byteP headAt
  cases h : t[j]? with
  | none => exact .inl ⟨rfl, rfl, rfl⟩
  | some c => exact .inr ⟨c, rfl, rfl, rfl⟩
theorem wordAt_head {t : List UInt8} {j : Nat} : wordAt t j = cut t j (runE wordC t j) := rfl
theorem h_impl_parser_binder (hp : PS st0 st b t om sc i nd) (ht : t.length ≤ 1000000) : HCalls prog n_impl_parser_binder [.ptr b 0] st (PG st0 b t om sc PV.str (pBinder t i nd)) := by
  apply c_impl_parser_binder
  unfold b_impl_parser_binder
  obtain ⟨r, hr⟩ : ∃ r, pBinder t i nd = r := ⟨_, rfl⟩
  rw [hr]
  unfold pBinder at hr
  refine callK_goes (β := Unit) (h_impl_parser_next hp ht) fun s h => ?_
  obtain ⟨q, hb, hq⟩ := h.ex
  try simp [q_load_p hb, pC]
  generalize hj : runE blank t i = j at h hb hr
  have bad : ∀ s', Sub st0 s' → r = .er 4 j → panR (PG st0 b t om sc PV.str r) (halt ty_impl_halt 4 j) s' := fun s' hs e => by rw [e]; exact PRes.pan hs
  intro k hk _
  have no : headAt t j = false → k [.bool true] s := fun h0 => by
    rw [if_neg (by rw [h0]; simp)] at hr
    refine hk _ _ ?_
    try simp
    exact callK_stops (h_impl_stop 4 _ (by decide) _) (fun h => by cases h) fun _ => bad _ h.sub hr.symm
  have yes : headAt t j = true → k [.bool false] s := fun h1 => by
    refine hk _ _ ?_
    try simp
    refine callK_goes (β := Unit) (h_impl_parser_run h ht wordC wordSigns word_run) fun s1 hs1 => ?_
    refine callK_just (h_impl_wordOK _ _) ?_
    simp only [h1, true_and] at hr
    try simp
    show br _ _ _
    rw [wordAt_head] at hr
    refine br_of (fun hw' => ?_) (fun hw' => ?_)
    · refine br_dec (fun e => ?_) (fun e => ?_)
      · rw [if_neg (fun h => h.2.1 e)] at hr
        exact callK_stops (h_impl_stop 4 _ (by decide) _) (fun h => by cases h) fun _ => bad _ hs1.sub hr.symm
      · refine br_dec (fun e2 => ?_) (fun e2 => ?_)
        · rw [if_neg (fun h => h.2.2 e2)] at hr
          exact callK_stops (h_impl_stop 4 _ (by decide) _) (fun h => by cases h) fun _ => bad _ hs1.sub hr.symm
        · rw [if_pos ⟨hw', e, e2⟩] at hr
          subst hr
          exact PRes.ret hs1 rfl
    · rw [if_neg (by rw [hw']; simp)] at hr
      exact callK_stops (h_impl_stop 4 _ (by decide) _) (fun h => by cases h) fun _ => bad _ hs1.sub hr.symm
  rcases look_at t j with ⟨e0, e1, e2⟩ | ⟨c, e0, e1, e2⟩
  · rw [e1]
    try simp
    exact no e2
  · rw [e1]
    have hc := c.toNat_lt
    have : decide ((c.toNat : Int) = -1) = false := decide_eq_false (by omega)
    rw [this]
    try simp
    rw [wrapU8 c]
    refine callK_just (h_impl_isHead c _) ?_
    try simp
    cases hl : letter c with
    | true => simpa using yes (by rw [e2]; exact hl)
    | false => simpa using no (by rw [e2]; exact hl)
theorem h_impl_parser_under {r : PR Tr} (hp : PS st0 st b t om sc i nd) (hd : sc.length + 1 ≤ 100 + nd) (w : List UInt8) (g : FuncId) (hg : ∀ st1 s, PS st1 s b t om (sc ++ [w]) i nd → HCalls prog g [.ptr b 0] s (PG st1 b t om (sc ++ [w]) tree r)) :
    HCalls prog n_impl_parser_under [.ptr b 0, .str w, .fn (.func g) [.ptr b 0] []] st (PG st0 b t om sc tree r) := by
  apply c_impl_parser_under
  unfold b_impl_parser_under
  intro v hv
  have hp1 := hp.beside (.cells [.int .i64 0, .int .i64 0, .str [], .sl 0 true []]) hv
  have hv0 := hp.sub.isNone hv
  obtain ⟨q, hb, hq⟩ := hp1.ex
  have hagg : q.isAgg = false := by rcases hq with ⟨_, rfl⟩ | ⟨_, _, _, _, rfl, _⟩ <;> rfl
  try simp [q_load_p hb, pC, takeV_one hagg]
  refine hp1.push hb hd fun q' s' hq' hb' h2 => ?_
  refine e_setSc hb' hq' ?_
  have hS := hg _ _ h2
  generalize upd s' b (.cells (pC t om i q' nd)) = s2 at hS h2
  rcases hr : r with ⟨k, i', nd'⟩ | ⟨c, p⟩
  · rw [hr] at hS
    refine callK_goes (β := Unit) hS fun s3 h3 => ?_
    intro v7 hv7
    have h4 := h3.beside (.cells [.int .i64 0, .int .i64 0, .str [], .sl 0 true []]) hv7
    try simp
    have e7 := upd_same s3 v7 (.cells (tree k).cells)
    obtain ⟨q4, hb4, hq4⟩ := (h3.beside (.cells (tree k).cells) hv7).ex
    have h5 := h3.beside (.cells (tree k).cells) hv7
    have hv70 := h3.sub.isNone hv7
    generalize hS3 : upd s3 v7 (.cells (tree k).cells) = s4 at e7 hb4 h5 hq4 ⊢
    have hagg4 : q4.isAgg = false := by rcases hq4 with ⟨_, rfl⟩ | ⟨_, _, _, _, rfl, _⟩ <;> rfl
    obtain ⟨hlen, q5, hsl, hq5, h6⟩ := h5.pop hb4
    try simp [q_load_p hb4, pC, takeV_one hagg4, hlen]
    have hdeep := h5.deep
    have hfew := h5.few
    rw [List.length_append, List.length_singleton] at hdeep
    rw [wrap64 (by omega) (by omega)]
    rw [hsl]
    try simp
    refine e_setSc hb4 hq5 ?_
    have e7b := h6.sub v7 _ (upd_same _ _ _)
    generalize upd s4 b (.cells (pC t om i' q5 nd')) = s5 at h6 e7b
    try simp [q_load_p e7b]
    have e6 := h6.sub v _ (by rw [upd_ne _ _ (fun e => by rw [e, upd_same] at hv70; cases hv70)]; exact upd_same _ _ _)
    rw [e_store_p _ _ _ _ _ _ _ e6]
    try simp
    try simp [q_load_p (upd_same _ _ _)]
    exact PRes.ret (((h6.below ((Sub.refl _).put hv70)).turn (upd_same _ _ _) _).below (by rw [upd_upd]; exact (Sub.refl _).put hv0)) rfl
  · rw [hr] at hS
    exact callK_dies (β := Tr) hS ((Sub.refl _).put hv0)
end Go.H.Tryz
/- Contracts: the program's parser: heads, arguments, terms. -/
set_option linter.unusedVariables false
set_option linter.unusedSimpArgs false
namespace Go.H.Tryz
open Go Go.H

variable {st0 st : St} {b : Nat} {t : List UInt8} {om : Bool} {sc : List (List UInt8)} {i nd : Nat}
/-- What is known of holes' texts. -/
def HoleOK (b : Nat) (t : List UInt8) (om : Bool) : Prop := ∀ st0 st sc j nd, PS st0 st b t om sc j nd → t[j]? = some 63 → HCalls prog n_impl_parser_hole [.ptr b 0] st (PG st0 b t om sc tree (pHole t j nd))
theorem dies {α : Type} {val : α → PV} {r : PR α} {c p : Int} {s : St} {K : PV → St → Prop} (hs : Sub st0 s) (hr : r = .er c p) (hc : c ≠ 0) : callK prog n_impl_stop [.int .i64 c, .int .i64 p] s K (panR (PG st0 b t om sc val r)) := by
  subst hr
  exact callK_stops (h_impl_stop c p hc _) (fun h => absurd h hc) fun _ => PRes.pan hs
theorem h_impl_parser_head (hh : HoleOK b t om) (hp : PS st0 st b t om sc i nd) (ht : t.length ≤ 1000000) : HCalls prog n_impl_parser_head [.ptr b 0] st (PG st0 b t om sc tree (pHead t sc i nd)) := by
  apply c_impl_parser_head
  unfold b_impl_parser_head
  obtain ⟨r, hr⟩ : ∃ r, pHead t sc i nd = r := ⟨_, rfl⟩
  rw [hr]
  unfold pHead at hr
  intro v hv
  have hp1 := hp.beside (.cells [.int .i64 0, .int .i64 0, .str [], .sl 0 true []]) hv
  have hv0 := hp.sub.isNone hv
  refine callK_goes (β := Unit) (h_impl_parser_next hp1 ht) fun s h => ?_
  obtain ⟨q, hb, hq⟩ := h.ex
  try simp [q_load_p hb, pC]
  generalize hj : runE blank t i = j at h hb hr
  simp only at hr
  have hsub1 : Sub st0 (upd st0 v (.cells [.int .i64 0, .int .i64 0, .str [], .sl 0 true []])) := (Sub.refl _).put hv0
  -- the value is handed back through the variable
  have out : ∀ (k : Tr) (i' nd' : Nat) (s' : St), PS (upd st0 v (.cells [.int .i64 0, .int .i64 0, .str [], .sl 0 true []])) s' b t om sc i' nd' → r = .ok k i' nd' →
      e_store s' 4 (.ptr v 0) (tree k) fun st => qb (q_load st true 4 (.ptr v 0)) fun r_1 => retR (PG st0 b t om sc tree r) r_1 st := fun k i' nd' s' h' e => by
    subst e
    have ev := h'.sub v _ (upd_same _ _ _)
    rw [e_store_p _ _ _ _ _ _ _ ev]
    try simp
    try simp [q_load_p (upd_same _ _ _)]
    exact PRes.ret ((h'.turn (upd_same _ _ _) _).below (by rw [upd_upd]; exact (Sub.refl _).put hv0)) rfl
  intro k hk _
  -- a word begins here
  have word : ¬ t[j]? = some 63 → headAt t j = true → k [] s := fun hq0 h1 => by
    rw [if_neg hq0, if_neg (by rw [h1]; simp)] at hr
    refine hk _ _ ?_
    refine callK_goes (β := Unit) (h_impl_parser_run h ht wordC wordSigns word_run) fun s1 hs1 => ?_
    have ew : cut t j (runE wordC t j) = wordAt t j := rfl
    rw [ew]
    generalize hw : wordAt t j = w at hr
    intro k1 hk1 _
    have bad : (w = wType ∨ w = wOmit ∨ w.length > 40) → k1 [.bool true] s1 := fun hc => by
      rw [if_pos hc] at hr
      refine hk1 _ _ ?_
      try simp
      exact dies (hsub1.trans hs1.sub) hr.symm (by decide)
    try simp
    refine br_dec (fun e => bad (.inl e)) (fun e => ?_)
    refine br_dec (fun e2 => bad (.inr (.inl e2))) (fun e2 => ?_)
    by_cases e3 : w.length > 40
    · rw [decide_eq_true (by omega)]
      exact bad (.inr (.inr e3))
    · rw [decide_eq_false (by omega)]
      rw [if_neg (fun h => h.elim e fun h => h.elim e2 e3)] at hr
      refine hk1 _ _ ?_
      try simp
      have hn := h_impl_parser_node hs1 (j : Int)
      unfold pNode at hn
      by_cases e4 : nd + 1 > 150
      · rw [if_pos e4] at hn hr
        subst hr
        exact callK_dies (β := Tr) hn hsub1
      · rw [if_neg e4] at hn hr
        refine callK_goes (β := Unit) hn fun s2 hs2 => ?_
        refine callK_goes (β := Unit) (h_impl_parser_bound hs2 w) fun s3 hs3 => ?_
        intro k2 hk2 _
        try simp
        unfold boundP at hk2 ⊢
        cases hbd : boundN sc w with
        | some n =>
          rw [hbd] at hr hk2
          simp only at hr hk2 ⊢
          refine br_dec (fun h => by omega) (fun _ => ?_)
          refine hk2 _ _ ?_
          intro k3 hk3 _
          try simp
          refine hk3 _ _ ?_
          try simp
          refine callK_just (h_impl_variable0 n _) ?_
          exact out (.mk 5 n [] []) _ _ s3 hs3 hr.symm
        | none =>
          rw [hbd] at hr hk2
          simp only at hr hk2 ⊢
          refine br_dec (fun _ => ?_) (fun h => by omega)
          refine callK_just (h_impl_NameOK w _) ?_
          try simp
          refine hk2 _ _ ?_
          intro k3 hk3 _
          try simp
          refine br_of (fun hnm => ?_) (fun hnm => ?_)
          · rw [if_pos hnm] at hr
            refine hk3 _ _ ?_
            try simp
            refine callK_just (h_impl_constant0 w _) ?_
            exact out (.mk 6 0 w []) _ _ s3 hs3 hr.symm
          · rw [if_neg (by rw [hnm]; simp)] at hr
            exact dies (hsub1.trans hs3.sub) hr.symm (by decide)
  have none' : ¬ t[j]? = some 63 → headAt t j = false → r = .er 4 j := fun h1 h2 => by
    rw [if_neg h1, if_pos h2] at hr
    exact hr.symm
  rcases look_at t j with ⟨e0, e1, e2⟩ | ⟨c, e0, e1, e2⟩
  · rw [e1]
    try simp
    exact dies (hsub1.trans h.sub) (none' (by rw [e0]; simp) e2) (by decide)
  · rw [e1]
    have hc := c.toNat_lt
    refine br_dec (fun e => ?_) (fun e => ?_)
    · have e63 : c = 63 := UInt8.toNat_inj.1 (by have : (63 : UInt8).toNat = 63 := rfl; omega)
      subst e63
      rw [if_pos e0] at hr
      have hH := hh _ _ _ _ _ h e0
      rcases hR : pHole t j nd with ⟨kk, i', nd'⟩ | ⟨cc, pp⟩
      · rw [hR] at hH
        refine callK_goes (β := Unit) hH fun s1 hs1 => ?_
        exact out kk i' nd' s1 hs1 (by rw [← hr, hR])
      · rw [hR] at hH
        rw [← hr, hR]
        exact callK_dies (β := Tr) hH hsub1
    · have n63 : ¬ t[j]? = some 63 := fun h => by
        rw [e0] at h
        cases h
        exact e rfl
      rw [decide_eq_false (by omega)]
      try simp
      rw [wrapU8 c]
      refine callK_just (h_impl_isHead c _) ?_
      try simp
      cases hl : letter c with
      | true => simpa using word n63 (by rw [e2]; exact hl)
      | false =>
        try simp
        exact dies (hsub1.trans h.sub) (none' n63 (by rw [e2]; exact hl)) (by decide)
end Go.H.Tryz
/- Contracts: the program's parser: arguments, terms. -/
set_option linter.unusedVariables false
set_option linter.unusedSimpArgs false
namespace Go.H.Tryz
open Go Go.H

variable {st0 st : St} {b : Nat} {t : List UInt8} {om : Bool} {sc : List (List UInt8)} {i nd : Nat}
def pArgm (t : List UInt8) (om : Bool) (sc : List (List UInt8)) (j nd : Nat) : PR Tr :=
  if om = true ∧ wordAt t j = wOmit then match pNode nd j (j + 1) with
    | .er c p => .er c p
    | .ok _ i1 nd1 => .ok (.mk 8 0 [] []) i1 nd1
  else pHead t sc j nd
theorem omit_end {t : List UInt8} {j : Nat} (hj : j ≤ t.length) (h : wordAt t j = wOmit) : runE wordC t j = j + 1 := by
  have h1 := cut_len (runE_ge wordC t j) (runE_le wordC t hj)
  unfold wordAt at h
  rw [h] at h1
  have : wOmit.length = 1 := rfl
  have := runE_ge wordC t j
  omega
theorem zero_store {s : St} {v : Nat} {K : St → Prop} {k : Tr} (ev : s v = some (.cells [.int .i64 0, .int .i64 0, .str [], .sl 0 true []])) (h : K (upd s v (.cells (tree k).cells))) : e_store s 4 (.ptr v 0) (tree k) K := by
  rw [e_store_p _ _ _ _ _ _ _ ev]
  simpa [setRange, tree_cells] using h
theorem h_impl_parser_argument (hh : HoleOK b t om) (hp : PS st0 st b t om sc i nd) (ht : t.length ≤ 1000000) : HCalls prog n_impl_parser_argument [.ptr b 0] st (PG st0 b t om sc tree (pArgm t om sc i nd)) := by
  apply c_impl_parser_argument
  unfold b_impl_parser_argument
  obtain ⟨r, hr⟩ : ∃ r, pArgm t om sc i nd = r := ⟨_, rfl⟩
  rw [hr]
  unfold pArgm at hr
  intro v hv
  have h := hp.beside (.cells [.int .i64 0, .int .i64 0, .str [], .sl 0 true []]) hv
  have hv0 := hp.sub.isNone hv
  have hsub1 : Sub st0 (upd st0 v (.cells [.int .i64 0, .int .i64 0, .str [], .sl 0 true []])) := (Sub.refl _).put hv0
  generalize upd st v (.cells [.int .i64 0, .int .i64 0, .str [], .sl 0 true []]) = s at h
  obtain ⟨q, hb, hq⟩ := h.ex
  try simp [q_load_p hb, pC]
  intro k hk _
  have headK : ¬ (om = true ∧ wordAt t i = wOmit) → ∀ (s1 : St) i1, PS (upd st0 v (.cells [.int .i64 0, .int .i64 0, .str [], .sl 0 true []])) s1 b t om sc i1 nd → k [.bool false] s1 := fun hn s1 i1 h1 => by
    rw [if_neg hn] at hr
    refine hk _ _ ?_
    obtain ⟨q1, hb1, hq1⟩ := h1.ex
    try simp
    refine e_setAt hb1 ?_
    have h2 := h1.move hb1 (i' := i) (nd' := nd) hp.le hp.few
    have hH := h_impl_parser_head hh h2 ht
    rw [hr] at hH
    rcases r with ⟨kk, i', nd'⟩ | ⟨cc, pp⟩
    · refine callK_goes (β := Unit) hH fun s3 h3 => ?_
      refine zero_store (h3.sub v _ (upd_same _ _ _)) ?_
      try simp [q_load_p (upd_same _ _ _)]
      exact PRes.ret ((h3.turn (upd_same _ _ _) _).below (by rw [upd_upd]; exact (Sub.refl _).put hv0)) rfl
    · exact callK_dies (β := Tr) hH hsub1
  cases om with
  | false =>
    try simp
    exact headK (by simp) _ _ h
  | true =>
    try simp
    refine callK_goes (β := Unit) (h_impl_parser_run h ht wordC wordSigns word_run) fun s1 h1 => ?_
    have ew : cut t i (runE wordC t i) = wordAt t i := rfl
    rw [ew]
    try simp
    by_cases hw : wordAt t i = wOmit
    · have : decide (wordAt t i = [95]) = true := decide_eq_true hw
      rw [this]
      rw [if_pos ⟨rfl, hw⟩] at hr
      refine hk _ _ ?_
      try simp
      have hn := h_impl_parser_node h1 (i : Int)
      rw [omit_end hp.le hw] at hn
      rcases hpn : pNode nd (i : Int) (i + 1) with ⟨u, i1, nd1⟩ | ⟨cc, pp⟩
      · rw [hpn] at hn hr
        simp only at hr
        subst hr
        refine callK_goes (β := Unit) hn fun s3 h3 => ?_
        try simp
        rw [show q_struct [PV.int IntKind.i64 0, PV.int IntKind.i64 0, PV.str [], PV.sl 0 true []] [(0, 1, PV.int IntKind.i64 8)] = some (.agg [.int .i64 8, .int .i64 0, .str [], .sl 0 true []]) from rfl]
        simp only [qb_some]
        rw [e_store_p _ _ _ _ _ _ _ (h3.sub v _ (upd_same _ _ _))]
        try simp
        try simp [q_load_p (upd_same _ _ _)]
        refine PRes.conv ((h3.turn (upd_same _ _ _) _).below (by rw [upd_upd]; exact (Sub.refl _).put hv0)) ?_
        exact conv_tree _ 8 0 [] 0 true [] (.inr rfl)
      · rw [hpn] at hn hr
        simp only at hr
        subst hr
        exact callK_dies (β := Tr) hn hsub1
    · have : decide (wordAt t i = [95]) = false := decide_eq_false hw
      rw [this]
      exact headK (fun h => hw h.2) _ _ h1
/-- The loop of args. -/
def argsLoop (b : Nat) (R : Res → St → Prop) (ls : List PV) (st : St) (X : List PV → St → Prop) : Prop :=
  callK prog n_impl_parser_next [.ptr b 0] st (fun v7 st =>
  qb (q_bin .eql v7 (.int .i64 40)) fun v11 =>
  cb v11 fun b_1 => br b_1
   (qb (q_nil (.ptr b 0)) fun v13 =>
   qb (q_fa 1 v13) fun v14 =>
   qb (q_load st false 1 v14) fun v15 =>
   qb (q_bin .add v15 (.int .i64 1)) fun v16 =>
   qb (q_nil (.ptr b 0)) fun v17 =>
   qb (q_fa 1 v17) fun v18 =>
   e_store st 1 v18 v16 fun st =>
   callK prog n_impl_parser_term [.ptr b 0] st (fun v21 st =>
   qb (q_lit 4 1 0 [] [(0, v21)]) fun v22 =>
   e_append st 4 56 (ls.getD 0 .junk) v22 (fun v23 st =>
   callK prog n_impl_parser_expect [.ptr b 0, (.int .i64 41)] st (fun v25 st =>
   X [v23] st) (panR R))) (panR R))
   (hJ (fun ls_1 st =>
    cb (ls_1.getD 0 .junk) fun b_1 => br b_1
     (callK prog n_impl_parser_argument [.ptr b 0] st (fun v40 st =>
     qb (q_lit 4 1 0 [] [(0, v40)]) fun v41 =>
     e_append st 4 56 (ls.getD 0 .junk) v41 (fun v42 st =>
     X [v42] st)) (panR R))
     (retR R (ls.getD 0 .junk) st))
    (fun k =>
   qb (q_bin .eql v7 (.int .i64 63)) fun v28 =>
   cb v28 fun b_2 => br b_2
    (k [(.bool true)] st)
    (qb (q_bin .neq v7 (.int .i64 (-1))) fun v31 =>
    cb v31 fun b_3 => br b_3
     (qb (q_conv .u8 v7) fun v34 =>
     callK prog n_impl_isHead [v34] st (fun v35 st =>
     k [v35] st) (panR R))
     (k [(.bool false)] st))))) (panR R)
def treesP (ks : List Tr) : PV := .sl 4 false (ks.map tree)
def TermOK (b : Nat) (t : List UInt8) (om : Bool) (n : Nat) : Prop := ∀ st0 st sc i nd, PS st0 st b t om sc i nd → t.length < i + n → HCalls prog n_impl_parser_term [.ptr b 0] st (PG st0 b t om sc tree (pTerm t om n sc i nd))
def LoopOK (b : Nat) (t : List UInt8) (om : Bool) (n : Nat) : Prop := ∀ st0 base s p sc i nd (acc : List Tr), Grow st0 4 (acc.map tree) p base → PS base s b t om sc i nd → t.length < i + n → acc.length ≤ i →
  hFix (argsLoop b (PG st0 b t om sc treesP (pArgs t om n sc i nd acc))) [p] s
theorem PRes.freeze {base s : St} {ks : List Tr} {p : PV} (hg : Grow st0 4 (ks.map tree) p base) (h : PS base s b t om sc i nd) : retR (PG st0 b t om sc treesP (.ok ks i nd)) p s := by
  obtain ⟨s', hc, hs⟩ := PS.freeze hg h
  exact retR_conv hc ⟨rfl, hs⟩
theorem loop_args (hh : HoleOK b t om) (ht : t.length ≤ 1000000) (n : Nat) (hT : TermOK b t om n) (hL : LoopOK b t om n) : LoopOK b t om (n + 1) := by
  intro st0 base s p sc i nd acc hg hp hn hacc
  obtain ⟨r, hr⟩ : ∃ r, pArgs t om (n + 1) sc i nd acc = r := ⟨_, rfl⟩
  rw [hr]
  unfold pArgs at hr
  refine hFix_unroll ?_
  generalize hX : hFix (argsLoop b (PG st0 b t om sc treesP r)) = X
  unfold argsLoop
  have hsb := hg.sub
  refine callK_goes (β := Unit) (h_impl_parser_next hp ht) fun s1 h => ?_
  have hge := runE_ge blank t i
  generalize hj : runE blank t i = j at h hr hge
  obtain ⟨q, hb, hq⟩ := h.ex
  have hle := h.le
  simp only [List.getD_cons_zero]
  -- one more
  have more : ∀ (k : Tr) (s2 : St) (i2 nd2 : Nat) (K : PV → St → Prop), PS base s2 b t om sc i2 nd2 → (∀ p' base' s', Grow st0 4 ((acc ++ [k]).map tree) p' base' → PS base' s' b t om sc i2 nd2 → K p' s') → qb (if (tree k).ncells = 4 ∧ (∀ (x : PV), x ∈ (tree k).cells → x.cellOK = true) then some (PV.sl 4 true [tree k]) else none) fun v22 => e_append s2 4 56 p v22 K := fun k s2 i2 nd2 K h2 hk => by
    rw [if_pos ⟨tree_ncells k, fun x hx => List.all_eq_true.1 (tree_cellOK k) x hx⟩]
    simp only [qb_some]
    refine h2.append hg (by simp; omega) fun p' base' s' hg' h' => hk p' base' s' (by simpa using hg') h'
  by_cases h40 : t[j]? = some 40
  · have hjl := (List.getElem?_eq_some_iff.1 h40).1
    have e1 : byteP t j = 40 := (byteP_eq 40).2 h40
    rw [if_pos h40] at hr
    rw [e1]
    try simp [q_load_p hb, pC]
    rw [wrap64 (by omega) (by omega)]
    refine e_setAt hb ?_
    have h2 := h.move hb (i' := j + 1) (nd' := nd) (by omega) h.few
    have hTT := hT _ _ _ _ _ h2 (by omega)
    rcases hpt : pTerm t om n sc (j + 1) nd with ⟨k, i1, nd1⟩ | ⟨cc, pp⟩
    · rw [hpt] at hTT hr
      simp only at hr
      have hk1 := pTerm_ok hpt
      refine callK_goes (β := Unit) hTT fun s3 h3 => ?_
      refine more k s3 i1 nd1 _ h3 fun p' base' s' hg' h' => ?_
      have hE := h_impl_parser_expect h' ht 41
      rcases hpe : pExpect t 41 i1 nd1 with ⟨u, i2, nd2⟩ | ⟨cc, pp⟩
      · rw [hpe] at hE hr
        simp only at hr
        have hk2 := pExpect_ok hpe
        refine callK_goes (β := Unit) hE fun s4 h4 => ?_
        have := hL st0 base' s4 p' sc i2 nd2 (acc ++ [k]) hg' h4 (by omega) (by simp; omega)
        rw [hr, hX] at this
        exact this
      · rw [hpe] at hE hr
        simp only at hr
        subst hr
        exact callK_dies (β := List Tr) hE hg'.sub
    · rw [hpt] at hTT hr
      simp only at hr
      subst hr
      exact callK_dies (β := List Tr) hTT hsb
  · rw [if_neg h40] at hr
    have e1 : ¬ byteP t j = 40 := fun e => h40 ((byteP_eq 40).1 e)
    have d1 : decide (byteP t j = 40) = false := decide_eq_false e1
    try simp
    rw [d1]
    simp only [br]
    intro k hk _
    have endK : ¬ (t[j]? = some 63 ∨ headAt t j = true) → k [.bool false] s1 := fun hn => by
      rw [if_neg hn] at hr
      subst hr
      refine hk _ _ ?_
      try simp
      exact PRes.freeze hg h
    have argK : (t[j]? = some 63 ∨ headAt t j = true) → k [.bool true] s1 := fun hy => by
      rw [if_pos hy] at hr
      refine hk _ _ ?_
      try simp
      have hA := h_impl_parser_argument hh h ht
      have hr' : (match pArgm t om sc j nd with | .er c p => (PR.er c p : PR (List Tr)) | .ok a i1 nd1 => pArgs t om n sc i1 nd1 (acc ++ [a])) = r := by
        rw [← hr]
        unfold pArgm
        by_cases hc : om = true ∧ wordAt t j = wOmit
        · rw [if_pos hc, if_pos hc]
          cases pNode nd (j : Int) (j + 1) <;> rfl
        · rw [if_neg hc, if_neg hc]
          cases pHead t sc j nd <;> rfl
      have hprog : ∀ a i1 nd1, pArgm t om sc j nd = .ok a i1 nd1 → j < i1 := fun a i1 nd1 e => by
        unfold pArgm at e
        split at e
        · split at e
          · cases e
          · rename_i h1
            obtain ⟨rfl, rfl⟩ := pNode_ok h1
            cases e
            omega
        · exact pHead_ok e
      rcases hpa : pArgm t om sc j nd with ⟨a, i1, nd1⟩ | ⟨cc, pp⟩
      · rw [hpa] at hA hr'
        simp only at hr'
        have hk1 := hprog _ _ _ hpa
        refine callK_goes (β := Unit) hA fun s3 h3 => ?_
        refine more a s3 i1 nd1 _ h3 fun p' base' s' hg' h' => ?_
        have := hL st0 base' s' p' sc i1 nd1 (acc ++ [a]) hg' h' (by omega) (by simp; omega)
        rw [hr', hX] at this
        exact this
      · rw [hpa] at hA hr'
        simp only at hr'
        subst hr'
        exact callK_dies (β := List Tr) hA hsb
    rcases look_at t j with ⟨e0, e1, e2⟩ | ⟨c, e0, e1, e2⟩
    · rw [e1]
      try simp
      exact endK (by rw [e0, e2]; simp)
    · rw [e1]
      have hc := c.toNat_lt
      refine br_dec (fun e => ?_) (fun e => ?_)
      · have e63 : c = 63 := UInt8.toNat_inj.1 (by have : (63 : UInt8).toNat = 63 := rfl; omega)
        subst e63
        exact argK (.inl e0)
      · have d2 : decide ((c.toNat : Int) = -1) = false := decide_eq_false (by omega)
        rw [d2]
        show callK _ _ _ _ _ _
        rw [wrapU8 c]
        refine callK_just (h_impl_isHead c _) ?_
        cases hl : letter c with
        | true => exact argK (.inr (by rw [e2]; exact hl))
        | false =>
          refine endK (fun h => h.elim (fun h => ?_) (fun h => by rw [e2, hl] at h; cases h))
          rw [e0] at h
          cases h
          exact e rfl
end Go.H.Tryz
/- Contracts: the program's parser: terms. -/
set_option linter.unusedVariables false
set_option linter.unusedSimpArgs false
namespace Go.H.Tryz
open Go Go.H

variable {st0 st : St} {b : Nat} {t : List UInt8} {om : Bool} {sc : List (List UInt8)} {i nd : Nat}
theorem args_of {n : Nat} (hL : LoopOK b t om n) (hp : PS st0 st b t om sc i nd) (hn : t.length < i + n) : HCalls prog n_impl_parser_args [.ptr b 0] st (PG st0 b t om sc treesP (pArgs t om n sc i nd [])) := by
  apply c_impl_parser_args
  unfold b_impl_parser_args
  rw [show q_lit 4 0 0 [] [] = some (.sl 4 true []) from rfl]
  simp only [qb_some]
  exact hL st0 st0 st _ sc i nd [] (Grow.nil st0 4 4) hp hn (Nat.zero_le _)
theorem tree_store {s : St} {v : Nat} {K : St → Prop} {k : Tr} {vs : List PV} (ev : s v = some (.cells vs)) (hl : vs.length = 4) (h : K (upd s v (.cells (tree k).cells))) : e_store s 4 (.ptr v 0) (tree k) K := by
  rw [e_store_p _ _ _ _ _ _ _ ev]
  obtain ⟨a1, a2, a3, a4, rfl⟩ : ∃ a1 a2 a3 a4, vs = [a1, a2, a3, a4] := by
    match vs, hl with
    | [a1, a2, a3, a4], _ => exact ⟨a1, a2, a3, a4, rfl⟩
  simpa [setRange, tree_cells] using h
def z4 : List PV := [.int .i64 0, .int .i64 0, .str [], .sl 0 true []]
/-- A tree goes out through a variable. -/
theorem tree_out {s : St} {v : Nat} {k : Tr} {r : PR Tr} {i' nd' : Nat} {vs : List PV} (h : PS (upd st0 v (.cells z4)) s b t om sc i' nd') (hv0 : st0 v = none) (e : r = .ok k i' nd') :
    e_store s 4 (.ptr v 0) (tree k) fun st => qb (q_load st true 4 (.ptr v 0)) fun r_1 => retR (PG st0 b t om sc tree r) r_1 st := by
  subst e
  refine tree_store (h.sub v _ (upd_same _ _ _)) rfl ?_
  try simp [q_load_p (upd_same _ _ _)]
  exact PRes.ret ((h.turn (upd_same _ _ _) _).below (by rw [upd_upd]; exact (Sub.refl _).put hv0)) rfl
theorem term_step (hh : HoleOK b t om) (ht : t.length ≤ 1000000) (n : Nat) (hT : TermOK b t om n) (hL : LoopOK b t om n) : TermOK b t om (n + 1) := by
  intro st0 st sc i nd hp hn
  apply c_impl_parser_term
  unfold b_impl_parser_term
  obtain ⟨r, hr⟩ : ∃ r, pTerm t om (n + 1) sc i nd = r := ⟨_, rfl⟩
  rw [hr]
  unfold pTerm at hr
  intro v hv
  have hp1 := hp.beside (.cells z4) hv
  have hv0 := hp.sub.isNone hv
  have hsub1 : Sub st0 (upd st0 v (.cells z4)) := (Sub.refl _).put hv0
  refine callK_goes (β := Unit) (h_impl_parser_next hp1 ht) fun s h => ?_
  have hge := runE_ge blank t i
  generalize hj : runE blank t i = j at h hr hge
  obtain ⟨q, hb, hq⟩ := h.ex
  have hle := h.le
  have hdeep := h.deep
  by_cases h91 : t[j]? = some 91
  · have hjl := (List.getElem?_eq_some_iff.1 h91).1
    have e1 : byteP t j = 91 := (byteP_eq 91).2 h91
    rw [if_pos h91] at hr
    rw [e1]
    try simp [q_load_p hb, pC]
    have hn1 := h_impl_parser_node h (j : Int)
    rcases hpn : pNode nd (j : Int) (j + 1) with ⟨u, i1, nd1⟩ | ⟨cc, pp⟩
    rotate_left
    · have hpn' : pNode nd (j : Int) j = .er cc pp := by unfold pNode at hpn ⊢; split at hpn <;> simp_all
      rw [hpn'] at hn1
      rw [hpn] at hr
      simp only at hr
      subst hr
      exact callK_dies (β := Tr) hn1 hsub1
    obtain ⟨rfl, rfl⟩ := pNode_ok hpn
    have hpn' : pNode nd (j : Int) j = .ok () j (nd + 1) := by unfold pNode at hpn ⊢; split at hpn <;> simp_all
    rw [hpn'] at hn1
    rw [hpn] at hr
    simp only at hr
    refine callK_goes (β := Unit) hn1 fun s2 h2 => ?_
    obtain ⟨q2, hb2, hq2⟩ := h2.ex
    try simp [q_load_p hb2, pC]
    rw [wrap64 (by omega) (by omega)]
    refine e_setAt hb2 ?_
    have h3 := h2.move hb2 (i' := j + 1) (nd' := nd + 1) (by omega) h2.few
    have hB := h_impl_parser_binder h3 ht
    rcases hpb : pBinder t (j + 1) (nd + 1) with ⟨w, i2, nd2⟩ | ⟨cc, pp⟩
    rotate_left
    · rw [hpb] at hB hr
      simp only at hr
      subst hr
      exact callK_dies (β := Tr) hB hsub1
    obtain ⟨hi2, rfl⟩ := pBinder_ok hpb
    rw [hpb] at hB hr
    simp only at hr
    refine callK_goes (β := Unit) hB fun s4 h4 => ?_
    have hE := h_impl_parser_expect h4 ht 93
    rcases hpe : pExpect t 93 i2 (nd + 1) with ⟨u, i3, nd3⟩ | ⟨cc, pp⟩
    rotate_left
    · rw [hpe] at hE hr
      simp only at hr
      subst hr
      exact callK_dies (β := Tr) hE hsub1
    obtain ⟨hi3, rfl⟩ := pExpect_ok hpe
    rw [hpe] at hE hr
    simp only at hr
    refine callK_goes (β := Unit) hE fun s5 h5 => ?_
    have hU := h_impl_parser_under (r := pTerm t om n (sc ++ [w]) i3 (nd + 1)) h5 (by omega) w n_impl_parser_term (fun st1 s hs => hT _ _ _ _ _ hs (by omega))
    rcases hpt : pTerm t om n (sc ++ [w]) i3 (nd + 1) with ⟨k, i4, nd4⟩ | ⟨cc, pp⟩
    rotate_left
    · rw [hpt] at hU hr
      simp only at hr
      subst hr
      exact callK_dies (β := Tr) hU hsub1
    rw [hpt] at hU hr
    simp only at hr
    refine callK_goes (β := Unit) hU fun s6 h6 => ?_
    refine callK_just (h_impl_lam k _) ?_
    exact tree_out (vs := z4) h6 hv0 hr.symm
  · rw [if_neg h91] at hr
    have d1 : decide (byteP t j = 91) = false := decide_eq_false (fun e => h91 ((byteP_eq 91).1 e))
    try simp
    rw [d1]
    simp only [br]
    by_cases h40 : t[j]? = some 40
    · have hjl := (List.getElem?_eq_some_iff.1 h40).1
      have e1 : byteP t j = 40 := (byteP_eq 40).2 h40
      rw [if_pos h40] at hr
      rw [e1]
      try simp [q_load_p hb, pC]
      rw [wrap64 (by omega) (by omega)]
      refine e_setAt hb ?_
      have h2 := h.move hb (i' := j + 1) (nd' := nd) (by omega) h.few
      have hTT := hT _ _ _ _ _ h2 (by omega)
      rcases hpt : pTerm t om n sc (j + 1) nd with ⟨k, i1, nd1⟩ | ⟨cc, pp⟩
      rotate_left
      · rw [hpt] at hTT hr
        simp only at hr
        subst hr
        exact callK_dies (β := Tr) hTT hsub1
      rw [hpt] at hTT hr
      simp only at hr
      refine callK_goes (β := Unit) hTT fun s3 h3 => ?_
      intro v4 hv4
      have hv40 := h3.sub.isNone hv4
      refine tree_store (vs := z4) (upd_same _ _ _) rfl ?_
      rw [upd_upd]
      have h4 := h3.beside (.cells (tree k).cells) hv4
      have hE := h_impl_parser_expect h4 ht 41
      rcases hpe : pExpect t 41 i1 nd1 with ⟨u, i2, nd2⟩ | ⟨cc, pp⟩
      rotate_left
      · rw [hpe] at hE hr
        simp only at hr
        subst hr
        exact callK_dies (β := Tr) hE (hsub1.put (hsub1.isNone hv40))
      rw [hpe] at hE hr
      simp only at hr
      refine callK_goes (β := Unit) hE fun s5 h5 => ?_
      have e4 := h5.sub v4 _ (upd_same _ _ _)
      try simp [q_load_p e4]
      exact tree_out (vs := z4) (h5.below ((Sub.refl _).put hv40)) hv0 hr.symm
    · rw [if_neg h40] at hr
      have d2 : decide (byteP t j = 40) = false := decide_eq_false (fun e => h40 ((byteP_eq 40).1 e))
      rw [d2]
      simp only [br]
      have hH := h_impl_parser_head hh h ht
      rcases hph : pHead t sc j nd with ⟨k, i1, nd1⟩ | ⟨cc, pp⟩
      rotate_left
      · rw [hph] at hH hr
        simp only at hr
        subst hr
        exact callK_dies (β := Tr) hH hsub1
      have hk1 := pHead_ok hph
      rw [hph] at hH hr
      simp only at hr
      refine callK_goes (β := Unit) hH fun s3 h3 => ?_
      intro v5 hv5
      have hv50 := h3.sub.isNone hv5
      refine tree_store (vs := z4) (upd_same _ _ _) rfl ?_
      rw [upd_upd]
      have h4 := h3.beside (.cells (tree k).cells) hv5
      have hA := args_of hL h4 (by omega)
      rcases hpa : pArgs t om n sc i1 nd1 [] with ⟨ks, i2, nd2⟩ | ⟨cc, pp⟩
      rotate_left
      · rw [hpa] at hA hr
        simp only at hr
        subst hr
        exact callK_dies (β := Tr) hA (hsub1.put (hsub1.isNone hv50))
      rw [hpa] at hA hr
      simp only at hr
      refine callK_goes (β := Unit) hA fun s5 h5 => ?_
      have e5 := h5.sub v5 _ (upd_same _ _ _)
      have e5' : s5 v5 = some (.cells [.int .i64 k.kind, .int .i64 k.n, .str k.name, .sl 4 false (k.kids.map tree)]) := by rw [e5, tree_cells]
      try simp
      rw [e_store_p _ _ _ _ _ _ _ e5']
      try simp [treesP, setRange]
      try simp [q_load_p (upd_same _ _ _)]
      have h6 := (h5.turn (upd_same _ _ _) (.cells [.int .i64 k.kind, .int .i64 k.n, .str k.name, .sl 4 false (ks.map tree)])).below (st0 := upd st0 v (.cells z4)) (by rw [upd_upd]; exact (Sub.refl _).put hv50)
      exact tree_out (vs := z4) h6 hv0 hr.symm
theorem term_all (hh : HoleOK b t om) (ht : t.length ≤ 1000000) : ∀ n, TermOK b t om n ∧ LoopOK b t om n
  | 0 => ⟨fun st0 st sc i nd hp hn => absurd hp.le (by omega), fun st0 base s p sc i nd acc hg hp hn _ => absurd hp.le (by omega)⟩
  | n + 1 => ⟨term_step hh ht n (term_all hh ht n).1 (term_all hh ht n).2, loop_args hh ht n (term_all hh ht n).1 (term_all hh ht n).2⟩
end Go.H.Tryz
/- Contracts: the program's parser: families. -/
set_option linter.unusedVariables false
set_option linter.unusedSimpArgs false
namespace Go.H.Tryz
open Go Go.H

variable {st0 st : St} {b : Nat} {t : List UInt8} {sc : List (List UInt8)} {i nd : Nat}
theorem h_impl_isKind (a : Tr) (ha : spineB a = true) (st : St) : HCalls prog n_impl_isKind [tree a] st (Just (.bool (isKindT a)) st) := by
  apply c_impl_isKind
  unfold b_impl_isKind
  obtain ⟨v, hv⟩ : ∃ v, isKindT a = v := ⟨_, rfl⟩
  rw [hv]
  refine e_box_own (tree_isJunk _) fun b1 hb1 => ?_
  refine hFix_rec (σ := Tr) (fun z => z.size) (fun _ => []) (fun z => upd st b1 (.cells (tree z).cells)) (fun z => spineB z = true ∧ isKindT z = v) ?_ a ⟨ha, hv⟩
  rintro a ⟨ha, hv⟩ ih
  obtain ⟨k, n, s, ks⟩ := a
  rw [spineB_mk] at ha
  rw [isKindT_mk] at hv
  have e1 : upd st b1 (.cells (tree (.mk k n s ks)).cells) b1 = some (.cells [.int .i64 k, .int .i64 n, .str s, .sl 4 false (ks.map tree)]) := by rw [upd_same, tree_cells]; rfl
  try simp [q_load_p e1]
  refine br_dec (fun h2 => ?_) (fun h2 => ?_)
  · rw [if_pos h2] at ha hv
    match ks, ha, hv with
    | [x, y], ha, hv =>
      simp only at ha hv
      have hq : q_ia 4 (.sl 4 false [tree x, tree y]) (.int .i64 1) = some (.ref (tree y).cells) := by simp [q_ia]
      try simp [hq]
      exact ih y (by rw [size_mk, sizes_two]; omega) ⟨ha, hv⟩
  · rw [if_neg h2] at hv
    exact Just.bool hv ((Sub.refl _).put hb1)
theorem h_impl_pi (x y : Tr) (st : St) : HCalls prog n_impl_pi [tree x, tree y] st (Just (tree (.mk 2 0 [] [x, y])) st) := by
  apply c_impl_pi
  unfold b_impl_pi
  refine e_box_ref (tree_isJunk _) ?_
  refine e_box_ref (tree_isJunk _) ?_
  intro b2 hb2
  try simp
  rw [show q_struct [PV.int IntKind.i64 0, PV.int IntKind.i64 0, PV.str [], PV.sl 0 true []] [(0, 1, PV.int IntKind.i64 2), (3, 1, PV.sl 4 true [tree x, tree y])] = some (.agg [.int .i64 2, .int .i64 0, .str [], .sl 4 true [tree x, tree y]]) from rfl]
  try simp
  try simp [q_load_p (upd_same _ _ _)]
  exact Just.tree (t := .mk 2 0 [] [x, y]) rfl (.inl rfl) rfl rfl rfl ((Sub.refl st).put hb2)
def FamOK (b : Nat) (t : List UInt8) (n : Nat) : Prop := ∀ st0 st sc i nd, PS st0 st b t false sc i nd → 2 * t.length + 1 < 2 * i + n → HCalls prog n_impl_parser_family [.ptr b 0] st (PG st0 b t false sc tree (pFam t n sc i nd))
def FirstOK (b : Nat) (t : List UInt8) (n : Nat) : Prop := ∀ st0 st sc i nd, PS st0 st b t false sc i nd → 2 * t.length < 2 * i + n → HCalls prog n_impl_parser_first [.ptr b 0] st (PG st0 b t false sc tree (pFirst t n sc i nd))
def pDue (t : List UInt8) (n : Nat) (sc : List (List UInt8)) (i nd : Nat) : PR Tr := match pFam t n sc (runE blank t i) nd with
  | .er c p => .er c p
  | .ok a i1 nd1 => if isKindT a = true then .er 3 (runE blank t i) else .ok a i1 nd1
theorem due_of {n : Nat} (ht : t.length ≤ 1000000) (hF : FamOK b t n) (hp : PS st0 st b t false sc i nd) (hn : 2 * t.length + 1 < 2 * i + n) : HCalls prog n_impl_parser_due [.ptr b 0] st (PG st0 b t false sc tree (pDue t n sc i nd)) := by
  apply c_impl_parser_due
  unfold b_impl_parser_due
  obtain ⟨r, hr⟩ : ∃ r, pDue t n sc i nd = r := ⟨_, rfl⟩
  rw [hr]
  unfold pDue at hr
  intro v hv
  have hp1 := hp.beside (.cells z4) hv
  have hv0 := hp.sub.isNone hv
  have hsub1 : Sub st0 (upd st0 v (.cells z4)) := (Sub.refl _).put hv0
  refine callK_goes (β := Unit) (h_impl_parser_next hp1 ht) fun s h => ?_
  have hge := runE_ge blank t i
  generalize hj : runE blank t i = j at h hr hge
  obtain ⟨q, hb, hq⟩ := h.ex
  try simp [q_load_p hb, pC]
  have hFF := hF _ _ _ _ _ h (by omega)
  rcases hpf : pFam t n sc j nd with ⟨a, i1, nd1⟩ | ⟨cc, pp⟩
  rotate_left
  · rw [hpf] at hFF hr
    simp only at hr
    subst hr
    exact callK_dies (β := Tr) hFF hsub1
  have hsp := (pFam_size hpf).2
  rw [hpf] at hFF hr
  simp only at hr
  refine callK_goes (β := Unit) hFF fun s3 h3 => ?_
  intro v4 hv4
  have hv40 := h3.sub.isNone hv4
  refine tree_store (vs := z4) (upd_same _ _ _) rfl ?_
  rw [upd_upd]
  have h4 := h3.beside (.cells (tree a).cells) hv4
  have e4 := upd_same s3 v4 (.cells (tree a).cells)
  generalize upd s3 v4 (.cells (tree a).cells) = s4 at h4 e4
  try simp [q_load_p e4]
  refine callK_just (h_impl_isKind a hsp _) ?_
  try simp
  refine br_of (fun hk => ?_) (fun hk => ?_)
  · rw [if_pos hk] at hr
    exact dies (hsub1.trans (((Sub.refl _).put hv40).trans h4.sub)) hr.symm (by decide)
  · rw [if_neg (by rw [hk]; simp)] at hr
    try simp [q_load_p e4]
    exact tree_out (vs := z4) (h4.below ((Sub.refl _).put hv40)) hv0 hr.symm
theorem node_at {p : Int} {j i2 : Nat} : (∀ cc pp, pNode nd p i2 = .er cc pp → pNode nd p j = .er cc pp) ∧ (∀ u i3 nd3, pNode nd p i2 = .ok u i3 nd3 → i3 = i2 ∧ nd3 = nd + 1 ∧ pNode nd p j = .ok () j (nd + 1)) := by
  unfold pNode
  split
  · exact ⟨fun _ _ h => h, fun _ _ _ h => (by cases h)⟩
  · exact ⟨fun _ _ h => (by cases h), fun _ _ _ h => (by cases h; exact ⟨rfl, rfl, rfl⟩)⟩
theorem first_step (hh : HoleOK b t false) (ht : t.length ≤ 1000000) (n : Nat) (hF : FamOK b t n) (hL : LoopOK b t false n) : FirstOK b t (n + 1) := by
  intro st0 st sc i nd hp hn
  apply c_impl_parser_first
  unfold b_impl_parser_first
  obtain ⟨r, hr⟩ : ∃ r, pFirst t (n + 1) sc i nd = r := ⟨_, rfl⟩
  rw [hr]
  unfold pFirst at hr
  intro v hv
  have hp1 := hp.beside (.cells z4) hv
  have hv0 := hp.sub.isNone hv
  have hsub1 : Sub st0 (upd st0 v (.cells z4)) := (Sub.refl _).put hv0
  refine callK_goes (β := Unit) (h_impl_parser_next hp1 ht) fun s h => ?_
  have hge := runE_ge blank t i
  simp only at hr
  generalize hj : runE blank t i = j at h hr hge
  obtain ⟨q, hb, hq⟩ := h.ex
  have hle := h.le
  try simp [q_load_p hb, pC]
  intro k hk _
  have word : ¬ t[j]? = some 40 → headAt t j = true → k [] s := fun hq0 h1 => by
    rw [if_neg hq0, if_neg (by rw [h1]; simp)] at hr
    have hgt := runW_gt h1
    refine hk _ _ ?_
    refine callK_goes (β := Unit) (h_impl_parser_run h ht wordC wordSigns word_run) fun s1 hs1 => ?_
    have ew : cut t j (runE wordC t j) = wordAt t j := rfl
    rw [ew]
    generalize hw : wordAt t j = w at hr
    generalize hjw : runE wordC t j = jw at hr hs1 hgt
    have hnd := h_impl_parser_node hs1 (j : Int)
    intro k1 hk1 _
    try simp
    refine br_dec (fun e => ?_) (fun e => ?_)
    · have e' : w = wType := e
      rw [if_pos e'] at hr
      rcases hpn : pNode nd (j : Int) jw with ⟨u, i1, nd1⟩ | ⟨cc, pp⟩
      · rw [hpn] at hnd hr
        simp only at hr
        subst hr
        refine callK_goes (β := Unit) hnd fun s2 h2 => ?_
        rw [show q_struct [PV.int IntKind.i64 0, PV.int IntKind.i64 0, PV.str [], PV.sl 0 true []] [(0, 1, PV.int IntKind.i64 1)] = some (.agg [.int .i64 1, .int .i64 0, .str [], .sl 0 true []]) from rfl]
        simp only [qb_some]
        rw [e_store_p _ _ _ _ _ _ _ (h2.sub v _ (upd_same _ _ _))]
        try simp [z4]
        try simp [q_load_p (upd_same _ _ _)]
        refine PRes.conv ((h2.turn (upd_same _ _ _) _).below (by rw [upd_upd]; exact (Sub.refl _).put hv0)) ?_
        exact conv_tree _ 1 0 [] 0 true [] (.inr rfl)
      · rw [hpn] at hnd hr
        simp only at hr
        subst hr
        exact callK_dies (β := Tr) hnd hsub1
    · have e' : ¬ w = wType := e
      rw [if_neg e'] at hr
      refine br_dec (fun e2 => ?_) (fun e2 => ?_)
      · rw [if_pos (.inl e2)] at hr
        exact dies (hsub1.trans hs1.sub) hr.symm (by decide)
      · refine br_dec (fun e3 => ?_) (fun e3 => ?_)
        · rw [if_pos (.inr (by omega))] at hr
          exact dies (hsub1.trans hs1.sub) hr.symm (by decide)
        · rw [if_neg (fun h => h.elim e2 fun h => by omega)] at hr
          refine hk1 _ _ ?_
          rcases hpn : pNode nd (j : Int) jw with ⟨u, i1, nd1⟩ | ⟨cc, pp⟩
          rotate_left
          · rw [hpn] at hnd hr
            simp only at hr
            subst hr
            exact callK_dies (β := Tr) hnd hsub1
          obtain ⟨rfl, rfl⟩ := pNode_ok hpn
          rw [hpn] at hnd hr
          simp only at hr
          refine callK_goes (β := Unit) hnd fun s2 h2 => ?_
          refine callK_just (h_impl_NameOK w _) ?_
          try simp
          intro k2 hk2 _
          try simp
          refine br_of (fun hnm => ?_) (fun hnm => ?_)
          · rw [if_pos hnm] at hr
            refine hk2 _ _ ?_
            have hA := args_of hL h2 (by omega)
            rcases hpa : pArgs t false n sc i1 (nd + 1) [] with ⟨ks, i2, nd2⟩ | ⟨cc, pp⟩
            rotate_left
            · rw [hpa] at hA hr
              simp only at hr
              subst hr
              exact callK_dies (β := Tr) hA hsub1
            rw [hpa] at hA hr
            simp only at hr
            subst hr
            refine callK_goes (β := Unit) hA fun s5 h5 => ?_
            unfold treesP
            rw [show q_struct [PV.int IntKind.i64 0, PV.int IntKind.i64 0, PV.str [], PV.sl 0 true []] [(0, 1, PV.int IntKind.i64 3), (2, 1, PV.str w), (3, 1, PV.sl 4 false (ks.map tree))] = some (tree (.mk 3 0 w ks)) from by rw [tree_eq]; rfl]
            simp only [qb_some]
            exact tree_out (vs := z4) h5 hv0 rfl
          · rw [if_neg (by rw [hnm]; simp)] at hr
            exact dies (hsub1.trans h2.sub) hr.symm (by decide)
  by_cases h40 : t[j]? = some 40
  · have hjl := (List.getElem?_eq_some_iff.1 h40).1
    have e1 : byteP t j = 40 := (byteP_eq 40).2 h40
    rw [if_pos h40] at hr
    rw [e1]
    try simp [q_load_p hb, pC]
    rw [wrap64 (by omega) (by omega)]
    refine e_setAt hb ?_
    have h2 := h.move hb (i' := j + 1) (nd' := nd) (by omega) h.few
    have hFF := hF _ _ _ _ _ h2 (by omega)
    rcases hpf : pFam t n sc (j + 1) nd with ⟨a, i1, nd1⟩ | ⟨cc, pp⟩
    rotate_left
    · rw [hpf] at hFF hr
      simp only at hr
      subst hr
      exact callK_dies (β := Tr) hFF hsub1
    rw [hpf] at hFF hr
    simp only at hr
    refine callK_goes (β := Unit) hFF fun s3 h3 => ?_
    intro v4 hv4
    have hv40 := h3.sub.isNone hv4
    refine tree_store (vs := z4) (upd_same _ _ _) rfl ?_
    rw [upd_upd]
    have h4 := h3.beside (.cells (tree a).cells) hv4
    have hE := h_impl_parser_expect h4 ht 41
    rcases hpe : pExpect t 41 i1 nd1 with ⟨u, i2, nd2⟩ | ⟨cc, pp⟩
    rotate_left
    · rw [hpe] at hE hr
      simp only at hr
      subst hr
      exact callK_dies (β := Tr) hE (hsub1.put (hsub1.isNone hv40))
    rw [hpe] at hE hr
    simp only at hr
    refine callK_goes (β := Unit) hE fun s5 h5 => ?_
    have e4 := h5.sub v4 _ (upd_same _ _ _)
    try simp [q_load_p e4]
    exact tree_out (vs := z4) (h5.below ((Sub.refl _).put hv40)) hv0 hr.symm
  · have d2 : decide (byteP t j = 40) = false := decide_eq_false (fun e => h40 ((byteP_eq 40).1 e))
    rw [d2]
    simp only [br]
    have none' : headAt t j = false → r = .er 4 j := fun h2 => by
      rw [if_neg h40, if_pos h2] at hr
      exact hr.symm
    rcases look_at t j with ⟨e0, e1, e2⟩ | ⟨c, e0, e1, e2⟩
    · rw [e1]
      try simp
      exact dies (hsub1.trans h.sub) (none' e2) (by decide)
    · rw [e1]
      have hc := c.toNat_lt
      have d3 : decide ((c.toNat : Int) = -1) = false := decide_eq_false (by omega)
      rw [d3]
      show callK _ _ _ _ _ _
      rw [wrapU8 c]
      refine callK_just (h_impl_isHead c _) ?_
      try simp
      cases hl : letter c with
      | true => simpa using word h40 (by rw [e2]; exact hl)
      | false =>
        try simp
        exact dies (hsub1.trans h.sub) (none' (by rw [e2]; exact hl)) (by decide)
end Go.H.Tryz
/- Contracts: the program's parser: families, the end of a text. -/
set_option linter.unusedVariables false
set_option linter.unusedSimpArgs false
namespace Go.H.Tryz
open Go Go.H

variable {st0 st : St} {b : Nat} {t : List UInt8} {sc : List (List UInt8)} {i nd : Nat}
theorem fam_step (hh : HoleOK b t false) (ht : t.length ≤ 1000000) (n : Nat) (hF : FamOK b t n) (hI : FirstOK b t n) : FamOK b t (n + 1) := by
  intro st0 st sc i nd hp hn
  apply c_impl_parser_family
  unfold b_impl_parser_family
  obtain ⟨r, hr⟩ : ∃ r, pFam t (n + 1) sc i nd = r := ⟨_, rfl⟩
  rw [hr]
  unfold pFam at hr
  intro v hv
  have hp1 := hp.beside (.cells z4) hv
  have hv0 := hp.sub.isNone hv
  have hsub1 : Sub st0 (upd st0 v (.cells z4)) := (Sub.refl _).put hv0
  refine callK_goes (β := Unit) (h_impl_parser_next hp1 ht) fun s h => ?_
  have hge := runE_ge blank t i
  generalize hj : runE blank t i = j at h hr hge
  obtain ⟨q, hb, hq⟩ := h.ex
  have hle := h.le
  have hdeep := h.deep
  try simp [q_load_p hb, pC]
  by_cases h123 : t[j]? = some 123
  · have hjl := (List.getElem?_eq_some_iff.1 h123).1
    have e1 : byteP t j = 123 := (byteP_eq 123).2 h123
    rw [if_pos h123] at hr
    rw [e1]
    try simp
    have hn1 := h_impl_parser_node h (j : Int)
    rcases hpn : pNode nd (j : Int) (j + 1) with ⟨u, i1, nd1⟩ | ⟨cc, pp⟩
    rotate_left
    · rw [node_at.1 _ _ hpn] at hn1
      rw [hpn] at hr
      simp only at hr
      subst hr
      exact callK_dies (β := Tr) hn1 hsub1
    obtain ⟨rfl, rfl, hpn'⟩ := node_at.2 _ _ _ hpn
    rw [hpn'] at hn1
    rw [hpn] at hr
    simp only at hr
    refine callK_goes (β := Unit) hn1 fun s2 h2 => ?_
    obtain ⟨q2, hb2, hq2⟩ := h2.ex
    try simp [q_load_p hb2, pC]
    rw [wrap64 (by omega) (by omega)]
    refine e_setAt hb2 ?_
    have h3 := h2.move hb2 (i' := j + 1) (nd' := nd + 1) (by omega) h2.few
    have hB := h_impl_parser_binder h3 ht
    rcases hpb : pBinder t (j + 1) (nd + 1) with ⟨w, i2, nd2⟩ | ⟨cc, pp⟩
    rotate_left
    · rw [hpb] at hB hr
      simp only at hr
      subst hr
      exact callK_dies (β := Tr) hB hsub1
    obtain ⟨hi2, rfl⟩ := pBinder_ok hpb
    rw [hpb] at hB hr
    simp only at hr
    refine callK_goes (β := Unit) hB fun s4 h4 => ?_
    have hE := h_impl_parser_expect h4 ht 58
    rcases hpe : pExpect t 58 i2 (nd + 1) with ⟨u, i3, nd3⟩ | ⟨cc, pp⟩
    rotate_left
    · rw [hpe] at hE hr
      simp only at hr
      subst hr
      exact callK_dies (β := Tr) hE hsub1
    obtain ⟨hi3, rfl⟩ := pExpect_ok hpe
    rw [hpe] at hE hr
    simp only at hr
    refine callK_goes (β := Unit) hE fun s5 h5 => ?_
    have hD := due_of ht hF h5 (by omega)
    have hr' : (match pDue t n sc i3 (nd + 1) with
      | .er c p => (PR.er c p : PR Tr)
      | .ok a i4 nd4 => match pExpect t 125 i4 nd4 with
        | .er c p => .er c p
        | .ok _ i5 nd5 => match pFam t n (sc ++ [w]) i5 nd5 with
          | .er c p => .er c p
          | .ok b i6 nd6 => .ok (.mk 2 0 [] [a, b]) i6 nd6) = r := by
      rw [← hr]
      unfold pDue
      cases pFam t n sc (runE blank t i3) (nd + 1) with
      | er c p => rfl
      | ok a i4 nd4 =>
        simp only
        by_cases hk : isKindT a = true
        · rw [if_pos hk, if_pos hk]
        · rw [if_neg hk, if_neg hk]
          simp only
          cases pExpect t 125 i4 nd4 with
          | er c p => rfl
          | ok u i5 nd5 =>
            simp only
            cases pFam t n (sc ++ [w]) i5 nd5 <;> rfl
    rcases hpd : pDue t n sc i3 (nd + 1) with ⟨a, i4, nd4⟩ | ⟨cc, pp⟩
    rotate_left
    · rw [hpd] at hD hr'
      simp only at hr'
      subst hr'
      exact callK_dies (β := Tr) hD hsub1
    have hd4 : i3 ≤ i4 ∧ nd + 1 ≤ nd4 := by
      unfold pDue at hpd
      split at hpd
      · cases hpd
      · rename_i h1
        split at hpd
        · cases hpd
        · cases hpd
          have g1 := pFam_ok h1
          have g2 := runE_ge blank t i3
          have g3 := (pFam_size h1).1
          omega
    rw [hpd] at hD hr'
    simp only at hr'
    refine callK_goes (β := Unit) hD fun s6 h6 => ?_
    intro v6 hv6
    have hv60 := h6.sub.isNone hv6
    refine tree_store (vs := z4) (upd_same _ _ _) rfl ?_
    rw [upd_upd]
    have h7 := h6.beside (.cells (tree a).cells) hv6
    have hsub2 := hsub1.put (b := v6) (o := .cells (tree a).cells) (hsub1.isNone hv60)
    have hE2 := h_impl_parser_expect h7 ht 125
    rcases hpe2 : pExpect t 125 i4 nd4 with ⟨u, i5, nd5⟩ | ⟨cc, pp⟩
    rotate_left
    · rw [hpe2] at hE2 hr'
      simp only at hr'
      subst hr'
      exact callK_dies (β := Tr) hE2 hsub2
    obtain ⟨hi5, rfl⟩ := pExpect_ok hpe2
    rw [hpe2] at hE2 hr'
    simp only at hr'
    refine callK_goes (β := Unit) hE2 fun s8 h8 => ?_
    have e8 := h8.sub v6 _ (upd_same _ _ _)
    try simp [q_load_p e8]
    have hdeep6 := h6.deep
    have hU := h_impl_parser_under (r := pFam t n (sc ++ [w]) i5 nd5) h8 (by omega) w n_impl_parser_family (fun st1 s hs => hF _ _ _ _ _ hs (by omega))
    rcases hpt : pFam t n (sc ++ [w]) i5 nd5 with ⟨k, i6, nd6⟩ | ⟨cc, pp⟩
    rotate_left
    · rw [hpt] at hU hr'
      simp only at hr'
      subst hr'
      exact callK_dies (β := Tr) hU hsub2
    rw [hpt] at hU hr'
    simp only at hr'
    refine callK_goes (β := Unit) hU fun s9 h9 => ?_
    have e9 := h9.sub v6 _ (upd_same _ _ _)
    try simp [q_load_p e9]
    refine callK_just (h_impl_pi a k _) ?_
    exact tree_out (vs := z4) (h9.below ((Sub.refl _).put hv60)) hv0 hr'.symm
  · rw [if_neg h123] at hr
    have d1 : decide (byteP t j = 123) = false := decide_eq_false (fun e => h123 ((byteP_eq 123).1 e))
    rw [d1]
    simp only [br]
    -- first looks at the same place
    have hFi : HCalls prog n_impl_parser_first [.ptr b 0] s (PG (upd st0 v (.cells z4)) b t false sc tree (pFirst t n sc j nd)) := hI _ _ _ _ _ h (by omega)
    rcases hpf : pFirst t n sc j nd with ⟨a, i1, nd1⟩ | ⟨cc, pp⟩
    rotate_left
    · rw [hpf] at hFi hr
      simp only at hr
      subst hr
      exact callK_dies (β := Tr) hFi hsub1
    have hk1 := pFirst_ok hpf
    have hsp := pFirst_size hpf
    rw [hpf] at hFi hr
    simp only at hr
    refine callK_goes (β := Unit) hFi fun s3 h3 => ?_
    intro v7 hv7
    have hv70 := h3.sub.isNone hv7
    refine tree_store (vs := z4) (upd_same _ _ _) rfl ?_
    rw [upd_upd]
    have h4 := h3.beside (.cells (tree a).cells) hv7
    have hsub2 := hsub1.put (b := v7) (o := .cells (tree a).cells) (hsub1.isNone hv70)
    refine callK_goes (β := Unit) (h_impl_parser_next h4 ht) fun s5 h5 => ?_
    have hge1 := runE_ge blank t i1
    generalize hj1 : runE blank t i1 = j1 at h5 hr hge1
    obtain ⟨q5, hb5, hq5⟩ := h5.ex
    have hle5 := h5.le
    have e5 := h5.sub v7 _ (upd_same _ _ _)
    try simp
    by_cases h45 : t[j1]? = some 45
    · have hj1l := (List.getElem?_eq_some_iff.1 h45).1
      have e1 : byteP t j1 = 45 := (byteP_eq 45).2 h45
      rw [if_pos h45] at hr
      rw [e1]
      try simp [q_load_p hb5, pC]
      rw [wrap64 (by omega) (by omega)]
      refine callK_just (by simpa using h_impl_parser_byte hb5 (j1 + 1)) ?_
      try simp
      intro k hk _
      by_cases h62 : t[j1 + 1]? = some 62
      · have hj2l := (List.getElem?_eq_some_iff.1 h62).1
        have e2 : byteP t (j1 + 1) = 62 := (byteP_eq 62).2 h62
        rw [if_pos h62] at hr
        rw [e2]
        try simp
        refine hk _ _ ?_
        try simp [q_load_p e5]
        refine callK_just (h_impl_isKind a hsp.2 _) ?_
        try simp
        intro k1 hk1' _
        try simp
        refine br_of (fun hkd => ?_) (fun hkd => ?_)
        · rw [if_pos hkd] at hr
          exact dies (hsub2.trans h5.sub) hr.symm (by decide)
        · rw [if_neg (by rw [hkd]; simp)] at hr
          refine hk1' _ _ ?_
          try simp [q_load_p hb5, pC]
          have hn1 := h_impl_parser_node h5 (j1 : Int)
          rcases hpn : pNode nd1 (j1 : Int) (j1 + 2) with ⟨u, i2, nd2⟩ | ⟨cc, pp⟩
          rotate_left
          · rw [node_at.1 _ _ hpn] at hn1
            rw [hpn] at hr
            simp only at hr
            subst hr
            exact callK_dies (β := Tr) hn1 hsub2
          obtain ⟨rfl, rfl, hpn'⟩ := node_at.2 _ _ _ hpn
          rw [hpn'] at hn1
          rw [hpn] at hr
          simp only at hr
          refine callK_goes (β := Unit) hn1 fun s6 h6 => ?_
          obtain ⟨q6, hb6, hq6⟩ := h6.ex
          try simp [q_load_p hb6, pC]
          rw [wrap64 (by omega) (by omega)]
          refine e_setAt hb6 ?_
          have h7 := h6.move hb6 (i' := j1 + 2) (nd' := nd1 + 1) (by omega) h6.few
          have e7 := h7.sub v7 _ (upd_same _ _ _)
          have c2 : ((j1 + 2 : Nat) : Int) = (j1 : Int) + 2 := by omega
          rw [c2] at h7 e7
          generalize upd s6 b (.cells (pC t false ((j1 : Int) + 2) q6 ((nd1 + 1 : Nat) : Int))) = s7 at h7 e7
          try simp [q_load_p e7]
          have hFF := hF _ _ _ _ _ h7 (by omega)
          rcases hpg : pFam t n sc (j1 + 2) (nd1 + 1) with ⟨k2, i3, nd3⟩ | ⟨cc, pp⟩
          rotate_left
          · rw [hpg] at hFF hr
            simp only at hr
            subst hr
            exact callK_dies (β := Tr) hFF hsub2
          have hsz := (pFam_size hpg).1
          rw [hpg] at hFF hr
          simp only at hr
          refine callK_goes (β := Unit) hFF fun s8 h8 => ?_
          have e8 := h8.sub v7 _ (upd_same _ _ _)
          have hfew8 := h8.few
          try simp [q_load_p e8]
          refine callK_just (h_impl_lift k2 0 1 rfl (by omega) _) ?_
          try simp [q_load_p e8]
          refine callK_just (h_impl_pi a (k2.lift 0 1) _) ?_
          exact tree_out (vs := z4) (h8.below ((Sub.refl _).put hv70)) hv0 hr.symm
      · rw [if_neg h62] at hr
        have d2 : decide (byteP t (j1 + 1) = 62) = false := decide_eq_false (fun e => h62 ((byteP_eq 62).1 e))
        try simp [d2, q_load_p hb5, pC]
        rw [wrap64 (by omega) (by omega)]
        exact dies (hsub2.trans h5.sub) (by rw [← hr]; simp) (by decide)
    · rw [if_neg h45] at hr
      have d2 : decide (byteP t j1 = 45) = false := decide_eq_false (fun e => h45 ((byteP_eq 45).1 e))
      try simp [d2, q_load_p e5]
      exact tree_out (vs := z4) (h5.below ((Sub.refl _).put hv70)) hv0 hr.symm
theorem fam_all (hh : HoleOK b t false) (ht : t.length ≤ 1000000) : ∀ n, FamOK b t n ∧ FirstOK b t n
  | 0 => ⟨fun st0 st sc i nd hp hn => absurd hp.le (by omega), fun st0 st sc i nd hp hn => absurd hp.le (by omega)⟩
  | n + 1 => ⟨fam_step hh ht n (fam_all hh ht n).1 (fam_all hh ht n).2, first_step hh ht n (fam_all hh ht n).1 (term_all hh ht n).2⟩
end Go.H.Tryz
