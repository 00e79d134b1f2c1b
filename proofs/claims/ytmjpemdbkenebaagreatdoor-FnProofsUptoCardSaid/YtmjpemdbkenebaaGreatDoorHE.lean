/- Part of a proof that the program answers as the reference does: ZHC70, ZHC71, ZHC72, ZHC73, ZHC74, ZHC75, ZHC76, ZHC77. -/
import Derived.Test.YtmjpemdbkenebaaGreatDoorHY
import Derived.Test.YtmjpemdbkenebaaGreatDoorHR
set_option linter.unusedVariables false
set_option linter.unusedSimpArgs false
namespace Go.H.Tryz
open Go Go.H

variable {st0 st : St} {b : Nat} {t : List UInt8} {om : Bool} {sc : List (List UInt8)} {i nd : Nat}
abbrev PG {α : Type} (st0 : St) (b : Nat) (t : List UInt8) (om : Bool) (sc : List (List UInt8)) (val : α → PV) (r : PR α) : Res → St → Prop := PRes ty_impl_halt st0 b t om sc val r
def zqdm (t : List UInt8) (j : Nat) : Int := match t[j]? with | some c => c.toNat | none => -1
theorem byteP_some {t : List UInt8} {j : Nat} {c : UInt8} (h : t[j]? = some c) : zqdm t j = c.toNat := by unfold zqdm; rw [h]
theorem byteP_none {t : List UInt8} {j : Nat} (h : t[j]? = none) : zqdm t j = -1 := by unfold zqdm; rw [h]
theorem zq3b {t : List UInt8} {j : Nat} (c : UInt8) : zqdm t j = c.toNat ↔ t[j]? = some c := by
 unfold zqdm
 cases h : t[j]? with
 | none => simp
 | some d =>
   simp only [Option.some.injEq]
   constructor
   ·intro h; exact UInt8.toNat_inj.1 (by omega)
   ·intro h; rw [h]
theorem zqak {q : PV} {i i' nd : Int} {K : St → Prop} (hb : st b = some (.cells (pC t om i q nd))) (h : K (upd st b (.cells (pC t om i' q nd)))) : zq4 st 1 (.ptr b 1) (.int .i64 i') K := by
 rw [zqh _ _ _ _ _ _ _ hb]
 simpa [pC, zqg] using h
theorem e_setNd {q : PV} {i nd nd' : Int} {K : St → Prop} (hb : st b = some (.cells (pC t om i q nd))) (h : K (upd st b (.cells (pC t om i q nd')))) : zq4 st 1 (.ptr b 3) (.int .i64 nd') K := by
 rw [zqh _ _ _ _ _ _ _ hb]
 simpa [pC, zqg] using h
theorem e_setSc {q q' : PV} {i nd : Int} {K : St → Prop} (hb : st b = some (.cells (pC t om i q nd))) (h1 : q'.cellOK = true ∧ q'.ncells = 1 ∧ q'.isJunk = false ∧ q'.cells = [q']) (h : K (upd st b (.cells (pC t om i q' nd)))) : zq4 st 1 (.ptr b 2) q' K := by
 rw [zqh _ _ _ _ _ _ _ hb]
 obtain ⟨a1, a2, a3, a4⟩ := h1
 simpa [pC, zqg, a1, a2, a3, a4] using h
theorem zqha {t : List UInt8} {j : Nat} {c : UInt8} (h : t[j]? = some c) : q_ix (.str t) (.int .i64 j) = some (.int .u8 c.toNat) := by simp [q_ix, h]
theorem zq71 {q : PV} {i' nd' : Int} (hb : st b = some (.cells (pC t om i' q nd'))) (j : Nat) : zq5 prog n_impl_parser_byte [.ptr b 0, .int .i64 j] st (Just (.int .i64 (zqdm t j)) st) := by
 apply zqev
 unfold zq7i
 generalize hv : zqdm t j = v
 try simp [zq6 hb, pC]
 refine zql (fun h => ?_) (fun h => ?_)
 ·exact Just.int (by rw [← hv, byteP_none (List.getElem?_eq_none (by omega))])
 ·have hj : j < t.length := by omega
  try simp [zq6 hb, pC]
  rw [zqha (List.getElem?_eq_getElem hj)]
  try simp
  rw [zqs (by omega) (by have := t[j].toNat_lt; omega)]
  exact Just.int (by rw [← hv, byteP_some (List.getElem?_eq_getElem hj)])
theorem blank_signs (c : UInt8) : decide (0 ≤ Lib.indexByte [32, 9, 10, 13] c) = zq2g c := by
 rw [Bool.eq_iff_iff, decide_eq_true_eq, (zq3p c [32, 9, 10, 13]).1]
 unfold zq2g
 try simp [or_assoc]
theorem zqx (hp : PS st0 st b t om sc i nd) (ht : t.length ≤ 1000000) : zq5 prog n_impl_parser_next [.ptr b 0] st (PG st0 b t om sc (PV.int .i64) (.ok (zqdm t (runE zq2g t i)) (runE zq2g t i) nd)) := by
 apply zqet
 unfold zq7g
 intro k hk _
 refine zq6o (σ := St × Nat) (fun z => t.length - z.2) (fun _ => []) (fun z => z.1) (fun z => PS st0 z.1 b t om sc z.2 nd ∧ runE zq2g t z.2 = runE zq2g t i) ?_ (st, i) ⟨hp, rfl⟩
 rintro ⟨s, j⟩ ⟨h, he⟩ ih
 simp only at h he ih
 obtain ⟨q, hb, hq⟩ := h.ex
 have hle := h.le
 have fin : runE zq2g t j = j → k [] s := fun e => by
  refine hk _ _ ?_
  try simp [zq6 hb, pC]
  refine zq1 (zq71 hb j) ?_
  rw [← he, e]
  exact PRes.ret h rfl
 intro k1 hk1 _
 try simp [zq6 hb, pC]
 refine zql (fun hj => ?_) (fun hj => ?_)
 ·have hj' : j < t.length := by omega
  try simp [zq6 hb, pC]
  rw [zqha (List.getElem?_eq_getElem hj')]
  simp only [zq20]
  refine zq1 (zq1k _ _ _) ?_
  try simp
  refine hk1 _ _ ?_
  simp only [List.getD_cons_zero, cb]
  rw [blank_signs]
  refine zq50 (fun hB => ?_) (fun hB => fin (zq62 fun c hc => by rw [List.getElem?_eq_getElem hj'] at hc; cases hc; exact hB))
  try simp [zq6 hb, pC]
  rw [zqs (by omega) (by omega)]
  refine zqak hb ?_
  refine ih (upd s b (.cells (pC t om ((j : Int) + 1) q nd)), j + 1) (by simp only; omega) ⟨?_, ?_⟩
  ·have := h.move hb (i' := j + 1) (nd' := nd) (by omega) h.few
   simpa using this
  ·rw [← he, ← zqcc (List.getElem?_eq_getElem hj') hB]
 ·refine hk1 _ _ ?_
  simp only [List.getD_cons_zero, cb, br]
  exact fin (zq62 fun c hc => by rw [List.getElem?_eq_none (by omega)] at hc; cases hc)
theorem zq1v (hp : PS st0 st b t om sc i nd) (p : Int) : zq5 prog n_impl_parser_node [.ptr b 0, .int .i64 p] st (PG st0 b t om sc (fun _ => PV.tup []) (zqcg nd p i)) := by
 apply zqes
 unfold zq7f
 obtain ⟨q, hb, hq⟩ := hp.ex
 have hfew := hp.few
 obtain ⟨r, hr⟩ : ∃ r, zqcg nd p i = r := ⟨_, rfl⟩
 rw [hr]
 unfold zqcg at hr
 try simp [zq6 hb, pC]
 rw [zqs (by omega) (by omega)]
 refine e_setNd hb ?_
 have e := zq2 st b (.cells (pC t om i q ((nd : Int) + 1)))
 have hm : nd + 1 ≤ 150 → PS st0 (upd st b (.cells (pC t om i q ((nd : Int) + 1)))) b t om sc i (nd + 1) := fun h => by simpa using hp.move hb (i' := i) (nd' := nd + 1) hp.le h
 have hsub := hp.sub.put (b := b) (o := .cells (pC t om i q ((nd : Int) + 1))) hp.own
 generalize upd st b (.cells (pC t om i q ((nd : Int) + 1))) = s at e hm hsub
 try simp [zq6 e, pC]
 refine zql (fun h => ?_) (fun h => ?_)
 ·rw [if_pos (by omega)] at hr
  subst hr
  refine zqy (zqw 11 p (by decide) _) (fun h => by cases h) fun _ => ?_
  exact PRes.pan hsub
 ·rw [if_neg (by omega)] at hr
  subst hr
  exact PRes.ret (hm (by omega)) rfl
theorem zq1c (hp : PS st0 st b t om sc i nd) (ht : t.length ≤ 1000000) (c : UInt8) : zq5 prog n_impl_parser_expect [.ptr b 0, .int .i64 (c.toNat : Int)] st (PG st0 b t om sc (fun _ => PV.tup []) (zq3w t c i nd)) := by
 apply zqbv
 unfold zq5s
 refine zqi (β := Unit) (zqx hp ht) fun s h => ?_
 obtain ⟨q, hb, hq⟩ := h.ex
 have hle := h.le
 obtain ⟨r, hr⟩ : ∃ r, zq3w t c i nd = r := ⟨_, rfl⟩
 rw [hr]
 unfold zq3w at hr
 simp only [zq7z, q_neq, zq20]
 intro k hk _
 simp only [cb]
 refine zq50 (fun hc => ?_) (fun hc => ?_)
 ·have hc' : ¬ zqdm t (runE zq2g t i) = c.toNat := by simpa using hc
  rw [if_neg (fun e => hc' ((zq3b c).2 e))] at hr
  subst hr
  try simp [zq6 hb, pC]
  refine zqy (zqw 4 _ (by decide) _) (fun h => by cases h) fun _ => ?_
  exact PRes.pan h.sub
 ·have hc' : zqdm t (runE zq2g t i) = c.toNat := by simpa using hc
  have hs := (zq3b c).1 hc'
  rw [if_pos hs] at hr
  subst hr
  have hlt := (List.getElem?_eq_some_iff.1 hs).1
  refine hk _ _ ?_
  try simp [zq6 hb, pC]
  rw [zqs (by omega) (by omega)]
  refine zqak hb ?_
  refine PRes.ret ?_ rfl
  have := h.move hb (i' := runE zq2g t i + 1) (nd' := nd) (by omega) h.few
  simpa using this
theorem zq3h (hp : PS st0 st b t om sc i nd) (ht : t.length ≤ 1000000) (f : UInt8 → Bool) (sg : List UInt8) (hf : ∀ c, decide (0 ≤ Lib.indexByte sg c) = f c) : zq5 prog n_impl_parser_run [.ptr b 0, .str sg] st (PG st0 b t om sc PV.str (.ok (cut t i (runE f t i)) (runE f t i) nd)) := by
 apply zqgj
 unfold zq8d
 obtain ⟨q0, hb0, hq0⟩ := hp.ex
 have hle0 := hp.le
 try simp [zq6 hb0, pC]
 intro k hk _
 refine zq6o (σ := St × Nat) (fun z => t.length - z.2) (fun _ => []) (fun z => z.1) (fun z => PS st0 z.1 b t om sc z.2 nd ∧ runE f t z.2 = runE f t i) ?_ (st, i) ⟨hp, rfl⟩
 rintro ⟨s, j⟩ ⟨h, he⟩ ih
 simp only at h he ih
 obtain ⟨q, hb, hq⟩ := h.ex
 have hle := h.le
 have fin : runE f t j = j → k [] s := fun e => by
  refine hk _ _ ?_
  have hij : i ≤ j := by have := zq2v f t i; omega
  try simp [zq6 hb, pC, zq17, zq5d, optI]
  rw [if_pos (by omega)]
  try simp
  rw [← he, e]
  exact PRes.ret h rfl
 intro k1 hk1 _
 try simp [zq6 hb, pC]
 refine zql (fun hj => ?_) (fun hj => ?_)
 ·have hj' : j < t.length := by omega
  try simp [zq6 hb, pC]
  rw [zqha (List.getElem?_eq_getElem hj')]
  simp only [zq20]
  refine zq1 (zq1k _ _ _) ?_
  try simp
  refine hk1 _ _ ?_
  simp only [List.getD_cons_zero, cb]
  rw [hf]
  refine zq50 (fun hB => ?_) (fun hB => fin (zq62 fun c hc => by rw [List.getElem?_eq_getElem hj'] at hc; cases hc; exact hB))
  try simp [zq6 hb, pC]
  rw [zqs (by omega) (by omega)]
  refine zqak hb ?_
  refine ih (upd s b (.cells (pC t om ((j : Int) + 1) q nd)), j + 1) (by simp only; omega) ⟨?_, ?_⟩
  ·have := h.move hb (i' := j + 1) (nd' := nd) (by omega) h.few
   simpa using this
  ·rw [← he, ← zqcc (List.getElem?_eq_getElem hj') hB]
 ·refine hk1 _ _ ?_
  simp only [List.getD_cons_zero, cb, br]
  exact fin (zq62 fun c hc => by rw [List.getElem?_eq_none (by omega)] at hc; cases hc)
end Go.H.Tryz
set_option linter.unusedVariables false
set_option linter.unusedSimpArgs false
namespace Go.H.Tryz
open Go Go.H

theorem zq82 (q : PV) (hq : q.isJunk = false) (st : St) : zq5 prog n_slices_Backward_string_string [q] st (Just (.fn (.func n_slices_Backward_string_string_1) [] [.ref q.cells]) st) := by
 apply zq4v
 unfold zq2i
 exact zq9 hq (Just.ret (Sub.refl _))
theorem zqbp (P : Program) (st : St) (l : Nat) (xs : List PV) (K Kp : PV → St → Prop) : zq57 P st (.fn (.yield l) [] []) xs K Kp = callY P l xs st K Kp := rfl
theorem orJ_of {Qj : List (HExit × (St → Prop))} {f g : HExit × (St → Prop) → Prop} (h : orJ Qj f) (hfg : ∀ e, f e → g e) : orJ Qj g := by
 induction Qj with
 | nil => exact h
 | cons e r ih => exact h.elim (fun h => .inl (hfg _ h)) (fun h => .inr (ih h))
theorem zq60 {q : PV} (h : q.isAgg = false) (r : List PV) : zq3n false 1 (q :: r) = some q := by
 cases q <;> first | rfl | (simp [PV.isAgg] at h)
theorem range_back {q : PV} {xs : List PV} {s0 : St} {round : List PV → St → (St → (St → Prop) → Prop) → (HExit → St → Prop) → Prop} {Qn : St → Prop} {Qj : List (HExit × (St → Prop))} (I : Nat → St → Prop) (J : HExit → St → Prop) (hl : xs.length ≤ 1000000) (hcell : ∀ x ∈ xs, x.cells = [x] ∧ x.isAgg = false) (hqc : q.isAgg = false)
  (hread : ∀ k s, I k s → Reads s 1 xs q) (hIu : ∀ l env r k s, s0 l = none → I k s → I k (upd s l (.loop env r))) (hJu : ∀ l env r e s, s0 l = none → J e s → J e (upd s l (.loop env r))) (h0 : I xs.length s0)
  (hr : ∀ l env r1 r2 k x s X, s0 l = none → xs[k]? = some x → s l = some (.loop env r1) → I (k + 1) s → (∀ s', s' l = some (.loop env r2) → I k s' → X .normal s') → (∀ e s', isJump e = true → s' l = some (.loop env r2) → J e s' → X e s') → round [.int .i64 k, x] s (beginJ l env r1 r2) X)
  (hn : ∀ l env r s, s0 l = none → s l = some (.loop env r) → I 0 s → Qn (del s l)) (hj : ∀ l env r e s, s0 l = none → s l = some (.loop env r) → J e s → orJ Qj (fun e' => e'.1 = e ∧ e'.2 (del s l))) :
  hRange prog (.fn (.func n_slices_Backward_string_string_1) [] [.ref [q]]) s0 round Qn Qj := by
 intro l env r1 r2 r3 hl0 hy
 show zq5 prog n_slices_Backward_string_string_1 [.fn (.yield l) [] [], .ref [q]] _ _
 apply zq45
 unfold zq27
 have hq2 := zq60 hqc
 have hlen : zq1j q = some (.int .i64 xs.length) := (hread _ _ h0).len
 try simp [hq2, hlen]
 rw [zqs (by omega) (by omega)]
 refine zq6o (σ := Nat × St) (fun z => z.1) (fun z => [.int .i64 ((z.1 : Int) - 1)]) (fun z => z.2) (fun z => z.2 l = some (.loop env r1) ∧ I z.1 z.2 ∧ z.1 ≤ xs.length) ?_ (xs.length, upd s0 l (.loop env r1)) ⟨zq2 _ _ _, hIu l _ _ _ _ hl0 h0, Nat.le_refl _⟩
 rintro ⟨k, s⟩ ⟨hs, hI, hk⟩ ih
 simp only at hs hI hk ih
 try simp
 refine zql (fun hc => ?_) (fun hc => ?_)
 ·obtain ⟨k, rfl⟩ : ∃ k', k = k' + 1 := ⟨k - 1, by omega⟩
  have hkl : k < xs.length := by omega
  have hx := List.getElem?_eq_getElem hkl
  have e1 : ((k + 1 : Nat) : Int) - 1 = (k : Int) := by omega
  rw [e1]
  obtain ⟨a, ha, hload⟩ := (hread _ _ hI).get k _ .i64 hx
  rw [ha]
  simp only [zq20]
  rw [hload]
  obtain ⟨c1, c2⟩ := hcell _ (List.getElem_mem hkl)
  have hone : zq3n false 1 xs[k].cells = some xs[k] := by
   rw [c1]
   revert c2
   cases xs[k] <;> intro c2 <;> first | rfl | (simp [PV.isAgg] at c2)
  rw [hone]
  simp only [zq20]
  rw [zqbp]
  refine hy _ _ _ _ hs (hr l env r1 r2 k _ _ _ hl0 hx hs hI (fun s' hl' h' => ?_) (fun e s' he hl' h' => ?_))
  ·refine ⟨hl', ?_⟩
   try simp
   rw [zqs (by omega) (by omega)]
   exact ih (k, upd s' l (.loop env r1)) (by simp only; omega) ⟨zq2 _ _ _, hIu l _ _ _ _ hl0 h', by omega⟩
  ·have key : retR (fun r s => match r with | .ret _ => (s l = some (.loop env r1) ∧ Qn (del s l)) ∨ orJ Qj (fun e => s l = some (.loop env (r3 e.1)) ∧ e.2 (del s l)) | .pan _ => False) (.tup []) (upd s' l (.loop env (r3 e))) := by
    refine zq29 (.inr ?_)
    exact orJ_of (hj l env (r3 e) e _ hl0 (zq2 _ _ _) (hJu l _ _ e s' hl0 h')) fun e' ⟨h1, h2⟩ => ⟨by rw [h1]; exact zq2 _ _ _, h2⟩
   refine ⟨hl', ?_⟩
   cases e with
   | normal => cases he
   | pan p => cases he
   | _ => simp; exact key
 ·obtain rfl : k = 0 := by omega
  refine zq29 (.inl ⟨hs, hn l env r1 _ hl0 hs hI⟩)
variable {st0 st : St} {b : Nat} {t : List UInt8} {om : Bool} {sc : List (List UInt8)} {i nd : Nat}
def boundP (sc : List (List UInt8)) (w : List UInt8) : Int := match boundN sc w with | some n => n | none => -1
theorem boundN_none {sc : List (List UInt8)} {w : List UInt8} (h : ∀ j : Nat, sc[j]? ≠ some w) : boundN sc w = none := by
 unfold boundN
 rw [List.idxOf?_eq_none_iff]
 intro hm
 obtain ⟨j, hj⟩ := List.mem_iff_getElem?.1 (List.mem_reverse.1 hm)
 exact h j hj
theorem boundN_some {sc : List (List UInt8)} {w : List UInt8} {k : Nat} (h : sc[k]? = some w) (hl : ∀ j : Nat, k < j → sc[j]? ≠ some w) : boundN sc w = some (sc.length - 1 - k) := by
 have hk := (List.getElem?_eq_some_iff.1 h).1
 unfold boundN
 rw [List.idxOf?_eq_some_iff]
 refine ⟨by rw [List.length_reverse]; omega, ?_, ?_⟩
 ·have h1 : sc.reverse[sc.length - 1 - k]? = some w := by
   rw [List.getElem?_reverse (by omega), ← h]
   congr 1
   omega
  have := (List.getElem?_eq_some_iff.1 h1).2
  simpa using this
 ·intro j hj
  have hjl : j < sc.length := by omega
  intro e
  have h1 : sc.reverse[j]? = some w := by
   rw [List.getElem?_eq_getElem (by rw [List.length_reverse]; omega)]
   simpa using e
  rw [List.getElem?_reverse (by omega)] at h1
  exact hl _ (by omega) h1
theorem zqct (hp : PS st0 st b t om sc i nd) (w : List UInt8) : zq5 prog n_impl_parser_bound [.ptr b 0, .str w] st (PG st0 b t om sc (PV.int .i64) (.ok (boundP sc w) i nd)) := by
 apply zqdg
 unfold zq6e
 refine zq9 rfl ?_
 refine zq9 rfl ?_
 intro v hv
 obtain ⟨q, hb, hq⟩ := hp.ex
 have hvb : b ≠ v := fun e => by rw [e, hv] at hb; cases hb
 have e1 := zq2 st v (.cells [.int .i64 0])
 have hs1 : Sub st (upd st v (.cells [.int .i64 0])) := (Sub.refl st).put hv
 have hb1 : upd st v (.cells [.int .i64 0]) b = some (.cells (pC t om i q nd)) := by rw [zq7 _ _ hvb]; exact hb
 have hdeep := hp.deep
 have hfew := hp.few
 generalize hS : upd st v (.cells [.int .i64 0]) = s at e1 hs1 hb1
 obtain ⟨hrd, hj1, hj2⟩ := hp.scope hb
 have hagg : q.isAgg = false := by rcases hq with ⟨_, rfl⟩ | ⟨_, _, _, _, rfl, _⟩ <;> rfl
 try simp [zq6 hb1, pC, zq60 hagg]
 refine zq1 (zq82 q hj1 _) ?_
 rw [hj2]
 obtain ⟨r, hr⟩ : ∃ r, boundP sc w = r := ⟨_, rfl⟩
 rw [hr]
 refine range_back (I := fun k s' => Sub st s' ∧ s' v = some (.cells [.int .i64 0]) ∧ ∀ j, k ≤ j → sc[j]? ≠ some w) (J := fun e s' => e = .ret ∧ Sub st s' ∧ s' v = some (.cells [.int .i64 r])) (xs := sc.map PV.str) (by simp; omega) (fun x hx => ?_) hagg ?_ ?_ ?_ ⟨hs1, e1, fun j hj => ?_⟩ ?_ ?_ ?_
 ·obtain ⟨y, _, rfl⟩ := List.mem_map.1 hx
  exact ⟨rfl, rfl⟩
 ·rintro k s' ⟨h1, _, _⟩
  exact ((hp.grow h1).scope (h1 _ _ hb)).1
 ·rintro l env r k s' hl ⟨h1, h2, h3⟩
  have hlv : v ≠ l := fun e => by rw [e, hl] at e1; cases e1
  exact ⟨h1.put (hs1.isNone hl), by rw [zq7 _ _ hlv]; exact h2, h3⟩
 ·rintro l env r e s' hl ⟨h1, h2, h3⟩
  have hlv : v ≠ l := fun e => by rw [e, hl] at e1; cases e1
  exact ⟨h1, h2.put (hs1.isNone hl), by rw [zq7 _ _ hlv]; exact h3⟩
 ·rw [List.length_map] at hj
  rw [List.getElem?_eq_none (by omega)]
  try simp
 ·rintro l env r1 r2 k x s' X hl hx hsl ⟨h1, h2, h3⟩ hnorm hjump
  have hlv : v ≠ l := fun e => by rw [e, hl] at e1; cases e1
  have h1 := h1.put (o := .loop env r2) (hs1.isNone hl)
  have h2 : upd s' l (.loop env r2) v = some (.cells [.int .i64 0]) := by rw [zq7 _ _ hlv]; exact h2
  rw [List.getElem?_map] at hx
  cases hy : sc[k]? with
  | none => rw [hy] at hx; cases hx
  | some y =>
  rw [hy] at hx
  cases hx
  have hkl := (List.getElem?_eq_some_iff.1 hy).1
  have hsl2 := zq2 s' l (.loop env r2)
  try simp
  refine ⟨hsl, ?_⟩
  generalize upd s' l (.loop env r2) = s2 at h1 h2 hsl2
  refine zql (fun e => ?_) (fun e => ?_)
  ·subst e
   have hb2 := h1 _ _ hb
   try simp [zq6 hb2, pC, zq60 hagg]
   rw [((hp.grow h1).scope hb2).1.len]
   try simp
   rw [zqs (n := (sc.length : Int) - 1) (by omega) (by omega), zqs (by omega) (by omega)]
   rw [zqh _ _ _ _ _ _ _ h2]
   try simp
   refine hjump _ _ rfl (by rw [zq7 _ _ (Ne.symm hlv)]; exact hsl2) ⟨rfl, h1.put hv, ?_⟩
   rw [zq2]
   have hb3 := boundN_some hy (fun j hj => h3 j (by omega))
   have : r = (sc.length : Int) - 1 - k := by rw [← hr]; unfold boundP; rw [hb3]; simp only; omega
   rw [this]
  ·refine hnorm _ hsl2 ⟨h1, h2, fun j hj => ?_⟩
   by_cases ej : j = k
   ·rw [ej, hy]; intro h; exact e (by simpa using h)
   ·exact h3 j (by omega)
 ·rintro l env r' s' hl hsl ⟨h1, h2, h3⟩
  have hlv : v ≠ l := fun e => by rw [e, hl] at e1; cases e1
  have h1 := h1.del' (hs1.isNone hl)
  have h2 : del s' l v = some (.cells [.int .i64 0]) := by rw [zq5k _ hlv]; exact h2
  rw [zqh _ _ _ _ _ _ _ h2]
  try simp
  try simp [zq6 (zq2 _ _ _)]
  refine PRes.ret (hp.grow (h1.put hv)) ?_
  rw [← hr]
  unfold boundP
  rw [boundN_none (fun j => h3 j (Nat.zero_le _))]
 ·rintro l env r' e s' hl hsl ⟨rfl, h1, h2⟩
  have hlv : v ≠ l := fun e => by rw [e, hl] at e1; cases e1
  have h1 := h1.del' (hs1.isNone hl)
  have h2 : del s' l v = some (.cells [.int .i64 r]) := by rw [zq5k _ hlv]; exact h2
  refine .inl ⟨rfl, ?_⟩
  try simp [zq6 h2]
  exact PRes.ret (hp.grow h1) rfl
end Go.H.Tryz
set_option linter.unusedVariables false
set_option linter.unusedSimpArgs false
namespace Go.H.Tryz
open Go Go.H

variable {st0 st : St} {b : Nat} {t : List UInt8} {om : Bool} {sc : List (List UInt8)} {i nd : Nat}
theorem wrapU8 (c : UInt8) : IntKind.wrap .u8 (c.toNat : Int) = c.toNat := by
 have := c.toNat_lt
 exact IntWalk.u8_in _ ⟨by omega, by omega⟩
theorem zqh2 (c : UInt8) : decide (0 ≤ Lib.indexByte zq55 c) = zqaa c := by
 rw [Bool.eq_iff_iff, decide_eq_true_eq, (zq3p c zq55).1]
 have := word_signs c
 unfold zqaa
 rw [← this]
 try simp
theorem zq5i (w : List UInt8) (st : St) : zq5 prog n_impl_constant [.str w, .sl 0 true []] st (Just (tree (.mk 6 0 w [])) st) := by
 apply zq6s
 unfold zq4o
 intro b2 hb2
 rw [show zqe [PV.int IntKind.i64 0, PV.int IntKind.i64 0, PV.str [], PV.sl 0 true []] [(0, 1, PV.int IntKind.i64 6), (2, 1, PV.str w), (3, 1, PV.sl 0 true [])] = some (.agg [.int .i64 6, .int .i64 0, .str w, .sl 0 true []]) from rfl]
 try simp
 try simp [zq6 (zq2 _ _ _)]
 exact Just.tree (t := .mk 6 0 w []) rfl (.inr rfl) rfl rfl rfl ((Sub.refl st).put hb2)
theorem look_at (t : List UInt8) (j : Nat) : (t[j]? = none ∧ zqdm t j = -1 ∧ zq8m t j = false) ∨ ∃ c : UInt8, t[j]? = some c ∧ zqdm t j = c.toNat ∧ zq8m t j = zqcl c := by
 unfold zqdm zq8m
 cases h : t[j]? with
 | none => exact .inl ⟨rfl, rfl, rfl⟩
 | some c => exact .inr ⟨c, rfl, rfl, rfl⟩
theorem wordAt_head {t : List UInt8} {j : Nat} : zq3t t j = cut t j (runE zqaa t j) := rfl
theorem zq5f (hp : PS st0 st b t om sc i nd) (ht : t.length ≤ 1000000) : zq5 prog n_impl_parser_binder [.ptr b 0] st (PG st0 b t om sc PV.str (zqcj t i nd)) := by
 apply zqbw
 unfold zq5t
 obtain ⟨r, hr⟩ : ∃ r, zqcj t i nd = r := ⟨_, rfl⟩
 rw [hr]
 unfold zqcj at hr
 refine zqi (β := Unit) (zqx hp ht) fun s h => ?_
 obtain ⟨q, hb, hq⟩ := h.ex
 try simp [zq6 hb, pC]
 generalize hj : runE zq2g t i = j at h hb hr
 have bad : ∀ s', Sub st0 s' → r = .er 4 j → panR (PG st0 b t om sc PV.str r) (halt ty_impl_halt 4 j) s' := fun s' hs e => by rw [e]; exact PRes.pan hs
 intro k hk _
 have no : zq8m t j = false → k [.bool true] s := fun h0 => by
  rw [if_neg (by rw [h0]; simp)] at hr
  refine hk _ _ ?_
  try simp
  exact zqy (zqw 4 _ (by decide) _) (fun h => by cases h) fun _ => bad _ h.sub hr.symm
 have yes : zq8m t j = true → k [.bool false] s := fun h1 => by
  refine hk _ _ ?_
  try simp
  refine zqi (β := Unit) (zq3h h ht zqaa zq55 zqh2) fun s1 hs1 => ?_
  refine zq1 (zqfg _ _) ?_
  simp only [h1, true_and] at hr
  try simp
  show br _ _ _
  rw [wordAt_head] at hr
  refine zq50 (fun hw' => ?_) (fun hw' => ?_)
  ·refine zql (fun e => ?_) (fun e => ?_)
   ·rw [if_neg (fun h => h.2.1 e)] at hr
    exact zqy (zqw 4 _ (by decide) _) (fun h => by cases h) fun _ => bad _ hs1.sub hr.symm
   ·refine zql (fun e2 => ?_) (fun e2 => ?_)
    ·rw [if_neg (fun h => h.2.2 e2)] at hr
     exact zqy (zqw 4 _ (by decide) _) (fun h => by cases h) fun _ => bad _ hs1.sub hr.symm
    ·rw [if_pos ⟨hw', e, e2⟩] at hr
     subst hr
     exact PRes.ret hs1 rfl
  ·rw [if_neg (by rw [hw']; simp)] at hr
   exact zqy (zqw 4 _ (by decide) _) (fun h => by cases h) fun _ => bad _ hs1.sub hr.symm
 rcases look_at t j with ⟨e0, e1, e2⟩ | ⟨c, e0, e1, e2⟩
 ·rw [e1]
  try simp
  exact no e2
 ·rw [e1]
  have hc := c.toNat_lt
  have : decide ((c.toNat : Int) = -1) = false := decide_eq_false (by omega)
  rw [this]
  try simp
  rw [wrapU8 c]
  refine zq1 (zq4t c _) ?_
  try simp
  cases hl : zqcl c with
  | true => simpa using yes (by rw [e2]; exact hl)
  | false => simpa using no (by rw [e2]; exact hl)
theorem zq65 {r : PR Tr} (hp : PS st0 st b t om sc i nd) (hd : sc.length + 1 ≤ 100 + nd) (w : List UInt8) (g : FuncId) (hg : ∀ st1 s, PS st1 s b t om (sc ++ [w]) i nd → zq5 prog g [.ptr b 0] s (PG st1 b t om (sc ++ [w]) tree r)) :
  zq5 prog n_impl_parser_under [.ptr b 0, .str w, .fn (.func g) [.ptr b 0] []] st (PG st0 b t om sc tree r) := by
 apply zqdd
 unfold zq6b
 intro v hv
 have hp1 := hp.beside (.cells [.int .i64 0, .int .i64 0, .str [], .sl 0 true []]) hv
 have hv0 := hp.sub.isNone hv
 obtain ⟨q, hb, hq⟩ := hp1.ex
 have hagg : q.isAgg = false := by rcases hq with ⟨_, rfl⟩ | ⟨_, _, _, _, rfl, _⟩ <;> rfl
 try simp [zq6 hb, pC, zq60 hagg]
 refine hp1.push hb hd fun q' s' hq' hb' h2 => ?_
 refine e_setSc hb' hq' ?_
 have hS := hg _ _ h2
 generalize upd s' b (.cells (pC t om i q' nd)) = s2 at hS h2
 rcases hr : r with ⟨k, i', nd'⟩ | ⟨c, p⟩
 ·rw [hr] at hS
  refine zqi (β := Unit) hS fun s3 h3 => ?_
  intro v7 hv7
  have h4 := h3.beside (.cells [.int .i64 0, .int .i64 0, .str [], .sl 0 true []]) hv7
  try simp
  have e7 := zq2 s3 v7 (.cells (tree k).cells)
  obtain ⟨q4, hb4, hq4⟩ := (h3.beside (.cells (tree k).cells) hv7).ex
  have h5 := h3.beside (.cells (tree k).cells) hv7
  have hv70 := h3.sub.isNone hv7
  generalize hS3 : upd s3 v7 (.cells (tree k).cells) = s4 at e7 hb4 h5 hq4 ⊢
  have hagg4 : q4.isAgg = false := by rcases hq4 with ⟨_, rfl⟩ | ⟨_, _, _, _, rfl, _⟩ <;> rfl
  obtain ⟨hlen, q5, hsl, hq5, h6⟩ := h5.pop hb4
  try simp [zq6 hb4, pC, zq60 hagg4, hlen]
  have hdeep := h5.deep
  have hfew := h5.few
  rw [List.length_append, List.length_singleton] at hdeep
  rw [zqs (by omega) (by omega)]
  rw [hsl]
  try simp
  refine e_setSc hb4 hq5 ?_
  have e7b := h6.sub v7 _ (zq2 _ _ _)
  generalize upd s4 b (.cells (pC t om i' q5 nd')) = s5 at h6 e7b
  try simp [zq6 e7b]
  have e6 := h6.sub v _ (by rw [zq7 _ _ (fun e => by rw [e, zq2] at hv70; cases hv70)]; exact zq2 _ _ _)
  rw [zqh _ _ _ _ _ _ _ e6]
  try simp
  try simp [zq6 (zq2 _ _ _)]
  exact PRes.ret (((h6.below ((Sub.refl _).put hv70)).turn (zq2 _ _ _) _).below (by rw [zq10]; exact (Sub.refl _).put hv0)) rfl
 ·rw [hr] at hS
  exact zqn (β := Tr) hS ((Sub.refl _).put hv0)
end Go.H.Tryz
set_option linter.unusedVariables false
set_option linter.unusedSimpArgs false
namespace Go.H.Tryz
open Go Go.H

variable {st0 st : St} {b : Nat} {t : List UInt8} {om : Bool} {sc : List (List UInt8)} {i nd : Nat}
def HoleOK (b : Nat) (t : List UInt8) (om : Bool) : Prop := ∀ st0 st sc j nd, PS st0 st b t om sc j nd → t[j]? = some 63 → zq5 prog n_impl_parser_hole [.ptr b 0] st (PG st0 b t om sc tree (pHole t j nd))
theorem dies {α : Type} {val : α → PV} {r : PR α} {c p : Int} {s : St} {K : PV → St → Prop} (hs : Sub st0 s) (hr : r = .er c p) (hc : c ≠ 0) : zqb prog n_impl_stop [.int .i64 c, .int .i64 p] s K (panR (PG st0 b t om sc val r)) := by
 subst hr
 exact zqy (zqw c p hc _) (fun h => absurd h hc) fun _ => PRes.pan hs
theorem zq70 (hh : HoleOK b t om) (hp : PS st0 st b t om sc i nd) (ht : t.length ≤ 1000000) : zq5 prog n_impl_parser_head [.ptr b 0] st (PG st0 b t om sc tree (pHead t sc i nd)) := by
 apply zqeu
 unfold zq7h
 obtain ⟨r, hr⟩ : ∃ r, pHead t sc i nd = r := ⟨_, rfl⟩
 rw [hr]
 unfold pHead at hr
 intro v hv
 have hp1 := hp.beside (.cells [.int .i64 0, .int .i64 0, .str [], .sl 0 true []]) hv
 have hv0 := hp.sub.isNone hv
 refine zqi (β := Unit) (zqx hp1 ht) fun s h => ?_
 obtain ⟨q, hb, hq⟩ := h.ex
 try simp [zq6 hb, pC]
 generalize hj : runE zq2g t i = j at h hb hr
 simp only at hr
 have hsub1 : Sub st0 (upd st0 v (.cells [.int .i64 0, .int .i64 0, .str [], .sl 0 true []])) := (Sub.refl _).put hv0
 -- the value is handed back through the variable
 have out : ∀ (k : Tr) (i' nd' : Nat) (s' : St), PS (upd st0 v (.cells [.int .i64 0, .int .i64 0, .str [], .sl 0 true []])) s' b t om sc i' nd' → r = .ok k i' nd' →
   zq4 s' 4 (.ptr v 0) (tree k) fun st => qb (zq0 st true 4 (.ptr v 0)) fun r_1 => retR (PG st0 b t om sc tree r) r_1 st := fun k i' nd' s' h' e => by
  subst e
  have ev := h'.sub v _ (zq2 _ _ _)
  rw [zqh _ _ _ _ _ _ _ ev]
  try simp
  try simp [zq6 (zq2 _ _ _)]
  exact PRes.ret ((h'.turn (zq2 _ _ _) _).below (by rw [zq10]; exact (Sub.refl _).put hv0)) rfl
 intro k hk _
 -- a word begins here
 have word : ¬ t[j]? = some 63 → zq8m t j = true → k [] s := fun hq0 h1 => by
  rw [if_neg hq0, if_neg (by rw [h1]; simp)] at hr
  refine hk _ _ ?_
  refine zqi (β := Unit) (zq3h h ht zqaa zq55 zqh2) fun s1 hs1 => ?_
  have ew : cut t j (runE zqaa t j) = zq3t t j := rfl
  rw [ew]
  generalize hw : zq3t t j = w at hr
  intro k1 hk1 _
  have bad : (w = wType ∨ w = wOmit ∨ w.length > 40) → k1 [.bool true] s1 := fun hc => by
   rw [if_pos hc] at hr
   refine hk1 _ _ ?_
   try simp
   exact dies (hsub1.trans hs1.sub) hr.symm (by decide)
  try simp
  refine zql (fun e => bad (.inl e)) (fun e => ?_)
  refine zql (fun e2 => bad (.inr (.inl e2))) (fun e2 => ?_)
  by_cases e3 : w.length > 40
  ·rw [decide_eq_true (by omega)]
   exact bad (.inr (.inr e3))
  ·rw [decide_eq_false (by omega)]
   rw [if_neg (fun h => h.elim e fun h => h.elim e2 e3)] at hr
   refine hk1 _ _ ?_
   try simp
   have hn := zq1v hs1 (j : Int)
   unfold zqcg at hn
   by_cases e4 : nd + 1 > 150
   ·rw [if_pos e4] at hn hr
    subst hr
    exact zqn (β := Tr) hn hsub1
   ·rw [if_neg e4] at hn hr
    refine zqi (β := Unit) hn fun s2 hs2 => ?_
    refine zqi (β := Unit) (zqct hs2 w) fun s3 hs3 => ?_
    intro k2 hk2 _
    try simp
    unfold boundP at hk2 ⊢
    cases hbd : boundN sc w with
    | some n =>
      rw [hbd] at hr hk2
      simp only at hr hk2 ⊢
      refine zql (fun h => by omega) (fun _ => ?_)
      refine hk2 _ _ ?_
      intro k3 hk3 _
      try simp
      refine hk3 _ _ ?_
      try simp
      refine zq1 (zq8y n _) ?_
      exact out (.mk 5 n [] []) _ _ s3 hs3 hr.symm
    | none =>
      rw [hbd] at hr hk2
      simp only at hr hk2 ⊢
      refine zql (fun _ => ?_) (fun h => by omega)
      refine zq1 (zq2w w _) ?_
      try simp
      refine hk2 _ _ ?_
      intro k3 hk3 _
      try simp
      refine zq50 (fun hnm => ?_) (fun hnm => ?_)
      ·rw [if_pos hnm] at hr
       refine hk3 _ _ ?_
       try simp
       refine zq1 (zq5i w _) ?_
       exact out (.mk 6 0 w []) _ _ s3 hs3 hr.symm
      ·rw [if_neg (by rw [hnm]; simp)] at hr
       exact dies (hsub1.trans hs3.sub) hr.symm (by decide)
 have none' : ¬ t[j]? = some 63 → zq8m t j = false → r = .er 4 j := fun h1 h2 => by
  rw [if_neg h1, if_pos h2] at hr
  exact hr.symm
 rcases look_at t j with ⟨e0, e1, e2⟩ | ⟨c, e0, e1, e2⟩
 ·rw [e1]
  try simp
  exact dies (hsub1.trans h.sub) (none' (by rw [e0]; simp) e2) (by decide)
 ·rw [e1]
  have hc := c.toNat_lt
  refine zql (fun e => ?_) (fun e => ?_)
  ·have e63 : c = 63 := UInt8.toNat_inj.1 (by have : (63 : UInt8).toNat = 63 := rfl; omega)
   subst e63
   rw [if_pos e0] at hr
   have hH := hh _ _ _ _ _ h e0
   rcases hR : pHole t j nd with ⟨kk, i', nd'⟩ | ⟨cc, pp⟩
   ·rw [hR] at hH
    refine zqi (β := Unit) hH fun s1 hs1 => ?_
    exact out kk i' nd' s1 hs1 (by rw [← hr, hR])
   ·rw [hR] at hH
    rw [← hr, hR]
    exact zqn (β := Tr) hH hsub1
  ·have n63 : ¬ t[j]? = some 63 := fun h => by
    rw [e0] at h
    cases h
    exact e rfl
   rw [decide_eq_false (by omega)]
   try simp
   rw [wrapU8 c]
   refine zq1 (zq4t c _) ?_
   try simp
   cases hl : zqcl c with
   | true => simpa using word n63 (by rw [e2]; exact hl)
   | false =>
     try simp
     exact dies (hsub1.trans h.sub) (none' n63 (by rw [e2]; exact hl)) (by decide)
end Go.H.Tryz
set_option linter.unusedVariables false
set_option linter.unusedSimpArgs false
namespace Go.H.Tryz
open Go Go.H

variable {st0 st : St} {b : Nat} {t : List UInt8} {om : Bool} {sc : List (List UInt8)} {i nd : Nat}
def pArgm (t : List UInt8) (om : Bool) (sc : List (List UInt8)) (j nd : Nat) : PR Tr :=
 if om = true ∧ zq3t t j = wOmit then match zqcg nd j (j + 1) with
  | .er c p => .er c p
  | .ok _ i1 nd1 => .ok (.mk 8 0 [] []) i1 nd1
 else pHead t sc j nd
theorem omit_end {t : List UInt8} {j : Nat} (hj : j ≤ t.length) (h : zq3t t j = wOmit) : runE zqaa t j = j + 1 := by
 have h1 := cut_len (zq2v zqaa t j) (runE_le zqaa t hj)
 unfold zq3t at h
 rw [h] at h1
 have : wOmit.length = 1 := rfl
 have := zq2v zqaa t j
 omega
theorem zero_store {s : St} {v : Nat} {K : St → Prop} {k : Tr} (ev : s v = some (.cells [.int .i64 0, .int .i64 0, .str [], .sl 0 true []])) (h : K (upd s v (.cells (tree k).cells))) : zq4 s 4 (.ptr v 0) (tree k) K := by
 rw [zqh _ _ _ _ _ _ _ ev]
 simpa [zqg, zqj] using h
theorem zq8z (hh : HoleOK b t om) (hp : PS st0 st b t om sc i nd) (ht : t.length ≤ 1000000) : zq5 prog n_impl_parser_argument [.ptr b 0] st (PG st0 b t om sc tree (pArgm t om sc i nd)) := by
 apply zq9a
 unfold zq4w
 obtain ⟨r, hr⟩ : ∃ r, pArgm t om sc i nd = r := ⟨_, rfl⟩
 rw [hr]
 unfold pArgm at hr
 intro v hv
 have h := hp.beside (.cells [.int .i64 0, .int .i64 0, .str [], .sl 0 true []]) hv
 have hv0 := hp.sub.isNone hv
 have hsub1 : Sub st0 (upd st0 v (.cells [.int .i64 0, .int .i64 0, .str [], .sl 0 true []])) := (Sub.refl _).put hv0
 generalize upd st v (.cells [.int .i64 0, .int .i64 0, .str [], .sl 0 true []]) = s at h
 obtain ⟨q, hb, hq⟩ := h.ex
 try simp [zq6 hb, pC]
 intro k hk _
 have headK : ¬ (om = true ∧ zq3t t i = wOmit) → ∀ (s1 : St) i1, PS (upd st0 v (.cells [.int .i64 0, .int .i64 0, .str [], .sl 0 true []])) s1 b t om sc i1 nd → k [.bool false] s1 := fun hn s1 i1 h1 => by
  rw [if_neg hn] at hr
  refine hk _ _ ?_
  obtain ⟨q1, hb1, hq1⟩ := h1.ex
  try simp
  refine zqak hb1 ?_
  have h2 := h1.move hb1 (i' := i) (nd' := nd) hp.le hp.few
  have hH := zq70 hh h2 ht
  rw [hr] at hH
  rcases r with ⟨kk, i', nd'⟩ | ⟨cc, pp⟩
  ·refine zqi (β := Unit) hH fun s3 h3 => ?_
   refine zero_store (h3.sub v _ (zq2 _ _ _)) ?_
   try simp [zq6 (zq2 _ _ _)]
   exact PRes.ret ((h3.turn (zq2 _ _ _) _).below (by rw [zq10]; exact (Sub.refl _).put hv0)) rfl
  ·exact zqn (β := Tr) hH hsub1
 cases om with
 | false =>
   try simp
   exact headK (by simp) _ _ h
 | true =>
   try simp
   refine zqi (β := Unit) (zq3h h ht zqaa zq55 zqh2) fun s1 h1 => ?_
   have ew : cut t i (runE zqaa t i) = zq3t t i := rfl
   rw [ew]
   try simp
   by_cases hw : zq3t t i = wOmit
   ·have : decide (zq3t t i = [95]) = true := decide_eq_true hw
    rw [this]
    rw [if_pos ⟨rfl, hw⟩] at hr
    refine hk _ _ ?_
    try simp
    have hn := zq1v h1 (i : Int)
    rw [omit_end hp.le hw] at hn
    rcases hpn : zqcg nd (i : Int) (i + 1) with ⟨u, i1, nd1⟩ | ⟨cc, pp⟩
    ·rw [hpn] at hn hr
     simp only at hr
     subst hr
     refine zqi (β := Unit) hn fun s3 h3 => ?_
     try simp
     rw [show zqe [PV.int IntKind.i64 0, PV.int IntKind.i64 0, PV.str [], PV.sl 0 true []] [(0, 1, PV.int IntKind.i64 8)] = some (.agg [.int .i64 8, .int .i64 0, .str [], .sl 0 true []]) from rfl]
     simp only [zq20]
     rw [zqh _ _ _ _ _ _ _ (h3.sub v _ (zq2 _ _ _))]
     try simp
     try simp [zq6 (zq2 _ _ _)]
     refine PRes.conv ((h3.turn (zq2 _ _ _) _).below (by rw [zq10]; exact (Sub.refl _).put hv0)) ?_
     exact zq88 _ 8 0 [] 0 true [] (.inr rfl)
    ·rw [hpn] at hn hr
     simp only at hr
     subst hr
     exact zqn (β := Tr) hn hsub1
   ·have : decide (zq3t t i = [95]) = false := decide_eq_false hw
    rw [this]
    exact headK (fun h => hw h.2) _ _ h1
def argsLoop (b : Nat) (R : Res → St → Prop) (ls : List PV) (st : St) (X : List PV → St → Prop) : Prop :=
 zqb prog n_impl_parser_next [.ptr b 0] st (fun v7 st =>
 qb (zqc .eql v7 (.int .i64 40)) fun v11 =>
 cb v11 fun b_1 => br b_1
  (qb (zq1d (.ptr b 0)) fun v13 =>
  qb (q_fa 1 v13) fun v14 =>
  qb (zq0 st false 1 v14) fun v15 =>
  qb (zqc .add v15 (.int .i64 1)) fun v16 =>
  qb (zq1d (.ptr b 0)) fun v17 =>
  qb (q_fa 1 v17) fun v18 =>
  zq4 st 1 v18 v16 fun st =>
  zqb prog n_impl_parser_term [.ptr b 0] st (fun v21 st =>
  qb (zq24 4 1 0 [] [(0, v21)]) fun v22 =>
  zqo st 4 56 (ls.getD 0 .junk) v22 (fun v23 st =>
  zqb prog n_impl_parser_expect [.ptr b 0, (.int .i64 41)] st (fun v25 st =>
  X [v23] st) (panR R))) (panR R))
  (hJ (fun ls_1 st =>
   cb (ls_1.getD 0 .junk) fun b_1 => br b_1
    (zqb prog n_impl_parser_argument [.ptr b 0] st (fun v40 st =>
    qb (zq24 4 1 0 [] [(0, v40)]) fun v41 =>
    zqo st 4 56 (ls.getD 0 .junk) v41 (fun v42 st =>
    X [v42] st)) (panR R))
    (retR R (ls.getD 0 .junk) st))
   (fun k =>
  qb (zqc .eql v7 (.int .i64 63)) fun v28 =>
  cb v28 fun b_2 => br b_2
   (k [(.bool true)] st)
   (qb (zqc .neq v7 (.int .i64 (-1))) fun v31 =>
   cb v31 fun b_3 => br b_3
    (qb (zqe5 .u8 v7) fun v34 =>
    zqb prog n_impl_isHead [v34] st (fun v35 st =>
    k [v35] st) (panR R))
    (k [(.bool false)] st))))) (panR R)
def treesP (ks : List Tr) : PV := .sl 4 false (ks.map tree)
def TermOK (b : Nat) (t : List UInt8) (om : Bool) (n : Nat) : Prop := ∀ st0 st sc i nd, PS st0 st b t om sc i nd → t.length < i + n → zq5 prog n_impl_parser_term [.ptr b 0] st (PG st0 b t om sc tree (pTerm t om n sc i nd))
def LoopOK (b : Nat) (t : List UInt8) (om : Bool) (n : Nat) : Prop := ∀ st0 base s p sc i nd (acc : List Tr), Grow st0 4 (acc.map tree) p base → PS base s b t om sc i nd → t.length < i + n → acc.length ≤ i →
 hFix (argsLoop b (PG st0 b t om sc treesP (zqkg t om n sc i nd acc))) [p] s
theorem PRes.freeze {base s : St} {ks : List Tr} {p : PV} (hg : Grow st0 4 (ks.map tree) p base) (h : PS base s b t om sc i nd) : retR (PG st0 b t om sc treesP (.ok ks i nd)) p s := by
 obtain ⟨s', hc, hs⟩ := PS.freeze hg h
 exact zqcd hc ⟨rfl, hs⟩
theorem loop_args (hh : HoleOK b t om) (ht : t.length ≤ 1000000) (n : Nat) (hT : TermOK b t om n) (hL : LoopOK b t om n) : LoopOK b t om (n + 1) := by
 intro st0 base s p sc i nd acc hg hp hn hacc
 obtain ⟨r, hr⟩ : ∃ r, zqkg t om (n + 1) sc i nd acc = r := ⟨_, rfl⟩
 rw [hr]
 unfold zqkg at hr
 refine zq32 ?_
 generalize hX : hFix (argsLoop b (PG st0 b t om sc treesP r)) = X
 unfold argsLoop
 have hsb := hg.sub
 refine zqi (β := Unit) (zqx hp ht) fun s1 h => ?_
 have hge := zq2v zq2g t i
 generalize hj : runE zq2g t i = j at h hr hge
 obtain ⟨q, hb, hq⟩ := h.ex
 have hle := h.le
 simp only [List.getD_cons_zero]
 -- one more
 have more : ∀ (k : Tr) (s2 : St) (i2 nd2 : Nat) (K : PV → St → Prop), PS base s2 b t om sc i2 nd2 → (∀ p' base' s', Grow st0 4 ((acc ++ [k]).map tree) p' base' → PS base' s' b t om sc i2 nd2 → K p' s') → qb (if (tree k).ncells = 4 ∧ (∀ (x : PV), x ∈ (tree k).cells → x.cellOK = true) then some (PV.sl 4 true [tree k]) else none) fun v22 => zqo s2 4 56 p v22 K := fun k s2 i2 nd2 K h2 hk => by
  rw [if_pos ⟨zq4a k, fun x hx => List.all_eq_true.1 (zq2z k) x hx⟩]
  simp only [zq20]
  refine h2.append hg (by simp; omega) fun p' base' s' hg' h' => hk p' base' s' (by simpa using hg') h'
 by_cases h40 : t[j]? = some 40
 ·have hjl := (List.getElem?_eq_some_iff.1 h40).1
  have e1 : zqdm t j = 40 := (zq3b 40).2 h40
  rw [if_pos h40] at hr
  rw [e1]
  try simp [zq6 hb, pC]
  rw [zqs (by omega) (by omega)]
  refine zqak hb ?_
  have h2 := h.move hb (i' := j + 1) (nd' := nd) (by omega) h.few
  have hTT := hT _ _ _ _ _ h2 (by omega)
  rcases hpt : pTerm t om n sc (j + 1) nd with ⟨k, i1, nd1⟩ | ⟨cc, pp⟩
  ·rw [hpt] at hTT hr
   simp only at hr
   have hk1 := pTerm_ok hpt
   refine zqi (β := Unit) hTT fun s3 h3 => ?_
   refine more k s3 i1 nd1 _ h3 fun p' base' s' hg' h' => ?_
   have hE := zq1c h' ht 41
   rcases hpe : zq3w t 41 i1 nd1 with ⟨u, i2, nd2⟩ | ⟨cc, pp⟩
   ·rw [hpe] at hE hr
    simp only at hr
    have hk2 := zq1m hpe
    refine zqi (β := Unit) hE fun s4 h4 => ?_
    have := hL st0 base' s4 p' sc i2 nd2 (acc ++ [k]) hg' h4 (by omega) (by simp; omega)
    rw [hr, hX] at this
    exact this
   ·rw [hpe] at hE hr
    simp only at hr
    subst hr
    exact zqn (β := List Tr) hE hg'.sub
  ·rw [hpt] at hTT hr
   simp only at hr
   subst hr
   exact zqn (β := List Tr) hTT hsb
 ·rw [if_neg h40] at hr
  have e1 : ¬ zqdm t j = 40 := fun e => h40 ((zq3b 40).1 e)
  have d1 : decide (zqdm t j = 40) = false := decide_eq_false e1
  try simp
  rw [d1]
  simp only [br]
  intro k hk _
  have endK : ¬ (t[j]? = some 63 ∨ zq8m t j = true) → k [.bool false] s1 := fun hn => by
   rw [if_neg hn] at hr
   subst hr
   refine hk _ _ ?_
   try simp
   exact PRes.freeze hg h
  have argK : (t[j]? = some 63 ∨ zq8m t j = true) → k [.bool true] s1 := fun hy => by
   rw [if_pos hy] at hr
   refine hk _ _ ?_
   try simp
   have hA := zq8z hh h ht
   have hr' : (match pArgm t om sc j nd with | .er c p => (PR.er c p : PR (List Tr)) | .ok a i1 nd1 => zqkg t om n sc i1 nd1 (acc ++ [a])) = r := by
    rw [← hr]
    unfold pArgm
    by_cases hc : om = true ∧ zq3t t j = wOmit
    ·rw [if_pos hc, if_pos hc]
     cases zqcg nd (j : Int) (j + 1) <;> rfl
    ·rw [if_neg hc, if_neg hc]
     cases pHead t sc j nd <;> rfl
   have hprog : ∀ a i1 nd1, pArgm t om sc j nd = .ok a i1 nd1 → j < i1 := fun a i1 nd1 e => by
    unfold pArgm at e
    split at e
    ·split at e
     ·cases e
     ·rename_i h1
      obtain ⟨rfl, rfl⟩ := zq3k h1
      cases e
      omega
    ·exact zqll e
   rcases hpa : pArgm t om sc j nd with ⟨a, i1, nd1⟩ | ⟨cc, pp⟩
   ·rw [hpa] at hA hr'
    simp only at hr'
    have hk1 := hprog _ _ _ hpa
    refine zqi (β := Unit) hA fun s3 h3 => ?_
    refine more a s3 i1 nd1 _ h3 fun p' base' s' hg' h' => ?_
    have := hL st0 base' s' p' sc i1 nd1 (acc ++ [a]) hg' h' (by omega) (by simp; omega)
    rw [hr', hX] at this
    exact this
   ·rw [hpa] at hA hr'
    simp only at hr'
    subst hr'
    exact zqn (β := List Tr) hA hsb
  rcases look_at t j with ⟨e0, e1, e2⟩ | ⟨c, e0, e1, e2⟩
  ·rw [e1]
   try simp
   exact endK (by rw [e0, e2]; simp)
  ·rw [e1]
   have hc := c.toNat_lt
   refine zql (fun e => ?_) (fun e => ?_)
   ·have e63 : c = 63 := UInt8.toNat_inj.1 (by have : (63 : UInt8).toNat = 63 := rfl; omega)
    subst e63
    exact argK (.inl e0)
   ·have d2 : decide ((c.toNat : Int) = -1) = false := decide_eq_false (by omega)
    rw [d2]
    show zqb _ _ _ _ _ _
    rw [wrapU8 c]
    refine zq1 (zq4t c _) ?_
    cases hl : zqcl c with
    | true => exact argK (.inr (by rw [e2]; exact hl))
    | false =>
      refine endK (fun h => h.elim (fun h => ?_) (fun h => by rw [e2, hl] at h; cases h))
      rw [e0] at h
      cases h
      exact e rfl
end Go.H.Tryz
set_option linter.unusedVariables false
set_option linter.unusedSimpArgs false
namespace Go.H.Tryz
open Go Go.H

variable {st0 st : St} {b : Nat} {t : List UInt8} {om : Bool} {sc : List (List UInt8)} {i nd : Nat}
theorem args_of {n : Nat} (hL : LoopOK b t om n) (hp : PS st0 st b t om sc i nd) (hn : t.length < i + n) : zq5 prog n_impl_parser_args [.ptr b 0] st (PG st0 b t om sc treesP (zqkg t om n sc i nd [])) := by
 apply zqew
 unfold zq7j
 rw [show zq24 4 0 0 [] [] = some (.sl 4 true []) from rfl]
 simp only [zq20]
 exact hL st0 st0 st _ sc i nd [] (Grow.nil st0 4 4) hp hn (Nat.zero_le _)
theorem zq4p {s : St} {v : Nat} {K : St → Prop} {k : Tr} {vs : List PV} (ev : s v = some (.cells vs)) (hl : vs.length = 4) (h : K (upd s v (.cells (tree k).cells))) : zq4 s 4 (.ptr v 0) (tree k) K := by
 rw [zqh _ _ _ _ _ _ _ ev]
 obtain ⟨a1, a2, a3, a4, rfl⟩ : ∃ a1 a2 a3 a4, vs = [a1, a2, a3, a4] := by
  match vs, hl with
  | [a1, a2, a3, a4], _ => exact ⟨a1, a2, a3, a4, rfl⟩
 simpa [zqg, zqj] using h
def z4 : List PV := [.int .i64 0, .int .i64 0, .str [], .sl 0 true []]
theorem zq7x {s : St} {v : Nat} {k : Tr} {r : PR Tr} {i' nd' : Nat} {vs : List PV} (h : PS (upd st0 v (.cells z4)) s b t om sc i' nd') (hv0 : st0 v = none) (e : r = .ok k i' nd') :
  zq4 s 4 (.ptr v 0) (tree k) fun st => qb (zq0 st true 4 (.ptr v 0)) fun r_1 => retR (PG st0 b t om sc tree r) r_1 st := by
 subst e
 refine zq4p (h.sub v _ (zq2 _ _ _)) rfl ?_
 try simp [zq6 (zq2 _ _ _)]
 exact PRes.ret ((h.turn (zq2 _ _ _) _).below (by rw [zq10]; exact (Sub.refl _).put hv0)) rfl
theorem term_step (hh : HoleOK b t om) (ht : t.length ≤ 1000000) (n : Nat) (hT : TermOK b t om n) (hL : LoopOK b t om n) : TermOK b t om (n + 1) := by
 intro st0 st sc i nd hp hn
 apply zqer
 unfold zq7e
 obtain ⟨r, hr⟩ : ∃ r, pTerm t om (n + 1) sc i nd = r := ⟨_, rfl⟩
 rw [hr]
 unfold pTerm at hr
 intro v hv
 have hp1 := hp.beside (.cells z4) hv
 have hv0 := hp.sub.isNone hv
 have hsub1 : Sub st0 (upd st0 v (.cells z4)) := (Sub.refl _).put hv0
 refine zqi (β := Unit) (zqx hp1 ht) fun s h => ?_
 have hge := zq2v zq2g t i
 generalize hj : runE zq2g t i = j at h hr hge
 obtain ⟨q, hb, hq⟩ := h.ex
 have hle := h.le
 have hdeep := h.deep
 by_cases h91 : t[j]? = some 91
 ·have hjl := (List.getElem?_eq_some_iff.1 h91).1
  have e1 : zqdm t j = 91 := (zq3b 91).2 h91
  rw [if_pos h91] at hr
  rw [e1]
  try simp [zq6 hb, pC]
  have hn1 := zq1v h (j : Int)
  rcases hpn : zqcg nd (j : Int) (j + 1) with ⟨u, i1, nd1⟩ | ⟨cc, pp⟩
  rotate_left
  ·have hpn' : zqcg nd (j : Int) j = .er cc pp := by unfold zqcg at hpn ⊢; split at hpn <;> simp_all
   rw [hpn'] at hn1
   rw [hpn] at hr
   simp only at hr
   subst hr
   exact zqn (β := Tr) hn1 hsub1
  obtain ⟨rfl, rfl⟩ := zq3k hpn
  have hpn' : zqcg nd (j : Int) j = .ok () j (nd + 1) := by unfold zqcg at hpn ⊢; split at hpn <;> simp_all
  rw [hpn'] at hn1
  rw [hpn] at hr
  simp only at hr
  refine zqi (β := Unit) hn1 fun s2 h2 => ?_
  obtain ⟨q2, hb2, hq2⟩ := h2.ex
  try simp [zq6 hb2, pC]
  rw [zqs (by omega) (by omega)]
  refine zqak hb2 ?_
  have h3 := h2.move hb2 (i' := j + 1) (nd' := nd + 1) (by omega) h2.few
  have hB := zq5f h3 ht
  rcases hpb : zqcj t (j + 1) (nd + 1) with ⟨w, i2, nd2⟩ | ⟨cc, pp⟩
  rotate_left
  ·rw [hpb] at hB hr
   simp only at hr
   subst hr
   exact zqn (β := Tr) hB hsub1
  obtain ⟨hi2, rfl⟩ := zq6y hpb
  rw [hpb] at hB hr
  simp only at hr
  refine zqi (β := Unit) hB fun s4 h4 => ?_
  have hE := zq1c h4 ht 93
  rcases hpe : zq3w t 93 i2 (nd + 1) with ⟨u, i3, nd3⟩ | ⟨cc, pp⟩
  rotate_left
  ·rw [hpe] at hE hr
   simp only at hr
   subst hr
   exact zqn (β := Tr) hE hsub1
  obtain ⟨hi3, rfl⟩ := zq1m hpe
  rw [hpe] at hE hr
  simp only at hr
  refine zqi (β := Unit) hE fun s5 h5 => ?_
  have hU := zq65 (r := pTerm t om n (sc ++ [w]) i3 (nd + 1)) h5 (by omega) w n_impl_parser_term (fun st1 s hs => hT _ _ _ _ _ hs (by omega))
  rcases hpt : pTerm t om n (sc ++ [w]) i3 (nd + 1) with ⟨k, i4, nd4⟩ | ⟨cc, pp⟩
  rotate_left
  ·rw [hpt] at hU hr
   simp only at hr
   subst hr
   exact zqn (β := Tr) hU hsub1
  rw [hpt] at hU hr
  simp only at hr
  refine zqi (β := Unit) hU fun s6 h6 => ?_
  refine zq1 (h_impl_lam k _) ?_
  exact zq7x (vs := z4) h6 hv0 hr.symm
 ·rw [if_neg h91] at hr
  have d1 : decide (zqdm t j = 91) = false := decide_eq_false (fun e => h91 ((zq3b 91).1 e))
  try simp
  rw [d1]
  simp only [br]
  by_cases h40 : t[j]? = some 40
  ·have hjl := (List.getElem?_eq_some_iff.1 h40).1
   have e1 : zqdm t j = 40 := (zq3b 40).2 h40
   rw [if_pos h40] at hr
   rw [e1]
   try simp [zq6 hb, pC]
   rw [zqs (by omega) (by omega)]
   refine zqak hb ?_
   have h2 := h.move hb (i' := j + 1) (nd' := nd) (by omega) h.few
   have hTT := hT _ _ _ _ _ h2 (by omega)
   rcases hpt : pTerm t om n sc (j + 1) nd with ⟨k, i1, nd1⟩ | ⟨cc, pp⟩
   rotate_left
   ·rw [hpt] at hTT hr
    simp only at hr
    subst hr
    exact zqn (β := Tr) hTT hsub1
   rw [hpt] at hTT hr
   simp only at hr
   refine zqi (β := Unit) hTT fun s3 h3 => ?_
   intro v4 hv4
   have hv40 := h3.sub.isNone hv4
   refine zq4p (vs := z4) (zq2 _ _ _) rfl ?_
   rw [zq10]
   have h4 := h3.beside (.cells (tree k).cells) hv4
   have hE := zq1c h4 ht 41
   rcases hpe : zq3w t 41 i1 nd1 with ⟨u, i2, nd2⟩ | ⟨cc, pp⟩
   rotate_left
   ·rw [hpe] at hE hr
    simp only at hr
    subst hr
    exact zqn (β := Tr) hE (hsub1.put (hsub1.isNone hv40))
   rw [hpe] at hE hr
   simp only at hr
   refine zqi (β := Unit) hE fun s5 h5 => ?_
   have e4 := h5.sub v4 _ (zq2 _ _ _)
   try simp [zq6 e4]
   exact zq7x (vs := z4) (h5.below ((Sub.refl _).put hv40)) hv0 hr.symm
  ·rw [if_neg h40] at hr
   have d2 : decide (zqdm t j = 40) = false := decide_eq_false (fun e => h40 ((zq3b 40).1 e))
   rw [d2]
   simp only [br]
   have hH := zq70 hh h ht
   rcases hph : pHead t sc j nd with ⟨k, i1, nd1⟩ | ⟨cc, pp⟩
   rotate_left
   ·rw [hph] at hH hr
    simp only at hr
    subst hr
    exact zqn (β := Tr) hH hsub1
   have hk1 := zqll hph
   rw [hph] at hH hr
   simp only at hr
   refine zqi (β := Unit) hH fun s3 h3 => ?_
   intro v5 hv5
   have hv50 := h3.sub.isNone hv5
   refine zq4p (vs := z4) (zq2 _ _ _) rfl ?_
   rw [zq10]
   have h4 := h3.beside (.cells (tree k).cells) hv5
   have hA := args_of hL h4 (by omega)
   rcases hpa : zqkg t om n sc i1 nd1 [] with ⟨ks, i2, nd2⟩ | ⟨cc, pp⟩
   rotate_left
   ·rw [hpa] at hA hr
    simp only at hr
    subst hr
    exact zqn (β := Tr) hA (hsub1.put (hsub1.isNone hv50))
   rw [hpa] at hA hr
   simp only at hr
   refine zqi (β := Unit) hA fun s5 h5 => ?_
   have e5 := h5.sub v5 _ (zq2 _ _ _)
   have e5' : s5 v5 = some (.cells [.int .i64 k.kind, .int .i64 k.n, .str k.name, .sl 4 false (k.kids.map tree)]) := by rw [e5, zqj]
   try simp
   rw [zqh _ _ _ _ _ _ _ e5']
   try simp [treesP, zqg]
   try simp [zq6 (zq2 _ _ _)]
   have h6 := (h5.turn (zq2 _ _ _) (.cells [.int .i64 k.kind, .int .i64 k.n, .str k.name, .sl 4 false (ks.map tree)])).below (st0 := upd st0 v (.cells z4)) (by rw [zq10]; exact (Sub.refl _).put hv50)
   exact zq7x (vs := z4) h6 hv0 hr.symm
theorem zqh3 (hh : HoleOK b t om) (ht : t.length ≤ 1000000) : ∀ n, TermOK b t om n ∧ LoopOK b t om n
 | 0 => ⟨fun st0 st sc i nd hp hn => absurd hp.le (by omega), fun st0 base s p sc i nd acc hg hp hn _ => absurd hp.le (by omega)⟩
 | n + 1 => ⟨term_step hh ht n (zqh3 hh ht n).1 (zqh3 hh ht n).2, loop_args hh ht n (zqh3 hh ht n).1 (zqh3 hh ht n).2⟩
end Go.H.Tryz
set_option linter.unusedVariables false
set_option linter.unusedSimpArgs false
namespace Go.H.Tryz
open Go Go.H

variable {st0 st : St} {b : Nat} {t : List UInt8} {sc : List (List UInt8)} {i nd : Nat}
theorem zq94 (a : Tr) (ha : zqa3 a = true) (st : St) : zq5 prog n_impl_isKind [tree a] st (Just (.bool (zq4q a)) st) := by
 apply c_impl_isKind
 unfold zqfy
 obtain ⟨v, hv⟩ : ∃ v, zq4q a = v := ⟨_, rfl⟩
 rw [hv]
 refine zq2a (zqf _) fun b1 hb1 => ?_
 refine zq6o (σ := Tr) (fun z => z.size) (fun _ => []) (fun z => upd st b1 (.cells (tree z).cells)) (fun z => zqa3 z = true ∧ zq4q z = v) ?_ a ⟨ha, hv⟩
 rintro a ⟨ha, hv⟩ ih
 obtain ⟨k, n, s, ks⟩ := a
 rw [zq9u] at ha
 rw [isKindT_mk] at hv
 have e1 : upd st b1 (.cells (tree (.mk k n s ks)).cells) b1 = some (.cells [.int .i64 k, .int .i64 n, .str s, .sl 4 false (ks.map tree)]) := by rw [zq2, zqj]; rfl
 try simp [zq6 e1]
 refine zql (fun h2 => ?_) (fun h2 => ?_)
 ·rw [if_pos h2] at ha hv
  match ks, ha, hv with
  | [x, y], ha, hv =>
    simp only at ha hv
    have hq : q_ia 4 (.sl 4 false [tree x, tree y]) (.int .i64 1) = some (.ref (tree y).cells) := by simp [q_ia]
    try simp [hq]
    exact ih y (by rw [zq8q, zqlf]; omega) ⟨ha, hv⟩
 ·rw [if_neg h2] at hv
  exact Just.bool hv ((Sub.refl _).put hb1)
theorem h_impl_pi (x y : Tr) (st : St) : zq5 prog n_impl_pi [tree x, tree y] st (Just (tree (.mk 2 0 [] [x, y])) st) := by
 apply c_impl_pi
 unfold b_impl_pi
 refine zq9 (zqf _) ?_
 refine zq9 (zqf _) ?_
 intro b2 hb2
 try simp
 rw [show zqe [PV.int IntKind.i64 0, PV.int IntKind.i64 0, PV.str [], PV.sl 0 true []] [(0, 1, PV.int IntKind.i64 2), (3, 1, PV.sl 4 true [tree x, tree y])] = some (.agg [.int .i64 2, .int .i64 0, .str [], .sl 4 true [tree x, tree y]]) from rfl]
 try simp
 try simp [zq6 (zq2 _ _ _)]
 exact Just.tree (t := .mk 2 0 [] [x, y]) rfl (.inl rfl) rfl rfl rfl ((Sub.refl st).put hb2)
def FamOK (b : Nat) (t : List UInt8) (n : Nat) : Prop := ∀ st0 st sc i nd, PS st0 st b t false sc i nd → 2 * t.length + 1 < 2 * i + n → zq5 prog n_impl_parser_family [.ptr b 0] st (PG st0 b t false sc tree (pFam t n sc i nd))
def FirstOK (b : Nat) (t : List UInt8) (n : Nat) : Prop := ∀ st0 st sc i nd, PS st0 st b t false sc i nd → 2 * t.length < 2 * i + n → zq5 prog n_impl_parser_first [.ptr b 0] st (PG st0 b t false sc tree (zqch t n sc i nd))
def pDue (t : List UInt8) (n : Nat) (sc : List (List UInt8)) (i nd : Nat) : PR Tr := match pFam t n sc (runE zq2g t i) nd with
 | .er c p => .er c p
 | .ok a i1 nd1 => if zq4q a = true then .er 3 (runE zq2g t i) else .ok a i1 nd1
theorem due_of {n : Nat} (ht : t.length ≤ 1000000) (hF : FamOK b t n) (hp : PS st0 st b t false sc i nd) (hn : 2 * t.length + 1 < 2 * i + n) : zq5 prog n_impl_parser_due [.ptr b 0] st (PG st0 b t false sc tree (pDue t n sc i nd)) := by
 apply zqgl
 unfold zq8f
 obtain ⟨r, hr⟩ : ∃ r, pDue t n sc i nd = r := ⟨_, rfl⟩
 rw [hr]
 unfold pDue at hr
 intro v hv
 have hp1 := hp.beside (.cells z4) hv
 have hv0 := hp.sub.isNone hv
 have hsub1 : Sub st0 (upd st0 v (.cells z4)) := (Sub.refl _).put hv0
 refine zqi (β := Unit) (zqx hp1 ht) fun s h => ?_
 have hge := zq2v zq2g t i
 generalize hj : runE zq2g t i = j at h hr hge
 obtain ⟨q, hb, hq⟩ := h.ex
 try simp [zq6 hb, pC]
 have hFF := hF _ _ _ _ _ h (by omega)
 rcases hpf : pFam t n sc j nd with ⟨a, i1, nd1⟩ | ⟨cc, pp⟩
 rotate_left
 ·rw [hpf] at hFF hr
  simp only at hr
  subst hr
  exact zqn (β := Tr) hFF hsub1
 have hsp := (zqci hpf).2
 rw [hpf] at hFF hr
 simp only at hr
 refine zqi (β := Unit) hFF fun s3 h3 => ?_
 intro v4 hv4
 have hv40 := h3.sub.isNone hv4
 refine zq4p (vs := z4) (zq2 _ _ _) rfl ?_
 rw [zq10]
 have h4 := h3.beside (.cells (tree a).cells) hv4
 have e4 := zq2 s3 v4 (.cells (tree a).cells)
 generalize upd s3 v4 (.cells (tree a).cells) = s4 at h4 e4
 try simp [zq6 e4]
 refine zq1 (zq94 a hsp _) ?_
 try simp
 refine zq50 (fun hk => ?_) (fun hk => ?_)
 ·rw [if_pos hk] at hr
  exact dies (hsub1.trans (((Sub.refl _).put hv40).trans h4.sub)) hr.symm (by decide)
 ·rw [if_neg (by rw [hk]; simp)] at hr
  try simp [zq6 e4]
  exact zq7x (vs := z4) (h4.below ((Sub.refl _).put hv40)) hv0 hr.symm
theorem node_at {p : Int} {j i2 : Nat} : (∀ cc pp, zqcg nd p i2 = .er cc pp → zqcg nd p j = .er cc pp) ∧ (∀ u i3 nd3, zqcg nd p i2 = .ok u i3 nd3 → i3 = i2 ∧ nd3 = nd + 1 ∧ zqcg nd p j = .ok () j (nd + 1)) := by
 unfold zqcg
 split
 ·exact ⟨fun _ _ h => h, fun _ _ _ h => (by cases h)⟩
 ·exact ⟨fun _ _ h => (by cases h), fun _ _ _ h => (by cases h; exact ⟨rfl, rfl, rfl⟩)⟩
theorem first_step (hh : HoleOK b t false) (ht : t.length ≤ 1000000) (n : Nat) (hF : FamOK b t n) (hL : LoopOK b t false n) : FirstOK b t (n + 1) := by
 intro st0 st sc i nd hp hn
 apply zqde
 unfold zq6c
 obtain ⟨r, hr⟩ : ∃ r, zqch t (n + 1) sc i nd = r := ⟨_, rfl⟩
 rw [hr]
 unfold zqch at hr
 intro v hv
 have hp1 := hp.beside (.cells z4) hv
 have hv0 := hp.sub.isNone hv
 have hsub1 : Sub st0 (upd st0 v (.cells z4)) := (Sub.refl _).put hv0
 refine zqi (β := Unit) (zqx hp1 ht) fun s h => ?_
 have hge := zq2v zq2g t i
 simp only at hr
 generalize hj : runE zq2g t i = j at h hr hge
 obtain ⟨q, hb, hq⟩ := h.ex
 have hle := h.le
 try simp [zq6 hb, pC]
 intro k hk _
 have word : ¬ t[j]? = some 40 → zq8m t j = true → k [] s := fun hq0 h1 => by
  rw [if_neg hq0, if_neg (by rw [h1]; simp)] at hr
  have hgt := runW_gt h1
  refine hk _ _ ?_
  refine zqi (β := Unit) (zq3h h ht zqaa zq55 zqh2) fun s1 hs1 => ?_
  have ew : cut t j (runE zqaa t j) = zq3t t j := rfl
  rw [ew]
  generalize hw : zq3t t j = w at hr
  generalize hjw : runE zqaa t j = jw at hr hs1 hgt
  have hnd := zq1v hs1 (j : Int)
  intro k1 hk1 _
  try simp
  refine zql (fun e => ?_) (fun e => ?_)
  ·have e' : w = wType := e
   rw [if_pos e'] at hr
   rcases hpn : zqcg nd (j : Int) jw with ⟨u, i1, nd1⟩ | ⟨cc, pp⟩
   ·rw [hpn] at hnd hr
    simp only at hr
    subst hr
    refine zqi (β := Unit) hnd fun s2 h2 => ?_
    rw [show zqe [PV.int IntKind.i64 0, PV.int IntKind.i64 0, PV.str [], PV.sl 0 true []] [(0, 1, PV.int IntKind.i64 1)] = some (.agg [.int .i64 1, .int .i64 0, .str [], .sl 0 true []]) from rfl]
    simp only [zq20]
    rw [zqh _ _ _ _ _ _ _ (h2.sub v _ (zq2 _ _ _))]
    try simp [z4]
    try simp [zq6 (zq2 _ _ _)]
    refine PRes.conv ((h2.turn (zq2 _ _ _) _).below (by rw [zq10]; exact (Sub.refl _).put hv0)) ?_
    exact zq88 _ 1 0 [] 0 true [] (.inr rfl)
   ·rw [hpn] at hnd hr
    simp only at hr
    subst hr
    exact zqn (β := Tr) hnd hsub1
  ·have e' : ¬ w = wType := e
   rw [if_neg e'] at hr
   refine zql (fun e2 => ?_) (fun e2 => ?_)
   ·rw [if_pos (.inl e2)] at hr
    exact dies (hsub1.trans hs1.sub) hr.symm (by decide)
   ·refine zql (fun e3 => ?_) (fun e3 => ?_)
    ·rw [if_pos (.inr (by omega))] at hr
     exact dies (hsub1.trans hs1.sub) hr.symm (by decide)
    ·rw [if_neg (fun h => h.elim e2 fun h => by omega)] at hr
     refine hk1 _ _ ?_
     rcases hpn : zqcg nd (j : Int) jw with ⟨u, i1, nd1⟩ | ⟨cc, pp⟩
     rotate_left
     ·rw [hpn] at hnd hr
      simp only at hr
      subst hr
      exact zqn (β := Tr) hnd hsub1
     obtain ⟨rfl, rfl⟩ := zq3k hpn
     rw [hpn] at hnd hr
     simp only at hr
     refine zqi (β := Unit) hnd fun s2 h2 => ?_
     refine zq1 (zq2w w _) ?_
     try simp
     intro k2 hk2 _
     try simp
     refine zq50 (fun hnm => ?_) (fun hnm => ?_)
     ·rw [if_pos hnm] at hr
      refine hk2 _ _ ?_
      have hA := args_of hL h2 (by omega)
      rcases hpa : zqkg t false n sc i1 (nd + 1) [] with ⟨ks, i2, nd2⟩ | ⟨cc, pp⟩
      rotate_left
      ·rw [hpa] at hA hr
       simp only at hr
       subst hr
       exact zqn (β := Tr) hA hsub1
      rw [hpa] at hA hr
      simp only at hr
      subst hr
      refine zqi (β := Unit) hA fun s5 h5 => ?_
      unfold treesP
      rw [show zqe [PV.int IntKind.i64 0, PV.int IntKind.i64 0, PV.str [], PV.sl 0 true []] [(0, 1, PV.int IntKind.i64 3), (2, 1, PV.str w), (3, 1, PV.sl 4 false (ks.map tree))] = some (tree (.mk 3 0 w ks)) from by rw [zq5b]; rfl]
      simp only [zq20]
      exact zq7x (vs := z4) h5 hv0 rfl
     ·rw [if_neg (by rw [hnm]; simp)] at hr
      exact dies (hsub1.trans h2.sub) hr.symm (by decide)
 by_cases h40 : t[j]? = some 40
 ·have hjl := (List.getElem?_eq_some_iff.1 h40).1
  have e1 : zqdm t j = 40 := (zq3b 40).2 h40
  rw [if_pos h40] at hr
  rw [e1]
  try simp [zq6 hb, pC]
  rw [zqs (by omega) (by omega)]
  refine zqak hb ?_
  have h2 := h.move hb (i' := j + 1) (nd' := nd) (by omega) h.few
  have hFF := hF _ _ _ _ _ h2 (by omega)
  rcases hpf : pFam t n sc (j + 1) nd with ⟨a, i1, nd1⟩ | ⟨cc, pp⟩
  rotate_left
  ·rw [hpf] at hFF hr
   simp only at hr
   subst hr
   exact zqn (β := Tr) hFF hsub1
  rw [hpf] at hFF hr
  simp only at hr
  refine zqi (β := Unit) hFF fun s3 h3 => ?_
  intro v4 hv4
  have hv40 := h3.sub.isNone hv4
  refine zq4p (vs := z4) (zq2 _ _ _) rfl ?_
  rw [zq10]
  have h4 := h3.beside (.cells (tree a).cells) hv4
  have hE := zq1c h4 ht 41
  rcases hpe : zq3w t 41 i1 nd1 with ⟨u, i2, nd2⟩ | ⟨cc, pp⟩
  rotate_left
  ·rw [hpe] at hE hr
   simp only at hr
   subst hr
   exact zqn (β := Tr) hE (hsub1.put (hsub1.isNone hv40))
  rw [hpe] at hE hr
  simp only at hr
  refine zqi (β := Unit) hE fun s5 h5 => ?_
  have e4 := h5.sub v4 _ (zq2 _ _ _)
  try simp [zq6 e4]
  exact zq7x (vs := z4) (h5.below ((Sub.refl _).put hv40)) hv0 hr.symm
 ·have d2 : decide (zqdm t j = 40) = false := decide_eq_false (fun e => h40 ((zq3b 40).1 e))
  rw [d2]
  simp only [br]
  have none' : zq8m t j = false → r = .er 4 j := fun h2 => by
   rw [if_neg h40, if_pos h2] at hr
   exact hr.symm
  rcases look_at t j with ⟨e0, e1, e2⟩ | ⟨c, e0, e1, e2⟩
  ·rw [e1]
   try simp
   exact dies (hsub1.trans h.sub) (none' e2) (by decide)
  ·rw [e1]
   have hc := c.toNat_lt
   have d3 : decide ((c.toNat : Int) = -1) = false := decide_eq_false (by omega)
   rw [d3]
   show zqb _ _ _ _ _ _
   rw [wrapU8 c]
   refine zq1 (zq4t c _) ?_
   try simp
   cases hl : zqcl c with
   | true => simpa using word h40 (by rw [e2]; exact hl)
   | false =>
     try simp
     exact dies (hsub1.trans h.sub) (none' (by rw [e2]; exact hl)) (by decide)
end Go.H.Tryz
set_option linter.unusedVariables false
set_option linter.unusedSimpArgs false
namespace Go.H.Tryz
open Go Go.H

variable {st0 st : St} {b : Nat} {t : List UInt8} {sc : List (List UInt8)} {i nd : Nat}
theorem fam_step (hh : HoleOK b t false) (ht : t.length ≤ 1000000) (n : Nat) (hF : FamOK b t n) (hI : FirstOK b t n) : FamOK b t (n + 1) := by
 intro st0 st sc i nd hp hn
 apply zqbu
 unfold zq5r
 obtain ⟨r, hr⟩ : ∃ r, pFam t (n + 1) sc i nd = r := ⟨_, rfl⟩
 rw [hr]
 unfold pFam at hr
 intro v hv
 have hp1 := hp.beside (.cells z4) hv
 have hv0 := hp.sub.isNone hv
 have hsub1 : Sub st0 (upd st0 v (.cells z4)) := (Sub.refl _).put hv0
 refine zqi (β := Unit) (zqx hp1 ht) fun s h => ?_
 have hge := zq2v zq2g t i
 generalize hj : runE zq2g t i = j at h hr hge
 obtain ⟨q, hb, hq⟩ := h.ex
 have hle := h.le
 have hdeep := h.deep
 try simp [zq6 hb, pC]
 by_cases h123 : t[j]? = some 123
 ·have hjl := (List.getElem?_eq_some_iff.1 h123).1
  have e1 : zqdm t j = 123 := (zq3b 123).2 h123
  rw [if_pos h123] at hr
  rw [e1]
  try simp
  have hn1 := zq1v h (j : Int)
  rcases hpn : zqcg nd (j : Int) (j + 1) with ⟨u, i1, nd1⟩ | ⟨cc, pp⟩
  rotate_left
  ·rw [node_at.1 _ _ hpn] at hn1
   rw [hpn] at hr
   simp only at hr
   subst hr
   exact zqn (β := Tr) hn1 hsub1
  obtain ⟨rfl, rfl, hpn'⟩ := node_at.2 _ _ _ hpn
  rw [hpn'] at hn1
  rw [hpn] at hr
  simp only at hr
  refine zqi (β := Unit) hn1 fun s2 h2 => ?_
  obtain ⟨q2, hb2, hq2⟩ := h2.ex
  try simp [zq6 hb2, pC]
  rw [zqs (by omega) (by omega)]
  refine zqak hb2 ?_
  have h3 := h2.move hb2 (i' := j + 1) (nd' := nd + 1) (by omega) h2.few
  have hB := zq5f h3 ht
  rcases hpb : zqcj t (j + 1) (nd + 1) with ⟨w, i2, nd2⟩ | ⟨cc, pp⟩
  rotate_left
  ·rw [hpb] at hB hr
   simp only at hr
   subst hr
   exact zqn (β := Tr) hB hsub1
  obtain ⟨hi2, rfl⟩ := zq6y hpb
  rw [hpb] at hB hr
  simp only at hr
  refine zqi (β := Unit) hB fun s4 h4 => ?_
  have hE := zq1c h4 ht 58
  rcases hpe : zq3w t 58 i2 (nd + 1) with ⟨u, i3, nd3⟩ | ⟨cc, pp⟩
  rotate_left
  ·rw [hpe] at hE hr
   simp only at hr
   subst hr
   exact zqn (β := Tr) hE hsub1
  obtain ⟨hi3, rfl⟩ := zq1m hpe
  rw [hpe] at hE hr
  simp only at hr
  refine zqi (β := Unit) hE fun s5 h5 => ?_
  have hD := due_of ht hF h5 (by omega)
  have hr' : (match pDue t n sc i3 (nd + 1) with
   | .er c p => (PR.er c p : PR Tr)
   | .ok a i4 nd4 => match zq3w t 125 i4 nd4 with
     | .er c p => .er c p
     | .ok _ i5 nd5 => match pFam t n (sc ++ [w]) i5 nd5 with
       | .er c p => .er c p
       | .ok b i6 nd6 => .ok (.mk 2 0 [] [a, b]) i6 nd6) = r := by
   rw [← hr]
   unfold pDue
   cases pFam t n sc (runE zq2g t i3) (nd + 1) with
   | er c p => rfl
   | ok a i4 nd4 =>
     simp only
     by_cases hk : zq4q a = true
     ·rw [if_pos hk, if_pos hk]
     ·rw [if_neg hk, if_neg hk]
      simp only
      cases zq3w t 125 i4 nd4 with
      | er c p => rfl
      | ok u i5 nd5 =>
        simp only
        cases pFam t n (sc ++ [w]) i5 nd5 <;> rfl
  rcases hpd : pDue t n sc i3 (nd + 1) with ⟨a, i4, nd4⟩ | ⟨cc, pp⟩
  rotate_left
  ·rw [hpd] at hD hr'
   simp only at hr'
   subst hr'
   exact zqn (β := Tr) hD hsub1
  have hd4 : i3 ≤ i4 ∧ nd + 1 ≤ nd4 := by
   unfold pDue at hpd
   split at hpd
   ·cases hpd
   ·rename_i h1
    split at hpd
    ·cases hpd
    ·cases hpd
     have g1 := pFam_ok h1
     have g2 := zq2v zq2g t i3
     have g3 := (zqci h1).1
     omega
  rw [hpd] at hD hr'
  simp only at hr'
  refine zqi (β := Unit) hD fun s6 h6 => ?_
  intro v6 hv6
  have hv60 := h6.sub.isNone hv6
  refine zq4p (vs := z4) (zq2 _ _ _) rfl ?_
  rw [zq10]
  have h7 := h6.beside (.cells (tree a).cells) hv6
  have hsub2 := hsub1.put (b := v6) (o := .cells (tree a).cells) (hsub1.isNone hv60)
  have hE2 := zq1c h7 ht 125
  rcases hpe2 : zq3w t 125 i4 nd4 with ⟨u, i5, nd5⟩ | ⟨cc, pp⟩
  rotate_left
  ·rw [hpe2] at hE2 hr'
   simp only at hr'
   subst hr'
   exact zqn (β := Tr) hE2 hsub2
  obtain ⟨hi5, rfl⟩ := zq1m hpe2
  rw [hpe2] at hE2 hr'
  simp only at hr'
  refine zqi (β := Unit) hE2 fun s8 h8 => ?_
  have e8 := h8.sub v6 _ (zq2 _ _ _)
  try simp [zq6 e8]
  have hdeep6 := h6.deep
  have hU := zq65 (r := pFam t n (sc ++ [w]) i5 nd5) h8 (by omega) w n_impl_parser_family (fun st1 s hs => hF _ _ _ _ _ hs (by omega))
  rcases hpt : pFam t n (sc ++ [w]) i5 nd5 with ⟨k, i6, nd6⟩ | ⟨cc, pp⟩
  rotate_left
  ·rw [hpt] at hU hr'
   simp only at hr'
   subst hr'
   exact zqn (β := Tr) hU hsub2
  rw [hpt] at hU hr'
  simp only at hr'
  refine zqi (β := Unit) hU fun s9 h9 => ?_
  have e9 := h9.sub v6 _ (zq2 _ _ _)
  try simp [zq6 e9]
  refine zq1 (h_impl_pi a k _) ?_
  exact zq7x (vs := z4) (h9.below ((Sub.refl _).put hv60)) hv0 hr'.symm
 ·rw [if_neg h123] at hr
  have d1 : decide (zqdm t j = 123) = false := decide_eq_false (fun e => h123 ((zq3b 123).1 e))
  rw [d1]
  simp only [br]
  -- first looks at the same place
  have hFi : zq5 prog n_impl_parser_first [.ptr b 0] s (PG (upd st0 v (.cells z4)) b t false sc tree (zqch t n sc j nd)) := hI _ _ _ _ _ h (by omega)
  rcases hpf : zqch t n sc j nd with ⟨a, i1, nd1⟩ | ⟨cc, pp⟩
  rotate_left
  ·rw [hpf] at hFi hr
   simp only at hr
   subst hr
   exact zqn (β := Tr) hFi hsub1
  have hk1 := pFirst_ok hpf
  have hsp := pFirst_size hpf
  rw [hpf] at hFi hr
  simp only at hr
  refine zqi (β := Unit) hFi fun s3 h3 => ?_
  intro v7 hv7
  have hv70 := h3.sub.isNone hv7
  refine zq4p (vs := z4) (zq2 _ _ _) rfl ?_
  rw [zq10]
  have h4 := h3.beside (.cells (tree a).cells) hv7
  have hsub2 := hsub1.put (b := v7) (o := .cells (tree a).cells) (hsub1.isNone hv70)
  refine zqi (β := Unit) (zqx h4 ht) fun s5 h5 => ?_
  have hge1 := zq2v zq2g t i1
  generalize hj1 : runE zq2g t i1 = j1 at h5 hr hge1
  obtain ⟨q5, hb5, hq5⟩ := h5.ex
  have hle5 := h5.le
  have e5 := h5.sub v7 _ (zq2 _ _ _)
  try simp
  by_cases h45 : t[j1]? = some 45
  ·have hj1l := (List.getElem?_eq_some_iff.1 h45).1
   have e1 : zqdm t j1 = 45 := (zq3b 45).2 h45
   rw [if_pos h45] at hr
   rw [e1]
   try simp [zq6 hb5, pC]
   rw [zqs (by omega) (by omega)]
   refine zq1 (by simpa using zq71 hb5 (j1 + 1)) ?_
   try simp
   intro k hk _
   by_cases h62 : t[j1 + 1]? = some 62
   ·have hj2l := (List.getElem?_eq_some_iff.1 h62).1
    have e2 : zqdm t (j1 + 1) = 62 := (zq3b 62).2 h62
    rw [if_pos h62] at hr
    rw [e2]
    try simp
    refine hk _ _ ?_
    try simp [zq6 e5]
    refine zq1 (zq94 a hsp.2 _) ?_
    try simp
    intro k1 hk1' _
    try simp
    refine zq50 (fun hkd => ?_) (fun hkd => ?_)
    ·rw [if_pos hkd] at hr
     exact dies (hsub2.trans h5.sub) hr.symm (by decide)
    ·rw [if_neg (by rw [hkd]; simp)] at hr
     refine hk1' _ _ ?_
     try simp [zq6 hb5, pC]
     have hn1 := zq1v h5 (j1 : Int)
     rcases hpn : zqcg nd1 (j1 : Int) (j1 + 2) with ⟨u, i2, nd2⟩ | ⟨cc, pp⟩
     rotate_left
     ·rw [node_at.1 _ _ hpn] at hn1
      rw [hpn] at hr
      simp only at hr
      subst hr
      exact zqn (β := Tr) hn1 hsub2
     obtain ⟨rfl, rfl, hpn'⟩ := node_at.2 _ _ _ hpn
     rw [hpn'] at hn1
     rw [hpn] at hr
     simp only at hr
     refine zqi (β := Unit) hn1 fun s6 h6 => ?_
     obtain ⟨q6, hb6, hq6⟩ := h6.ex
     try simp [zq6 hb6, pC]
     rw [zqs (by omega) (by omega)]
     refine zqak hb6 ?_
     have h7 := h6.move hb6 (i' := j1 + 2) (nd' := nd1 + 1) (by omega) h6.few
     have e7 := h7.sub v7 _ (zq2 _ _ _)
     have c2 : ((j1 + 2 : Nat) : Int) = (j1 : Int) + 2 := by omega
     rw [c2] at h7 e7
     generalize upd s6 b (.cells (pC t false ((j1 : Int) + 2) q6 ((nd1 + 1 : Nat) : Int))) = s7 at h7 e7
     try simp [zq6 e7]
     have hFF := hF _ _ _ _ _ h7 (by omega)
     rcases hpg : pFam t n sc (j1 + 2) (nd1 + 1) with ⟨k2, i3, nd3⟩ | ⟨cc, pp⟩
     rotate_left
     ·rw [hpg] at hFF hr
      simp only at hr
      subst hr
      exact zqn (β := Tr) hFF hsub2
     have hsz := (zqci hpg).1
     rw [hpg] at hFF hr
     simp only at hr
     refine zqi (β := Unit) hFF fun s8 h8 => ?_
     have e8 := h8.sub v7 _ (zq2 _ _ _)
     have hfew8 := h8.few
     try simp [zq6 e8]
     refine zq1 (zq9x k2 0 1 rfl (by omega) _) ?_
     try simp [zq6 e8]
     refine zq1 (h_impl_pi a (k2.lift 0 1) _) ?_
     exact zq7x (vs := z4) (h8.below ((Sub.refl _).put hv70)) hv0 hr.symm
   ·rw [if_neg h62] at hr
    have d2 : decide (zqdm t (j1 + 1) = 62) = false := decide_eq_false (fun e => h62 ((zq3b 62).1 e))
    try simp [d2, zq6 hb5, pC]
    rw [zqs (by omega) (by omega)]
    exact dies (hsub2.trans h5.sub) (by rw [← hr]; simp) (by decide)
  ·rw [if_neg h45] at hr
   have d2 : decide (zqdm t j1 = 45) = false := decide_eq_false (fun e => h45 ((zq3b 45).1 e))
   try simp [d2, zq6 e5]
   exact zq7x (vs := z4) (h5.below ((Sub.refl _).put hv70)) hv0 hr.symm
theorem fam_all (hh : HoleOK b t false) (ht : t.length ≤ 1000000) : ∀ n, FamOK b t n ∧ FirstOK b t n
 | 0 => ⟨fun st0 st sc i nd hp hn => absurd hp.le (by omega), fun st0 st sc i nd hp hn => absurd hp.le (by omega)⟩
 | n + 1 => ⟨fam_step hh ht n (fam_all hh ht n).1 (fam_all hh ht n).2, first_step hh ht n (fam_all hh ht n).1 (zqh3 hh ht n).2⟩
end Go.H.Tryz
