/- Part of a proof that the program answers as the reference does: HOwn, HPure13, HOwn2, HOwn3. -/
import Derived.Test.YtmjpemdbkenebaaGreatDoorHD
import Derived.Test.YtmjpemdbkenebaaGreatDoorHP
namespace Go.H
open Go
set_option linter.unusedVariables false
set_option linter.unusedSimpArgs false

mutual
def PV.solid : PV → Bool
 | .int .. => true
 | .bool .. => true
 | .str .. => true
 | .vsl .. => true
 | .ptr .. => true
 | .eptr .. => true
 | .nilp => true
 | .nilfn => true
 | .niliface => true
 | .map .. => true
 | .nilmap => true
 | .agg cs => zqe4 cs
 | .tup cs => zqe4 cs
 | .sl _ _ xs => xs.isEmpty
 | .iface _ p => PV.solid p
 | _ => false
def zqe4 : List PV → Bool
 | [] => true
 | p :: r => PV.solid p && zqe4 r
end
section
variable {C C' : Nat → Nat → Value → Prop}
mutual
theorem RX.solid : ∀ (p : PV) (vs : List Value), p.solid = true → RX C p vs → RX C' p vs
 | .junk, _, hs, _ => by cases hs
 | .int .., _, _, h => by simpa only [RX] using h
 | .bool .., _, _, h => by simpa only [RX] using h
 | .str .., _, _, h => by simpa only [RX] using h
 | .agg cs, vs, hs, h => by simp only [RX] at h ⊢; exact RCs.solid cs vs (by simpa only [PV.solid] using hs) h
 | .tup ps, vs, hs, h => by
   simp only [RX] at h ⊢
   obtain ⟨ws, e, h⟩ := h
   exact ⟨ws, e, RVs.solid ps ws (by simpa only [PV.solid] using hs) h⟩
 | .sl _ _ xs, vs, hs, h => by
   simp only [RX] at h ⊢
   obtain ⟨a, n, cap, e, h1, h2, h3, h4, h5, h6⟩ := h
   refine ⟨a, n, cap, e, h1, h2, h3, h4, h5, .inl ?_⟩
   simpa [PV.solid] using hs
 | .vsl .., _, _, h => by simpa only [RX] using h
 | .ref ps, vs, hs, h => by cases hs
 | .ptr .., _, _, h => by simpa only [RX] using h
 | .eptr .., _, _, h => by simpa only [RX] using h
 | .nilp, _, _, h => by simpa only [RX] using h
 | .fn _ first caps, vs, hs, h => by cases hs
 | .nilfn, _, _, h => by simpa only [RX] using h
 | .iface _ p, vs, hs, h => by
   simp only [RX] at h ⊢
   obtain ⟨v, e, h1, h2⟩ := h
   exact ⟨v, e, h1, RX.solid p _ (by simpa only [PV.solid] using hs) h2⟩
 | .niliface, _, _, h => by simpa only [RX] using h
 | .map .., _, _, h => by simpa only [RX] using h
 | .nilmap, _, _, h => by simpa only [RX] using h
theorem RCs.solid : ∀ (ps : List PV) (vs : List Value), zqe4 ps = true → RCs C ps vs → RCs C' ps vs
 | [], _, _, h => by simpa only [RCs] using h
 | p :: ps, vs, hs, h => by
   simp only [RCs] at h ⊢
   simp only [zqe4, Bool.and_eq_true] at hs
   obtain ⟨v, vs', e, h1, h2⟩ := h
   exact ⟨v, vs', e, RX.solid p _ hs.1 h1, RCs.solid ps vs' hs.2 h2⟩
theorem RXs.solid : ∀ (ps : List PV) (vs : List Value), zqe4 ps = true → RXs C ps vs → RXs C' ps vs
 | [], _, _, h => by simpa only [RXs] using h
 | p :: ps, vs, hs, h => by
   simp only [RXs] at h ⊢
   simp only [zqe4, Bool.and_eq_true] at hs
   obtain ⟨c1, c2, e, h1, h2⟩ := h
   exact ⟨c1, c2, e, RX.solid p _ hs.1 h1, RXs.solid ps c2 hs.2 h2⟩
theorem RVs.solid : ∀ (ps : List PV) (vs : List Value), zqe4 ps = true → RVs C ps vs → RVs C' ps vs
 | [], _, _, h => by simpa only [RVs] using h
 | p :: ps, vs, hs, h => by
   simp only [RVs] at h ⊢
   simp only [zqe4, Bool.and_eq_true] at hs
   obtain ⟨v, vs', e, h1, h2⟩ := h
   exact ⟨v, vs', e, h1.imp id (fun h => ⟨h.1, RX.solid p _ hs.1 h.2⟩), RVs.solid ps vs' hs.2 h2⟩
end
theorem RO.solid {p : PV} {v : Value} (hs : p.solid = true) (h : RO C p v) : RO C' p v := h.imp id fun h => ⟨h.1, RX.solid p _ hs h.2⟩
theorem RV.solid {p : PV} {v : Value} (hs : p.solid = true) (h : RV C p v) : RV C' p v := ⟨h.1, RX.solid p _ hs h.2⟩
end
def HObj.solid : HObj → Bool
 | .cells vs => zqe4 vs
 | .vec _ xs _ => zqe4 xs
 | .map kvs => kvs.all fun kv => kv.1.solid && kv.2.solid
 | .loop _ _ => false
theorem RMs.solid {C C' : Nat → Nat → Value → Prop} : ∀ {kvs : List (PV × PV)} {es : List MapEntry}, (kvs.all fun kv => kv.1.solid && kv.2.solid) = true → RMs C kvs es → RMs C' kvs es
 | [], _, _, h => h
 | kv :: kvs, _, hs, ⟨e, es', he, h1, h2, h3⟩ => by
   simp only [List.all_cons, Bool.and_eq_true] at hs
   exact ⟨e, es', he, h1.solid hs.1.1, h2.solid hs.1.2, RMs.solid (by simpa using hs.2) h3⟩
theorem ObjOK.solid {w : World} {C C' : Nat → Nat → Value → Prop} {b : Nat} : ∀ {o : HObj}, o.solid = true → ObjOK w C b o → ObjOK w C' b o
 | .cells vs, hs, ⟨arr, t, h1, h2⟩ => ⟨arr, t, h1, RCs.solid vs _ hs h2⟩
 | .vec esz xs cap, hs, ⟨arr, t, h1, h2, h3, h4, h5, h6, h7⟩ => ⟨arr, t, h1, h2, h3, h4, h5, h6, RXs.solid xs _ hs h7⟩
 | .map kvs, hs, ⟨es, clock, h1, h2⟩ => ⟨es, clock, h1, RMs.solid hs h2⟩
 | .loop env r, hs, _ => (by cases hs)

def noSt : St := fun _ => none
def both (st st' : St) : St := fun b => match st b with | some o => some o | none => st' b
theorem both_left {st st' : St} {b : Nat} {o : HObj} (h : st b = some o) : both st st' b = some o := by unfold both; rw [h]
theorem both_right {st st' : St} {b : Nat} (h : st b = none) : both st st' b = st' b := by unfold both; rw [h]
theorem both_no (st : St) : both st noSt = st := by
 funext b; unfold both noSt; split
 ·rename_i o h; exact h.symm
 ·rename_i h; exact h.symm
def Res.val : Res → PV | .ret p => p | .pan p => p
theorem zq5.thaw {P : Program} {f : FuncId} {us us' : List PV} {st : St} {R : Res → St → Prop} (hcv : Conv us st us' noSt) (hc : zq5 P f us' noSt R)
  (hs : ∀ r st', R r st' → r.val.solid = true ∧ ∀ b o, st' b = some o → o.solid = true) :
  zq5 P f us st (fun r s => ∃ st', R r st' ∧ (∀ b, st b ≠ none → st' b = none) ∧ s = both st st') := by
 refine ⟨hc.1, fun w vals hg ha => ?_⟩
 obtain ⟨g0, e0, hv⟩ := hcv w hg
 refine (hc.2 w vals g0 (hv vals ha)).mono ?_
 rintro e w' ⟨r, st', hev, hgd, hr, hm⟩
 have dis : ∀ b, st b ≠ none → st' b = none := fun b hb => by
  cases hsb : st b with
  | none => exact absurd hsb hb
  | some o => exact (hev.block b (hg.lt hsb) rfl).2
 have ev : Evo w st w' (both st st') := by
  refine ⟨hev.os, hev.tape, hev.output, hev.size, fun b hb hn => ?_⟩
  obtain ⟨h1, h2⟩ := hev.block b hb rfl
  exact ⟨h1, by rw [both_right hn]; exact h2⟩
 obtain ⟨hsr, hso⟩ := hs r st' hr
 refine ⟨r, both st st', ev, fun b o hb => ?_, ⟨st', hr, dis, rfl⟩, ?_⟩
 ·cases hsb : st b with
  | some o' =>
    rw [both_left hsb] at hb
    cases hb
    exact (hg b o hsb).mono (fun c off v hcw => ev.cw c off v hcw) (hev.block b (hg.lt hsb) rfl).1
  | none =>
    rw [both_right hsb] at hb
    exact (hgd b o hb).solid (hso b o hb)
 ·cases r with
  | ret p =>
    cases e with
    | returned v => exact RO.solid hsr hm
    | panicked ch => exact hm.elim
    | outgrown => exact hm.elim
  | pan p =>
    cases e with
    | returned v => exact hm.elim
    | panicked ch =>
      obtain ⟨v, h1, h2⟩ := hm
      exact ⟨v, h1, RO.solid hsr h2⟩
    | outgrown => exact hm.elim

mutual
def Th (st : St) : PV → PV → List Nat → Prop
 | .agg cs', p, D => ∃ cs, p = .agg cs ∧ Ths st cs' cs D
 | .sl esz f xs', p, D => f = false ∧ ((xs' = [] ∧ (∃ e f, p = .sl e f []) ∧ D = []) ∨ ∃ b xs cap D', p = .vsl b xs'.length cap ∧ st b = some (.vec esz xs cap) ∧ Ths st xs' xs D' ∧ D = b :: D' ∧ (∀ x ∈ xs', elOK esz x))
 | .tup ps', p, D => ∃ ps, p = .tup ps ∧ Ths st ps' ps D
 | .int k n, p, D => p = .int k n ∧ D = []
 | .bool b, p, D => p = .bool b ∧ D = []
 | .str s, p, D => p = .str s ∧ D = []
 | _, _, _ => False
def Ths (st : St) : List PV → List PV → List Nat → Prop
 | [], ps, D => ps = [] ∧ D = []
 | p' :: r', ps, D => ∃ p r D1 D2, ps = p :: r ∧ D = D1 ++ D2 ∧ Th st p' p D1 ∧ Ths st r' r D2
end
theorem Ths.length {st : St} : ∀ {ps' ps : List PV} {D : List Nat}, Ths st ps' ps D → ps.length = ps'.length
 | [], _, _, h => by simp only [Ths] at h; rw [h.1]
 | p' :: r', ps, D, h => by
   simp only [Ths] at h
   obtain ⟨p, r, D1, D2, rfl, _, _, h2⟩ := h
   simp [Ths.length h2]
mutual
theorem Th.frame {st st1 : St} : ∀ (p' p : PV) (D : List Nat), Th st p' p D → (∀ b ∈ D, st1 b = st b) → Th st1 p' p D
 | .agg cs', p, D, h, ha => by
   simp only [Th] at h ⊢
   obtain ⟨cs, e, h⟩ := h
   exact ⟨cs, e, Ths.frame cs' cs D h ha⟩
 | .sl esz f xs', p, D, h, ha => by
   simp only [Th] at h ⊢
   obtain ⟨hf, h⟩ := h
   refine ⟨hf, ?_⟩
   rcases h with h | ⟨b, xs, cap, D', e, hb, h, rfl, hel⟩
   ·exact .inl h
   ·exact .inr ⟨b, xs, cap, D', e, by rw [ha b (by simp)]; exact hb, Ths.frame xs' xs D' h (fun c hc => ha c (by simp [hc])), rfl, hel⟩
 | .int .., _, _, h, _ => by simpa only [Th] using h
 | .bool .., _, _, h, _ => by simpa only [Th] using h
 | .str .., _, _, h, _ => by simpa only [Th] using h
 | .junk, _, _, h, _ => by simp only [Th] at h
 | .tup ps', p, D, h, ha => by
   simp only [Th] at h ⊢
   obtain ⟨ps, e, h⟩ := h
   exact ⟨ps, e, Ths.frame ps' ps D h ha⟩
 | .vsl .., _, _, h, _ => by simp only [Th] at h
 | .ref _, _, _, h, _ => by simp only [Th] at h
 | .ptr .., _, _, h, _ => by simp only [Th] at h
 | .eptr .., _, _, h, _ => by simp only [Th] at h
 | .nilp, _, _, h, _ => by simp only [Th] at h
 | .fn .., _, _, h, _ => by simp only [Th] at h
 | .nilfn, _, _, h, _ => by simp only [Th] at h
 | .iface .., _, _, h, _ => by simp only [Th] at h
 | .niliface, _, _, h, _ => by simp only [Th] at h
 | .map _, _, _, h, _ => by simp only [Th] at h
 | .nilmap, _, _, h, _ => by simp only [Th] at h
theorem Ths.frame {st st1 : St} : ∀ (ps' ps : List PV) (D : List Nat), Ths st ps' ps D → (∀ b ∈ D, st1 b = st b) → Ths st1 ps' ps D
 | [], _, _, h, _ => by simpa only [Ths] using h
 | p' :: r', ps, D, h, ha => by
   simp only [Ths] at h ⊢
   obtain ⟨p, r, D1, D2, e, rfl, h1, h2⟩ := h
   exact ⟨p, r, D1, D2, e, rfl, Th.frame p' p D1 h1 (fun c hc => ha c (by simp [hc])), Ths.frame r' r D2 h2 (fun c hc => ha c (by simp [hc]))⟩
end
mutual
theorem Th.solid {st : St} : ∀ (p' p : PV) (D : List Nat), Th st p' p D → p.solid = true ∧ ∀ b ∈ D, ∃ o, st b = some o ∧ o.solid = true
 | .agg cs', p, D, h => by
   simp only [Th] at h
   obtain ⟨cs, rfl, h⟩ := h
   simpa only [PV.solid] using Ths.solid cs' cs D h
 | .sl esz f xs', p, D, h => by
   simp only [Th] at h
   obtain ⟨_, h⟩ := h
   rcases h with ⟨_, ⟨e, f, rfl⟩, rfl⟩ | ⟨b, xs, cap, D', rfl, hb, h, rfl, hel⟩
   ·exact ⟨rfl, by simp⟩
   ·obtain ⟨h1, h2⟩ := Ths.solid xs' xs D' h
    refine ⟨rfl, fun c hc => ?_⟩
    rcases List.mem_cons.1 hc with rfl | hc
    ·exact ⟨_, hb, h1⟩
    ·exact h2 c hc
 | .int .., _, _, h => by simp only [Th] at h; obtain ⟨rfl, rfl⟩ := h; exact ⟨rfl, by simp⟩
 | .bool .., _, _, h => by simp only [Th] at h; obtain ⟨rfl, rfl⟩ := h; exact ⟨rfl, by simp⟩
 | .str .., _, _, h => by simp only [Th] at h; obtain ⟨rfl, rfl⟩ := h; exact ⟨rfl, by simp⟩
 | .junk, _, _, h => by simp only [Th] at h
 | .tup ps', p, D, h => by
   simp only [Th] at h
   obtain ⟨ps, rfl, h⟩ := h
   simpa only [PV.solid] using Ths.solid ps' ps D h
 | .vsl .., _, _, h => by simp only [Th] at h
 | .ref _, _, _, h => by simp only [Th] at h
 | .ptr .., _, _, h => by simp only [Th] at h
 | .eptr .., _, _, h => by simp only [Th] at h
 | .nilp, _, _, h => by simp only [Th] at h
 | .fn .., _, _, h => by simp only [Th] at h
 | .nilfn, _, _, h => by simp only [Th] at h
 | .iface .., _, _, h => by simp only [Th] at h
 | .niliface, _, _, h => by simp only [Th] at h
 | .map _, _, _, h => by simp only [Th] at h
 | .nilmap, _, _, h => by simp only [Th] at h
theorem Ths.solid {st : St} : ∀ (ps' ps : List PV) (D : List Nat), Ths st ps' ps D → zqe4 ps = true ∧ ∀ b ∈ D, ∃ o, st b = some o ∧ o.solid = true
 | [], _, _, h => by simp only [Ths] at h; obtain ⟨rfl, rfl⟩ := h; exact ⟨rfl, by simp⟩
 | p' :: r', ps, D, h => by
   simp only [Ths] at h
   obtain ⟨p, r, D1, D2, rfl, rfl, h1, h2⟩ := h
   obtain ⟨a1, a2⟩ := Th.solid p' p D1 h1
   obtain ⟨b1, b2⟩ := Ths.solid r' r D2 h2
   refine ⟨by simp [zqe4, a1, b1], fun c hc => ?_⟩
   rcases List.mem_append.1 hc with hc | hc
   ·exact a2 c hc
   ·exact b2 c hc
end
theorem Th.ncells {st : St} {p' p : PV} {D : List Nat} (h : Th st p' p D) : p.ncells = p'.ncells ∧ p.isAgg = p'.isAgg ∧ p.isJunk = false := by
 cases p' with
 | agg cs' =>
   simp only [Th] at h
   obtain ⟨cs, rfl, h⟩ := h
   exact ⟨by simp [Ths.length h], rfl, rfl⟩
 | sl esz f xs' =>
   simp only [Th] at h
   obtain ⟨_, h⟩ := h
   rcases h with ⟨_, ⟨e, f, rfl⟩, rfl⟩ | ⟨b, xs, cap, D', rfl, hb, h, rfl, hel⟩ <;> exact ⟨rfl, rfl, rfl⟩
 | tup ps' =>
   simp only [Th] at h
   obtain ⟨ps, rfl, h⟩ := h
   exact ⟨rfl, rfl, rfl⟩
 | int k n => simp only [Th] at h; obtain ⟨rfl, rfl⟩ := h; exact ⟨rfl, rfl, rfl⟩
 | bool b => simp only [Th] at h; obtain ⟨rfl, rfl⟩ := h; exact ⟨rfl, rfl, rfl⟩
 | str s => simp only [Th] at h; obtain ⟨rfl, rfl⟩ := h; exact ⟨rfl, rfl, rfl⟩
 | _ => simp only [Th] at h
theorem Th.cellOK1 {st : St} {p' p : PV} {D : List Nat} (h : Th st p' p D) (hk : p'.cellOK = true) : p.cellOK = true := by
 cases p' with
 | agg cs' => cases hk
 | tup cs' => cases hk
 | sl esz f xs' =>
   simp only [Th] at h
   obtain ⟨_, h⟩ := h
   rcases h with ⟨_, ⟨e, f, rfl⟩, rfl⟩ | ⟨b, xs, cap, D', rfl, hb, h, rfl, hel⟩ <;> rfl
 | int k n => simp only [Th] at h; obtain ⟨rfl, rfl⟩ := h; rfl
 | bool b => simp only [Th] at h; obtain ⟨rfl, rfl⟩ := h; rfl
 | str s => simp only [Th] at h; obtain ⟨rfl, rfl⟩ := h; rfl
 | _ => simp only [Th] at h
theorem Ths.cellsOK {st : St} : ∀ {ps' ps : List PV} {D : List Nat}, Ths st ps' ps D → ps'.all PV.cellOK = true → ps.all PV.cellOK = true
 | [], _, _, h, _ => by simp only [Ths] at h; obtain ⟨rfl, rfl⟩ := h; rfl
 | p' :: r', ps, D, h, hk => by
   simp only [Ths] at h
   obtain ⟨p, r, D1, D2, rfl, rfl, h1, h2⟩ := h
   simp only [List.all_cons, Bool.and_eq_true] at hk ⊢
   exact ⟨h1.cellOK1 hk.1, Ths.cellsOK h2 hk.2⟩
theorem Th.cells {st : St} {p' p : PV} {D : List Nat} (h : Th st p' p D) : Ths st p'.cells p.cells D := by
 have one : Th st p' p D → Ths st [p'] [p] D := fun h => by
  simp only [Ths]
  exact ⟨p, [], D, [], rfl, by simp, h, rfl, rfl⟩
 cases p' with
 | agg cs' =>
   simp only [Th] at h
   obtain ⟨cs, rfl, h⟩ := h
   exact h
 | sl esz f xs' =>
   have h0 := h
   simp only [Th] at h
   obtain ⟨_, h⟩ := h
   rcases h with ⟨_, ⟨e, f, rfl⟩, rfl⟩ | ⟨b, xs, cap, D', rfl, hb, h, rfl, hel⟩ <;> exact one h0
 | tup ps' =>
   have h0 := h
   simp only [Th] at h
   obtain ⟨ps, rfl, h⟩ := h
   exact one h0
 | int k n => have h0 := h; simp only [Th] at h; obtain ⟨rfl, rfl⟩ := h; exact one h0
 | bool b => have h0 := h; simp only [Th] at h; obtain ⟨rfl, rfl⟩ := h; exact one h0
 | str s => have h0 := h; simp only [Th] at h; obtain ⟨rfl, rfl⟩ := h; exact one h0
 | _ => simp only [Th] at h
theorem Th.elOK {st : St} {p' p : PV} {D : List Nat} {e : Nat} (h : Th st p' p D) (hk : Go.H.elOK e p') : Go.H.elOK e p :=
 ⟨h.ncells.1.trans hk.1, h.cells.cellsOK hk.2⟩

section
variable {w : World} {st st' : St}
mutual
theorem Th.frozen (hg : Good w st) (hs : Sub st' st) : ∀ (p' p : PV) (D : List Nat), Th st p' p D → (∀ b ∈ D, st' b = none) → ∀ vs, RX (Cw w st) p vs → RX (Cw w st') p' (vs)
 | .agg cs', p, D, h, hd, vs, hv => by
   simp only [Th] at h
   obtain ⟨cs, rfl, h⟩ := h
   simp only [RX] at hv ⊢
   exact Ths.frozen hg hs cs' cs D h hd vs hv
 | .sl esz f xs', p, D, h, hd, vs, hv => by
   simp only [Th] at h
   obtain ⟨rfl, h⟩ := h
   rcases h with ⟨rfl, ⟨e, f', rfl⟩, rfl⟩ | ⟨b, xs, cap, D', rfl, hb, h, rfl, hel⟩
   ·simp only [RX] at hv ⊢
    obtain ⟨a, n, cap, e1, h1, h2, h3, h4, h5, h6⟩ := hv
    exact ⟨a, n, cap, e1, h1, h2, h3, (fun h => by cases h), (fun x hx => by cases hx), .inl trivial⟩
   ·simp only [RX] at hv ⊢
    obtain ⟨arr, t, r1, r2, r3, r4, r5, r6, r7⟩ := hg b _ hb
    have hl := Ths.length h
    have hnb := hd b (by simp)
    refine ⟨_, _, _, hv, rfl, by omega, r3, (fun h => by cases h), hel, .inr ⟨b, 0, arr.toList.take (xs.length * esz), rfl, fun j v hj => ⟨?_, hnb⟩, Ths.frozenX hg hs xs' xs D' h (fun c hc => hd c (by simp [hc])) _ r7⟩⟩
    rw [Nat.zero_add, zq1z r1]
    rw [List.getElem?_take] at hj
    split at hj
    ·exact hj
    ·cases hj
 | .int .., _, _, h, _, vs, hv => by simp only [Th] at h; obtain ⟨rfl, rfl⟩ := h; simpa only [RX] using hv
 | .bool .., _, _, h, _, vs, hv => by simp only [Th] at h; obtain ⟨rfl, rfl⟩ := h; simpa only [RX] using hv
 | .str .., _, _, h, _, vs, hv => by simp only [Th] at h; obtain ⟨rfl, rfl⟩ := h; simpa only [RX] using hv
 | .junk, _, _, h, _, _, _ => by simp only [Th] at h
 | .tup ps', p, D, h, hd, vs, hv => by
   simp only [Th] at h
   obtain ⟨ps, rfl, h⟩ := h
   simp only [RX] at hv ⊢
   obtain ⟨ws, e, hv⟩ := hv
   exact ⟨ws, e, Ths.frozenV hg hs ps' ps D h hd ws hv⟩
 | .vsl .., _, _, h, _, _, _ => by simp only [Th] at h
 | .ref _, _, _, h, _, _, _ => by simp only [Th] at h
 | .ptr .., _, _, h, _, _, _ => by simp only [Th] at h
 | .eptr .., _, _, h, _, _, _ => by simp only [Th] at h
 | .nilp, _, _, h, _, _, _ => by simp only [Th] at h
 | .fn .., _, _, h, _, _, _ => by simp only [Th] at h
 | .nilfn, _, _, h, _, _, _ => by simp only [Th] at h
 | .iface .., _, _, h, _, _, _ => by simp only [Th] at h
 | .niliface, _, _, h, _, _, _ => by simp only [Th] at h
 | .map _, _, _, h, _, _, _ => by simp only [Th] at h
 | .nilmap, _, _, h, _, _, _ => by simp only [Th] at h
theorem Ths.frozen (hg : Good w st) (hs : Sub st' st) : ∀ (ps' ps : List PV) (D : List Nat), Ths st ps' ps D → (∀ b ∈ D, st' b = none) → ∀ vs, RCs (Cw w st) ps vs → RCs (Cw w st') ps' vs
 | [], _, _, h, _, vs, hv => by simp only [Ths] at h; obtain ⟨rfl, rfl⟩ := h; simpa only [RCs] using hv
 | p' :: r', ps, D, h, hd, vs, hv => by
   simp only [Ths] at h
   obtain ⟨p, r, D1, D2, rfl, rfl, h1, h2⟩ := h
   simp only [RCs] at hv ⊢
   obtain ⟨v, vs', rfl, g1, g2⟩ := hv
   exact ⟨v, vs', rfl, Th.frozen hg hs p' p D1 h1 (fun b hb => hd b (by simp [hb])) _ g1, Ths.frozen hg hs r' r D2 h2 (fun b hb => hd b (by simp [hb])) _ g2⟩
theorem Ths.frozenV (hg : Good w st) (hs : Sub st' st) : ∀ (ps' ps : List PV) (D : List Nat), Ths st ps' ps D → (∀ b ∈ D, st' b = none) → ∀ vs, RVs (Cw w st) ps vs → RVs (Cw w st') ps' vs
 | [], _, _, h, _, vs, hv => by simp only [Ths] at h; obtain ⟨rfl, rfl⟩ := h; simpa only [RVs] using hv
 | p' :: r', ps, D, h, hd, vs, hv => by
   simp only [Ths] at h
   obtain ⟨p, r, D1, D2, rfl, rfl, h1, h2⟩ := h
   simp only [RVs] at hv ⊢
   obtain ⟨v, vs', rfl, g1, g2⟩ := hv
   obtain ⟨_, n2, n3⟩ := h1.ncells
   rcases g1 with rfl | g1
   ·cases n3
   ·exact ⟨v, vs', rfl, .inr ⟨n2 ▸ g1.1, Th.frozen hg hs p' p D1 h1 (fun b hb => hd b (by simp [hb])) _ g1.2⟩, Ths.frozenV hg hs r' r D2 h2 (fun b hb => hd b (by simp [hb])) _ g2⟩
theorem Ths.frozenX (hg : Good w st) (hs : Sub st' st) : ∀ (ps' ps : List PV) (D : List Nat), Ths st ps' ps D → (∀ b ∈ D, st' b = none) → ∀ vs, RXs (Cw w st) ps vs → RXs (Cw w st') ps' vs
 | [], _, _, h, _, vs, hv => by simp only [Ths] at h; obtain ⟨rfl, rfl⟩ := h; simpa only [RXs] using hv
 | p' :: r', ps, D, h, hd, vs, hv => by
   simp only [Ths] at h
   obtain ⟨p, r, D1, D2, rfl, rfl, h1, h2⟩ := h
   simp only [RXs] at hv ⊢
   obtain ⟨c1, c2, rfl, g1, g2⟩ := hv
   exact ⟨c1, c2, rfl, Th.frozen hg hs p' p D1 h1 (fun b hb => hd b (by simp [hb])) _ g1, Ths.frozenX hg hs r' r D2 h2 (fun b hb => hd b (by simp [hb])) _ g2⟩
end
end
theorem Th.ro {w : World} {st st' : St} (hg : Good w st) (hs : Sub st' st) {p' p : PV} {D : List Nat} (h : Th st p' p D) (hd : ∀ b ∈ D, st' b = none) {v : Value} (hv : RO (Cw w st) p v) : RO (Cw w st') p' v := by
 obtain ⟨h1, h2, h3⟩ := h.ncells
 rcases hv with rfl | hv
 ·cases h3
 ·exact .inr ⟨h2 ▸ hv.1, Th.frozen hg hs p' p D h hd _ hv.2⟩
theorem Conv.held {st st' : St} (hs : Sub st' st) : ∀ {us us' : List PV}, (∀ (i : Nat) (p p' : PV), us[i]? = some p → us'[i]? = some p' → p = p' ∨ ∃ D, Th st p' p D ∧ ∀ b ∈ D, st' b = none) → us.length = us'.length → Conv us st us' st' := by
 intro us us' h hl w hg
 refine ⟨hg.sub hs, Evo.sub hs, ?_⟩
 induction us generalizing us' with
 | nil => intro vals hv; cases us' with | nil => exact hv | cons => cases hl
 | cons p us ih =>
   cases us' with
   | nil => cases hl
   | cons p' us' =>
     rintro vals ⟨v, vs, rfl, h1, h2⟩
     refine ⟨v, vs, rfl, ?_, ih (fun i q q' hq hq' => h (i + 1) q q' (by simpa using hq) (by simpa using hq')) (by simpa using hl) vs h2⟩
     rcases h 0 p p' rfl rfl with rfl | ⟨D, hD, hn⟩
     ·exact h1.mono (Evo.sub hs).cw
     ·exact hD.ro hg hs hn h1
theorem Th.conv {st st' : St} (hs : Sub st' st) {p' p : PV} {D : List Nat} (h : Th st p' p D) (hd : ∀ b ∈ D, st' b = none) : Conv [p] st [p'] st' :=
 Conv.held hs (fun i q q' hq hq' => by
  cases i with
  | zero => cases hq; cases hq'; exact .inr ⟨D, h, hd⟩
  | succ i => cases hq) rfl
def Owns (p' : PV) (st : St) : Res → St → Prop := fun r s => ∃ p D, r = .ret p ∧ D.Nodup ∧ Th s p' p D ∧ (∀ b ∈ D, st b = none) ∧ ∀ b, b ∉ D → s b = st b
theorem Owns.ret {p' p : PV} {st s : St} {D : List Nat} (hD : D.Nodup) (h : Th s p' p D) (hf : ∀ b ∈ D, st b = none) (hs : Sub st s) : retR (Owns p' st) p s := by
 refine zqcd (p' := p) (st' := fun b => if b ∈ D then s b else st b) (Conv.sub fun b o hb => ?_) ⟨p, D, rfl, hD, h.frame _ _ _ (fun b hb => by simp only [if_pos hb]), hf, fun b hb => by simp only [if_neg hb]⟩
 by_cases hbD : b ∈ D
 ·rw [if_pos hbD] at hb; exact hb
 ·rw [if_neg hbD] at hb; exact hs b o hb
theorem Owns.just {P : Program} {f : FuncId} {args : List PV} {p' : PV} {st : St} (hc : zq5 P f args st (Owns p' st)) : zq5 P f args st (Just p' st) := by
 refine hc.conv_ret (fun p s h => ?_) (fun p s h => ?_)
 ·obtain ⟨q, D, h1, _, h2, h3, h4⟩ := h
  cases h1
  refine ⟨p', st, h2.conv (fun b o hb => ?_) h3, rfl, rfl⟩
  by_cases hd : b ∈ D
  ·rw [h3 b hd] at hb; cases hb
  ·rw [h4 b hd]; exact hb
 ·obtain ⟨q, D, h1, _⟩ := h
  cases h1
theorem zq4u {P : Program} {g : FuncId} {us : List PV} {st : St} {K Kp : PV → St → Prop} {p' : PV} (hc : zq5 P g us st (Owns p' st))
  (hk : ∀ p D s, D.Nodup → Th s p' p D → (∀ b ∈ D, st b = none) → (∀ b, b ∉ D → s b = st b) → K p s) : zqb P g us st K Kp := by
 refine zq15 hc (fun p s h => ?_) (fun p s h => ?_)
 ·obtain ⟨q, D, h1, h2, h3, h4, h5⟩ := h; cases h1; exact hk _ D s h2 h3 h4 h5
 ·obtain ⟨q, D, h1, _⟩ := h; cases h1
theorem callK_look {P : Program} {g : FuncId} {us us' : List PV} {st : St} {K Kp : PV → St → Prop} {v : PV} (h : ∀ (i : Nat) (p p' : PV), us[i]? = some p → us'[i]? = some p' → p = p' ∨ ∃ D, Th st p' p D) (hl : us.length = us'.length)
  (hv : v.solid = true) (hc : zq5 P g us' noSt (Just v noSt)) (hk : K v st) : zqb P g us st K Kp := by
 refine zq15 (zq5.thaw (Conv.held (fun b o hb => by cases hb) (fun i p p' h1 h2 => (h i p p' h1 h2).imp id (fun ⟨D, hD⟩ => ⟨D, hD, fun _ _ => rfl⟩)) hl) hc ?_) (fun p s hp => ?_) (fun p s hp => ?_)
 ·rintro r st' ⟨rfl, rfl⟩
  exact ⟨hv, fun b o hb => by cases hb⟩
 ·obtain ⟨st', ⟨rfl, h2⟩, h3, rfl⟩ := hp
  cases h2
  rw [both_no]
  exact hk
 ·obtain ⟨st', ⟨_, h2⟩, _⟩ := hp
  cases h2
theorem Ths.join {st : St} : ∀ {l1 l2 ys1 ys2 : List PV} {D1 D2 : List Nat}, Ths st l1 ys1 D1 → Ths st l2 ys2 D2 → Ths st (l1 ++ l2) (ys1 ++ ys2) (D1 ++ D2)
 | [], _, _, _, _, _, h, h' => by simp only [Ths] at h; obtain ⟨rfl, rfl⟩ := h; simpa using h'
 | a :: l1, _, _, _, _, _, h, h' => by
   simp only [Ths] at h
   obtain ⟨p, r, D1, D2, rfl, rfl, h1, h2⟩ := h
   simp only [List.cons_append, Ths]
   exact ⟨p, _, D1, _, rfl, by simp, h1, Ths.join h2 h'⟩
theorem Ths.cons {st : St} {x y : PV} {l ys : List PV} {D1 D2 : List Nat} (h : Th st x y D1) (h' : Ths st l ys D2) : Ths st (x :: l) (y :: ys) (D1 ++ D2) := by
 simp only [Ths]
 exact ⟨y, ys, D1, D2, rfl, rfl, h, h'⟩
theorem Ths.nil (st : St) : Ths st [] [] [] := by simp [Ths]
theorem Ths.one {st : St} {x y : PV} {D : List Nat} (h : Th st x y D) : Ths st [x] [y] D := by
 have := Ths.cons h (Ths.nil st)
 simpa using this
theorem Th.tree {st : St} {t : Tr} {p : PV} {D : List Nat} : Th st (Go.H.tree t) p D ↔ ∃ q, p = .agg [.int .i64 t.kind, .int .i64 t.n, .str t.name, q] ∧ Th st (Go.H.trees t.kids) q D := by
 rw [zq5b, Go.H.trees]
 simp only [Th, Ths]
 constructor
 ·rintro ⟨cs, rfl, p1, r1, A1, B1, rfl, rfl, ⟨rfl, rfl⟩, p2, r2, A2, B2, rfl, rfl, ⟨rfl, rfl⟩, p3, r3, A3, B3, rfl, rfl, ⟨rfl, rfl⟩, p4, r4, A4, B4, rfl, rfl, h, rfl, rfl⟩
  exact ⟨p4, rfl, by simpa using h⟩
 ·rintro ⟨q, rfl, h⟩
  exact ⟨_, rfl, _, _, [], D, rfl, rfl, ⟨rfl, rfl⟩, _, _, [], D, rfl, rfl, ⟨rfl, rfl⟩, _, _, [], D, rfl, rfl, ⟨rfl, rfl⟩, q, [], D, [], rfl, by simp, h, rfl, rfl⟩
theorem Th.row {st : St} {esz : Nat} {xs' : List PV} {p : PV} {D : List Nat} : Th st (.sl esz false xs') p D ↔ (xs' = [] ∧ (∃ e f, p = .sl e f []) ∧ D = []) ∨ ∃ b xs cap D', p = .vsl b xs'.length cap ∧ st b = some (.vec esz xs cap) ∧ Ths st xs' xs D' ∧ D = b :: D' ∧ (∀ x ∈ xs', Go.H.elOK esz x) := by
 simp only [Th, true_and]
end Go.H
namespace Go.H
open Go
set_option linter.unusedVariables false
set_option linter.unusedSimpArgs false
def digs (k : Nat) (acc : List UInt8) : List UInt8 := if k = 0 then acc else digs (k / 10) (UInt8.ofNat (48 + k % 10) :: acc)
termination_by k
decreasing_by omega
def mtext (k : Int) : List UInt8 := if k ≤ 0 then [109, 48] else 109 :: digs k.toNat []
mutual
def markT : Tr → Int → Tr × Int
 | .mk _ _ _ ks, k => (.mk k (k + 1) (mtext (k + 2)) (markTs ks (k + 3)).1, (markTs ks (k + 3)).2)
def markTs : List Tr → Int → List Tr × Int
 | [], k => ([], k)
 | t :: r, k => ((markT t k).1 :: (markTs r (markT t k).2).1, (markTs r (markT t k).2).2)
end
theorem Th.decl {st : St} {d : Dc} {p : PV} {D : List Nat} : Th st (Go.H.decl d) p D ↔ ∃ q, p = .agg [.str d.name, .bool d.fam, .int .i64 d.type.kind, .int .i64 d.type.n, .str d.type.name, q] ∧ Th st (Go.H.trees d.type.kids) q D := by
 unfold Go.H.decl
 rw [zqj, Go.H.trees]
 simp only [Th, Ths]
 constructor
 ·rintro ⟨cs, rfl, p1, r1, A1, B1, rfl, rfl, ⟨rfl, rfl⟩, p2, r2, A2, B2, rfl, rfl, ⟨rfl, rfl⟩, p3, r3, A3, B3, rfl, rfl, ⟨rfl, rfl⟩, p4, r4, A4, B4, rfl, rfl, ⟨rfl, rfl⟩, p5, r5, A5, B5, rfl, rfl, ⟨rfl, rfl⟩, p6, r6, A6, B6, rfl, rfl, h, rfl, rfl⟩
  exact ⟨p6, rfl, by simpa using h⟩
 ·rintro ⟨q, rfl, h⟩
  exact ⟨_, rfl, _, _, [], D, rfl, rfl, ⟨rfl, rfl⟩, _, _, [], D, rfl, rfl, ⟨rfl, rfl⟩, _, _, [], D, rfl, rfl, ⟨rfl, rfl⟩, _, _, [], D, rfl, rfl, ⟨rfl, rfl⟩, _, _, [], D, rfl, rfl, ⟨rfl, rfl⟩, q, [], D, [], rfl, by simp, h, rfl, rfl⟩
structure It where
 frozen : PV
 held : PV
 at_ : List Nat
def Its (s : St) : List It → Prop
 | [] => True
 | x :: r => x.at_.Nodup ∧ Th s x.frozen x.held x.at_ ∧ (∀ y ∈ r, ∀ b ∈ x.at_, b ∉ y.at_) ∧ Its s r
end Go.H
namespace Go.H
open Go
set_option linter.unusedVariables false
set_option linter.unusedSimpArgs false
structure Rw (st s : St) (esz : Nat) (xs' : List PV) (p : PV) (D : List Nat) : Prop where
 th : Th s (.sl esz false xs') p D
 nil : xs' = [] → (∃ e, p = .sl e true []) ∨ ∃ b cap, p = .vsl b 0 cap
 nodup : D.Nodup
 fresh : ∀ c ∈ D, st c = none
 sub : Sub st s
theorem Rw.start {st s : St} (hs : Sub st s) (esz e : Nat) : Rw st s esz [] (.sl e true []) [] :=
 ⟨Th.row.2 (.inl ⟨rfl, ⟨e, true, rfl⟩, rfl⟩), fun _ => .inl ⟨e, rfl⟩, List.nodup_nil, by simp, hs⟩
theorem Rw.append {st s : St} {esz bytes : Nat} {xs' : List PV} {p : PV} {D : List Nat} {y' y v : PV} {Dy : List Nat} {K : PV → St → Prop} (h : Rw st s esz xs' p D) (hy : Th s y' y Dy) (hel : elOK esz y') (hDy : Dy.Nodup) (hfy : ∀ c ∈ Dy, st c = none) (hdis : ∀ c ∈ D, c ∉ Dy)
  (hv : zq3m s esz v = some [y]) (hb : (xs'.length + 1) * bytes ≤ 140737488355328)
  (hk : ∀ p2 s2 D2, Rw st s2 esz (xs' ++ [y']) p2 D2 → (∀ c o, s c = some o → c ∉ D → c ∉ Dy → s2 c = some o) → (∀ c, c ∈ D2 → c ∈ D ∨ c ∈ Dy ∨ s c = none) → K p2 s2) : zqo s esz bytes p v K := by
 obtain ⟨hth, hnil, hD, hf, hs⟩ := h
 have live : ∀ c ∈ Dy, ∃ o, s c = some o := fun c hc => by obtain ⟨o, h1, _⟩ := hy.solid.2 c hc; exact ⟨o, h1⟩
 have liveD : ∀ c ∈ D, ∃ o, s c = some o := fun c hc => by obtain ⟨o, h1, _⟩ := hth.solid.2 c hc; exact ⟨o, h1⟩
 have newrow : ∀ b cap, s b = none → xs' = [] → D = [] → 1 ≤ cap → K (.vsl b 1 cap) (upd s b (.vec esz [y] cap)) := fun b cap hbn hx hD0 hcap => by
  subst hx hD0
  have nb : ∀ c ∈ Dy, c ≠ b := fun c hc e => by obtain ⟨o, ho⟩ := live c hc; rw [e, hbn] at ho; cases ho
  refine hk _ _ (b :: Dy) ⟨Th.row.2 (.inr ⟨b, [y], cap, Dy, rfl, zq2 _ _ _, Ths.one (hy.frame _ _ _ fun c hc => zq7 _ _ (nb c hc)), rfl, by simpa using hel⟩), by simp, List.nodup_cons.2 ⟨fun h => nb b h rfl, hDy⟩, ?_, hs.put (hs.isNone hbn)⟩ ?_ ?_
  ·intro c hc
   rcases List.mem_cons.1 hc with rfl | hc
   ·exact hs.isNone hbn
   ·exact hfy c hc
  ·intro c o hc _ _
   have : c ≠ b := fun e => by rw [e, hbn] at hc; cases hc
   rw [zq7 _ _ this]; exact hc
  ·intro c hc
   rcases List.mem_cons.1 hc with rfl | hc
   ·exact .inr (.inr hbn)
   ·exact .inr (.inl hc)
 rcases Th.row.1 hth with ⟨rfl, ⟨e, f, rfl⟩, rfl⟩ | ⟨b, xs, cap, D', rfl, hbs, hxs, rfl, hels⟩
 ·rcases hnil rfl with ⟨e', he⟩ | ⟨b, cap, he⟩
  ·cases he
   have e1 : zq3m s esz (.sl e true []) = some [] := by simp [zq3m]
   unfold zqo
   rw [e1, hv]
   refine ⟨by simpa using hb, rfl, (fun h => by cases h), fun _ => .inl fun b cap hb' hc => ?_⟩
   rcases hb' with hb' | hb'
   ·cases hb'
   ·simp at hc
    exact newrow b cap hb' rfl rfl hc
  ·cases he
 ·have hl := Ths.length hxs
  have e1 : zq3m s esz (.vsl b xs'.length cap) = some xs := by
   unfold zq3m
   simp only [hbs]
   rw [if_pos ⟨trivial, by omega, trivial⟩, List.take_of_length_le (by omega)]
  unfold zqo
  rw [e1, hv]
  refine ⟨by simpa [hl] using hb, .inl fun b' cap' hb' hc => ?_⟩
  have hlen : (xs ++ [y]).length = (xs' ++ [y']).length := by simp [hl]
  show K (.vsl b' (xs ++ [y]).length cap') (upd (del s b) b' (.vec esz (xs ++ [y]) cap'))
  rw [hlen]
  rw [List.nodup_cons] at hD
  have nbD : ∀ c ∈ D', c ≠ b := fun c hc e => hD.1 (e ▸ hc)
  have nbY : ∀ c ∈ Dy, c ≠ b := fun c hc e => hdis b (by simp) (e ▸ hc)
  have nb'D : ∀ c ∈ D', c ≠ b' := fun c hc e => by
   rcases hb' with hb' | hb'
   ·cases hb'; exact nbD c hc e
   ·obtain ⟨o, ho⟩ := liveD c (by simp [hc]); rw [e, hb'] at ho; cases ho
  have nb'Y : ∀ c ∈ Dy, c ≠ b' := fun c hc e => by
   rcases hb' with hb' | hb'
   ·cases hb'; exact nbY c hc e
   ·obtain ⟨o, ho⟩ := live c hc; rw [e, hb'] at ho; cases ho
  have hfb' : st b' = none := by
   rcases hb' with hb' | hb'
   ·cases hb'; exact hf b (by simp)
   ·exact hs.isNone hb'
  have off : ∀ c, c ≠ b → c ≠ b' → upd (del s b) b' (.vec esz (xs ++ [y]) cap') c = s c := fun c h1 h2 => by rw [zq7 _ _ h2, del_apply, if_neg h1]
  refine hk _ _ (b' :: (D' ++ Dy)) ⟨Th.row.2 (.inr ⟨b', xs ++ [y], cap', D' ++ Dy, rfl, zq2 _ _ _, Ths.join (hxs.frame _ _ _ fun c hc => off c (nbD c hc) (nb'D c hc)) (Ths.one (hy.frame _ _ _ fun c hc => off c (nbY c hc) (nb'Y c hc))), rfl, ?_⟩), by simp, ?_, ?_, ?_⟩ ?_ ?_
  ·intro x hx
   rcases List.mem_append.1 hx with hx | hx
   ·exact hels x hx
   ·simp at hx; subst hx; exact hel
  ·rw [List.nodup_cons, List.nodup_append]
   refine ⟨fun h => ?_, hD.2, hDy, fun a ha c hc e => hdis a (by simp [ha]) (e ▸ hc)⟩
   rcases List.mem_append.1 h with h | h
   ·exact nb'D b' h rfl
   ·exact nb'Y b' h rfl
  ·intro c hc
   rcases List.mem_cons.1 hc with rfl | hc
   ·exact hfb'
   ·rcases List.mem_append.1 hc with hc | hc
    ·exact hf c (by simp [hc])
    ·exact hfy c hc
  ·intro c o hc
   have c1 : c ≠ b := fun e => by rw [e, hf b (by simp)] at hc; cases hc
   have c2 : c ≠ b' := fun e => by rw [e, hfb'] at hc; cases hc
   rw [off c c1 c2]
   exact hs c o hc
  ·intro c o hc h1 h2
   have c1 : c ≠ b := fun e => h1 (by simp [e])
   have c2 : c ≠ b' := fun e => by
    rcases hb' with hb' | hb'
    ·cases hb'; exact c1 e
    ·rw [e, hb'] at hc; cases hc
   rw [off c c1 c2]
   exact hc
  ·intro c hc
   rcases List.mem_cons.1 hc with rfl | hc
   ·rcases hb' with hb' | hb'
    ·cases hb'; exact .inl (by simp)
    ·exact .inr (.inr hb')
   ·rcases List.mem_append.1 hc with hc | hc
    ·exact .inl (by simp [hc])
    ·exact .inr (.inl hc)
theorem Rw.frame {st s s' : St} {esz : Nat} {xs' : List PV} {p : PV} {D : List Nat} (h : Rw st s esz xs' p D) (ha : ∀ c ∈ D, s' c = s c) (hs : Sub st s') : Rw st s' esz xs' p D :=
 ⟨h.th.frame _ _ _ ha, h.nil, h.nodup, h.fresh, hs⟩
theorem Rw.live {st s : St} {esz : Nat} {xs' : List PV} {p : PV} {D : List Nat} (h : Rw st s esz xs' p D) {c : Nat} (hc : c ∈ D) : ∃ o, s c = some o := by
 obtain ⟨o, h1, _⟩ := h.th.solid.2 c hc; exact ⟨o, h1⟩
theorem Rw.put {st s : St} {esz : Nat} {xs' : List PV} {p : PV} {D : List Nat} (h : Rw st s esz xs' p D) {c : Nat} (hc : s c = none) (o : HObj) : Rw st (upd s c o) esz xs' p D :=
 h.frame (fun d hd => by
  obtain ⟨o', ho'⟩ := h.live hd
  have : d ≠ c := fun e => by rw [e, hc] at ho'; cases ho'
  exact zq7 _ _ this) (h.sub.put (h.sub.isNone hc))
theorem Owns.row {st s : St} {esz : Nat} {xs' : List PV} {p : PV} {D : List Nat} (h : Rw st s esz xs' p D) : retR (Owns (.sl esz false xs') st) p s := Owns.ret h.nodup h.th h.fresh h.sub
end Go.H
namespace Go.H
open Go
set_option linter.unusedVariables false
set_option linter.unusedSimpArgs false
mutual
theorem Th.vec {st : St} : ∀ (p' p : PV) (D : List Nat), Th st p' p D → ∀ b ∈ D, ∃ e xs cap, st b = some (.vec e xs cap)
 | .agg cs', p, D, h => by
   simp only [Th] at h
   obtain ⟨cs, rfl, h⟩ := h
   exact Ths.vec cs' cs D h
 | .tup cs', p, D, h => by
   simp only [Th] at h
   obtain ⟨cs, rfl, h⟩ := h
   exact Ths.vec cs' cs D h
 | .sl esz f xs', p, D, h => by
   simp only [Th] at h
   obtain ⟨_, h⟩ := h
   rcases h with ⟨_, ⟨e, f, rfl⟩, rfl⟩ | ⟨b, xs, cap, D', rfl, hb, h, rfl, hel⟩
   ·simp
   ·intro c hc
    rcases List.mem_cons.1 hc with rfl | hc
    ·exact ⟨_, _, _, hb⟩
    ·exact Ths.vec xs' xs D' h c hc
 | .int .., _, _, h => by simp only [Th] at h; obtain ⟨rfl, rfl⟩ := h; simp
 | .bool .., _, _, h => by simp only [Th] at h; obtain ⟨rfl, rfl⟩ := h; simp
 | .str .., _, _, h => by simp only [Th] at h; obtain ⟨rfl, rfl⟩ := h; simp
 | .junk, _, _, h => by simp only [Th] at h
 | .vsl .., _, _, h => by simp only [Th] at h
 | .ref _, _, _, h => by simp only [Th] at h
 | .ptr .., _, _, h => by simp only [Th] at h
 | .eptr .., _, _, h => by simp only [Th] at h
 | .nilp, _, _, h => by simp only [Th] at h
 | .fn .., _, _, h => by simp only [Th] at h
 | .nilfn, _, _, h => by simp only [Th] at h
 | .iface .., _, _, h => by simp only [Th] at h
 | .niliface, _, _, h => by simp only [Th] at h
 | .map _, _, _, h => by simp only [Th] at h
 | .nilmap, _, _, h => by simp only [Th] at h
theorem Ths.vec {st : St} : ∀ (ps' ps : List PV) (D : List Nat), Ths st ps' ps D → ∀ b ∈ D, ∃ e xs cap, st b = some (.vec e xs cap)
 | [], _, _, h => by simp only [Ths] at h; obtain ⟨rfl, rfl⟩ := h; simp
 | p' :: r', ps, D, h => by
   simp only [Ths] at h
   obtain ⟨p, r, D1, D2, rfl, rfl, h1, h2⟩ := h
   intro c hc
   rcases List.mem_append.1 hc with hc | hc
   ·exact Th.vec p' p D1 h1 c hc
   ·exact Ths.vec r' r D2 h2 c hc
end
structure Hold (st s : St) (L : List It) : Prop where
 its : Its s L
 sub : Sub st s
 fresh : ∀ x ∈ L, ∀ b ∈ x.at_, st b = none
inductive Say (s : St) : List PV → List PV → Prop
 | nil : Say s [] []
 | same {p : PV} {us us' : List PV} (h : Say s us us') : Say s (p :: us) (p :: us')
 | held {p p' : PV} {D : List Nat} {us us' : List PV} (hT : Th s p' p D) (h : Say s us us') : Say s (p :: us) (p' :: us')
section
variable {P : Program} {g : FuncId} {us us' : List PV} {st s : St} {K Kp : PV → St → Prop} {L : List It} {p' : PV}
end
theorem Ths.ints {s : St} : ∀ (ns : List Int), Ths s (ns.map (PV.int .i64)) (ns.map (PV.int .i64)) []
 | [] => Ths.nil s
 | n :: ns => by
   have h : Th s (.int .i64 n) (.int .i64 n) [] := by simp [Th]
   simpa using Ths.cons h (Ths.ints ns)
theorem Th.tupInts {s : St} {x p : PV} {D : List Nat} (ns : List Int) (h : Th s x p D) : Th s (.tup (x :: ns.map (PV.int .i64))) (.tup (p :: ns.map (PV.int .i64))) D := by
 simp only [Th]
 refine ⟨_, rfl, ?_⟩
 simpa using Ths.cons h (Ths.ints ns)
theorem Ths.ints_inv {s : St} : ∀ {ns : List Int} {ps : List PV} {D : List Nat}, Ths s (ns.map (PV.int .i64)) ps D → ps = ns.map (PV.int .i64) ∧ D = []
 | [], _, _, h => by simp only [List.map_nil, Ths] at h; exact h
 | n :: ns, ps, D, h => by
   simp only [List.map_cons, Ths, Th] at h
   obtain ⟨p, r, D1, D2, rfl, rfl, ⟨rfl, rfl⟩, h2⟩ := h
   obtain ⟨rfl, rfl⟩ := Ths.ints_inv h2
   exact ⟨rfl, rfl⟩
theorem Th.tupInts_inv {s : St} {x q : PV} {D : List Nat} {ns : List Int} (h : Th s (.tup (x :: ns.map (PV.int .i64))) q D) : ∃ p, q = .tup (p :: ns.map (PV.int .i64)) ∧ Th s x p D := by
 simp only [Th, Ths] at h
 obtain ⟨ps, rfl, p, r, D1, D2, rfl, rfl, h1, h2⟩ := h
 obtain ⟨rfl, rfl⟩ := Ths.ints_inv h2
 exact ⟨p, rfl, by simpa using h1⟩
end Go.H
