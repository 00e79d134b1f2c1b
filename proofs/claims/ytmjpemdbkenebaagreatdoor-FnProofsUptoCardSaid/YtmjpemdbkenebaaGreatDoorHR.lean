/- Part of a proof that the program answers as the reference does: HPure19, HPars, HPure20, HPure21, HPure22. -/
import Derived.Test.YtmjpemdbkenebaaGreatDoorHP
import Derived.Test.YtmjpemdbkenebaaGreatDoorHQ
namespace Go.H
open Go
set_option linter.unusedVariables false
set_option linter.unusedSimpArgs false

inductive PR (α : Type) where
 | ok (a : α) (i nd : Nat)
 | er (c p : Int)
def zq2g (c : UInt8) : Bool := decide (c = 32) || decide (c = 9) || decide (c = 10) || decide (c = 13)
def zqaa (c : UInt8) : Bool := zqcl c || digit c
def runE (f : UInt8 → Bool) (t : List UInt8) (i : Nat) : Nat := i + ((t.drop i).takeWhile f).length
def cut (t : List UInt8) (i j : Nat) : List UInt8 := (t.take j).drop i
def wType : List UInt8 := [116, 121, 112, 101]
def wOmit : List UInt8 := [95]
def zqcg (nd : Nat) (p : Int) (i : Nat) : PR Unit := if nd + 1 > 150 then .er 11 p else .ok () i (nd + 1)
def zq3w (t : List UInt8) (c : UInt8) (i nd : Nat) : PR Unit :=
 if t[runE zq2g t i]? = some c then .ok () (runE zq2g t i + 1) nd else .er 4 (runE zq2g t i)
def zq8m (t : List UInt8) (j : Nat) : Bool := match t[j]? with | some c => zqcl c | none => false
def zq3t (t : List UInt8) (j : Nat) : List UInt8 := cut t j (runE zqaa t j)
def zqcj (t : List UInt8) (i nd : Nat) : PR (List UInt8) :=
 if zq8m t (runE zq2g t i) = true ∧ wordOK (zq3t t (runE zq2g t i)) = true ∧ zq3t t (runE zq2g t i) ≠ wType ∧ zq3t t (runE zq2g t i) ≠ wOmit
 then .ok (zq3t t (runE zq2g t i)) (runE zqaa t (runE zq2g t i)) nd else .er 4 (runE zq2g t i)
def numV : List UInt8 → Nat → Nat
 | [], n => n
 | c :: r, n => numV r (n * 10 + (c.toNat - 48))
def holeN (w : List UInt8) : Option Nat :=
 if 1 ≤ w.length ∧ w.length ≤ 3 ∧ (w.length = 1 ∨ w.head? ≠ some 48) ∧ numV w 0 ≤ 100 then some (numV w 0) else none
def pHole (t : List UInt8) (j nd : Nat) : PR Tr :=
 if nd + 1 > 150 then .er 11 j else match holeN (cut t (j + 1) (runE digit t (j + 1))) with
  | some n => .ok (.mk 7 n [] []) (runE digit t (j + 1)) (nd + 1)
  | none => .er 4 ((j + 1 : Nat) : Int)
def boundN (sc : List (List UInt8)) (w : List UInt8) : Option Nat := sc.reverse.idxOf? w
def pHead (t : List UInt8) (sc : List (List UInt8)) (i nd : Nat) : PR Tr :=
 let j := runE zq2g t i
 if t[j]? = some 63 then pHole t j nd
 else if zq8m t j = false then .er 4 j
 else if zq3t t j = wType ∨ zq3t t j = wOmit ∨ (zq3t t j).length > 40 then .er 4 j
 else if nd + 1 > 150 then .er 11 j
 else match boundN sc (zq3t t j) with
  | some n => .ok (.mk 5 n [] []) (runE zqaa t j) (nd + 1)
  | none => if zq8t (zq3t t j) = true then .ok (.mk 6 0 (zq3t t j) []) (runE zqaa t j) (nd + 1) else .er 5 j
mutual
def pTerm (t : List UInt8) (om : Bool) : Nat → List (List UInt8) → Nat → Nat → PR Tr
 | 0, _, _, _ => .er 0 0
 | n + 1, sc, i, nd =>
   if t[runE zq2g t i]? = some 91 then match zqcg nd (runE zq2g t i) (runE zq2g t i + 1) with
    | .er c p => .er c p
    | .ok _ i1 nd1 => match zqcj t i1 nd1 with
      | .er c p => .er c p
      | .ok w i2 nd2 => match zq3w t 93 i2 nd2 with
        | .er c p => .er c p
        | .ok _ i3 nd3 => match pTerm t om n (sc ++ [w]) i3 nd3 with
          | .er c p => .er c p
          | .ok k i4 nd4 => .ok (Tr.lam k) i4 nd4
   else if t[runE zq2g t i]? = some 40 then match pTerm t om n sc (runE zq2g t i + 1) nd with
    | .er c p => .er c p
    | .ok k i1 nd1 => match zq3w t 41 i1 nd1 with
      | .er c p => .er c p
      | .ok _ i2 nd2 => .ok k i2 nd2
   else match pHead t sc (runE zq2g t i) nd with
    | .er c p => .er c p
    | .ok h i1 nd1 => match zqkg t om n sc i1 nd1 [] with
      | .er c p => .er c p
      | .ok ks i2 nd2 => .ok (.mk h.kind h.n h.name ks) i2 nd2
def zqkg (t : List UInt8) (om : Bool) : Nat → List (List UInt8) → Nat → Nat → List Tr → PR (List Tr)
 | 0, _, _, _, _ => .er 0 0
 | n + 1, sc, i, nd, acc =>
   if t[runE zq2g t i]? = some 40 then match pTerm t om n sc (runE zq2g t i + 1) nd with
    | .er c p => .er c p
    | .ok k i1 nd1 => match zq3w t 41 i1 nd1 with
      | .er c p => .er c p
      | .ok _ i2 nd2 => zqkg t om n sc i2 nd2 (acc ++ [k])
   else if t[runE zq2g t i]? = some 63 ∨ zq8m t (runE zq2g t i) = true then
    if om = true ∧ zq3t t (runE zq2g t i) = wOmit then match zqcg nd (runE zq2g t i) (runE zq2g t i + 1) with
     | .er c p => .er c p
     | .ok _ i1 nd1 => zqkg t om n sc i1 nd1 (acc ++ [.mk 8 0 [] []])
    else match pHead t sc (runE zq2g t i) nd with
     | .er c p => .er c p
     | .ok h i1 nd1 => zqkg t om n sc i1 nd1 (acc ++ [h])
   else .ok acc (runE zq2g t i) nd
end
def zq4q : Tr → Bool
 | .mk k n s ks => if k = 2 then (match ks with | [_, b] => zq4q b | _ => false) else decide (k = 1)
mutual
def pFam (t : List UInt8) : Nat → List (List UInt8) → Nat → Nat → PR Tr
 | 0, _, _, _ => .er 0 0
 | n + 1, sc, i, nd =>
   if t[runE zq2g t i]? = some 123 then match zqcg nd (runE zq2g t i) (runE zq2g t i + 1) with
    | .er c p => .er c p
    | .ok _ i1 nd1 => match zqcj t i1 nd1 with
      | .er c p => .er c p
      | .ok w i2 nd2 => match zq3w t 58 i2 nd2 with
        | .er c p => .er c p
        | .ok _ i3 nd3 => match pFam t n sc (runE zq2g t i3) nd3 with
          | .er c p => .er c p
          | .ok a i4 nd4 => if zq4q a = true then .er 3 (runE zq2g t i3) else match zq3w t 125 i4 nd4 with
            | .er c p => .er c p
            | .ok _ i5 nd5 => match pFam t n (sc ++ [w]) i5 nd5 with
              | .er c p => .er c p
              | .ok b i6 nd6 => .ok (.mk 2 0 [] [a, b]) i6 nd6
   else match zqch t n sc (runE zq2g t i) nd with
    | .er c p => .er c p
    | .ok a i1 nd1 =>
      if t[runE zq2g t i1]? = some 45 then
       if t[runE zq2g t i1 + 1]? = some 62 then
        if zq4q a = true then .er 3 (runE zq2g t i) else match zqcg nd1 (runE zq2g t i1) (runE zq2g t i1 + 2) with
         | .er c p => .er c p
         | .ok _ i2 nd2 => match pFam t n sc i2 nd2 with
           | .er c p => .er c p
           | .ok b i3 nd3 => .ok (.mk 2 0 [] [a, b.lift 0 1]) i3 nd3
       else .er 4 ((runE zq2g t i1 + 1 : Nat) : Int)
      else .ok a (runE zq2g t i1) nd1
def zqch (t : List UInt8) : Nat → List (List UInt8) → Nat → Nat → PR Tr
 | 0, _, _, _ => .er 0 0
 | n + 1, sc, i, nd =>
   let j := runE zq2g t i
   if t[j]? = some 40 then match pFam t n sc (j + 1) nd with
    | .er c p => .er c p
    | .ok a i1 nd1 => match zq3w t 41 i1 nd1 with
      | .er c p => .er c p
      | .ok _ i2 nd2 => .ok a i2 nd2
   else if zq8m t j = false then .er 4 j
   else if zq3t t j = wType then match zqcg nd j (runE zqaa t j) with
    | .er c p => .er c p
    | .ok _ i1 nd1 => .ok (.mk 1 0 [] []) i1 nd1
   else if zq3t t j = wOmit ∨ (zq3t t j).length > 40 then .er 4 j
   else match zqcg nd j (runE zqaa t j) with
    | .er c p => .er c p
    | .ok _ i1 nd1 => if zq8t (zq3t t j) = true then match zqkg t false n sc i1 nd1 [] with
       | .er c p => .er c p
       | .ok ks i2 nd2 => .ok (.mk 3 0 (zq3t t j) ks) i2 nd2
      else .er 5 j
end

theorem zq2v (f : UInt8 → Bool) (t : List UInt8) (i : Nat) : i ≤ runE f t i := Nat.le_add_right _ _
theorem zqfb {f : UInt8 → Bool} : ∀ (l : List UInt8), (l.takeWhile f).length ≤ l.length
 | [] => Nat.le_refl _
 | c :: r => by rw [List.takeWhile_cons]; split <;> simp; exact zqfb r
theorem runE_le (f : UInt8 → Bool) (t : List UInt8) {i : Nat} (h : i ≤ t.length) : runE f t i ≤ t.length := by
 unfold runE
 have := zqfb (f := f) (t.drop i)
 rw [List.length_drop] at this
 omega
theorem zqcc {f : UInt8 → Bool} {t : List UInt8} {i : Nat} {c : UInt8} (h : t[i]? = some c) (hf : f c = true) : runE f t i = runE f t (i + 1) := by
 obtain ⟨hl, hc⟩ := List.getElem?_eq_some_iff.1 h
 unfold runE
 rw [List.drop_eq_getElem_cons hl, List.takeWhile_cons, hc, if_pos hf, List.length_cons]
 omega
theorem zq62 {f : UInt8 → Bool} {t : List UInt8} {i : Nat} (h : ∀ c, t[i]? = some c → f c = false) : runE f t i = i := by
 unfold runE
 by_cases hl : i < t.length
 ·rw [List.drop_eq_getElem_cons hl, List.takeWhile_cons, if_neg (by rw [h _ (List.getElem?_eq_getElem hl)]; simp)]
  rfl
 ·rw [List.drop_eq_nil_of_le (by omega)]
  rfl
theorem runE_gt {f : UInt8 → Bool} {t : List UInt8} {i : Nat} {c : UInt8} (h : t[i]? = some c) (hf : f c = true) : i < runE f t i := by
 rw [zqcc h hf]
 exact zq2v f t (i + 1)
theorem cut_len {t : List UInt8} {i j : Nat} (h : i ≤ j) (hj : j ≤ t.length) : (cut t i j).length = j - i := by
 unfold cut
 rw [List.length_drop, List.length_take]
 omega
end Go.H
namespace Go.H
open Go
set_option linter.unusedVariables false
set_option linter.unusedSimpArgs false

def ScR (st0 st : St) (b : Nat) (q : PV) (sc : List (List UInt8)) : Prop :=
 (sc = [] ∧ q = .sl 0 true []) ∨ ∃ c cap ys, c ≠ b ∧ q = .vsl c sc.length cap ∧ st c = some (.vec 1 ys cap) ∧ ys.take sc.length = sc.map PV.str ∧ sc.length ≤ ys.length ∧ sc.length ≤ cap ∧ st0 c = none
theorem ScR.cellOK {st0 st : St} {b : Nat} {q : PV} {sc : List (List UInt8)} (h : ScR st0 st b q sc) : q.cellOK = true ∧ q.ncells = 1 ∧ q.isJunk = false ∧ q.cells = [q] := by
 rcases h with ⟨_, rfl⟩ | ⟨c, cap, ys, _, rfl, _⟩ <;> exact ⟨rfl, rfl, rfl, rfl⟩
def pC (t : List UInt8) (om : Bool) (i : Int) (q : PV) (nd : Int) : List PV := [.str t, .int .i64 i, q, .int .i64 nd, .bool om]
structure PS (st0 st : St) (b : Nat) (t : List UInt8) (om : Bool) (sc : List (List UInt8)) (i nd : Nat) : Prop where
 ex : ∃ q, st b = some (.cells (pC t om i q nd)) ∧ ScR st0 st b q sc
 sub : Sub st0 st
 own : st0 b = none
 le : i ≤ t.length
 few : nd ≤ 150
 deep : sc.length ≤ 100 + nd
theorem ScR.frame {st0 st st0' st' : St} {b : Nat} {q : PV} {sc : List (List UInt8)} (h : ScR st0 st b q sc) (hf : ∀ c, st0 c = none → c ≠ b → (∃ o, st c = some o) → st' c = st c ∧ st0' c = none) : ScR st0' st' b q sc := by
 rcases h with h | ⟨c, cap, ys, h1, h2, h3, h4, h5, h6, h7⟩
 ·exact .inl h
 ·obtain ⟨e1, e2⟩ := hf c h7 h1 ⟨_, h3⟩
  exact .inr ⟨c, cap, ys, h1, h2, e1.trans h3, h4, h5, h6, e2⟩
theorem PS.move {st0 st : St} {b : Nat} {t : List UInt8} {om : Bool} {sc : List (List UInt8)} {i nd : Nat} (h : PS st0 st b t om sc i nd) {q : PV} (hb : st b = some (.cells (pC t om i q nd))) {i' nd' : Nat} (hi : i' ≤ t.length := by omega) (hn : nd' ≤ 150 := by omega) (hd : nd ≤ nd' := by omega) :
  PS st0 (upd st b (.cells (pC t om i' q nd'))) b t om sc i' nd' := by
 obtain ⟨⟨q', hb', hq⟩, hs, ho, le, few, deep⟩ := h
 have : q = q' := by rw [hb] at hb'; simp only [Option.some.injEq, HObj.cells.injEq, pC, List.cons.injEq] at hb'; exact hb'.2.2.1
 subst this
 exact ⟨⟨q, zq2 _ _ _, hq.frame fun c _ hc _ => ⟨zq7 _ _ hc, by assumption⟩⟩, hs.put ho, ho, hi, hn, by omega⟩
theorem PS.beside {st0 st : St} {b : Nat} {t : List UInt8} {om : Bool} {sc : List (List UInt8)} {i nd : Nat} (h : PS st0 st b t om sc i nd) {x : Nat} (o : HObj) (hx : st x = none) : PS (upd st0 x o) (upd st x o) b t om sc i nd := by
 obtain ⟨⟨q, hb, hq⟩, hs, ho, le, few, deep⟩ := h
 have hxb : b ≠ x := fun e => by rw [e, hx] at hb; cases hb
 refine ⟨⟨q, by rw [zq7 _ _ hxb]; exact hb, hq.frame fun c h0 hc ⟨o', hc'⟩ => ?_⟩, hs.upd x o, by rw [zq7 _ _ hxb]; exact ho, le, few, deep⟩
 have : c ≠ x := fun e => by rw [e, hx] at hc'; cases hc'
 exact ⟨zq7 _ _ this, by rw [zq7 _ _ this]; exact h0⟩
theorem PS.below {st0 st0' st : St} {b : Nat} {t : List UInt8} {om : Bool} {sc : List (List UInt8)} {i nd : Nat} (h : PS st0' st b t om sc i nd) (hs : Sub st0 st0') : PS st0 st b t om sc i nd := by
 obtain ⟨⟨q, hb, hq⟩, hs', ho, le, few, deep⟩ := h
 exact ⟨⟨q, hb, hq.frame fun c h0 _ _ => ⟨rfl, hs.isNone h0⟩⟩, hs.trans hs', hs.isNone ho, le, few, deep⟩
theorem PS.turn {st0 st : St} {b : Nat} {t : List UInt8} {om : Bool} {sc : List (List UInt8)} {i nd : Nat} (h : PS st0 st b t om sc i nd) {x : Nat} {o : HObj} (hx : st0 x = some o) (o' : HObj) : PS (upd st0 x o') (upd st x o') b t om sc i nd := by
 obtain ⟨⟨q, hb, hq⟩, hs, ho, le, few, deep⟩ := h
 have hxb : b ≠ x := fun e => by rw [e, hx] at ho; cases ho
 refine ⟨⟨q, by rw [zq7 _ _ hxb]; exact hb, hq.frame fun c h0 hc ⟨o', hc'⟩ => ?_⟩, hs.upd x o', by rw [zq7 _ _ hxb]; exact ho, le, few, deep⟩
 have : c ≠ x := fun e => by rw [e, hx] at h0; cases h0
 exact ⟨zq7 _ _ this, by rw [zq7 _ _ this]; exact h0⟩
theorem PS.grow {st0 st st' : St} {b : Nat} {t : List UInt8} {om : Bool} {sc : List (List UInt8)} {i nd : Nat} (h : PS st0 st b t om sc i nd) (hs : Sub st st') : PS st0 st' b t om sc i nd := by
 obtain ⟨⟨q, hb, hq⟩, hs', ho, le, few, deep⟩ := h
 exact ⟨⟨q, hs _ _ hb, hq.frame fun c h0 _ ⟨o, ho⟩ => ⟨(hs _ _ ho).trans ho.symm, h0⟩⟩, hs'.trans hs, ho, le, few, deep⟩
theorem PS.drop {st0 st : St} {b : Nat} {t : List UInt8} {om : Bool} {sc : List (List UInt8)} {i nd : Nat} {x : Nat} {o : HObj} (h : PS (upd st0 x o) st b t om sc i nd) (hx : st0 x = none) : PS st0 (del st x) b t om sc i nd := by
 obtain ⟨⟨q, hb, hq⟩, hs, ho, le, few, deep⟩ := h
 have hxb : b ≠ x := fun e => by rw [e, zq2] at ho; cases ho
 refine ⟨⟨q, by rw [zq5k _ hxb]; exact hb, hq.frame fun c h0 hc ⟨o', hc'⟩ => ?_⟩, fun c o' hc => ?_, by rw [zq7 _ _ hxb] at ho; exact ho, le, few, deep⟩
 ·have : c ≠ x := fun e => by rw [e, zq2] at h0; cases h0
  exact ⟨zq5k _ this, by rw [zq7 _ _ this] at h0; exact h0⟩
 ·have : c ≠ x := fun e => by rw [e, hx] at hc; cases hc
  rw [zq5k _ this]
  exact hs c o' (by rw [zq7 _ _ this]; exact hc)
theorem PS.append {st0 base s : St} {b : Nat} {t : List UInt8} {om : Bool} {sc : List (List UInt8)} {i nd : Nat} {esz bytes : Nat} {xs : List PV} {p y : PV} {K : PV → St → Prop} (hg : Grow st0 esz xs p base) (h : PS base s b t om sc i nd)
  (hb : (xs.length + 1) * bytes ≤ 140737488355328) (hk : ∀ p' base' s', Grow st0 esz (xs ++ [y]) p' base' → PS base' s' b t om sc i nd → K p' s') : zqo s esz bytes p (.sl esz true [y]) K := by
 unfold zqo
 rw [zq2n]
 rcases hg with ⟨rfl, ⟨e, rfl⟩, rfl⟩ | ⟨c, cap, rfl, hcap, hn, rfl⟩
 ·have : zq3m s esz (.sl e true []) = some [] := by simp [zq3m]
  rw [this]
  refine ⟨by simpa using hb, rfl, fun h => by simp at h, fun _ => .inl fun c cap hc hcap => ?_⟩
  have hc' : s c = none := hc.elim (fun h => by cases h) id
  exact hk _ _ _ (.inr ⟨c, cap, rfl, hcap, h.sub.isNone hc', rfl⟩) (h.beside _ hc')
 ·have hc := h.sub c _ (zq2 _ _ _)
  have : zq3m s esz (.vsl c xs.length cap) = some xs := by unfold zq3m; simp only [hc]; rw [if_pos ⟨trivial, Nat.le_refl _, trivial⟩, List.take_of_length_le (Nat.le_refl _)]
  rw [this]
  refine ⟨by simpa using hb, .inl fun c' cap' hc' hcap' => ?_⟩
  have hd := h.drop hn
  have hcn : del s c c' = none := by
   rcases hc' with hc' | hc'
   ·cases hc'; exact zq6q _ _
   ·by_cases e : c' = c
    ·rw [e]; exact zq6q _ _
    ·rw [zq5k _ e]; exact hc'
  exact hk _ _ _ (.inr ⟨c', cap', by simp, hcap', hd.sub.isNone hcn, rfl⟩) (hd.beside _ hcn)
theorem PS.freeze {st0 base s : St} {b : Nat} {t : List UInt8} {om : Bool} {sc : List (List UInt8)} {i nd : Nat} {esz : Nat} {xs : List PV} {p : PV} (hg : Grow st0 esz xs p base) (h : PS base s b t om sc i nd) :
  ∃ s', Conv [p] s [.sl esz false xs] s' ∧ PS st0 s' b t om sc i nd := by
 rcases hg with ⟨rfl, ⟨e, rfl⟩, rfl⟩ | ⟨c, cap, rfl, hcap, hn, rfl⟩
 ·exact ⟨s, Conv.empty.trans Conv.unfull, h⟩
 ·exact ⟨_, Conv.freeze (h.sub c _ (zq2 _ _ _)) rfl, h.drop hn⟩
theorem PS.push {st0 s : St} {b : Nat} {t : List UInt8} {om : Bool} {sc : List (List UInt8)} {i nd : Nat} {q : PV} {w : List UInt8} {K : PV → St → Prop} (h : PS st0 s b t om sc i nd) (hb : s b = some (.cells (pC t om i q nd))) (hd : sc.length + 1 ≤ 100 + nd)
  (hk : ∀ q' s', (q'.cellOK = true ∧ q'.ncells = 1 ∧ q'.isJunk = false ∧ q'.cells = [q']) → s' b = some (.cells (pC t om i q nd)) → PS st0 (upd s' b (.cells (pC t om i q' nd))) b t om (sc ++ [w]) i nd → K q' s') : zqo s 1 16 q (.sl 1 true [.str w]) K := by
 obtain ⟨⟨q0, hb', hq⟩, hs, ho, le, few, deep⟩ := h
 have : q = q0 := by rw [hb] at hb'; simp only [Option.some.injEq, HObj.cells.injEq, pC, List.cons.injEq] at hb'; exact hb'.2.2.1
 subst this
 unfold zqo
 rw [zq2n]
 have fin : ∀ (s1 : St) c cap, (∀ x, x ≠ c → s1 x = s x ∨ (s1 x = none ∧ st0 x = none ∧ x ≠ b)) → c ≠ b → st0 c = none → (sc.map PV.str ++ [PV.str w]).length ≤ cap → K (.vsl c (sc.map PV.str ++ [PV.str w]).length cap) (upd s1 c (.vec 1 (sc.map PV.str ++ [PV.str w]) cap)) := by
  intro s1 c cap hx hcb hc0 hcap
  have hbb : s1 b = s b := (hx b (Ne.symm hcb)).elim id (fun h => absurd rfl h.2.2)
  refine hk _ _ ⟨rfl, rfl, rfl, rfl⟩ (by rw [zq7 _ _ (Ne.symm hcb), hbb]; exact hb) ⟨⟨_, zq2 _ _ _, .inr ⟨c, cap, _, hcb, by simp, by rw [zq7 _ _ hcb]; exact zq2 _ _ _, by rw [List.take_of_length_le (by simp)]; simp, by simp, by simpa using hcap, hc0⟩⟩, ?_, ho, le, few, by simp; omega⟩
  intro x o hxo
  have x1 : x ≠ b := fun e => by rw [e, ho] at hxo; cases hxo
  have x2 : x ≠ c := fun e => by rw [e, hc0] at hxo; cases hxo
  rw [zq7 _ _ x1, zq7 _ _ x2]
  rcases hx x x2 with h1 | h1
  ·rw [h1]; exact hs x o hxo
  ·rw [h1.2.1] at hxo; cases hxo
 rcases hq with ⟨rfl, rfl⟩ | ⟨c, cap, ys, hcb, rfl, hc, hys, hl, hcl, hc0⟩
 ·have : zq3m s 1 (.sl 0 true []) = some [] := by simp [zq3m]
  rw [this]
  refine ⟨by simp, rfl, fun h => by simp at h, fun _ => .inl fun c cap hc hcap => ?_⟩
  have hc' : s c = none := hc.elim (fun h => by cases h) id
  exact fin s c cap (fun x _ => .inl rfl) (fun e => by rw [e, hb] at hc'; cases hc') (hs.isNone hc') hcap
 ·have : zq3m s 1 (.vsl c sc.length cap) = some (sc.map PV.str) := by unfold zq3m; simp only [hc]; rw [if_pos ⟨trivial, hl, trivial⟩, hys]
  rw [this]
  refine ⟨by simp; omega, .inl fun c' cap' hc' hcap' => ?_⟩
  have hx : ∀ x, x ≠ c' → del s c x = s x ∨ (del s c x = none ∧ st0 x = none ∧ x ≠ b) := fun x _ => by
   by_cases e : x = c
   ·rw [e]; exact .inr ⟨zq6q _ _, hc0, hcb⟩
   ·exact .inl (zq5k _ e)
  rcases hc' with hc' | hc'
  ·cases hc'
   exact fin _ _ _ hx hcb hc0 hcap'
  ·exact fin _ _ _ hx (fun e => by rw [e, hb] at hc'; cases hc') (hs.isNone hc') hcap'
theorem PS.pop {st0 s : St} {b : Nat} {t : List UInt8} {om : Bool} {sc : List (List UInt8)} {i nd : Nat} {q : PV} {w : List UInt8} (h : PS st0 s b t om (sc ++ [w]) i nd) (hb : s b = some (.cells (pC t om i q nd))) :
  zq1j q = some (.int .i64 ((sc.length : Int) + 1)) ∧ ∃ q', zq1y 1 q none (some (.int .i64 sc.length)) none = some q' ∧ (q'.cellOK = true ∧ q'.ncells = 1 ∧ q'.isJunk = false ∧ q'.cells = [q']) ∧ PS st0 (upd s b (.cells (pC t om i q' nd))) b t om sc i nd := by
 obtain ⟨⟨q0, hb', hq⟩, hs, ho, le, few, deep⟩ := h
 have : q = q0 := by rw [hb] at hb'; simp only [Option.some.injEq, HObj.cells.injEq, pC, List.cons.injEq] at hb'; exact hb'.2.2.1
 subst this
 rcases hq with ⟨h, _⟩ | ⟨c, cap, ys, hcb, rfl, hc, hys, hl, hcl, hc0⟩
 ·simp at h
 ·simp only [List.length_append, List.length_singleton] at hys hl hcl deep
  refine ⟨by simp [zq1j], .vsl c sc.length cap, ?_, ⟨rfl, rfl, rfl, rfl⟩, ⟨⟨_, zq2 _ _ _, .inr ⟨c, cap, ys, hcb, rfl, by rw [zq7 _ _ hcb]; exact hc, ?_, by omega, by omega, hc0⟩⟩, hs.put ho, ho, le, few, by omega⟩⟩
  ·simp [zq1y, optI]; omega
  ·have : ys.take sc.length = (ys.take (sc.length + 1)).take sc.length := by rw [List.take_take]; congr 1; omega
   rw [this, hys, List.map_append, List.take_append_of_le_length (by simp), List.take_of_length_le (by simp)]
theorem PS.scope {st0 s : St} {b : Nat} {t : List UInt8} {om : Bool} {sc : List (List UInt8)} {i nd : Nat} {q : PV} (h : PS st0 s b t om sc i nd) (hb : s b = some (.cells (pC t om i q nd))) : Reads s 1 (sc.map PV.str) q ∧ q.isJunk = false ∧ q.cells = [q] := by
 obtain ⟨⟨q0, hb', hq⟩, hs, ho, le, few, deep⟩ := h
 have : q = q0 := by rw [hb] at hb'; simp only [Option.some.injEq, HObj.cells.injEq, pC, List.cons.injEq] at hb'; exact hb'.2.2.1
 subst this
 refine ⟨?_, hq.cellOK.2.2.1, hq.cellOK.2.2.2⟩
 rcases hq with ⟨rfl, rfl⟩ | ⟨c, cap, ys, hcb, rfl, hc, hys, hl, hcl, hc0⟩
 ·refine ⟨rfl, fun i x k hx => by cases hx⟩
 ·refine ⟨by simp [zq1j], fun i x k hx => ⟨.eptr c 1 i 0, ?_, fun agg n => ?_⟩⟩
  ·have hi := (List.getElem?_eq_some_iff.1 hx).1
   simp only [List.length_map] at hi
   simp [q_ia, hi]
  ·have hy : ys[i]? = some x := by
    rw [← hys, List.getElem?_take] at hx
    split at hx
    ·exact hx
    ·cases hx
   rw [q_load_e hc hy]; rfl
def PRes {α : Type} (h : TypeId) (st0 : St) (b : Nat) (t : List UInt8) (om : Bool) (sc : List (List UInt8)) (val : α → PV) : PR α → Res → St → Prop
 | .ok a i nd => fun r st' => r = .ret (val a) ∧ PS st0 st' b t om sc i nd
 | .er c p => fun r st' => r = .pan (halt h c p) ∧ Sub st0 st'
variable {h : TypeId} {st0 st : St} {b : Nat} {t : List UInt8} {om : Bool} {sc : List (List UInt8)}
theorem PRes.ret {α : Type} {val : α → PV} {a : α} {i nd : Nat} {p : PV} (hp : PS st0 st b t om sc i nd) (e : p = val a) : retR (PRes h st0 b t om sc val (.ok a i nd)) p st := by
 subst e
 exact zq29 ⟨rfl, hp⟩
theorem PRes.conv {α : Type} {val : α → PV} {a : α} {i nd : Nat} {p : PV} (hp : PS st0 st b t om sc i nd) (e : Conv [p] st [val a] st) : retR (PRes h st0 b t om sc val (.ok a i nd)) p st :=
 zqcd e ⟨rfl, hp⟩
theorem PRes.pan {α : Type} {val : α → PV} {c p : Int} (hs : Sub st0 st) : panR (PRes h st0 b t om sc val (.er c p)) (halt h c p) st := zq56 (Conv.sub fun _ _ h => h) ⟨rfl, hs⟩
section
variable {P : Program} {g : FuncId} {us : List PV} {K : PV → St → Prop}
theorem zqi {α β : Type} {sc' : List (List UInt8)} {Kp : PV → St → Prop} {val : α → PV} {st1 : St} {a : α} {i nd : Nat} (hc : zq5 P g us st (PRes h st1 b t om sc' val (.ok a i nd))) (hk : ∀ s, PS st1 s b t om sc' i nd → K (val a) s) : zqb P g us st K Kp := by
 refine zq15 hc (fun q s hq => ?_) (fun q s hq => ?_)
 ·obtain ⟨e, h1⟩ := hq
  cases e
  exact hk s h1
 ·cases hq.1
theorem zqn {α β : Type} {sc' : List (List UInt8)} {val : α → PV} {val' : β → PV} {st1 : St} {c p : Int} (hc : zq5 P g us st (PRes h st1 b t om sc' val (.er c p))) (hs : Sub st0 st1) : zqb P g us st K (panR (PRes h st0 b t om sc val' (.er c p))) := by
 refine zq15 hc (fun q s hq => ?_) (fun q s hq => ?_)
 ·cases hq.1
 ·obtain ⟨e, h1⟩ := hq
  cases e
  exact PRes.pan (hs.trans h1)
end
end Go.H
namespace Go.H
open Go
set_option linter.unusedVariables false
set_option linter.unusedSimpArgs false

theorem zq3k {nd : Nat} {p : Int} {i i' nd' : Nat} {u : Unit} (h : zqcg nd p i = .ok u i' nd') : i' = i ∧ nd' = nd + 1 := by
 unfold zqcg at h
 split at h <;> cases h
 exact ⟨rfl, rfl⟩
theorem zq1m {t : List UInt8} {c : UInt8} {i nd i' nd' : Nat} {u : Unit} (h : zq3w t c i nd = .ok u i' nd') : i < i' ∧ nd' = nd := by
 unfold zq3w at h
 split at h <;> cases h
 exact ⟨by have := zq2v zq2g t i; omega, rfl⟩
theorem zq6y {t : List UInt8} {i nd i' nd' : Nat} {w : List UInt8} (h : zqcj t i nd = .ok w i' nd') : i ≤ i' ∧ nd' = nd := by
 unfold zqcj at h
 split at h <;> cases h
 exact ⟨Nat.le_trans (zq2v zq2g t i) (zq2v _ _ _), rfl⟩
theorem headAt_some {t : List UInt8} {j : Nat} (h : zq8m t j = true) : ∃ c, t[j]? = some c ∧ zqcl c = true := by
 unfold zq8m at h
 cases hc : t[j]? with
 | none => rw [hc] at h; cases h
 | some c => rw [hc] at h; exact ⟨c, rfl, h⟩
theorem runW_gt {t : List UInt8} {j : Nat} (h : zq8m t j = true) : j < runE zqaa t j := by
 obtain ⟨c, hc, hl⟩ := headAt_some h
 exact runE_gt hc (by unfold zqaa; rw [hl]; rfl)
theorem pHole_ok {t : List UInt8} {j nd i' nd' : Nat} {k : Tr} (h : pHole t j nd = .ok k i' nd') : j < i' := by
 unfold pHole at h
 split at h
 ·cases h
 ·split at h <;> cases h
  have := zq2v digit t (j + 1)
  omega
theorem zqll {t : List UInt8} {sc : List (List UInt8)} {i nd i' nd' : Nat} {k : Tr} (h : pHead t sc i nd = .ok k i' nd') : i < i' := by
 unfold pHead at h
 have hge := zq2v zq2g t i
 simp only at h
 split at h
 ·have := pHole_ok h; omega
 split at h
 ·cases h
 rename_i h1 h2
 have hgt := runW_gt (t := t) (j := runE zq2g t i) (by simpa using h2)
 split at h
 ·cases h
 split at h
 ·cases h
 split at h
 ·cases h; omega
 ·split at h <;> cases h
  omega
theorem pTA_ge (t : List UInt8) (om : Bool) : ∀ (n : Nat), (∀ sc i nd k i' nd', pTerm t om n sc i nd = .ok k i' nd' → i < i') ∧ (∀ sc i nd acc ks i' nd', zqkg t om n sc i nd acc = .ok ks i' nd' → i ≤ i')
 | 0 => ⟨fun _ _ _ _ _ _ h => (by unfold pTerm at h; cases h), fun _ _ _ _ _ _ _ h => (by unfold zqkg at h; cases h)⟩
 | n + 1 => by
   obtain ⟨ihT, ihA⟩ := pTA_ge t om n
   refine ⟨fun sc i nd k i' nd' h => ?_, fun sc i nd acc ks i' nd' h => ?_⟩
   ·have hge := zq2v zq2g t i
    unfold pTerm at h
    split at h
    ·split at h
     ·cases h
     rename_i h1
     obtain ⟨rfl, rfl⟩ := zq3k h1
     split at h
     ·cases h
     rename_i h2
     have := zq6y h2
     split at h
     ·cases h
     rename_i h3
     have := zq1m h3
     split at h
     ·cases h
     rename_i h4
     have := ihT _ _ _ _ _ _ h4
     cases h
     omega
    ·split at h
     ·split at h
      ·cases h
      rename_i h1
      have := ihT _ _ _ _ _ _ h1
      split at h
      ·cases h
      rename_i h2
      have := zq1m h2
      cases h
      omega
     ·split at h
      ·cases h
      rename_i h1
      have := zqll h1
      split at h
      ·cases h
      rename_i h2
      have := ihA _ _ _ _ _ _ _ h2
      cases h
      omega
   ·have hge := zq2v zq2g t i
    unfold zqkg at h
    split at h
    ·split at h
     ·cases h
     rename_i h1
     have := ihT _ _ _ _ _ _ h1
     split at h
     ·cases h
     rename_i h2
     have := zq1m h2
     have := ihA _ _ _ _ _ _ _ h
     omega
    ·split at h
     ·split at h
      ·split at h
       ·cases h
       rename_i h1
       obtain ⟨rfl, rfl⟩ := zq3k h1
       have := ihA _ _ _ _ _ _ _ h
       omega
      ·split at h
       ·cases h
       rename_i h1
       have := zqll h1
       have := ihA _ _ _ _ _ _ _ h
       omega
     ·cases h
      exact hge
theorem pTerm_ok {t : List UInt8} {om : Bool} {n : Nat} {sc : List (List UInt8)} {i nd i' nd' : Nat} {k : Tr} (h : pTerm t om n sc i nd = .ok k i' nd') : i < i' := (pTA_ge t om n).1 _ _ _ _ _ _ h
theorem pArgs_ok {t : List UInt8} {om : Bool} {n : Nat} {sc : List (List UInt8)} {i nd i' nd' : Nat} {acc ks : List Tr} (h : zqkg t om n sc i nd acc = .ok ks i' nd') : i ≤ i' := (pTA_ge t om n).2 _ _ _ _ _ _ _ h
theorem pFF_ge (t : List UInt8) : ∀ (n : Nat), (∀ sc i nd k i' nd', pFam t n sc i nd = .ok k i' nd' → i ≤ i') ∧ (∀ sc i nd k i' nd', zqch t n sc i nd = .ok k i' nd' → i < i')
 | 0 => ⟨fun _ _ _ _ _ _ h => (by unfold pFam at h; cases h), fun _ _ _ _ _ _ h => (by unfold zqch at h; cases h)⟩
 | n + 1 => by
   obtain ⟨ihF, ihI⟩ := pFF_ge t n
   refine ⟨fun sc i nd k i' nd' h => ?_, fun sc i nd k i' nd' h => ?_⟩
   ·have hge := zq2v zq2g t i
    unfold pFam at h
    split at h
    ·split at h
     ·cases h
     rename_i h1
     obtain ⟨rfl, rfl⟩ := zq3k h1
     split at h
     ·cases h
     rename_i h2
     have := zq6y h2
     split at h
     ·cases h
     rename_i i3 _ h3
     have := zq1m h3
     split at h
     ·cases h
     rename_i h4
     have := ihF _ _ _ _ _ _ h4
     have := zq2v zq2g t i3
     split at h
     ·cases h
     split at h
     ·cases h
     rename_i h5
     have := zq1m h5
     split at h
     ·cases h
     rename_i h6
     have := ihF _ _ _ _ _ _ h6
     cases h
     omega
    ·split at h
     ·cases h
     rename_i i1 _ h1
     have := ihI _ _ _ _ _ _ h1
     have := zq2v zq2g t i1
     split at h
     ·split at h
      ·split at h
       ·cases h
       split at h
       ·cases h
       rename_i h2
       obtain ⟨rfl, rfl⟩ := zq3k h2
       split at h
       ·cases h
       rename_i h3
       have := ihF _ _ _ _ _ _ h3
       cases h
       omega
      ·cases h
     ·cases h
      omega
   ·have hge := zq2v zq2g t i
    unfold zqch at h
    simp only at h
    split at h
    ·split at h
     ·cases h
     rename_i h1
     have := ihF _ _ _ _ _ _ h1
     split at h
     ·cases h
     rename_i h2
     have := zq1m h2
     cases h
     omega
    split at h
    ·cases h
    rename_i h2
    have hgt := runW_gt (t := t) (j := runE zq2g t i) (by simpa using h2)
    split at h
    ·split at h
     ·cases h
     rename_i h3
     obtain ⟨rfl, rfl⟩ := zq3k h3
     cases h
     omega
    split at h
    ·cases h
    split at h
    ·cases h
    rename_i h3
    obtain ⟨rfl, rfl⟩ := zq3k h3
    split at h
    ·split at h
     ·cases h
     rename_i h4
     have := pArgs_ok h4
     cases h
     omega
    ·cases h
theorem pFam_ok {t : List UInt8} {n : Nat} {sc : List (List UInt8)} {i nd i' nd' : Nat} {k : Tr} (h : pFam t n sc i nd = .ok k i' nd') : i ≤ i' := (pFF_ge t n).1 _ _ _ _ _ _ h
theorem pFirst_ok {t : List UInt8} {n : Nat} {sc : List (List UInt8)} {i nd i' nd' : Nat} {k : Tr} (h : zqch t n sc i nd = .ok k i' nd') : i < i' := (pFF_ge t n).2 _ _ _ _ _ _ h
end Go.H
namespace Go.H
open Go
set_option linter.unusedVariables false
set_option linter.unusedSimpArgs false

theorem zq8q (k n : Int) (s : List UInt8) (ks : List Tr) : (Tr.mk k n s ks).size = 1 + Tr.sizes ks := by rw [Tr.size_kids]; rfl
theorem zq61 : Tr.sizes [] = 0 := rfl
theorem sizes_one (a : Tr) : Tr.sizes [a] = a.size := by simp [Tr.sizes]
theorem zqlf (a b : Tr) : Tr.sizes [a, b] = a.size + b.size := by simp [Tr.sizes]
theorem zqh6 (l : List Tr) (a : Tr) : Tr.sizes (l ++ [a]) = Tr.sizes l + a.size := by simp [Tr.sizes]
theorem pHole_size {t : List UInt8} {j nd i' nd' : Nat} {k : Tr} (h : pHole t j nd = .ok k i' nd') : nd + k.size ≤ nd' ∧ k.kids = [] := by
 unfold pHole at h
 split at h
 ·cases h
 ·split at h <;> cases h
  exact ⟨by rw [zq8q, zq61]; omega, rfl⟩
theorem pHead_size {t : List UInt8} {sc : List (List UInt8)} {i nd i' nd' : Nat} {k : Tr} (h : pHead t sc i nd = .ok k i' nd') : nd + 1 ≤ nd' ∧ nd + k.size ≤ nd' := by
 unfold pHead at h
 simp only at h
 split at h
 ·have := pHole_size h
  have e := Tr.size_kids k
  rw [this.2, zq61] at e
  omega
 split at h
 ·cases h
 split at h
 ·cases h
 split at h
 ·cases h
 split at h
 ·cases h; rw [zq8q, zq61]; omega
 ·split at h <;> cases h
  rw [zq8q, zq61]; omega
theorem pTA_size (t : List UInt8) (om : Bool) : ∀ (n : Nat), (∀ sc i nd k i' nd', pTerm t om n sc i nd = .ok k i' nd' → nd + k.size ≤ nd') ∧ (∀ sc i nd acc ks i' nd', zqkg t om n sc i nd acc = .ok ks i' nd' → nd + Tr.sizes ks ≤ nd' + Tr.sizes acc)
 | 0 => ⟨fun _ _ _ _ _ _ h => (by unfold pTerm at h; cases h), fun _ _ _ _ _ _ _ h => (by unfold zqkg at h; cases h)⟩
 | n + 1 => by
   obtain ⟨ihT, ihA⟩ := pTA_size t om n
   refine ⟨fun sc i nd k i' nd' h => ?_, fun sc i nd acc ks i' nd' h => ?_⟩
   ·unfold pTerm at h
    split at h
    ·split at h
     ·cases h
     rename_i h1
     obtain ⟨rfl, rfl⟩ := zq3k h1
     split at h
     ·cases h
     rename_i h2
     have := zq6y h2
     split at h
     ·cases h
     rename_i h3
     have := zq1m h3
     split at h
     ·cases h
     rename_i h4
     have := ihT _ _ _ _ _ _ h4
     cases h
     rw [Tr.lam, zq8q, sizes_one]
     omega
    ·split at h
     ·split at h
      ·cases h
      rename_i h1
      have := ihT _ _ _ _ _ _ h1
      split at h
      ·cases h
      rename_i h2
      have := zq1m h2
      cases h
      omega
     ·split at h
      ·cases h
      rename_i h1
      have := pHead_size h1
      split at h
      ·cases h
      rename_i h2
      have := ihA _ _ _ _ _ _ _ h2
      rw [zq61] at this
      cases h
      rw [zq8q]
      omega
   ·unfold zqkg at h
    split at h
    ·split at h
     ·cases h
     rename_i h1
     have := ihT _ _ _ _ _ _ h1
     split at h
     ·cases h
     rename_i h2
     have := zq1m h2
     have := ihA _ _ _ _ _ _ _ h
     rw [zqh6] at this
     omega
    ·split at h
     ·split at h
      ·split at h
       ·cases h
       rename_i h1
       obtain ⟨rfl, rfl⟩ := zq3k h1
       have := ihA _ _ _ _ _ _ _ h
       rw [zqh6, zq8q, zq61] at this
       omega
      ·split at h
       ·cases h
       rename_i h1
       have := pHead_size h1
       have := ihA _ _ _ _ _ _ _ h
       rw [zqh6] at this
       omega
     ·cases h
      omega
theorem pArgs_size {t : List UInt8} {om : Bool} {n : Nat} {sc : List (List UInt8)} {i nd i' nd' : Nat} {ks : List Tr} (h : zqkg t om n sc i nd [] = .ok ks i' nd') : nd + Tr.sizes ks ≤ nd' := by
 have := (pTA_size t om n).2 _ _ _ _ _ _ _ h
 rw [zq61] at this
 omega
def zqa3 : Tr → Bool
 | .mk k _ _ ks => if k = 2 then (match ks with | [_, b] => zqa3 b | _ => false) else true
theorem zq9u (k n : Int) (s : List UInt8) (ks : List Tr) : zqa3 (.mk k n s ks) = if k = 2 then (match ks with | [_, b] => zqa3 b | _ => false) else true := by
 match ks with
 | [] => simp [zqa3]
 | [x] => simp [zqa3]
 | [x, y] => simp [zqa3]
 | x :: y :: z :: r => simp [zqa3]
theorem isKindT_mk (k n : Int) (s : List UInt8) (ks : List Tr) : zq4q (.mk k n s ks) = if k = 2 then (match ks with | [_, b] => zq4q b | _ => false) else decide (k = 1) := by
 match ks with
 | [] => simp [zq4q]
 | [x] => simp [zq4q]
 | [x, y] => simp [zq4q]
 | x :: y :: z :: r => simp [zq4q]
theorem spineB_lift : ∀ (t : Tr) (f b : Int), zqa3 (t.lift f b) = zqa3 t := by
 intro t
 induction t using Tr.ind with
 | _ t ih =>
   intro f b
   obtain ⟨k, n, s, ks⟩ := t
   rw [Tr.lift_eq, zq9u, zq9u]
   show (if k = 2 then _ else true) = if k = 2 then _ else true
   by_cases hk : k = 2
   ·rw [if_pos hk, if_pos hk]
    match ks, ih with
    | [], _ => rfl
    | [x], _ => rfl
    | [x, y], ih => exact ih y (by simp [Tr.kids]) _ _
    | x :: y :: z :: r, _ =>
      simp [Tr.kids, List.mapIdx_cons]
   ·rw [if_neg hk, if_neg hk]
theorem pFF_size (t : List UInt8) : ∀ (n : Nat), (∀ sc i nd k i' nd', pFam t n sc i nd = .ok k i' nd' → nd + k.size ≤ nd' ∧ zqa3 k = true) ∧ (∀ sc i nd k i' nd', zqch t n sc i nd = .ok k i' nd' → nd + k.size ≤ nd' ∧ zqa3 k = true)
 | 0 => ⟨fun _ _ _ _ _ _ h => (by unfold pFam at h; cases h), fun _ _ _ _ _ _ h => (by unfold zqch at h; cases h)⟩
 | n + 1 => by
   obtain ⟨ihF, ihI⟩ := pFF_size t n
   refine ⟨fun sc i nd k i' nd' h => ?_, fun sc i nd k i' nd' h => ?_⟩
   ·unfold pFam at h
    split at h
    ·split at h
     ·cases h
     rename_i h1
     obtain ⟨rfl, rfl⟩ := zq3k h1
     split at h
     ·cases h
     rename_i h2
     have := zq6y h2
     split at h
     ·cases h
     rename_i i3 _ h3
     have := zq1m h3
     split at h
     ·cases h
     rename_i h4
     have := ihF _ _ _ _ _ _ h4
     split at h
     ·cases h
     split at h
     ·cases h
     rename_i h5
     have := zq1m h5
     split at h
     ·cases h
     rename_i h6
     have h7 := ihF _ _ _ _ _ _ h6
     cases h
     refine ⟨by rw [zq8q, zqlf]; omega, ?_⟩
     rw [zq9u, if_pos rfl]
     exact h7.2
    ·split at h
     ·cases h
     rename_i i1 _ h1
     have h1' := ihI _ _ _ _ _ _ h1
     split at h
     ·split at h
      ·split at h
       ·cases h
       split at h
       ·cases h
       rename_i h2
       obtain ⟨rfl, rfl⟩ := zq3k h2
       split at h
       ·cases h
       rename_i h3
       have h3' := ihF _ _ _ _ _ _ h3
       cases h
       refine ⟨by rw [zq8q, zqlf, zqlp]; omega, ?_⟩
       rw [zq9u, if_pos rfl]
       exact (spineB_lift _ _ _).trans h3'.2
      ·cases h
     ·cases h
      exact h1'
   ·unfold zqch at h
    simp only at h
    split at h
    ·split at h
     ·cases h
     rename_i h1
     have h1' := ihF _ _ _ _ _ _ h1
     split at h
     ·cases h
     rename_i h2
     have := zq1m h2
     cases h
     exact ⟨by omega, h1'.2⟩
    split at h
    ·cases h
    split at h
    ·split at h
     ·cases h
     rename_i h3
     obtain ⟨rfl, rfl⟩ := zq3k h3
     cases h
     exact ⟨by rw [zq8q, zq61]; omega, rfl⟩
    split at h
    ·cases h
    split at h
    ·cases h
    rename_i h3
    obtain ⟨rfl, rfl⟩ := zq3k h3
    split at h
    ·split at h
     ·cases h
     rename_i h4
     have := pArgs_size h4
     cases h
     exact ⟨by rw [zq8q]; omega, by rw [zq9u]; rfl⟩
    ·cases h
theorem zqci {t : List UInt8} {n : Nat} {sc : List (List UInt8)} {i nd i' nd' : Nat} {k : Tr} (h : pFam t n sc i nd = .ok k i' nd') : nd + k.size ≤ nd' ∧ zqa3 k = true := (pFF_size t n).1 _ _ _ _ _ _ h
theorem pFirst_size {t : List UInt8} {n : Nat} {sc : List (List UInt8)} {i nd i' nd' : Nat} {k : Tr} (h : zqch t n sc i nd = .ok k i' nd') : nd + k.size ≤ nd' ∧ zqa3 k = true := (pFF_size t n).2 _ _ _ _ _ _ h
end Go.H
namespace Go.H
open Go
set_option linter.unusedVariables false
set_option linter.unusedSimpArgs false

theorem zqhk (c : UInt8) : ∀ (l : List UInt8), Lib.indexByte l c < l.length
 | [] => by simp [Lib.indexByte]
 | x :: l => by
   have ih := zqhk c l
   unfold Lib.indexByte
   split
   ·simp
   ·split
    ·simp; omega
    ·simp only [List.length_cons]; omega
def zq1r (t : List UInt8) : List UInt8 × List UInt8 :=
 if 0 ≤ Lib.indexByte t 10 then (t.take ((Lib.indexByte t 10).toNat + 1), t.drop ((Lib.indexByte t 10).toNat + 1)) else (t, [])
theorem lineOf_len {t : List UInt8} (h : t ≠ []) : (zq1r t).2.length < t.length := by
 have hp := List.length_pos_iff.2 h
 unfold zq1r
 split
 ·simp only [List.length_drop]; omega
 ·simpa using hp
def zq6z (c : UInt8) : Bool := decide (c = 32) || decide (c = 9) || decide (c = 13)
def zq2y (l : List UInt8) : List UInt8 := if 1 ≤ l.length ∧ l.drop (l.length - 1) = [10] then l.take (l.length - 1) else l
def saysT (l : List UInt8) : Bool := match l[runE zq6z l 0]? with | some c => !decide (c = 37) | none => false
end Go.H
