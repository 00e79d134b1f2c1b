/- Part of a proof that the program answers as the reference does: HPure19, HPars, HPure20, HPure21, HPure22. -/
import Derived.Test.YtakcoedklmoboaaGreatDoorHP
import Derived.Test.YtakcoedklmoboaaGreatDoorHQ
/- The parser, as plain functions over a text; its state, as a call holds it. -/
namespace Go.H
open Go
set_option linter.unusedVariables false
set_option linter.unusedSimpArgs false

/-! ### Reading -/
inductive PR (α : Type) where
  | ok (a : α) (i nd : Nat)
  | er (c p : Int)
def blank (c : UInt8) : Bool := decide (c = 32) || decide (c = 9) || decide (c = 10) || decide (c = 13)
def wordC (c : UInt8) : Bool := letter c || digit c
def runE (f : UInt8 → Bool) (t : List UInt8) (i : Nat) : Nat := i + ((t.drop i).takeWhile f).length
def cut (t : List UInt8) (i j : Nat) : List UInt8 := (t.take j).drop i
def wType : List UInt8 := [116, 121, 112, 101]
def wOmit : List UInt8 := [95]
def pNode (nd : Nat) (p : Int) (i : Nat) : PR Unit := if nd + 1 > 150 then .er 11 p else .ok () i (nd + 1)
def pExpect (t : List UInt8) (c : UInt8) (i nd : Nat) : PR Unit :=
  if t[runE blank t i]? = some c then .ok () (runE blank t i + 1) nd else .er 4 (runE blank t i)
/-- The word that begins here, if a word's sign stands here. -/
def headAt (t : List UInt8) (j : Nat) : Bool := match t[j]? with | some c => letter c | none => false
def wordAt (t : List UInt8) (j : Nat) : List UInt8 := cut t j (runE wordC t j)
def pBinder (t : List UInt8) (i nd : Nat) : PR (List UInt8) :=
  if headAt t (runE blank t i) = true ∧ wordOK (wordAt t (runE blank t i)) = true ∧ wordAt t (runE blank t i) ≠ wType ∧ wordAt t (runE blank t i) ≠ wOmit
  then .ok (wordAt t (runE blank t i)) (runE wordC t (runE blank t i)) nd else .er 4 (runE blank t i)
def numV : List UInt8 → Nat → Nat
  | [], n => n
  | c :: r, n => numV r (n * 10 + (c.toNat - 48))
/-- A hole's number. -/
def holeN (w : List UInt8) : Option Nat :=
  if 1 ≤ w.length ∧ w.length ≤ 3 ∧ (w.length = 1 ∨ w.head? ≠ some 48) ∧ numV w 0 ≤ 100 then some (numV w 0) else none
def pHole (t : List UInt8) (j nd : Nat) : PR Tr :=
  if nd + 1 > 150 then .er 11 j else match holeN (cut t (j + 1) (runE digit t (j + 1))) with
    | some n => .ok (.mk 7 n [] []) (runE digit t (j + 1)) (nd + 1)
    | none => .er 4 ((j + 1 : Nat) : Int)
/-- How far behind the last one a name stands. -/
def boundN (sc : List (List UInt8)) (w : List UInt8) : Option Nat := sc.reverse.idxOf? w
def pHead (t : List UInt8) (sc : List (List UInt8)) (i nd : Nat) : PR Tr :=
  let j := runE blank t i
  if t[j]? = some 63 then pHole t j nd
  else if headAt t j = false then .er 4 j
  else if wordAt t j = wType ∨ wordAt t j = wOmit ∨ (wordAt t j).length > 40 then .er 4 j
  else if nd + 1 > 150 then .er 11 j
  else match boundN sc (wordAt t j) with
    | some n => .ok (.mk 5 n [] []) (runE wordC t j) (nd + 1)
    | none => if nameOK (wordAt t j) = true then .ok (.mk 6 0 (wordAt t j) []) (runE wordC t j) (nd + 1) else .er 5 j
mutual
def pTerm (t : List UInt8) (om : Bool) : Nat → List (List UInt8) → Nat → Nat → PR Tr
  | 0, _, _, _ => .er 0 0
  | n + 1, sc, i, nd =>
    if t[runE blank t i]? = some 91 then match pNode nd (runE blank t i) (runE blank t i + 1) with
      | .er c p => .er c p
      | .ok _ i1 nd1 => match pBinder t i1 nd1 with
        | .er c p => .er c p
        | .ok w i2 nd2 => match pExpect t 93 i2 nd2 with
          | .er c p => .er c p
          | .ok _ i3 nd3 => match pTerm t om n (sc ++ [w]) i3 nd3 with
            | .er c p => .er c p
            | .ok k i4 nd4 => .ok (Tr.lam k) i4 nd4
    else if t[runE blank t i]? = some 40 then match pTerm t om n sc (runE blank t i + 1) nd with
      | .er c p => .er c p
      | .ok k i1 nd1 => match pExpect t 41 i1 nd1 with
        | .er c p => .er c p
        | .ok _ i2 nd2 => .ok k i2 nd2
    else match pHead t sc (runE blank t i) nd with
      | .er c p => .er c p
      | .ok h i1 nd1 => match pArgs t om n sc i1 nd1 [] with
        | .er c p => .er c p
        | .ok ks i2 nd2 => .ok (.mk h.kind h.n h.name ks) i2 nd2
def pArgs (t : List UInt8) (om : Bool) : Nat → List (List UInt8) → Nat → Nat → List Tr → PR (List Tr)
  | 0, _, _, _, _ => .er 0 0
  | n + 1, sc, i, nd, acc =>
    if t[runE blank t i]? = some 40 then match pTerm t om n sc (runE blank t i + 1) nd with
      | .er c p => .er c p
      | .ok k i1 nd1 => match pExpect t 41 i1 nd1 with
        | .er c p => .er c p
        | .ok _ i2 nd2 => pArgs t om n sc i2 nd2 (acc ++ [k])
    else if t[runE blank t i]? = some 63 ∨ headAt t (runE blank t i) = true then
      if om = true ∧ wordAt t (runE blank t i) = wOmit then match pNode nd (runE blank t i) (runE blank t i + 1) with
        | .er c p => .er c p
        | .ok _ i1 nd1 => pArgs t om n sc i1 nd1 (acc ++ [.mk 8 0 [] []])
      else match pHead t sc (runE blank t i) nd with
        | .er c p => .er c p
        | .ok h i1 nd1 => pArgs t om n sc i1 nd1 (acc ++ [h])
    else .ok acc (runE blank t i) nd
end
/-- Whether it ends in type. -/
def isKindT : Tr → Bool
  | .mk k n s ks => if k = 2 then (match ks with | [_, b] => isKindT b | _ => false) else decide (k = 1)
mutual
def pFam (t : List UInt8) : Nat → List (List UInt8) → Nat → Nat → PR Tr
  | 0, _, _, _ => .er 0 0
  | n + 1, sc, i, nd =>
    if t[runE blank t i]? = some 123 then match pNode nd (runE blank t i) (runE blank t i + 1) with
      | .er c p => .er c p
      | .ok _ i1 nd1 => match pBinder t i1 nd1 with
        | .er c p => .er c p
        | .ok w i2 nd2 => match pExpect t 58 i2 nd2 with
          | .er c p => .er c p
          | .ok _ i3 nd3 => match pFam t n sc (runE blank t i3) nd3 with
            | .er c p => .er c p
            | .ok a i4 nd4 => if isKindT a = true then .er 3 (runE blank t i3) else match pExpect t 125 i4 nd4 with
              | .er c p => .er c p
              | .ok _ i5 nd5 => match pFam t n (sc ++ [w]) i5 nd5 with
                | .er c p => .er c p
                | .ok b i6 nd6 => .ok (.mk 2 0 [] [a, b]) i6 nd6
    else match pFirst t n sc (runE blank t i) nd with
      | .er c p => .er c p
      | .ok a i1 nd1 =>
        if t[runE blank t i1]? = some 45 then
          if t[runE blank t i1 + 1]? = some 62 then
            if isKindT a = true then .er 3 (runE blank t i) else match pNode nd1 (runE blank t i1) (runE blank t i1 + 2) with
              | .er c p => .er c p
              | .ok _ i2 nd2 => match pFam t n sc i2 nd2 with
                | .er c p => .er c p
                | .ok b i3 nd3 => .ok (.mk 2 0 [] [a, b.lift 0 1]) i3 nd3
          else .er 4 ((runE blank t i1 + 1 : Nat) : Int)
        else .ok a (runE blank t i1) nd1
def pFirst (t : List UInt8) : Nat → List (List UInt8) → Nat → Nat → PR Tr
  | 0, _, _, _ => .er 0 0
  | n + 1, sc, i, nd =>
    let j := runE blank t i
    if t[j]? = some 40 then match pFam t n sc (j + 1) nd with
      | .er c p => .er c p
      | .ok a i1 nd1 => match pExpect t 41 i1 nd1 with
        | .er c p => .er c p
        | .ok _ i2 nd2 => .ok a i2 nd2
    else if headAt t j = false then .er 4 j
    else if wordAt t j = wType then match pNode nd j (runE wordC t j) with
      | .er c p => .er c p
      | .ok _ i1 nd1 => .ok (.mk 1 0 [] []) i1 nd1
    else if wordAt t j = wOmit ∨ (wordAt t j).length > 40 then .er 4 j
    else match pNode nd j (runE wordC t j) with
      | .er c p => .er c p
      | .ok _ i1 nd1 => if nameOK (wordAt t j) = true then match pArgs t false n sc i1 nd1 [] with
          | .er c p => .er c p
          | .ok ks i2 nd2 => .ok (.mk 3 0 (wordAt t j) ks) i2 nd2
        else .er 5 j
end

/-! ### Places -/
end Go.H
/- What a call holds of a parser's state. -/
namespace Go.H
open Go
set_option linter.unusedVariables false
set_option linter.unusedSimpArgs false

/-- The row of names in scope. -/
def ScR (st0 st : St) (b : Nat) (q : PV) (sc : List (List UInt8)) : Prop :=
  (sc = [] ∧ q = .sl 0 true []) ∨ ∃ c cap ys, c ≠ b ∧ q = .vsl c sc.length cap ∧ st c = some (.vec 1 ys cap) ∧ ys.take sc.length = sc.map PV.str ∧ sc.length ≤ ys.length ∧ sc.length ≤ cap ∧ st0 c = none
theorem ScR.cellOK {st0 st : St} {b : Nat} {q : PV} {sc : List (List UInt8)} (h : ScR st0 st b q sc) : q.cellOK = true ∧ q.ncells = 1 ∧ q.isJunk = false ∧ q.cells = [q] := by
  rcases h with ⟨_, rfl⟩ | ⟨c, cap, ys, _, rfl, _⟩ <;> exact ⟨rfl, rfl, rfl, rfl⟩
/-- The parser's cells. -/
def pC (t : List UInt8) (om : Bool) (i : Int) (q : PV) (nd : Int) : List PV := [.str t, .int .i64 i, q, .int .i64 nd, .bool om]
structure PS (st0 st : St) (b : Nat) (t : List UInt8) (om : Bool) (sc : List (List UInt8)) (i nd : Nat) : Prop where
  ex : ∃ q, st b = some (.cells (pC t om i q nd)) ∧ ScR st0 st b q sc
  sub : Sub st0 st
  own : st0 b = none
  le : i ≤ t.length
  few : nd ≤ 150
  deep : sc.length ≤ 100 + nd
theorem ScR.frame {st0 st st0' st' : St} {b : Nat} {q : PV} {sc : List (List UInt8)} (h : ScR st0 st b q sc) (hf : ∀ c, st0 c = none → c ≠ b → (∃ o, st c = some o) → st' c = st c ∧ st0' c = none) : ScR st0' st' b q sc := by
  rcases h with h | ⟨c, cap, ys, h1, h2, h3, h4, h5, h6, h7⟩
  · exact .inl h
  · obtain ⟨e1, e2⟩ := hf c h7 h1 ⟨_, h3⟩
    exact .inr ⟨c, cap, ys, h1, h2, e1.trans h3, h4, h5, h6, e2⟩
/-- The place and the count of nodes are turned. -/
theorem PS.move {st0 st : St} {b : Nat} {t : List UInt8} {om : Bool} {sc : List (List UInt8)} {i nd : Nat} (h : PS st0 st b t om sc i nd) {q : PV} (hb : st b = some (.cells (pC t om i q nd))) {i' nd' : Nat} (hi : i' ≤ t.length := by omega) (hn : nd' ≤ 150 := by omega) (hd : nd ≤ nd' := by omega) :
    PS st0 (upd st b (.cells (pC t om i' q nd'))) b t om sc i' nd' := by
  obtain ⟨⟨q', hb', hq⟩, hs, ho, le, few, deep⟩ := h
  have : q = q' := by rw [hb] at hb'; simp only [Option.some.injEq, HObj.cells.injEq, pC, List.cons.injEq] at hb'; exact hb'.2.2.1
  subst this
  exact ⟨⟨q, upd_same _ _ _, hq.frame fun c _ hc _ => ⟨upd_ne _ _ hc, by assumption⟩⟩, hs.put ho, ho, hi, hn, by omega⟩
/-- A variable of the caller's beside it. -/
theorem PS.beside {st0 st : St} {b : Nat} {t : List UInt8} {om : Bool} {sc : List (List UInt8)} {i nd : Nat} (h : PS st0 st b t om sc i nd) {x : Nat} (o : HObj) (hx : st x = none) : PS (upd st0 x o) (upd st x o) b t om sc i nd := by
  obtain ⟨⟨q, hb, hq⟩, hs, ho, le, few, deep⟩ := h
  have hxb : b ≠ x := fun e => by rw [e, hx] at hb; cases hb
  refine ⟨⟨q, by rw [upd_ne _ _ hxb]; exact hb, hq.frame fun c h0 hc ⟨o', hc'⟩ => ?_⟩, hs.upd x o, by rw [upd_ne _ _ hxb]; exact ho, le, few, deep⟩
  have : c ≠ x := fun e => by rw [e, hx] at hc'; cases hc'
  exact ⟨upd_ne _ _ this, by rw [upd_ne _ _ this]; exact h0⟩
theorem PS.below {st0 st0' st : St} {b : Nat} {t : List UInt8} {om : Bool} {sc : List (List UInt8)} {i nd : Nat} (h : PS st0' st b t om sc i nd) (hs : Sub st0 st0') : PS st0 st b t om sc i nd := by
  obtain ⟨⟨q, hb, hq⟩, hs', ho, le, few, deep⟩ := h
  exact ⟨⟨q, hb, hq.frame fun c h0 _ _ => ⟨rfl, hs.isNone h0⟩⟩, hs.trans hs', hs.isNone ho, le, few, deep⟩
/-- What is the caller's own may be turned beside it. -/
theorem PS.turn {st0 st : St} {b : Nat} {t : List UInt8} {om : Bool} {sc : List (List UInt8)} {i nd : Nat} (h : PS st0 st b t om sc i nd) {x : Nat} {o : HObj} (hx : st0 x = some o) (o' : HObj) : PS (upd st0 x o') (upd st x o') b t om sc i nd := by
  obtain ⟨⟨q, hb, hq⟩, hs, ho, le, few, deep⟩ := h
  have hxb : b ≠ x := fun e => by rw [e, hx] at ho; cases ho
  refine ⟨⟨q, by rw [upd_ne _ _ hxb]; exact hb, hq.frame fun c h0 hc ⟨o', hc'⟩ => ?_⟩, hs.upd x o', by rw [upd_ne _ _ hxb]; exact ho, le, few, deep⟩
  have : c ≠ x := fun e => by rw [e, hx] at h0; cases h0
  exact ⟨upd_ne _ _ this, by rw [upd_ne _ _ this]; exact h0⟩
theorem PS.grow {st0 st st' : St} {b : Nat} {t : List UInt8} {om : Bool} {sc : List (List UInt8)} {i nd : Nat} (h : PS st0 st b t om sc i nd) (hs : Sub st st') : PS st0 st' b t om sc i nd := by
  obtain ⟨⟨q, hb, hq⟩, hs', ho, le, few, deep⟩ := h
  exact ⟨⟨q, hs _ _ hb, hq.frame fun c h0 _ ⟨o, ho⟩ => ⟨(hs _ _ ho).trans ho.symm, h0⟩⟩, hs'.trans hs, ho, le, few, deep⟩
theorem PS.drop {st0 st : St} {b : Nat} {t : List UInt8} {om : Bool} {sc : List (List UInt8)} {i nd : Nat} {x : Nat} {o : HObj} (h : PS (upd st0 x o) st b t om sc i nd) (hx : st0 x = none) : PS st0 (del st x) b t om sc i nd := by
  obtain ⟨⟨q, hb, hq⟩, hs, ho, le, few, deep⟩ := h
  have hxb : b ≠ x := fun e => by rw [e, upd_same] at ho; cases ho
  refine ⟨⟨q, by rw [del_ne _ hxb]; exact hb, hq.frame fun c h0 hc ⟨o', hc'⟩ => ?_⟩, fun c o' hc => ?_, by rw [upd_ne _ _ hxb] at ho; exact ho, le, few, deep⟩
  · have : c ≠ x := fun e => by rw [e, upd_same] at h0; cases h0
    exact ⟨del_ne _ this, by rw [upd_ne _ _ this] at h0; exact h0⟩
  · have : c ≠ x := fun e => by rw [e, hx] at hc; cases hc
    rw [del_ne _ this]
    exact hs c o' (by rw [upd_ne _ _ this]; exact hc)
/-- A row of the caller's grows beside the parser's state. -/
theorem PS.append {st0 base s : St} {b : Nat} {t : List UInt8} {om : Bool} {sc : List (List UInt8)} {i nd : Nat} {esz bytes : Nat} {xs : List PV} {p y : PV} {K : PV → St → Prop} (hg : Grow st0 esz xs p base) (h : PS base s b t om sc i nd)
    (hb : (xs.length + 1) * bytes ≤ 140737488355328) (hk : ∀ p' base' s', Grow st0 esz (xs ++ [y]) p' base' → PS base' s' b t om sc i nd → K p' s') : e_append s esz bytes p (.sl esz true [y]) K := by
  unfold e_append
  rw [elems_sl]
  rcases hg with ⟨rfl, ⟨e, rfl⟩, rfl⟩ | ⟨c, cap, rfl, hcap, hn, rfl⟩
  · have : elems s esz (.sl e true []) = some [] := by simp [elems]
    rw [this]
    refine ⟨by simpa using hb, rfl, fun h => by simp at h, fun _ => .inl fun c cap hc hcap => ?_⟩
    have hc' : s c = none := hc.elim (fun h => by cases h) id
    exact hk _ _ _ (.inr ⟨c, cap, rfl, hcap, h.sub.isNone hc', rfl⟩) (h.beside _ hc')
  · have hc := h.sub c _ (upd_same _ _ _)
    have : elems s esz (.vsl c xs.length cap) = some xs := by unfold elems; simp only [hc]; rw [if_pos ⟨trivial, Nat.le_refl _, trivial⟩, List.take_of_length_le (Nat.le_refl _)]
    rw [this]
    refine ⟨by simpa using hb, .inl fun c' cap' hc' hcap' => ?_⟩
    have hd := h.drop hn
    have hcn : del s c c' = none := by
      rcases hc' with hc' | hc'
      · cases hc'; exact del_same _ _
      · by_cases e : c' = c
        · rw [e]; exact del_same _ _
        · rw [del_ne _ e]; exact hc'
    exact hk _ _ _ (.inr ⟨c', cap', by simp, hcap', hd.sub.isNone hcn, rfl⟩) (hd.beside _ hcn)
/-- The row is held as it is for good. -/
theorem PS.freeze {st0 base s : St} {b : Nat} {t : List UInt8} {om : Bool} {sc : List (List UInt8)} {i nd : Nat} {esz : Nat} {xs : List PV} {p : PV} (hg : Grow st0 esz xs p base) (h : PS base s b t om sc i nd) :
    ∃ s', Conv [p] s [.sl esz false xs] s' ∧ PS st0 s' b t om sc i nd := by
  rcases hg with ⟨rfl, ⟨e, rfl⟩, rfl⟩ | ⟨c, cap, rfl, hcap, hn, rfl⟩
  · exact ⟨s, Conv.empty.trans Conv.unfull, h⟩
  · exact ⟨_, Conv.freeze (h.sub c _ (upd_same _ _ _)) rfl, h.drop hn⟩
/-- A name comes into scope. -/
theorem PS.push {st0 s : St} {b : Nat} {t : List UInt8} {om : Bool} {sc : List (List UInt8)} {i nd : Nat} {q : PV} {w : List UInt8} {K : PV → St → Prop} (h : PS st0 s b t om sc i nd) (hb : s b = some (.cells (pC t om i q nd))) (hd : sc.length + 1 ≤ 100 + nd)
    (hk : ∀ q' s', (q'.cellOK = true ∧ q'.ncells = 1 ∧ q'.isJunk = false ∧ q'.cells = [q']) → s' b = some (.cells (pC t om i q nd)) → PS st0 (upd s' b (.cells (pC t om i q' nd))) b t om (sc ++ [w]) i nd → K q' s') : e_append s 1 16 q (.sl 1 true [.str w]) K := by
  obtain ⟨⟨q0, hb', hq⟩, hs, ho, le, few, deep⟩ := h
  have : q = q0 := by rw [hb] at hb'; simp only [Option.some.injEq, HObj.cells.injEq, pC, List.cons.injEq] at hb'; exact hb'.2.2.1
  subst this
  unfold e_append
  rw [elems_sl]
  have fin : ∀ (s1 : St) c cap, (∀ x, x ≠ c → s1 x = s x ∨ (s1 x = none ∧ st0 x = none ∧ x ≠ b)) → c ≠ b → st0 c = none → (sc.map PV.str ++ [PV.str w]).length ≤ cap → K (.vsl c (sc.map PV.str ++ [PV.str w]).length cap) (upd s1 c (.vec 1 (sc.map PV.str ++ [PV.str w]) cap)) := by
    intro s1 c cap hx hcb hc0 hcap
    have hbb : s1 b = s b := (hx b (Ne.symm hcb)).elim id (fun h => absurd rfl h.2.2)
    refine hk _ _ ⟨rfl, rfl, rfl, rfl⟩ (by rw [upd_ne _ _ (Ne.symm hcb), hbb]; exact hb) ⟨⟨_, upd_same _ _ _, .inr ⟨c, cap, _, hcb, by simp, by rw [upd_ne _ _ hcb]; exact upd_same _ _ _, by rw [List.take_of_length_le (by simp)]; simp, by simp, by simpa using hcap, hc0⟩⟩, ?_, ho, le, few, by simp; omega⟩
    intro x o hxo
    have x1 : x ≠ b := fun e => by rw [e, ho] at hxo; cases hxo
    have x2 : x ≠ c := fun e => by rw [e, hc0] at hxo; cases hxo
    rw [upd_ne _ _ x1, upd_ne _ _ x2]
    rcases hx x x2 with h1 | h1
    · rw [h1]; exact hs x o hxo
    · rw [h1.2.1] at hxo; cases hxo
  rcases hq with ⟨rfl, rfl⟩ | ⟨c, cap, ys, hcb, rfl, hc, hys, hl, hcl, hc0⟩
  · have : elems s 1 (.sl 0 true []) = some [] := by simp [elems]
    rw [this]
    refine ⟨by simp, rfl, fun h => by simp at h, fun _ => .inl fun c cap hc hcap => ?_⟩
    have hc' : s c = none := hc.elim (fun h => by cases h) id
    exact fin s c cap (fun x _ => .inl rfl) (fun e => by rw [e, hb] at hc'; cases hc') (hs.isNone hc') hcap
  · have : elems s 1 (.vsl c sc.length cap) = some (sc.map PV.str) := by unfold elems; simp only [hc]; rw [if_pos ⟨trivial, hl, trivial⟩, hys]
    rw [this]
    refine ⟨by simp; omega, .inl fun c' cap' hc' hcap' => ?_⟩
    have hx : ∀ x, x ≠ c' → del s c x = s x ∨ (del s c x = none ∧ st0 x = none ∧ x ≠ b) := fun x _ => by
      by_cases e : x = c
      · rw [e]; exact .inr ⟨del_same _ _, hc0, hcb⟩
      · exact .inl (del_ne _ e)
    rcases hc' with hc' | hc'
    · cases hc'
      exact fin _ _ _ hx hcb hc0 hcap'
    · exact fin _ _ _ hx (fun e => by rw [e, hb] at hc'; cases hc') (hs.isNone hc') hcap'
/-- The names in scope are read. -/
theorem PS.scope {st0 s : St} {b : Nat} {t : List UInt8} {om : Bool} {sc : List (List UInt8)} {i nd : Nat} {q : PV} (h : PS st0 s b t om sc i nd) (hb : s b = some (.cells (pC t om i q nd))) : Reads s 1 (sc.map PV.str) q ∧ q.isJunk = false ∧ q.cells = [q] := by
  obtain ⟨⟨q0, hb', hq⟩, hs, ho, le, few, deep⟩ := h
  have : q = q0 := by rw [hb] at hb'; simp only [Option.some.injEq, HObj.cells.injEq, pC, List.cons.injEq] at hb'; exact hb'.2.2.1
  subst this
  refine ⟨?_, hq.cellOK.2.2.1, hq.cellOK.2.2.2⟩
  rcases hq with ⟨rfl, rfl⟩ | ⟨c, cap, ys, hcb, rfl, hc, hys, hl, hcl, hc0⟩
  · refine ⟨rfl, fun i x k hx => by cases hx⟩
  · refine ⟨by simp [q_len], fun i x k hx => ⟨.eptr c 1 i 0, ?_, fun agg n => ?_⟩⟩
    · have hi := (List.getElem?_eq_some_iff.1 hx).1
      simp only [List.length_map] at hi
      simp [q_ia, hi]
    · have hy : ys[i]? = some x := by
        rw [← hys, List.getElem?_take] at hx
        split at hx
        · exact hx
        · cases hx
      rw [q_load_e hc hy]; rfl
/-- How a function of the parser's ends: with a value, the state moved on; or by a halt. -/
def PRes {α : Type} (h : TypeId) (st0 : St) (b : Nat) (t : List UInt8) (om : Bool) (sc : List (List UInt8)) (val : α → PV) : PR α → Res → St → Prop
  | .ok a i nd => fun r st' => r = .ret (val a) ∧ PS st0 st' b t om sc i nd
  | .er c p => fun r st' => r = .pan (halt h c p) ∧ Sub st0 st'
variable {h : TypeId} {st0 st : St} {b : Nat} {t : List UInt8} {om : Bool} {sc : List (List UInt8)}
theorem PRes.ret {α : Type} {val : α → PV} {a : α} {i nd : Nat} {p : PV} (hp : PS st0 st b t om sc i nd) (e : p = val a) : retR (PRes h st0 b t om sc val (.ok a i nd)) p st := by
  subst e
  exact retR_same ⟨rfl, hp⟩
theorem PRes.conv {α : Type} {val : α → PV} {a : α} {i nd : Nat} {p : PV} (hp : PS st0 st b t om sc i nd) (e : Conv [p] st [val a] st) : retR (PRes h st0 b t om sc val (.ok a i nd)) p st :=
  retR_conv e ⟨rfl, hp⟩
theorem PRes.pan {α : Type} {val : α → PV} {c p : Int} (hs : Sub st0 st) : panR (PRes h st0 b t om sc val (.er c p)) (halt h c p) st := panR_conv (Conv.sub fun _ _ h => h) ⟨rfl, hs⟩
section
variable {P : Program} {g : FuncId} {us : List PV} {K : PV → St → Prop}
end
end Go.H
/- The parser goes on along its text. -/
namespace Go.H
open Go
set_option linter.unusedVariables false
set_option linter.unusedSimpArgs false

end Go.H
/- What a parser reads is not larger than the nodes that it has counted; what ends in type. -/
namespace Go.H
open Go
set_option linter.unusedVariables false
set_option linter.unusedSimpArgs false

end Go.H
/- Lines; declarations read off them. -/
namespace Go.H
open Go
set_option linter.unusedVariables false
set_option linter.unusedSimpArgs false

end Go.H
