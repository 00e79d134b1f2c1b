/- Part of a proof that the program answers as the reference does: HPure14, HPure15, HPure16, HPure17. -/
import Derived.Test.YtlhiejikjncgpaaGreatDoorHO
/- Rows of truth values. -/
namespace Go.H
open Go
set_option linter.unusedVariables false
set_option linter.unusedSimpArgs false
def boolsP (bs : List Bool) : PV := .sl 1 false (bs.map PV.bool)
theorem bool_el (b : Bool) : elOK 1 (PV.bool b) := ⟨rfl, rfl⟩
@[simp] theorem boolsP_len (bs : List Bool) : q_len (boolsP bs) = some (.int .i64 (bs.length : Int)) := by simp [boolsP]
theorem ia_bool {bs : List Bool} {i : Nat} {k : IntKind} {x : Bool} (h : bs[i]? = some x) : q_ia 1 (boolsP bs) (.int k (i : Int)) = some (.ref [.bool x]) := by
  obtain ⟨hi, hx⟩ := List.getElem?_eq_some_iff.1 h
  simp [q_ia, boolsP, hi, hx, PV.cells]
end Go.H
/- What can be left out of a constant's arguments. -/
namespace Go.H
open Go
set_option linter.unusedVariables false
set_option linter.unusedSimpArgs false
theorem lamy_ok : ∀ t : Tr, t.lamy = true → t.lamsOK = true := by
  intro t
  induction t using Tr.ind with
  | _ t ih =>
    intro h
    rw [Tr.lamsOK_eq]
    split
    · rename_i hk
      obtain ⟨x, hx, hl⟩ := Tr.lamy_lam h hk
      rw [hx]
      have := ih x (by rw [hx]; simp) hl
      simp [this]
    · rfl
theorem strip_lamsG : ∀ (n : Nat) (u : Tr), (lams n u).strip = (u.strip.1 + n, u.strip.2)
  | 0, u => rfl
  | n + 1, u => by
    have e : u.lam.strip = (u.strip.1 + 1, u.strip.2) := Tr.strip_lam rfl rfl
    rw [lams, strip_lamsG n u.lam, e]
    simp only [Prod.mk.injEq, and_true]
    omega
theorem strip_lams (t : Tr) (ht : t.kind ≠ 4) (n : Nat) : (lams n t).strip = (n, t) := by
  rw [strip_lamsG, Tr.strip_base ht]; simp
mutual
/-- Whether a term stands among arguments, or among those of a constant there. -/
def tellT (v : Tr) : Tr → Bool
  | .mk k n s ks => decide (Tr.mk k n s ks = v) || (decide (k = 6) && tellTs v ks)
def tellTs (v : Tr) : List Tr → Bool
  | [] => false
  | x :: r => tellT v x || tellTs v r
end
theorem tellTs_any (v : Tr) : ∀ l : List Tr, tellTs v l = l.any (tellT v)
  | [] => by simp [tellTs]
  | x :: r => by simp [tellTs, tellTs_any v r]
theorem tellT_eq (v x : Tr) : tellT v x = (decide (x = v) || (decide (x.kind = 6) && x.kids.any (tellT v))) := by
  cases x; rw [tellT, tellTs_any]; rfl
/-- The arguments' families, and what stands behind them; so many at most. -/
def piGo : Nat → List Tr → Tr → List Tr × Tr
  | 0, acc, t => (acc, t)
  | m + 1, acc, t => if t.kind = 2 then piGo m (acc ++ [t.kid 0]) (t.kid 1) else (acc, t)
theorem piGo_end {t : Tr} (h : t.kind ≠ 2) (acc : List Tr) : ∀ m, piGo m acc t = (acc, t)
  | 0 => rfl
  | m + 1 => by rw [piGo, if_neg h]
def omitB (t : Tr) : List Bool := (piGo 150 [] t).1.mapIdx fun i d => (piGo 150 [] t).2.kids.any (tellT (longForm (Tr.var ((((piGo 150 [] t).1.length : Int) - 1) - i) []) (eraseT d)))
theorem piGo_fine : ∀ (m : Nat) (acc : List Tr) (t : Tr), FF t → (∀ d ∈ acc, FF d) → (∀ d ∈ (piGo m acc t).1, FF d) ∧ FF (piGo m acc t).2 ∧ (piGo m acc t).1.length ≤ acc.length + m
  | 0, acc, t, ht, ha => ⟨ha, ht, by simp [piGo]⟩
  | m + 1, acc, t, ht, ha => by
    rw [piGo]
    split
    · rename_i hk
      obtain ⟨x, y, hxy, hx, hy, _⟩ := ff_pi ht hk
      rw [kid0 hxy, kid1 hxy]
      obtain ⟨h1, h2, h3⟩ := piGo_fine m (acc ++ [x]) y hy (fun d hd => by
        rcases List.mem_append.1 hd with hd | hd
        · exact ha d hd
        · simp at hd; subst hd; exact hx)
      exact ⟨h1, h2, by simp at h3; omega⟩
    · exact ⟨ha, ht, by simp⟩
theorem longVar_iff {x a : Tr} {n : Int} (h0 : 0 ≤ n) (h1 : n ≤ 1000000) (hl : a.args.length ≤ 1000000) : longVar x a = n ↔ x = longForm (Tr.var n []) a := by
  constructor
  · intro h
    unfold longVar at h
    split at h
    · split at h
      · rename_i e; rw [h] at e; exact e
      · omega
    · omega
  · intro h
    have hk : ((Tr.var n []).lift 0 a.args.length).n = n + a.args.length := by
      rw [Tr.lift_eq]
      simp only [Tr.var, Tr.n_mk, Tr.kind_mk]
      rw [if_pos ⟨trivial, h0⟩]
      exact wrap64 (by omega) (by omega)
    have hs : x.strip = (a.args.length, .mk (Tr.var n []).kind ((Tr.var n []).lift 0 a.args.length).n (Tr.var n []).name (((Tr.var n []).lift 0 a.args.length).kids ++ a.args.mapIdx fun i b => longForm (Tr.var (W (W (a.args.length - 1) - i)) []) b)) := by
      rw [h, longForm_eq]
      exact strip_lams _ (by simp [Tr.var]) _
    have e1 : x.strip.1 = a.args.length := by rw [hs]
    have e2 : x.strip.2.kind = 5 := by rw [hs]; rfl
    have e3 : x.strip.2.n = n + a.args.length := by rw [hs]; exact hk
    have e4 : W (x.strip.2.n - x.strip.1) = n := by
      rw [e1, e3, show n + (a.args.length : Int) - a.args.length = n by omega]
      exact wrap64 (by omega) (by omega)
    unfold longVar
    rw [if_pos ⟨e2, by rw [e1, e3]; omega⟩, e4, if_pos h]
end Go.H
/- A term of which some arguments are left out. -/
namespace Go.H
open Go
set_option linter.unusedVariables false
set_option linter.unusedSimpArgs false
/-- What is left out of a constant's arguments. -/
def flagsOf (sig : List Dc) (n : List UInt8) : List Bool := match declaredT sig n false with | some a => omitB a | none => []
def gap : Tr := .mk 8 0 [] []
mutual
/-- A term without some of its arguments; the flags that are left. -/
def omT (fl : List UInt8 → List Bool) : Tr → List Bool → Tr × List Bool
  | .mk k n s ks, o => (.mk k n s (omTs fl (if k = 6 then fl s else []) ks o).1, (omTs fl (if k = 6 then fl s else []) ks o).2)
def omTs (fl : List UInt8 → List Bool) : List Bool → List Tr → List Bool → List Tr × List Bool
  | bs, [], o => ([], o)
  | bs, x :: r, o =>
    if bs.head? = some true ∧ o.head? = some true then (gap :: (omTs fl bs.tail r o.tail).1, (omTs fl bs.tail r o.tail).2)
    else ((omT fl x (if bs.head? = some true then o.tail else o)).1 :: (omTs fl bs.tail r (omT fl x (if bs.head? = some true then o.tail else o)).2).1, (omTs fl bs.tail r (omT fl x (if bs.head? = some true then o.tail else o)).2).2)
end
theorem omT_eq (fl : List UInt8 → List Bool) (t : Tr) (o : List Bool) : omT fl t o = (.mk t.kind t.n t.name (omTs fl (if t.kind = 6 then fl t.name else []) t.kids o).1, (omTs fl (if t.kind = 6 then fl t.name else []) t.kids o).2) := by
  cases t; rw [omT]; rfl
theorem omTs_nil (fl : List UInt8 → List Bool) (bs o : List Bool) : omTs fl bs [] o = ([], o) := by rw [omTs]
theorem omTs_gap {fl : List UInt8 → List Bool} {bs o : List Bool} {x : Tr} {r : List Tr} (h : bs.head? = some true) (ho : o.head? = some true) : omTs fl bs (x :: r) o = (gap :: (omTs fl bs.tail r o.tail).1, (omTs fl bs.tail r o.tail).2) := by
  rw [omTs, if_pos ⟨h, ho⟩]
theorem omTs_keep {fl : List UInt8 → List Bool} {bs o : List Bool} {x : Tr} {r : List Tr} (h : bs.head? = some true) (ho : ¬ o.head? = some true) : omTs fl bs (x :: r) o = ((omT fl x o.tail).1 :: (omTs fl bs.tail r (omT fl x o.tail).2).1, (omTs fl bs.tail r (omT fl x o.tail).2).2) := by
  rw [omTs, if_neg (fun k => ho k.2), if_pos h]
theorem omTs_go {fl : List UInt8 → List Bool} {bs o : List Bool} {x : Tr} {r : List Tr} (h : ¬ bs.head? = some true) : omTs fl bs (x :: r) o = ((omT fl x o).1 :: (omTs fl bs.tail r (omT fl x o).2).1, (omTs fl bs.tail r (omT fl x o).2).2) := by
  rw [omTs, if_neg (fun k => h k.1), if_neg h]
/-! ### The program's map of flags -/
def flagM (l : List (List UInt8 × List Bool)) : List (PV × PV) := l.map fun x => (.str x.1, boolsP x.2)
theorem findP_flags (n : List UInt8) : ∀ l : List (List UInt8 × List Bool), findP (.str n) (flagM l) = some ((l.find? fun x => decide (x.1 = n)).map fun x => boolsP x.2)
  | [] => rfl
  | y :: r => by
    have ih := findP_flags n r
    unfold flagM at ih ⊢
    simp only [List.map_cons, findP, keyEq, List.find?_cons]
    by_cases h : n = y.1
    · rw [decide_eq_true h]; simp [h]
    · rw [decide_eq_false h]
      simp only [ih]
      have : ¬ y.1 = n := fun e => h e.symm
      simp [this]
theorem putP_flags (n : List UInt8) (v : List Bool) : ∀ l : List (List UInt8 × List Bool), (l.any fun y => decide (y.1 = n)) = false → putP (.str n) (boolsP v) (flagM l) = some (flagM (l ++ [(n, v)]))
  | [], _ => rfl
  | y :: r, h => by
    simp only [List.any_cons, Bool.or_eq_false_iff, decide_eq_false_iff_not] at h
    have ih := putP_flags n v r h.2
    unfold flagM at ih ⊢
    simp only [List.map_cons, putP, keyEq, List.cons_append]
    have : ¬ n = y.1 := fun e => h.1 e.symm
    rw [decide_eq_false this]
    simp only [ih]
/-- What the map gives. -/
def lookP (l : List (List UInt8 × List Bool)) (n : List UInt8) : PV := match l.find? fun x => decide (x.1 = n) with | some x => boolsP x.2 | none => .sl 0 true []
theorem lookup_flags {st : St} {b : Nat} {l : List (List UInt8 × List Bool)} (h : st b = some (.map (flagM l))) (n : List UInt8) :
    q_lookup st .string (.sl 0 true []) false (.map b) (.str n) = some (lookP l n) := by
  unfold q_lookup lookP
  rw [if_pos ⟨rfl, rfl⟩]
  simp only [h, findP_flags, lookR]
  cases l.find? fun x => decide (x.1 = n) <;> simp
theorem mapset_flags {st : St} {b : Nat} {l : List (List UInt8 × List Bool)} {n : List UInt8} {v : List Bool} {K : St → Prop} (h : st b = some (.map (flagM l))) (hn : (l.any fun y => decide (y.1 = n)) = false) (hk : K (upd st b (.map (flagM (l ++ [(n, v)]))))) : e_mapset st .string (.map b) (.str n) (boolsP v) K := by
  unfold e_mapset
  rw [if_pos ⟨rfl, rfl⟩]
  simp only [h, putP_flags n v l hn]
  exact hk
/-- The flags of a signature's constants. -/
def flagL (sig : List Dc) : List (List UInt8 × List Bool) := sig.filterMap fun d => if d.fam = true then none else some (d.name, omitB d.type)
theorem flagL_find {n : List UInt8} : ∀ {sig : List Dc}, Apart sig → (match (flagL sig).find? fun x => decide (x.1 = n) with | some x => x.2 | none => []) = flagsOf sig n
  | [], _ => rfl
  | d :: r, h => by
    have h2 : Apart r := (List.pairwise_cons.1 h).2
    have h1 := (List.pairwise_cons.1 h).1
    have ih := flagL_find (n := n) h2
    by_cases hn : d.name = n
    · have e1 : (r.find? (named n)) = none := by
        rw [List.find?_eq_none]
        intro x hx
        have := h1 x hx
        unfold named
        simp
        intro e
        exact this (by rw [hn, e])
      have e0 : flagsOf r n = [] := by unfold flagsOf declaredT; rw [e1]
      have e3 : flagsOf (d :: r) n = if d.fam = false then omitB d.type else [] := by
        unfold flagsOf declaredT
        rw [List.find?_cons]
        have : named n d = true := by unfold named; simp [hn]
        rw [this]
        simp only
        cases d.fam <;> rfl
      rw [e3]
      unfold flagL
      rw [List.filterMap_cons]
      cases hf : d.fam with
      | true =>
        simp only [if_true]
        rw [e0] at ih
        exact ih
      | false =>
        simp [hn]
    · have e3 : flagsOf (d :: r) n = flagsOf r n := by
        unfold flagsOf declaredT
        rw [List.find?_cons]
        have : named n d = false := by unfold named; simp [hn]
        rw [this]
      rw [e3, ← ih]
      unfold flagL
      rw [List.filterMap_cons]
      cases hf : d.fam with
      | true => simp
      | false => simp [hn]
end Go.H
/- Rows whose elements are trees of another spelling. -/
namespace Go.H
open Go
set_option linter.unusedVariables false
set_option linter.unusedSimpArgs false
def Alike : List PV → List Tr → Prop
  | [], [] => True
  | p :: ps, t :: ts => (∀ (C : Nat → Nat → Value → Prop) (cs : List Value), RX C p cs → RX C (tree t) cs) ∧ Alike ps ts
  | _, _ => False
theorem Alike.len : ∀ {ps : List PV} {ts : List Tr}, Alike ps ts → ps.length = ts.length
  | [], [], _ => rfl
  | p :: ps, t :: ts, h => by simp [Alike.len (h.2)]
  | [], _ :: _, h => by simp [Alike] at h
  | _ :: _, [], h => by simp [Alike] at h
theorem Alike.snoc {p : PV} {t : Tr} (hp : ∀ (C : Nat → Nat → Value → Prop) (cs : List Value), RX C p cs → RX C (tree t) cs) : ∀ {ps : List PV} {ts : List Tr}, Alike ps ts → Alike (ps ++ [p]) (ts ++ [t])
  | [], [], _ => ⟨hp, trivial⟩
  | q :: ps, u :: ts, h => ⟨h.1, Alike.snoc hp h.2⟩
  | [], _ :: _, h => by simp [Alike] at h
  | _ :: _, [], h => by simp [Alike] at h
theorem Alike.same {ps : List PV} {ts : List Tr} (h : Alike ps ts) (t : Tr) : Alike (ps ++ [tree t]) (ts ++ [t]) := h.snoc fun _ _ h => h
theorem Alike.rxs {C : Nat → Nat → Value → Prop} : ∀ {ps : List PV} {ts : List Tr} {cs : List Value}, Alike ps ts → RXs C ps cs → RXs C (ts.map tree) cs
  | [], [], _, _, h => h
  | p :: ps, t :: ts, cs, h, hr => by
    simp only [RXs, List.map_cons] at hr ⊢
    obtain ⟨c1, c2, e, h1, h2⟩ := hr
    exact ⟨c1, c2, e, h.1 _ _ h1, Alike.rxs h.2 h2⟩
  | [], _ :: _, _, h, _ => by simp [Alike] at h
  | _ :: _, [], _, h, _ => by simp [Alike] at h
theorem Conv.alike {st : St} {ps : List PV} {ts : List Tr} (h : Alike ps ts) : Conv [.sl 4 false ps] st [.sl 4 false (ts.map tree)] st := fun w hg => by
  refine ⟨hg, Evo.refl w st, fun vals hv => ?_⟩
  obtain ⟨v, us, rfl, h1, h2⟩ := hv
  refine ⟨v, us, rfl, .inr ?_, h2⟩
  obtain ⟨a, cap, rfl, h3, h4, h5, h6, h7⟩ := RO_sl h1
  refine RX.rv ?_ rfl
  have hl := h.len
  simp only [RX]
  refine ⟨_, _, _, rfl, by simp [hl], h3, h4, (fun h => by cases h), fun x hx => ?_, ?_⟩
  · obtain ⟨t, _, rfl⟩ := List.mem_map.1 hx
    exact tree_el t
  · rcases h7 with h7 | ⟨b, off, cs, e1, h8, h9⟩
    · subst h7
      cases ts with
      | nil => exact .inl rfl
      | cons t ts => simp [Alike] at h
    · exact .inr ⟨b, off, cs, e1, h8, h.rxs h9⟩
/-- What is left out, as a literal writes it. -/
def gapP : PV := .agg [.int .i64 8, .int .i64 0, .str [], .sl 0 true []]
theorem gap_rx (C : Nat → Nat → Value → Prop) (cs : List Value) (h : RX C gapP cs) : RX C (tree gap) cs := by
  have eb : tree gap = .agg [.int .i64 8, .int .i64 0, .str [], .sl 4 false []] := by rw [tree_eq]; rfl
  rw [eb]
  unfold gapP at h
  simp only [RX, RCs] at h ⊢
  obtain ⟨v, vs, rfl, h1, v2, vs2, rfl, h2, v3, vs3, rfl, h3, v4, vs4, rfl, h4, rfl⟩ := h
  refine ⟨_, _, rfl, h1, _, _, rfl, h2, _, _, rfl, h3, _, _, rfl, ?_, rfl⟩
  obtain ⟨a, n, cap, e, n1, n2, n3, n4, n5, n6⟩ := h4
  exact ⟨a, n, cap, e, n1, n2, n3, (fun h => by cases h), by simp, by simp⟩
end Go.H
