/- Part of a proof that the program answers as the reference does: HJoin, HFrame, HFrame2, HFrame3, HFrame9. -/
import Derived.JoinedCond
import Derived.ChangeSame
import Derived.ChangeArms
import Derived.ChangeReads
import Derived.ChangeOld
import Derived.Below
import Derived.Deep.Slices
import Derived.WalkKit
import Derived.ProofKit
import Derived.OpenShut
import Derived.RowKit
import Derived.ChangeCalls
import Derived.Deep.DeepHandedRow
import Derived.Lib.LaidTab
import Derived.Test.YtipmjpjaklmpfaaGreatDoorHD
import Derived.Test.YtipmjpjaklmpfaaGreatDoorHP
namespace Go.H
open Go
theorem and2 {a b : Bool} (h : a = true) (h' : b = true) : (a && b) = true := by rw [h, h']; rfl
theorem joined_of {P : Program} {f : FuncId} {fn : Func} {s : ChangeSpec} {c : OpenClaim}
    (h0 : c.wf (OpenSpec.ofChange s) = true) (h1 : laidOutB P = true) (h2 : mapsRowed P = true) (h3 : fn.params.all (P.readableRec ·) = true) (h4 : namedTie P c.named s.vars = true)
    (h5 : (c.stops == []) = true) (h6 : (P.stops == []) = true) (h7 : (c.knobs == []) = true) (h8 : (P.stopKnobs == []) = true)
    (h9 : (c.inPlace == P.inPlace f) = true) (h10 : (c.unfollowed == P.unfollowed f) = true) (h11 : (c.recurses == P.recurses f) = true) (h12 : (c.named == P.varsNamed f) = true)
    (h13 : (c.maps == (fn.params.toList ++ s.plain.varTypes P).any (P.mapsRec ·)) = true) (h14 : (c.ifaces == (fn.params.toList ++ s.plain.varTypes P).any (P.ifacesRec ·)) = true) (h15 : (c.mapsOut == P.mapsAmong fn.resultTypes.toList) = true)
    (h16 : (c.loops == (fn.params.toList ++ s.plain.varTypes P).any (P.loopsFrom ·)) = true) (h17 : (c.wideKeys == (fn.params.toList ++ s.plain.varTypes P ++ fn.resultTypes.toList).any (P.wideKeysFrom ·)) = true)
    (h18 : s.vars.all (P.varReadable ·) = true) (h19 : fn.resultTypes.all (fun t => P.readableRec t && decide (t < P.types.size)) = true) (h20 : (c.ifacesOut == fn.resultTypes.toList.any (P.ifacesRec ·)) = true) (h21 : (c.loopsOut == fn.resultTypes.toList.any (P.loopsFrom ·)) = true)
    (h22 : (c.plainKeys == P.plainKeys) = true) (h23 : c.shortTexts.isNone = true) (h24 : P.stopsHeard = true) (h25 : P.mayEnter = true) (h26 : (c.lifted == P.liftsFinal) = true) (h27 : (P.make == some c.make) = true)
    (h28 : (c.kinds == (if c.domain.isEmpty then [] else fn.params.toList.map fun t => match P.underlying t with | some (.int k) => some k | _ => none)) = true) (h29 : (c.pinned == c.pinnedBy) = true)
    (h30 : (c.veiled == (fn.params.toList ++ s.plain.varTypes P ++ fn.resultTypes.toList).any (P.veiledRec ·)) = true) (h31 : c.veiledFits P fn.params.toList (fn.params.toList ++ s.plain.varTypes P ++ fn.resultTypes.toList) = true) : joinedFacts P f fn s c = true := by
  unfold joinedFacts
  exact and2 (and2 (and2 (and2 (and2 (and2 (and2 (and2 (and2 (and2 (and2 (and2 (and2 (and2 (and2 (and2 (and2 (and2 (and2 (and2 (and2 (and2 (and2 (and2 (and2 (and2 (and2 (and2 (and2 (and2 (and2 (h0) h1) h2) h3) h4) h5) h6) h7) h8) h9) h10) h11) h12) h13) h14) h15) h16) h17) h18) h19) h20) h21) h22) h23) h24) h25) h26) h27) h28) h29) h30) h31
end Go.H
namespace Go.H
open Go Go.Deep Go.ChangeShapes Go.WideShapes
set_option linter.unusedVariables false
set_option linter.unusedSectionVars false

section
variable {H : Type} {enc : TypeId × Value → H} {P : Program} {w w' : World} {base : Nat} {held : Bool} {sp : Nat → Bool}
theorem mapM_of_get {α β : Type} {g : α → Option β} : ∀ {l : List α} {ys : List β}, ys.length = l.length → (∀ (i : Nat) x, l[i]? = some x → g x = ys[i]?) → l.mapM g = some ys
  | [], ys, h, _ => by
    cases ys with
    | nil => rfl
    | cons y ys => simp at h
  | x :: l, ys, h, hg => by
    cases ys with
    | nil => simp at h
    | cons y ys =>
      have h0 := hg 0 x rfl
      have ih := mapM_of_get (g := g) (l := l) (ys := ys) (by simpa using h) (fun i z hz => by have := hg (i + 1) z (by simpa using hz); simpa using this)
      rw [List.mapM_cons, h0, ih]
      rfl
structure Shut (P : Program) (S : TypeId → Prop) : Prop where
  cases : ∀ t, S t → (∃ k, P.underlying t = some (.int k)) ∨ P.underlying t = some .bool ∨ P.underlying t = some .string ∨ (∃ e, P.underlying t = some (.slice e) ∧ S e ∧ 0 < P.cellsOf e) ∨ (∃ fs, P.underlying t = some (.struct fs) ∧ ∀ f ∈ fs.toList, S f.type)
theorem trod_spare {S : TypeId → Prop} (hS : Shut P S) : ∀ (n : Nat) (t : TypeId) (cs : List Value) (x : DataW H × List MemPlace), S t → DataW.trod enc P w base (fun _ => true) held n t cs = some x → (∀ p ∈ x.2, sp p.block = true) → ∃ m, DataW.trod enc P w base sp held m t cs = some x := by
  intro n
  induction n with
  | zero => intro t cs x _ h; simp [DataW.trod] at h
  | succ n ih =>
    intro t cs x ht h hs
    rcases hS.cases t ht with ⟨k, hu⟩ | hu | hu | ⟨e, hu, he, h0⟩ | ⟨fs, hu, hf⟩
    · obtain ⟨m, rfl, rfl, hw⟩ := DataW.trod_int hu h
      exact ⟨1, by simp [DataW.trod, hu, hw]⟩
    · obtain ⟨b, rfl, rfl⟩ := DataW.trod_bool hu h
      exact ⟨1, by simp [DataW.trod, hu]⟩
    · obtain ⟨s, rfl, rfl, hw⟩ := DataW.trod_string hu h
      exact ⟨1, by simp [DataW.trod, hu, hw]⟩
    · have hlow : ∀ m cs y, m ≤ n → DataW.trod enc P w base (fun _ => true) held m e cs = some y → (∀ p ∈ y.2, sp p.block = true) → ∃ m, DataW.trod enc P w base sp held m e cs = some y := fun m cs y hm hy hp => ih e cs y he (DataW.trod_le hm hy) hp
      rcases DataW.trod_slice hu h with ⟨rfl, rfl⟩ | ⟨a, len, cap, elems, rest, n', hn', rfl, rfl, hb, hl, hm, hlen, hel, hsp, hns⟩
      · exact ⟨1, by simp [DataW.trod, hu]⟩
      · obtain rfl : n' = n := by omega
        obtain ⟨hrl, hrest⟩ := hsp rfl
        have hall : (elems ++ rest).length = cap := by rw [List.length_append, hlen, hrl]; omega
        have get : ∀ i, i < cap → (w.cells? base (a.add (i * P.cellsOf e)) (P.cellsOf e)).bind (DataW.trod enc P w base (fun _ => true) held n' e) = (elems ++ rest)[i]? := fun i hi => by
          by_cases hil : i < len
          · rw [hel i hil, List.getElem?_append_left (by omega)]
          · have := hrest (i - len) (by omega)
            rw [show len + (i - len) = i by omega] at this
            rw [this, List.getElem?_append_right (by omega), hlen]
        have one : ∀ i, i < cap → ∃ cs n, w.cells? base (a.add (i * P.cellsOf e)) (P.cellsOf e) = some cs ∧ DataW.trod enc P w base sp held n e cs = some (((elems ++ rest).getD i (.nil, [])).1, ((elems ++ rest).getD i (.nil, [])).2) := fun i hi => by
          have hg := get i hi
          have hi' : i < (elems ++ rest).length := by omega
          rw [List.getElem?_eq_getElem hi'] at hg
          obtain ⟨cs, h1, h2⟩ := Option.bind_eq_some_iff.1 hg
          have hmem : (elems ++ rest)[i] ∈ elems ++ rest := List.getElem_mem _
          obtain ⟨m, hm⟩ := ih e cs _ he h2 (fun p hp => hs p (by
            simp only [List.mem_append, List.mem_flatMap]
            exact .inr ⟨_, List.mem_append.1 hmem, hp⟩))
          refine ⟨cs, m, h1, ?_⟩
          rw [hm]
          simp [List.getD, List.getElem?_eq_getElem hi']
        have e1 : (List.range len).map (fun i => ((elems ++ rest).getD i (.nil, [])).1) = elems.map (·.1) := by
          apply List.ext_getElem
          · simp [hlen]
          · intro i h1 h2
            simp only [List.length_map, List.length_range] at h1
            simp [List.getD, List.getElem?_append_left (show i < elems.length by omega), List.getElem?_eq_getElem (show i < elems.length by omega)]
        by_cases hspa : sp a.block = true
        · obtain ⟨m, hm'⟩ := shut_slice_whole_cells (enc := enc) hu hb hl hm hspa (fun i => ((elems ++ rest).getD i (.nil, [])).1) (fun i => ((elems ++ rest).getD i (.nil, [])).2) one
          refine ⟨m, hm'.trans ?_⟩
          have e2 : (List.range (cap - len)).map (fun j => ((elems ++ rest).getD (len + j) (.nil, [])).1) = rest.map (·.1) := by
            apply List.ext_getElem
            · simp [hrl]
            · intro i h1 h2
              simp only [List.length_map, List.length_range] at h1
              simp [List.getD, List.getElem?_append_right (show elems.length ≤ len + i by omega), hlen, List.getElem?_eq_getElem (show i < rest.length by omega)]
          have e3 : (List.range cap).flatMap (fun i => ((elems ++ rest).getD i (.nil, [])).2) = (elems ++ rest).flatMap (·.2) := by
            rw [flatMap_by_index (elems ++ rest) (.nil, []) (·.2), hall]
          rw [e1, e2, e3, show elems.length + rest.length = cap by rw [← List.length_append]; exact hall]
        · have hc0 : cap = 0 := by
            rcases Nat.eq_zero_or_pos cap with h | h
            · exact h
            · exfalso
              refine hspa (hs (.cell a.block (a.off + 0)) ?_)
              simp only [List.mem_append]
              left
              unfold MemPlace.row
              rw [List.mem_map]
              exact ⟨0, by rw [List.mem_range]; exact Nat.mul_pos (by rw [← List.length_append]; omega) h0, rfl⟩
          have hl0 : len = 0 := by omega
          subst hc0 hl0
          have he0 : elems = [] := List.length_eq_zero_iff.1 hlen
          have hr0 : rest = [] := List.length_eq_zero_iff.1 (by simpa using hrl)
          subst he0 hr0
          obtain ⟨m, hm'⟩ := shut_slice_cells (enc := enc) (w := w) (held := held) (cap := 0) hu hb (Nat.le_refl 0) (by omega) (by simpa using hspa) (fun _ => DataW.nil) (fun _ => []) (fun i hi => by omega)
          exact ⟨m, by rw [hm']; simp⟩
    · obtain ⟨xs, n', hn', rfl, hl, hlen, hfs⟩ := DataW.trod_struct hu h
      obtain rfl : n' = n := by omega
      have one : ∀ i, i < fs.size → ∃ m, ∀ f, fs[i]? = some f → DataW.trod enc P w base sp held m f.type ((cs.drop f.offset).take (P.cellsOf f.type)) = xs[i]? := fun i hi => by
        have hfi : fs[i]? = some fs[i] := Array.getElem?_eq_getElem hi
        have hx := hfs i _ hfi
        have hxi : i < xs.length := by omega
        rw [List.getElem?_eq_getElem hxi] at hx ⊢
        obtain ⟨m, hm⟩ := ih _ _ _ (hf fs[i] (by simp)) hx (fun p hp => hs p (by
          simp only [List.mem_flatMap]
          exact ⟨_, List.getElem_mem hxi, hp⟩))
        exact ⟨m, fun f hfe => by rw [hfi] at hfe; cases hfe; exact hm⟩
      have hmax : ∀ k, k ≤ fs.size → ∃ M, ∀ i, i < k → ∀ f, fs[i]? = some f → DataW.trod enc P w base sp held M f.type ((cs.drop f.offset).take (P.cellsOf f.type)) = xs[i]? := by
        intro k
        induction k with
        | zero => exact fun _ => ⟨0, fun i hi => by omega⟩
        | succ k ihk =>
          intro hk
          obtain ⟨M, hM⟩ := ihk (by omega)
          obtain ⟨m, hm⟩ := one k (by omega)
          refine ⟨max M m, fun i hi f hfi => ?_⟩
          have hxi : i < xs.length := by omega
          rw [List.getElem?_eq_getElem hxi]
          rcases Nat.lt_or_ge i k with h | h
          · have := hM i h f hfi
            rw [List.getElem?_eq_getElem hxi] at this
            exact DataW.trod_le (Nat.le_max_left _ _) this
          · obtain rfl : i = k := by omega
            have := hm f hfi
            rw [List.getElem?_eq_getElem hxi] at this
            exact DataW.trod_le (Nat.le_max_right _ _) this
      obtain ⟨M, hM⟩ := hmax fs.size (Nat.le_refl _)
      refine ⟨M + 1, trod_struct_mk hu hl (mapM_of_get (by simpa using hlen) fun i f hfi => ?_)⟩
      have hi : i < fs.size := by
        have := (List.getElem?_eq_some_iff.1 hfi).1
        simpa using this
      exact hM i hi f (by simpa using hfi)
theorem trodAll_again {S : TypeId → Prop} (hS : Shut P S) : ∀ {ts : List TypeId} {vs : List Value} {ds : List (DataW H)} {ps : List MemPlace}, (∀ t ∈ ts, S t) → DataW.TrodAll enc P w base (fun _ => true) held ts vs ds ps → (∀ p ∈ ps, sp p.block = true) → (∀ p ∈ ps, w.sameAt w' p) → DataW.TrodAll enc P w' base sp held ts vs ds ps
  | [], [], [], _, _, h, _, _ => h
  | t :: ts, v :: vs, d :: ds, _, ht, ⟨p, q, ⟨n, h1⟩, h2, e⟩, hs, hw => by
    subst e
    obtain ⟨m, hm⟩ := trod_spare hS n t _ _ (ht t (by simp)) h1 (fun p' hp' => hs p' (by simp [hp']))
    exact ⟨p, q, ⟨m, DataW.trod_carry _ _ _ _ hm (fun p' hp' => hw p' (by simp [hp']))⟩, trodAll_again hS (fun t' ht' => ht t' (by simp [ht'])) h2 (fun p' hp' => hs p' (by simp [hp'])) (fun p' hp' => hw p' (by simp [hp'])), rfl⟩
end

mutual
def bulkD {H : Type} : DataW H → Nat
  | .lit (.string bytes) => bytes.length + 1
  | .lit _ => 1
  | .nil => 1
  | .ptr d => bulkD d + 1
  | .slice elems spare => bulkDs elems + bulkDs spare + 1
  | .agg parts => bulkDs parts + 1
  | .iface _ d => bulkD d + 1
  | .map entries => bulkDe entries + 1
  | .held _ => 1
def bulkDs {H : Type} : List (DataW H) → Nat
  | [] => 0
  | d :: r => bulkD d + bulkDs r
def bulkDe {H : Type} : List (Lit × DataW H) → Nat
  | [] => 0
  | x :: r => bulkDx x + bulkDe r
def bulkDx {H : Type} : Lit × DataW H → Nat
  | (.string bytes, d) => bytes.length + bulkD d + 1
  | (_, d) => bulkD d + 1
end
def Cm (w : World) (b o : Nat) (v : Value) : Prop := w.cell? ⟨b, o, none⟩ = some v
theorem Cw_empty (w : World) : Cw w (fun _ => none) = Cm w := by
  funext b o v; simp [Cw, Cm]
structure TreeTys (P : Program) (tt ts ti tn : TypeId) : Prop where
  ut : ∃ f0 f1 f2 f3 : Field, P.underlying tt = some (.struct #[f0, f1, f2, f3]) ∧ f0.offset = 0 ∧ f1.offset = 1 ∧ f2.offset = 2 ∧ f3.offset = 3 ∧ f0.type = ti ∧ f1.type = ti ∧ f2.type = tn ∧ f3.type = ts
  us : P.underlying ts = some (.slice tt)
  ui : P.underlying ti = some (.int .i64)
  un : P.underlying tn = some .string
  ct : P.cellsOf tt = 4
  ci : P.cellsOf ti = 1
  cn : P.cellsOf tn = 1
  cs : P.cellsOf ts = 1
section
variable {H : Type} {enc : TypeId × Value → H} {P : Program} {w : World} {base : Nat} {held : Bool}
theorem open_els {t e : TypeId} {k : Nat} (hu : P.underlying t = some (.slice e)) (hk : P.cellsOf e = k) (h0 : 0 < k) {n : Nat} {cs : List Value} {x : DataW H × List MemPlace} {α : Type} [Inhabited α] (f : α → PV) (hf : ∀ a, elOK k (f a)) (Q : α → DataW H → Prop)
    (hel : ∀ m, m < n → ∀ cs x, DataW.trod enc P w base (fun _ => true) held m e cs = some x → ∃ a, RX (Cm w) (f a) cs ∧ Q a x.1) (h : DataW.trod enc P w base (fun _ => true) held n t cs = some x) :
    ∃ l : List α, RX (Cm w) (.sl k false (l.map f)) cs ∧ ((x.1 = .nil ∧ l = []) ∨ ∃ es rest, x.1 = .slice es rest ∧ es.length = l.length ∧ ∀ (i : Nat) (a : α), l[i]? = some a → ∃ d, es[i]? = some d ∧ Q a d) := by
  rcases DataW.trod_slice hu h with ⟨rfl, rfl⟩ | ⟨a, len, cap, elems, rest, n', hn', rfl, rfl, hb, hl, hm, hlen, hget, _, _⟩
  · exact ⟨[], by simp only [RX]; exact ⟨none, 0, 0, rfl, rfl, Nat.le_refl _, by unfold maxLen; omega, (fun h => by cases h), by simp, .inl rfl⟩, .inl ⟨rfl, rfl⟩⟩
  have one : ∀ i, i < len → ∃ z : α × List Value, w.cells? base (a.add (i * k)) k = some z.2 ∧ RX (Cm w) (f z.1) z.2 ∧ ∃ y, elems[i]? = some y ∧ Q z.1 y.1 := fun i hi => by
    have hg := hget i hi
    have hi' : i < elems.length := by omega
    rw [List.getElem?_eq_getElem hi', hk] at hg
    obtain ⟨cs', h1, h2⟩ := Option.bind_eq_some_iff.1 hg
    obtain ⟨z, h3, h4⟩ := hel n' (by omega) _ _ h2
    exact ⟨(z, cs'), h1, h3, _, List.getElem?_eq_getElem hi', h4⟩
  obtain ⟨g, hg⟩ := choose_lt (α := α × List Value) (p := fun i z => w.cells? base (a.add (i * k)) k = some z.2 ∧ RX (Cm w) (f z.1) z.2 ∧ ∃ y, elems[i]? = some y ∧ Q z.1 y.1) one
  refine ⟨(List.range len).map fun i => (g i).1, ?_, .inr ⟨elems.map (·.1), rest.map (·.1), rfl, by simp [hlen], ?_⟩⟩
  · simp only [RX]
    refine ⟨some a, len, cap, rfl, by simp, hl, hm, (fun h => by cases h), ?_, ?_⟩
    · intro p hp
      simp only [List.map_map, List.mem_map] at hp
      obtain ⟨i, _, rfl⟩ := hp
      exact hf _
    · rcases Nat.eq_zero_or_pos len with h | hpos
      · left; subst h; rfl
      · right
        have hspot : a.spot = none := by
          obtain ⟨_, hll, hc⟩ := World.cells?_some (hg 0 hpos).1
          have h1 := hc 0 h0
          have h2 : (g 0).2[0]? = some ((g 0).2[0]'(by omega)) := List.getElem?_eq_getElem _
          rw [h2] at h1
          have e0 : (a.add (0 * k)).add 0 = a := by simp [Addr.add]
          rw [e0] at h1
          unfold World.cell? at h1
          split at h1
          · split at h1
            · cases h1
            · rename_i hs; simpa using hs
          · cases h1
        obtain ⟨b, off, spot⟩ := a
        simp only at hspot
        subst hspot
        refine ⟨b, off, ((List.range len).map fun i => (g i).2).flatten, rfl, ?_, ?_⟩
        · -- the cells, one behind the other
          have key : ∀ (m : Nat), m ≤ len → ∀ j v, (((List.range m).map fun i => (g i).2).flatten)[j]? = some v → Cm w b (off + j) v := by
            intro m
            induction m with
            | zero => intro _ j v hj; simp at hj
            | succ m ihm =>
              intro hm j v hj
              rw [List.range_succ, List.map_append, List.flatten_append] at hj
              have hlm : (((List.range m).map fun i => (g i).2).flatten).length = m * k := by
                clear hj ihm
                have : ∀ m, m ≤ len → (((List.range m).map fun i => (g i).2).flatten).length = m * k := by
                  intro m
                  induction m with
                  | zero => simp
                  | succ m ih2 =>
                    intro hm
                    rw [List.range_succ, List.map_append, List.flatten_append, List.length_append, ih2 (by omega)]
                    obtain ⟨_, hll, _⟩ := World.cells?_some (hg m (by omega)).1
                    simp [hll, Nat.add_mul]
                exact this m (by omega)
              by_cases hjm : j < m * k
              · rw [List.getElem?_append_left (by omega)] at hj
                exact ihm (by omega) j v hj
              · rw [List.getElem?_append_right (by omega), hlm] at hj
                obtain ⟨_, hll, hc⟩ := World.cells?_some (hg m (by omega)).1
                simp only [List.map_cons, List.map_nil, List.flatten_cons, List.flatten_nil, List.append_nil] at hj
                have hjk : j - m * k < k := by
                  have := (List.getElem?_eq_some_iff.1 hj).1
                  omega
                have h1 := hc (j - m * k) hjk
                rw [hj, add_lit, add_lit] at h1
                unfold Cm
                rw [← h1]
                congr 2
                omega
          exact key len (Nat.le_refl _)
        · have key : ∀ (m : Nat), m ≤ len → RXs (Cm w) (((List.range m).map fun i => (g i).1).map f) (((List.range m).map fun i => (g i).2).flatten) := by
            intro m
            induction m with
            | zero => intro _; simp [RXs]
            | succ m ihm =>
              intro hm
              rw [List.range_succ, List.map_append, List.map_append, List.map_append, List.flatten_append]
              refine (ihm (by omega)).append ?_
              simp only [List.map_cons, List.map_nil, RXs]
              exact ⟨(g m).2, [], by simp, (hg m (by omega)).2.1, rfl⟩
          exact key len (Nat.le_refl _)
  · intro i a' ha'
    rw [List.getElem?_map] at ha'
    have hi : i < len := by
      cases h : (List.range len)[i]? with
      | none => rw [h] at ha'; cases ha'
      | some j => have := (List.getElem?_eq_some_iff.1 h).1; simpa using this
    rw [List.getElem?_range hi] at ha'
    simp at ha'
    subst ha'
    obtain ⟨_, _, y, hy, hq⟩ := hg i hi
    exact ⟨y.1, by simp [hy], hq⟩
end
end Go.H
namespace Go.H
open Go Go.Deep Go.ChangeShapes Go.WideShapes Go.RowKit
set_option linter.unusedVariables false
section
variable {H : Type} {enc : TypeId × Value → H} {P : Program}
theorem post_law {f : Func} {s : ChangeSpec} {tb : TypeId} {W W' : World} {args : Array Value} {ds gs : List (DataW H)} {ps : List MemPlace} {fresh handsOn again : Bool}
    (hW : DataW.Whole enc P f.params.toList s.vars false W args.toList ds gs ps) (hv : s.vars = []) (hr : f.resultTypes = #[tb]) (htb : P.underlying tb = some .bool) (hB : Below W.heap.size W W')
    {S : TypeId → Prop} (hS : Shut P S) (hp : ∀ t ∈ f.params.toList, S t) (hres : ∀ ds, ds.length = f.params.size → (s.fn H ds).results = [.lit (.bool true)] ∧ (s.fn H ds).args = ds ∧ (s.fn H ds).vars = []) :
    s.post enc P f false fresh handsOn again W args (.bool true) W' := by
  have hW' := hW
  obtain ⟨p, q, hA, hV, e, hz, hn⟩ := hW
  rw [hv] at hV
  obtain ⟨rfl, rfl⟩ := trodVars_none hV
  simp only [List.append_nil] at e
  subst e
  have hlt : ∀ x ∈ ps, x.block < W.heap.size := fun x hx => hW'.lt x hx
  have hlen : ds.length = f.params.size := by
    have := (trodAll_length hA).2
    have := (trodAll_length hA).1
    simp at *; omega
  obtain ⟨e1, e2, e3⟩ := hres ds hlen
  have hs : ∀ x ∈ ps, W.sameAt W' x := fun x hx => hB.same (hlt x hx)
  have hargs : ∀ sp : Nat → Bool, (∀ p ∈ ps, sp p.block = true) → DataW.TrodAll enc P W' 0 sp true f.params.toList args.toList ds ps := fun sp hsp => trodAll_again hS hp hA hsp hs
  have hvars : ∀ sp : Nat → Bool, DataW.TrodVars enc P W' sp s.vars [] [] := fun sp => by rw [hv]; rfl
  have hres' : ∀ (b : Nat) (sp : Nat → Bool) (hd : Bool), DataW.TrodAll enc P W' b sp hd f.resultTypes.toList ((Value.bool true).resultList f.resultTypes.size) [.lit (.bool true)] [] := fun b sp hd => by
    rw [hr]; exact trodAll_mk1 (shut_bool htb true)
  refine ⟨ds, [], ps, [], ps, [], hW', ?_, ?_, ?_, ?_, fun _ => ⟨?_, [.lit (.bool true)] ++ ds, [], ps, ⟨[] ++ ps, [], trodAll_append ?_ ?_, ?_, by simp, ?_, by simp⟩, ?_⟩⟩
  · rw [List.append_nil, e1]; exact hres' _ _ _
  · rw [List.append_nil, e2]; exact hargs _ fun x hx => by simpa using hlt x hx
  · rw [List.append_nil, e3]; exact hvars _
  · exact hB.frame _
  · exact ok_one hr rfl (okWide_bool_mk htb _)
  · exact hargs _ fun x hx => rfl
  · exact hres' _ _ _
  · exact hvars _
  · intro b off hx
    have := hz b off (by simpa using hx)
    have hx' := hlt _ hx
    rw [← this]
    exact hB.frozen hx'
  · exact fun x hx _ => hx
theorem law_calls {g : FuncId} {f : Func} {s : ChangeSpec} {tb : TypeId} {W : World} {args : Array Value} {ds gs : List (DataW H)} {ps : List MemPlace} {fresh handsOn again : Bool} {pvs : List PV}
    (hc : HCalls P g pvs (fun _ => none) (Just (.bool true) (fun _ => none))) (hro : ROs (Cm W) pvs args.toList)
    (hW : DataW.Whole enc P f.params.toList s.vars false W args.toList ds gs ps) (hv : s.vars = []) (hr : f.resultTypes = #[tb]) (htb : P.underlying tb = some .bool)
    {S : TypeId → Prop} (hS : Shut P S) (hp : ∀ t ∈ f.params.toList, S t) (hres : ∀ ds, ds.length = f.params.size → (s.fn H ds).results = [.lit (.bool true)] ∧ (s.fn H ds).args = ds ∧ (s.fn H ds).vars = []) :
    Calls P g args W fun e W' => ∃ v, e = .returned v ∧ s.post enc P f false fresh handsOn again W args v W' := by
  have h := hc.2 W args.toList (fun b o h => by cases h) (by rw [Cw_empty]; exact hro)
  refine h.mono fun e W' ⟨r, st', hE, hG, ⟨hst, hr'⟩, hm⟩ => ?_
  subst hr' hst
  cases e with
  | returned v =>
    have hvv : v = .bool true := RO_bool hm
    subst hvv
    refine ⟨_, rfl, post_law hW hv hr htb ⟨hE.os, hE.tape, hE.output, hE.size, fun b hb => (hE.block b hb rfl).1⟩ hS hp hres⟩
  | _ => exact hm.elim
end
end Go.H
namespace Go.H
open Go
set_option linter.unusedVariables false
mutual
def flatD : DataW Unit → List Value
  | .lit (.int k n) => [.int k n]
  | .lit (.bool b) => [.bool b]
  | .lit (.string s) => [.string ⟨s.toArray⟩]
  | .lit _ => []
  | .agg parts => flatDs parts
  | .nil => []
  | .ptr _ => []
  | .slice _ _ => []
  | .iface _ _ => []
  | .map _ => []
  | .held _ => []
def flatDs : List (DataW Unit) → List Value
  | [] => []
  | d :: r => flatD d ++ flatDs r
end
def laidHeap (P : Program) : List (String × DataW Unit) → Array Obj → Array Obj
  | [], h => h
  | (n, d) :: r, h => laidHeap P r (match P.globalNamed n with
    | some g => h.modify g fun
      | .cells _ t frozen => .cells (flatD d).toArray t frozen
      | o => o
    | none => h)
noncomputable def laidWorld (P : Program) (l : List (String × DataW Unit)) (os : Os) : World :=
  { World.holding P os ⟨#[], #[], []⟩ with heap := laidHeap P l (World.holding P os ⟨#[], #[], []⟩).heap }
section
variable {H : Type} {enc : TypeId × Value → H} {P : Program} {w : World} {held : Bool} {r : Reach} {base : Nat}
open Go.WideShapes
end
end Go.H
namespace Go.H
open Go
set_option linter.unusedVariables false
def laidHeapS (P : Program) : List (String × DataW Unit) → Array Obj → Array Obj
  | [], h => h
  | (n, d) :: r, h => laidHeapS P r (match P.globalNamed n with
    | some g => match d with
      | .iface name (.ptr (.agg [.lit (.string s)])) => match (List.range P.types.size).find? fun u => P.typeName? 3 u == some name with
        | some u => match P.underlying u with
          | some (.pointer e) => (h.modify g fun
            | .cells _ t frozen => .cells #[.iface u (.pointer (some ⟨h.size, 0, none⟩))] t frozen
            | o => o).push (.cells #[.string ⟨s.toArray⟩] e)
          | _ => h
        | none => h
      | d => h.modify g fun
        | .cells _ t frozen => .cells (flatD d).toArray t frozen
        | o => o
    | none => h)
noncomputable def laidWorldS (P : Program) (l : List (String × DataW Unit)) (os : Os) : World :=
  { World.holding P os ⟨#[], #[], []⟩ with heap := laidHeapS P l (World.holding P os ⟨#[], #[], []⟩).heap }
end Go.H
