/- Part of a proof that the program answers as the reference does: HCoreA, HCore7, HCore8, HCoreB, HCore9. -/
import Derived.MapKept
import Derived.Laws.BytesString
import Derived.Laws.Cells
import Derived.Deep.AppendSrc
import Derived.Laws.MakeOwn
import Derived.Test.YtipmjpjaklmpfaaGreatDoorHA
namespace Go.H
open Go
set_option linter.unusedVariables false
set_option linter.unusedSectionVars false
set_option linter.unusedSimpArgs false

theorem elZ_sound {C : Nat → Nat → Value → Prop} {d : TD} {z : Value} (hz : zOK d.zero z.cells.toList = true) (hl : z.cells.size = d.size) (hn : (elZ d).ncells = d.size) (hc : (elZ d).cells.all PV.cellOK = true) : RX C (elZ d) z.cells.toList := by
  have h := zOK_sound C hz
  unfold elZ at hn hc ⊢
  cases ha : d.shape.agg with
  | true => simpa [RX] using h
  | false =>
    rw [ha] at hn hc
    simp only at hn hc ⊢
    cases hzz : d.zero with
    | nil => rw [hzz] at hc; simp [PV.cells, PV.cellOK] at hc
    | cons y l =>
      cases l with
      | nil =>
        rw [hzz] at h
        simp only [RCs] at h
        obtain ⟨v, vs', e, h1, h2⟩ := h
        rw [e, h2]
        exact h1
      | cons y2 l => rw [hzz] at hc; simp [PV.cells, PV.cellOK] at hc

theorem elZ_rv {C : Nat → Nat → Value → Prop} {d : TD} {z : Value} (hz : zOK d.zero z.cells.toList = true) (ha : vIsAgg z = d.shape.agg) (hj : (elZ d).isJunk = false) : RV C (elZ d) z := by
  have h := zOK_sound C hz
  unfold elZ at hj ⊢
  cases hs : d.shape.agg with
  | true =>
    rw [hs] at ha
    simp only
    refine ⟨by rw [ha]; rfl, ?_⟩
    simpa [RX] using h
  | false =>
    rw [hs] at ha hj
    simp only at hj ⊢
    have hc : z.cells.toList = [z] := by rw [cells_of_notAgg ha]
    cases hzz : d.zero with
    | nil => rw [hzz] at hj; simp [PV.isJunk] at hj
    | cons y l =>
      rw [hzz] at h hj
      cases l with
      | cons y2 l => simp [PV.isJunk] at hj
      | nil =>
        simp only at hj ⊢
        simp only [RCs] at h
        obtain ⟨v, vs', e, h1, h2⟩ := h
        rw [hc] at e
        simp only [List.cons.injEq] at e
        obtain ⟨rfl, rfl⟩ := e
        have hp : y.isAgg = false := by
          cases y with
          | agg cs =>
            -- the row of zeros holds no aggregate
            rw [hzz] at hz
            simp [zOK, hc, zOK1] at hz
          | _ => rfl
        exact h1.rv hp

section
variable {P : Program} {T : TypeId → Option TD} (hT : TyOK P T) {w : World} {st : St} (hg : Good w st)

theorem keyM_key {C : Nat → Nat → Value → Prop} {ks : Shp} {td : TypeDesc} {k : PV} {v : Value} (hs : ShpOK ks td) (hk : keyM ks k = true) (hv : RO C k v) : MapKept.IsKey td v := by
  cases ks <;> cases k <;> simp [keyM] at hk
  · subst hk
    simp only [ShpOK] at hs
    subst hs
    rw [RO_int hv]
    simp [MapKept.IsKey]
  · simp only [ShpOK] at hs
    subst hs
    rw [RO_str hv]
    simp [MapKept.IsKey]

theorem keyEq_now {C : Nat → Nat → Value → Prop} {ks : Shp} {td : TypeDesc} {k k' : PV} {v v' : Value} (hs : ShpOK ks td) (hk : keyM ks k = true) (hv : RO C k v) (hv' : RV C k' v') {b : Bool} (h : keyEq k k' = some b) :
    Instr.sameNow td v v' = some b ∧ (b = true → v' = v) := by
  have hv'' : RO C k' v' := .inr hv'
  cases ks <;> cases k <;> simp [keyM] at hk
  · subst hk
    simp only [ShpOK] at hs
    subst hs
    cases k' <;> simp [keyEq] at h
    obtain ⟨rfl, rfl⟩ := h
    rw [RO_int hv, RO_int hv'']
    rename_i a _ b
    refine ⟨by simp [Instr.sameNow, beq_dec], fun h => ?_⟩
    rw [of_decide_eq_true h]
  · simp only [ShpOK] at hs
    subst hs
    cases k' <;> simp [keyEq] at h
    subst h
    rw [RO_str hv, RO_str hv'']
    rename_i a b
    refine ⟨?_, fun h => by rw [of_decide_eq_true h]⟩
    simp only [Instr.sameNow, Option.some.injEq]
    by_cases h : a = b
    · subst h
      simp [MapKept.bytes_beq]
    · rw [decide_eq_false h]
      cases hb : ((⟨a.toArray⟩ : ByteArray) == ⟨b.toArray⟩) with
      | false => rfl
      | true =>
        have := (MapKept.bytes_beq _ _).1 hb
        exact absurd (by simpa using congrArg (fun x : ByteArray => x.data.toList) this) h

theorem findP_now {C : Nat → Nat → Value → Prop} {ks : Shp} {td : TypeDesc} {k : PV} {v : Value} (hs : ShpOK ks td) (hk : keyM ks k = true) (hv : RO C k v) : ∀ {kvs : List (PV × PV)} {es : List MapEntry} (i : Nat) {r : Option PV}, RMs C kvs es → findP k kvs = some r →
    match r with
    | none => Instr.findNow td v es i = some none
    | some p => ∃ j u, Instr.findNow td v es i = some (some (i + j, u)) ∧ RV C p u
  | [], es, i, r, hm, h => by
    simp only [findP, Option.some.injEq] at h
    simp only [RMs] at hm
    subst h hm
    rfl
  | kv :: kvs, _, i, r, ⟨e, es', he, h1, h2, h3⟩, h => by
    subst he
    simp only [findP] at h
    cases hb : keyEq k kv.1 with
    | none => rw [hb] at h; cases h
    | some b =>
      rw [hb] at h
      obtain ⟨hn, _⟩ := keyEq_now hs hk hv h1 hb
      cases b with
      | true =>
        simp only [Option.some.injEq] at h
        subst h
        exact ⟨0, e.val, by simp [Instr.findNow, hn], h2⟩
      | false =>
        simp only at h
        have ih := findP_now hs hk hv (i + 1) h3 h
        cases r with
        | none => simp only at ih ⊢; simp [Instr.findNow, hn, ih]
        | some p =>
          obtain ⟨j, u, h4, h5⟩ := ih
          exact ⟨j + 1, u, by simp [Instr.findNow, hn, h4]; omega, h5⟩

theorem lookR_ro {C : Nat → Nat → Value → Prop} {z p : PV} {zv u : Value} (ok : Bool) {r : Option PV} (h : RV C (r.getD z) u) : RO C (lookR z ok r) (if ok then .tuple #[u, .bool r.isSome] else u) := by
  cases ok with
  | false => exact .inr h
  | true =>
    refine .inr ⟨rfl, ?_⟩
    simp only [lookR, if_true, RX, Value.cells]
    refine ⟨[u, .bool r.isSome], rfl, ?_⟩
    simp only [RVs]
    exact ⟨u, _, rfl, .inr h, _, _, rfl, .inr ⟨rfl, by simp [RX, Value.cells]⟩, rfl⟩

include hT hg in
theorem y_lookup {t kt et : TypeId} {d dk de : TD} (hs : T t = some d) (hsh : d.shape = .map kt et) (hdk : T kt = some dk) (hde : T et = some de) {ok : Bool} {m k p : PV} {vm vk : Value} (hm : RO (Cw w st) m vm) (hk : RO (Cw w st) k vk)
    (hq : q_lookup st dk.shape (elZ de) ok m k = some p) : Yields P w st (Instr.lookup t vm vk ok) p := by
  obtain ⟨td, h1, h2⟩ := run_under' hT hs w
  rw [hsh] at h2
  simp only [ShpOK] at h2
  subst h2
  obtain ⟨tk, h3, h4⟩ := (hT kt dk hdk).under
  obtain ⟨z, z1, z2, z3, z4⟩ := run_zeroA' hT hde w
  unfold q_lookup at hq
  split at hq
  case isFalse => cases hq
  rename_i hc
  obtain ⟨hkm, hzj⟩ := hc
  have hz : RV (Cw w st) (elZ de) z := elZ_rv z3 z4 hzj
  have hkey := keyM_key h4 hkm hk
  cases m <;> simp only at hq <;> (try (cases hq; done))
  case map b =>
    cases hb : st b with
    | none => rw [hb] at hq; cases hq
    | some o =>
    rw [hb] at hq
    cases o <;> simp only at hq <;> (try (cases hq; done))
    rename_i kvs
    obtain ⟨es, clock, r1, r2⟩ := hg b _ hb
    have hvm : vm = .map (some b) := by
      rcases hm with hm | hm
      · cases hm
      · have := hm.scalar rfl
        simpa [RX] using this
    subst hvm
    cases hf : findP k kvs with
    | none => rw [hf] at hq; cases hq
    | some r =>
    rw [hf] at hq
    simp only [Option.some.injEq] at hq
    subst hq
    have hfn := findP_now h4 hkm hk 0 r2 hf
    cases r with
    | none =>
      simp only at hfn
      refine ⟨_, w, ?_, Evo.refl w st, hg, lookR_ro (p := k) (zv := z) ok (r := none) (u := z) hz⟩
      unfold Instr.lookup
      simp only [Sem.run_bind, h1, Result.andThen_ok, MapKept.run_getObj_map r1, Sem.run_pure, MapKept.run_checkKey h3 hkey, MapKept.run_findKey h3 hfn, z1]
      rfl
    | some q =>
      obtain ⟨j, u, hfn, hu⟩ := hfn
      refine ⟨_, w, ?_, Evo.refl w st, hg, lookR_ro (p := k) (zv := z) ok (r := some q) (u := u) hu⟩
      unfold Instr.lookup
      simp only [Sem.run_bind, h1, Result.andThen_ok, MapKept.run_getObj_map r1, Sem.run_pure, MapKept.run_checkKey h3 hkey, MapKept.run_findKey h3 hfn]
      rfl
  case nilmap =>
    simp only [Option.some.injEq] at hq
    subst hq
    have hvm : vm = .map none := by
      rcases hm with hm | hm
      · cases hm
      · have := hm.scalar rfl
        simpa [RX] using this
    subst hvm
    have hfn : Instr.findNow tk vk [] 0 = some none := rfl
    refine ⟨_, w, ?_, Evo.refl w st, hg, lookR_ro (p := k) (zv := z) ok (r := none) (u := z) hz⟩
    unfold Instr.lookup
    simp only [Sem.run_bind, h1, Result.andThen_ok, Sem.run_pure, MapKept.run_checkKey h3 hkey, MapKept.run_findKey h3 hfn, z1]
    rfl

theorem bytesOf_rx {C : Nat → Nat → Value → Prop} : ∀ {xs : List PV} {cs : List Value} {s : List UInt8}, RXs C xs cs → bytesOf xs = some s → ∃ ns : List Int, cs = ns.map (Value.int .u8) ∧ s = ns.map (fun n => UInt8.ofNat n.toNat)
  | [], cs, s, h, hb => by
    simp only [RXs] at h
    simp only [bytesOf, Option.some.injEq] at hb
    subst h hb
    exact ⟨[], rfl, rfl⟩
  | p :: xs, cs, s, h, hb => by
    simp only [RXs] at h
    obtain ⟨c1, c2, rfl, h1, h2⟩ := h
    simp only [bytesOf] at hb
    cases p <;> simp only at hb <;> (try (cases hb; done))
    rename_i k n
    split at hb
    case isFalse => cases hb
    rename_i hk
    subst hk
    cases hr : bytesOf xs with
    | none => rw [hr] at hb; cases hb
    | some s' =>
      rw [hr] at hb
      simp only [Option.some.injEq] at hb
      subst hb
      obtain ⟨ns, rfl, rfl⟩ := bytesOf_rx h2 hr
      simp only [RX] at h1
      subst h1
      exact ⟨n :: ns, rfl, rfl⟩
theorem foldl_push : ∀ (ns : List Int) (s : ByteArray), ns.foldl (fun r n => r.push (UInt8.ofNat n.toNat)) s = ⟨(s.data.toList ++ ns.map (fun n => UInt8.ofNat n.toNat)).toArray⟩
  | [], s => by simp
  | n :: ns, s => by
    rw [List.foldl_cons, foldl_push ns]
    apply ByteArray.ext
    apply Array.ext'
    simp [ByteArray.push]
include hT hg in
theorem y_bstr {src dst e : TypeId} {ds d de : TD} (hs : T src = some ds) (hss : ds.shape = .slice e) (hd : T dst = some d) (hds : d.shape = .string) (he : T e = some de) (hes : de.shape = .int .u8) {x p : PV} {vx : Value} (hx : RO (Cw w st) x vx)
    (hq : q_bstr x = some p) : Yields P w st (convert src dst vx) p := by
  obtain ⟨t1, h1, h2⟩ := (hT src ds hs).under
  obtain ⟨t2, h3, h4⟩ := (hT dst d hd).under
  obtain ⟨t3, h5, h6⟩ := (hT e de he).under
  rw [hss] at h2
  rw [hds] at h4
  rw [hes] at h6
  simp only [ShpOK] at h2 h4 h6
  subst h2 h4 h6
  cases x <;> simp only [q_bstr] at hq <;> (try (cases hq; done))
  rename_i e' f xs
  cases hb : bytesOf xs with
  | none => rw [hb] at hq; cases hq
  | some s =>
  rw [hb] at hq
  simp only [Option.some.injEq] at hq
  subst hq
  obtain ⟨a, cap, rfl, r1, r2, r3, r4, r5⟩ := RO_sl hx
  have hrun := run_convert_bytes_string (P := P) w src dst e a xs.length cap h1 h5 h3
  rcases r5 with rfl | ⟨b, off, cs, rfl, r6, r7⟩
  · simp only [bytesOf, Option.some.injEq] at hb
    subst hb
    refine ⟨.string .empty, w, ?_, Evo.refl w st, hg, .inr (RX.rv (by simp [RX]; rfl) rfl)⟩
    rw [hrun]
    cases a with
    | none => simp [Conv.bytesToString, Sem.run_pure]
    | some a =>
      have hl := run_loadCells_list (P := P) (w := w) a [] (by intro j v h; simp at h)
      have := run_bytesToString (P := P) w a 0 cap [] (by simpa using hl)
      simpa using this
  · obtain ⟨ns, rfl, rfl⟩ := bytesOf_rx r7 hb
    have hlen : xs.length = ns.length := by
      have hk : ∀ (xs : List PV) (s : List UInt8), bytesOf xs = some s → ∀ x ∈ xs, x.ncells = 1 := by
        intro xs
        induction xs with
        | nil => intro s _ x hx; cases hx
        | cons y l ih =>
          intro s hs x hx
          simp only [bytesOf] at hs
          cases y <;> simp only at hs <;> (try (cases hs; done))
          split at hs
          case isFalse => cases hs
          cases hr : bytesOf l with
          | none => rw [hr] at hs; cases hs
          | some s' =>
            cases hx with
            | head => rfl
            | tail _ hx => exact ih s' hr x hx
      have h8 := RXs.length (e := 1) r7 (hk xs _ hb)
      simpa using h8.symm
    have hl := run_loadCells_list (P := P) (w := w) ⟨b, off, none⟩ (ns.map (Value.int .u8)) (fun j v hj => by rw [add_lit]; exact (r6 j v hj).1)
    have hrb := run_bytesToString (P := P) w ⟨b, off, none⟩ xs.length cap ns (by rw [hlen]; simpa using hl)
    refine ⟨_, w, by rw [hrun, hrb], Evo.refl w st, hg, .inr (RX.rv ?_ rfl)⟩
    simp only [RX, foldl_push]
    congr 2

include hg in
theorem y_min {x y p : PV} {vx vy : Value} {ts : Array TypeId} {ty : TypeId} (hx : RO (Cw w st) x vx) (hy : RO (Cw w st) y vy) (hq : q_min x y = some p) : Yields P w st (Builtin.min_ ts ty #[vx, vy]) p := by
  cases x <;> simp only [q_min] at hq <;> (try (cases hq; done))
  cases y <;> simp only at hq <;> (try (cases hq; done))
  simp only [Option.some.injEq] at hq
  subst hq
  obtain rfl := RO_int hx
  obtain rfl := RO_int hy
  rename_i k a k' b
  exact ⟨.int k (if b < a then b else a), w, by simp [Builtin.min_, Builtin.min2], Evo.refl w st, hg, .inr (RX.rv (by simp [RX]) rfl)⟩
include hg in
theorem y_max {x y p : PV} {vx vy : Value} {ts : Array TypeId} {ty : TypeId} (hx : RO (Cw w st) x vx) (hy : RO (Cw w st) y vy) (hq : q_max x y = some p) : Yields P w st (Builtin.max_ ts ty #[vx, vy]) p := by
  cases x <;> simp only [q_max] at hq <;> (try (cases hq; done))
  cases y <;> simp only at hq <;> (try (cases hq; done))
  simp only [Option.some.injEq] at hq
  subst hq
  obtain rfl := RO_int hx
  obtain rfl := RO_int hy
  rename_i k a k' b
  exact ⟨.int k (if b > a then b else a), w, by simp [Builtin.max_, Builtin.max2], Evo.refl w st, hg, .inr (RX.rv (by simp [RX]) rfl)⟩
end
end Go.H
namespace Go.H
open Go
set_option linter.unusedVariables false
set_option linter.unusedSectionVars false
set_option linter.unusedSimpArgs false

section
variable {C : Nat → Nat → Value → Prop}
theorem cellOK_notJunk {p : PV} (h : p.cells.all PV.cellOK = true) : p.isJunk = false := by
  cases p <;> first | rfl | simp [PV.cells, PV.cellOK] at h
theorem RV.cellsRC {p : PV} {v : Value} (h : RV C p v) : RCs C p.cells v.cells.toList := RX_cells h.2
theorem RV.size {p : PV} {v : Value} (h : RV C p v) : v.cells.size = p.ncells := by
  have := RX.length h.2
  simpa using this
theorem ncells_cells (p : PV) : p.cells.length = p.ncells := by cases p <;> rfl
theorem foldl_set (cells : Array Value) (off : Nat) : ∀ (us : List Value) (k : Nat), off + k + us.length ≤ cells.size →
    ((us.zipIdx k).foldl (fun cs (x : Value × Nat) => cs.setIfInBounds (off + x.2) x.1) cells).toList = cells.toList.take (off + k) ++ us ++ cells.toList.drop (off + k + us.length)
  | [], k, _ => by simp
  | u :: us, k, h => by
    simp only [List.zipIdx_cons, List.foldl_cons]
    have hs : off + (k + 1) + us.length ≤ (cells.setIfInBounds (off + k) u).size := by simp at h ⊢; omega
    rw [foldl_set _ off us (k + 1) hs]
    have hk : off + k < cells.toList.length := by simp at h ⊢; omega
    simp only [Array.toList_setIfInBounds, List.length_cons]
    rw [← Nat.add_assoc, List.take_succ_eq_append_getElem (by simpa using hk), List.getElem_set_self, List.take_set, List.set_eq_of_length_le (by simp; omega), List.drop_set_of_lt (by omega)]
    simp [Nat.add_assoc, Nat.add_comm 1]
theorem fill_sound {ρ : Operand → PV} {ev : Operand → Value} (hρ : ∀ x, RO C (ρ x) (ev x)) {place place' : Nat → Option (Nat × Nat)} (hpl : ∀ i x, place i = some x → place' i = some x) :
    ∀ (parts : List (Nat × Operand)) (zs : List PV) (cells : Array Value) (r : List PV), RCs C zs cells.toList → fillP place zs (parts.map fun x => (x.1, ρ x.2)) = some r →
      ∃ cells', Instr.fill place' cells (parts.map fun x => (x.1, ev x.2)) = some cells' ∧ RCs C r cells'.toList
  | [], zs, cells, r, hz, h => by
    simp only [List.map_nil, fillP, Option.some.injEq] at h
    subst h
    exact ⟨cells, rfl, hz⟩
  | (i, x) :: rest, zs, cells, r, hz, h => by
    simp only [List.map_cons, fillP] at h
    cases hp : place i with
    | none => rw [hp] at h; cases h
    | some on =>
      obtain ⟨off, n⟩ := on
      rw [hp] at h
      simp only at h
      split at h
      case isFalse => cases h
      rename_i hc
      obtain ⟨h1, h2, h3⟩ := hc
      have hv := (hρ x).rv (cellOK_notJunk h3)
      have hsz := hv.size
      have hlz := RCs.length hz
      have hfold := foldl_set cells off (ev x).cells.toList 0 (by simp at hlz ⊢; omega)
      have hcells : RCs C (zs.take off ++ (ρ x).cells ++ zs.drop (off + n)) (((ev x).cells.zipIdx.foldl (fun cs (c, j) => cs.setIfInBounds (off + j) c) cells).toList) := by
        have e1 : ((ev x).cells.zipIdx.foldl (fun cs (c, j) => cs.setIfInBounds (off + j) c) cells).toList = cells.toList.take (off + 0) ++ (ev x).cells.toList ++ cells.toList.drop (off + 0 + (ev x).cells.toList.length) := by
          rw [← hfold, ← Array.foldl_toList]
          simp
        rw [e1]
        have hlen : (ev x).cells.toList.length = n := by simp; omega
        rw [hlen, Nat.add_zero]
        exact ((hz.take off).append hv.cellsRC).append (hz.drop (off + n))
      obtain ⟨cells', r1, r2⟩ := fill_sound hρ hpl rest _ _ r hcells h
      refine ⟨cells', ?_, r2⟩
      simp only [List.map_cons, Instr.fill, hpl i _ hp]
      rw [if_neg (by simp at hlz ⊢; omega)]
      exact r1
end

section
variable {P : Program} {T : TypeId → Option TD} (hT : TyOK P T) {w : World} {st : St} (hg : Good w st)
theorem run_mapM_list {α β : Type} (g : α → Sem β) (h : α → β) (w : World) : ∀ (l : List α), (∀ f ∈ l, (g f).run P w = .ok (h f) w) → (l.mapM g).run P w = .ok (l.map h) w
  | [], _ => rfl
  | f :: l, hl => by
    have ih := run_mapM_list g h w l (fun x hx => hl x (by simp [hx]))
    simp [List.mapM_cons, hl f (by simp), ih]
include hT hg in
theorem y_build {ρ : Operand → PV} {ev : Operand → Value} (hρ : ∀ x, RO (Cw w st) (ρ x) (ev x)) {t : TypeId} {d : TD} {fs : List (Nat × TypeId)} (hs : T t = some d) (hsh : d.shape = .struct fs) (hall : fs.all (fun x => (T x.2).isSome) = true) {parts : Array (Nat × Operand)} {p : PV}
    (hq : q_build (placesOf T fs) d.zero (parts.toList.map fun x => (x.1, ρ x.2)) = some p) :
    Yields P w st (Instr.build t (parts.map fun (i, x) => (i, ev x))) p := by
  obtain ⟨td, h1, h2⟩ := run_under' hT hs w
  rw [hsh] at h2
  obtain ⟨fields, rfl, h3⟩ := h2
  obtain ⟨z, h4, h5, h6⟩ := run_zero' hT hs w
  have hz := zOK_sound (Cw w st) h6
  unfold q_build at hq
  cases hf : fillP (placesOf T fs) d.zero (parts.toList.map fun x => (x.1, ρ x.2)) with
  | none => rw [hf] at hq; cases hq
  | some r =>
  rw [hf] at hq
  simp only [Option.some.injEq] at hq
  subst hq
  have hall' : ∀ f ∈ fields.toList, (T f.type).isSome = true := by
    intro f hf
    have := List.all_eq_true.1 hall (f.offset, f.type) (by rw [← h3]; exact List.mem_map.2 ⟨f, hf, rfl⟩)
    exact this
  have hrun := run_mapM_list (P := P) (fun f : Field => (do pure (f.offset, ← sizeOf f.type) : Sem (Nat × Nat))) (fun f => (f.offset, match T f.type with | some d => d.size | none => 0)) w fields.toList (fun f hf => by
    obtain ⟨d, hd⟩ := Option.isSome_iff_exists.1 (hall' f hf)
    simp [run_sizeOf' hT hd, hd])
  generalize hpl : fields.toList.map (fun f => (f.offset, match T f.type with | some d => d.size | none => 0)) = pl at hrun
  have hplaces : ∀ i x, placesOf T fs i = some x → pl.toArray[i]? = some x := by
    intro i x hx
    unfold placesOf at hx
    rw [List.getElem?_toArray, ← hpl, List.getElem?_map]
    cases hfi : fs[i]? with
    | none => rw [hfi] at hx; cases hx
    | some on =>
      obtain ⟨off, ft⟩ := on
      obtain ⟨fl, h7, h8, h9⟩ := field_at h3 hfi
      rw [hfi] at hx
      simp only at hx
      have hfl : fields.toList[i]? = some fl := by simpa using h7
      rw [hfl]
      cases hft : T ft with
      | none => rw [hft] at hx; cases hx
      | some df =>
        rw [hft] at hx
        simp only [Option.some.injEq] at hx
        subst hx
        simp [h8, h9, hft]
  obtain ⟨cells', r3, r4⟩ := fill_sound hρ hplaces parts.toList d.zero z.cells r hz hf
  refine ⟨.agg cells', w, ?_, Evo.refl w st, hg, .inr (RV_agg r4)⟩
  have hmap : (fields.mapM (m := Sem) (fun f => do pure (f.offset, ← sizeOf f.type))).run P w = .ok pl.toArray w := by
    rw [Array.mapM_eq_mapM_toList]
    rw [Sem.run_map, hrun]
    rfl
  unfold Instr.build
  simp only [Sem.run_bind, h4, Result.andThen_ok, h1, hmap]
  have hl : (Array.map (fun (x : Nat × Operand) => (x.1, ev x.2)) parts).toList = parts.toList.map (fun x => (x.1, ev x.2)) := by simp
  simp only [hl, r3]
  rfl

theorem lit_sound {C : Nat → Nat → Value → Prop} {ρ : Operand → PV} {ev : Operand → Value} (hρ : ∀ x, RO C (ρ x) (ev x)) (e len : Nat) (he : 0 < e) :
    ∀ (parts : List (Nat × Operand)) (i : Nat) (acc : List PV) (cells : Array Value) (p : PV), cells.size = len * e → i ≤ len → acc.length = i → (∀ x ∈ acc, elOK e x) → RXs C acc.reverse (cells.toList.take (i * e)) →
      q_lit e len i acc (parts.map fun x => (x.1, ρ x.2)) = some p →
      ∃ cells' xs, Instr.fill (fun i => some (i * e, e)) cells (parts.map fun x => (x.1, ev x.2)) = some cells' ∧ p = .sl e true xs ∧ xs.length = len ∧ (∀ x ∈ xs, elOK e x) ∧ cells'.size = len * e ∧ RXs C xs cells'.toList
  | [], i, acc, cells, p, hsz, hi, hal, hae, hr, h => by
    simp only [List.map_nil, q_lit] at h
    split at h
    case isFalse => cases h
    rename_i hil
    subst hil
    simp only [Option.some.injEq] at h
    refine ⟨cells, acc.reverse, rfl, h.symm, by simpa using hal, fun x hx => hae x (by simpa using hx), hsz, ?_⟩
    rw [List.take_of_length_le (by simp [hsz])] at hr
    exact hr
  | (j, x) :: rest, i, acc, cells, p, hsz, hi, hal, hae, hr, h => by
    simp only [List.map_cons, q_lit] at h
    split at h
    case isFalse => cases h
    rename_i hc
    obtain ⟨rfl, h2, h3⟩ := hc
    have hv := (hρ x).rv (cellOK_notJunk h3)
    have hvs := hv.size
    have hlt : j < len := by
      -- else the literal does not end
      rcases Nat.lt_or_ge j len with hlt | hge
      · exact hlt
      · exfalso
        have key : ∀ (l : List (Nat × PV)) (k : Nat) (ac : List PV) (q : PV), len < k → q_lit e len k ac l = some q → False := by
          intro l
          induction l with
          | nil => intro k ac q hk hq; simp only [q_lit] at hq; split at hq <;> first | omega | cases hq
          | cons y l ih =>
            intro k ac q hk hq
            simp only [q_lit] at hq
            split at hq
            · exact ih _ _ _ (by omega) hq
            · cases hq
        exact key _ _ _ _ (by omega) h
    have hje : j * e + e ≤ len * e := by rw [← Nat.succ_mul]; exact Nat.mul_le_mul_right _ hlt
    have hfold := foldl_set cells (j * e) (ev x).cells.toList 0 (by simp; omega)
    have e1 : ((ev x).cells.zipIdx.foldl (fun cs (c, k) => cs.setIfInBounds (j * e + k) c) cells).toList = cells.toList.take (j * e) ++ (ev x).cells.toList ++ cells.toList.drop (j * e + e) := by
      have hlen : (ev x).cells.toList.length = e := by simp; omega
      rw [hlen] at hfold
      rw [Nat.add_zero] at hfold
      rw [← hfold, ← Array.foldl_toList]
      simp
    have hsz' : ((ev x).cells.zipIdx.foldl (fun cs (c, k) => cs.setIfInBounds (j * e + k) c) cells).size = len * e := by
      rw [← Array.length_toList, e1]
      simp only [List.length_append, List.length_take, List.length_drop, Array.length_toList]
      omega
    have hr' : RXs C (ρ x :: acc).reverse (((ev x).cells.zipIdx.foldl (fun cs (c, k) => cs.setIfInBounds (j * e + k) c) cells).toList.take ((j + 1) * e)) := by
      rw [e1, List.reverse_cons, Nat.succ_mul]
      have : (cells.toList.take (j * e) ++ (ev x).cells.toList ++ cells.toList.drop (j * e + e)).take (j * e + e) = cells.toList.take (j * e) ++ (ev x).cells.toList := by
        rw [List.take_append_of_le_length (by simp; omega), List.take_of_length_le (by simp; omega)]
      rw [this]
      refine hr.append ?_
      simp only [RXs]
      exact ⟨_, [], by simp, hv.2, rfl⟩
    obtain ⟨cells', xs, r1, r2⟩ := lit_sound hρ e len he rest (j + 1) (ρ x :: acc) _ p hsz' hlt (by simp [hal]) (by intro y hy; cases hy with | head => exact ⟨h2, h3⟩ | tail _ hy => exact hae y hy) hr' h
    refine ⟨cells', xs, ?_, r2⟩
    simp only [List.map_cons, Instr.fill]
    rw [if_neg (by simp; omega)]
    exact r1
include hT hg in
theorem y_lit {ρ : Operand → PV} {ev : Operand → Value} (hρ : ∀ x, RO (Cw w st) (ρ x) (ev x)) {t e : TypeId} {d de : TD} (hs : T t = some d) (hsh : d.shape = .slice e) (he : T e = some de) (h0 : de.size ≠ 0) {len : Nat} (hlen : ¬ 16777216 < len * de.size)
    {parts : Array (Nat × Operand)} {p : PV} (hq : q_lit de.size len 0 [] (parts.toList.map fun x => (x.1, ρ x.2)) = some p) : Yields P w st (Instr.buildSlice t len (parts.map fun (i, x) => (i, ev x))) p := by
  obtain ⟨td, h1, h2⟩ := run_under' hT hs w
  rw [hsh] at h2
  simp only [ShpOK] at h2
  subst h2
  obtain ⟨z, h4, h5, h6⟩ := run_zero' hT he w
  have hsz0 : ((Array.range (len * de.size)).map (fun k => z.cells[k % z.cells.size]!)).size = len * de.size := by simp
  obtain ⟨cells', xs, r1, rfl, r3, r4, r5, r6⟩ := lit_sound hρ de.size len (by omega) parts.toList 0 [] ((Array.range (len * de.size)).map (fun k => z.cells[k % z.cells.size]!)) p hsz0 (Nat.zero_le _) rfl (by intro x hx; cases hx) (by simp [RXs]) hq
  have hl : (Array.map (fun (x : Nat × Operand) => (x.1, ev x.2)) parts).toList = parts.toList.map (fun x => (x.1, ev x.2)) := by simp
  refine ⟨.slice (some ⟨w.heap.size, 0, none⟩) len len, w.alloc (.cells cells' e), ?_, Evo.alloc hg _, hg.alloc _, .inr (RX.rv ?_ rfl)⟩
  · unfold Instr.buildSlice
    simp only [Sem.run_bind, h1, Result.andThen_ok, run_sizeOf' hT he]
    rw [Sem.run_ite]
    have hn : ¬ (len * de.size > 2 ^ 24) := by simpa using hlen
    rw [if_neg hn]
    by_cases hz : len * de.size = 0
    · have hlen0 : len = 0 := by
        rcases Nat.mul_eq_zero.1 hz with h | h
        · exact h
        · exact absurd h h0
      subst hlen0
      have hparts : parts.toList = [] := by
        cases hpp : parts.toList with
        | nil => rfl
        | cons y l =>
          exfalso
          rw [hpp] at hq
          simp only [List.map_cons, q_lit] at hq
          split at hq
          · have key : ∀ (l : List (Nat × PV)) (k : Nat) (ac : List PV) (q : PV), 0 < k → q_lit de.size 0 k ac l = some q → False := by
              intro l
              induction l with
              | nil => intro k ac q hk hq; simp only [q_lit] at hq; split at hq <;> first | omega | cases hq
              | cons y l ih =>
                intro k ac q hk hq
                simp only [q_lit] at hq
                split at hq
                · exact ih _ _ _ (by omega) hq
                · cases hq
            exact key _ _ _ _ (by omega) hq
          · cases hq
      rw [hparts] at r1
      have hc0 : cells' = #[] := Array.eq_empty_of_size_eq_zero (by simpa using r5)
      subst hc0
      have e0 : ∀ f : Nat → Value, Array.map f (Array.range 0) = #[] := fun f => Array.eq_empty_of_size_eq_zero (by simp)
      simp [hl, hparts, Instr.fill, newRow, e0]
    · simp only [hz, if_false, Sem.run_bind, h4, Result.andThen_ok, Sem.run_pure]
      simp only [hl, r1]
      simp [newRow]
  · simp only [RX]
    have hml : len ≤ maxLen := by
      have : len ≤ len * de.size := Nat.le_mul_of_pos_right _ (by omega)
      simp only [maxLen]
      omega
    refine ⟨_, _, _, rfl, r3.symm, Nat.le_refl _, hml, fun _ => rfl, r4, .inr ⟨w.heap.size, 0, cells'.toList, rfl, fun j v hj => ⟨?_, hg.fresh (Nat.le_refl _)⟩, RXs.mono (Evo.alloc hg _).cw _ _ r6⟩⟩
    rw [cell_of_heap (heap_alloc_at w _), Nat.zero_add]
    exact hj

include hT hg in
theorem opQ_sound {ρ : Operand → PV} {ev : Operand → Value} (hρ : ∀ x, RO (Cw w st) (ρ x) (ev x)) {o : Oper} {p : PV} (hq : opQ T st ρ o.op = some p) :
    ∃ v w', (execOp ev o).run P w = .ok (.value v) w' ∧ Evo w st w' st ∧ Good w' st ∧ RO (Cw w' st) p v := by
  have lift : ∀ {s : Sem Value}, Yields P w st s p → (∀ (f : Sem Next), f = (do Pure.pure (Next.value (← s))) → ∃ v w', f.run P w = .ok (.value v) w' ∧ Evo w st w' st ∧ Good w' st ∧ RO (Cw w' st) p v) := by
    rintro s ⟨v, w', h1, h2⟩ f rfl
    exact ⟨v, w', by simp [h1], h2⟩
  obtain ⟨dst, op, ty, pos, after, guard⟩ := o
  cases op <;> simp only [opQ] at hq <;> (try (cases hq; done))
  case move x =>
    simp only [Option.some.injEq] at hq; subst hq
    exact ⟨_, w, rfl, Evo.refl w st, hg, hρ x⟩
  case assign x =>
    simp only [Option.some.injEq] at hq; subst hq
    exact ⟨_, w, rfl, Evo.refl w st, hg, hρ x⟩
  case pick c a b =>
    refine lift (y_pick hg (hρ c) (hρ a) (hρ b) hq) _ ?_
    simp only [execOp, bind_assoc, pure_bind]
  case load t a =>
    cases ht : T t with
    | none => rw [ht] at hq; cases hq
    | some d => rw [ht] at hq; exact lift (y_load hT hg (hρ a) ht hq) _ rfl
  case nilCheck x =>
    obtain ⟨a, h1, h2⟩ := y_nil hg (hρ x) hq
    exact ⟨.pointer (some a), w, by simp [execOp, h1], Evo.refl w st, hg, h1 ▸ h2⟩
  case binOp op t x y yt =>
    cases ht : T t with
    | none => rw [ht] at hq; cases hq
    | some d =>
      rw [ht] at hq
      simp only at hq
      cases hsh : d.shape <;> rw [hsh] at hq <;> simp only at hq <;> (try (cases hq; done))
      · exact lift (y_bin hg (hρ x) (hρ y) hq) _ rfl
      · exact lift (y_beq hT hg ht hsh (hρ x) (hρ y) hq) _ rfl
      · exact lift (y_bin hg (hρ x) (hρ y) hq) _ rfl
  case unOp op t x => exact lift (y_un hg (hρ x) hq) _ rfl
  case convert src dst' x =>
    cases hs : T src with
    | none => rw [hs] at hq; cases hq
    | some ds =>
    cases hd : T dst' with
    | none => rw [hs, hd] at hq; cases hq
    | some d =>
    rw [hs, hd] at hq
    simp only at hq
    have hsome : (T src).isSome = true := by rw [hs]; rfl
    cases hsh : d.shape <;> rw [hsh] at hq <;> simp only at hq <;> (try (cases hq; done))
    · exact lift (y_conv hT hg hsome hd (hρ x) (by rw [hsh]; exact hq)) _ rfl
    · cases hss : ds.shape <;> rw [hss] at hq <;> simp only at hq
      case slice e =>
        cases he : T e with
        | none => rw [he] at hq; cases hq
        | some de =>
          rw [he] at hq
          simp only at hq
          cases hes : de.shape <;> rw [hes] at hq <;> (try simp only at hq) <;> (try (cases hq; done))
          rename_i k
          cases k <;> simp only at hq <;> (try (cases hq; done))
          exact lift (y_bstr hT hg hs hss hd hsh he hes (hρ x) hq) _ rfl
      all_goals exact lift (y_conv hT hg hsome hd (hρ x) (by rw [hsh]; exact hq)) _ rfl
  case lookup t m k ok =>
    cases hs : T t with
    | none => rw [hs] at hq; cases hq
    | some d =>
    rw [hs] at hq
    simp only at hq
    cases hsh : d.shape <;> rw [hsh] at hq <;> simp only at hq <;> (try (cases hq; done))
    rename_i kt et
    cases hk : T kt with
    | none => rw [hk] at hq; cases hq
    | some dk =>
    cases he : T et with
    | none => rw [hk, he] at hq; cases hq
    | some de =>
    rw [hk, he] at hq
    exact lift (y_lookup hT hg hs hsh hk he (hρ m) (hρ k) hq) _ rfl
  case makeInterface t x =>
    cases ht : T t with
    | none => rw [ht] at hq; cases hq
    | some d => rw [ht] at hq; exact lift (y_iface hT hg ht (hρ x) hq) _ rfl
  case makeFunc f first caps => exact lift (y_func hg hρ hq) _ rfl
  case slice t x lo hi mx => exact lift (y_slice hT hg (hρ x) (RO?_map hρ lo) (RO?_map hρ hi) (RO?_map hρ mx) hq) _ rfl
  case fieldAddr s x f =>
    cases hs : T s with
    | none => rw [hs] at hq; cases hq
    | some d =>
      rw [hs] at hq
      simp only at hq
      cases hsh : d.shape <;> rw [hsh] at hq <;> simp only at hq <;> (try (cases hq; done))
      rename_i fs
      cases hf : fs[f]? with
      | none => rw [hf] at hq; cases hq
      | some on =>
        obtain ⟨off, ft⟩ := on
        rw [hf] at hq
        simp only at hq
        cases hft : T ft with
        | none => rw [hft] at hq; cases hq
        | some df =>
          rw [hft] at hq
          simp only at hq
          split at hq
          · cases hq
          · rename_i h0
            exact lift (y_fa hT hg hs hsh hf hft h0 (hρ x) hq) _ rfl
  case field t x f =>
    cases hs : T t with
    | none => rw [hs] at hq; cases hq
    | some d =>
      rw [hs] at hq
      simp only at hq
      cases hsh : d.shape <;> rw [hsh] at hq <;> simp only at hq <;> (try (cases hq; done))
      rename_i fs
      cases hf : fs[f]? with
      | none => rw [hf] at hq; cases hq
      | some on =>
        obtain ⟨off, ft⟩ := on
        rw [hf] at hq
        simp only at hq
        cases hft : T ft with
        | none => rw [hft] at hq; cases hq
        | some df =>
          rw [hft] at hq
          exact lift (y_field hT hg hs hsh hf hft (hρ x) hq) _ rfl
  case indexAddr t x i =>
    cases hs : T t with
    | none => rw [hs] at hq; cases hq
    | some d =>
      rw [hs] at hq
      simp only at hq
      cases hsh : d.shape <;> rw [hsh] at hq <;> simp only at hq <;> (try (cases hq; done))
      rename_i e
      cases he : T e with
      | none => rw [he] at hq; cases hq
      | some de => rw [he] at hq; exact lift (y_ia hT hg hs hsh he (hρ x) (hρ i) hq) _ rfl
  case index t x i =>
    cases hs : T t with
    | none => rw [hs] at hq; cases hq
    | some d =>
      rw [hs] at hq
      simp only at hq
      cases hsh : d.shape <;> rw [hsh] at hq <;> simp only at hq <;> (try (cases hq; done))
      exact lift (y_ix hT hg hs hsh (hρ x) (hρ i) hq) _ rfl
  case extract x i => exact lift (y_ex hg (hρ x) hq) _ rfl
  case build t parts =>
    cases hs : T t with
    | none => rw [hs] at hq; cases hq
    | some d =>
      rw [hs] at hq
      simp only at hq
      cases hsh : d.shape <;> rw [hsh] at hq <;> simp only at hq <;> (try (cases hq; done))
      rename_i fs
      split at hq
      · cases hq
      · rename_i hall
        exact lift (y_build hT hg hρ hs hsh (by cases h : fs.all (fun x => (T x.2).isSome) with | true => rfl | false => exact absurd h hall) hq) _ rfl
  case buildSlice t len parts =>
    cases hs : T t with
    | none => rw [hs] at hq; cases hq
    | some d =>
      rw [hs] at hq
      simp only at hq
      cases hsh : d.shape <;> rw [hsh] at hq <;> simp only at hq <;> (try (cases hq; done))
      rename_i e
      cases he : T e with
      | none => rw [he] at hq; cases hq
      | some de =>
        rw [he] at hq
        simp only at hq
        split at hq
        · cases hq
        · rename_i h0
          split at hq
          · cases hq
          · rename_i hl
            exact lift (y_lit hT hg hρ hs hsh he h0 hl hq) _ rfl
  case call c =>
    obtain ⟨callee, args, argTypes⟩ := c
    cases callee <;> simp only at hq <;> (try (cases hq; done))
    rename_i b
    cases b <;> simp only at hq <;> (try (cases hq; done))
    all_goals
      obtain ⟨args⟩ := args
      obtain ⟨argTypes⟩ := argTypes
      simp only at hq
    case len =>
      match args, argTypes with
      | [x], [t] =>
        simp only at hq
        cases hs : T t with
        | none => rw [hs] at hq; cases hq
        | some d =>
          rw [hs] at hq
          simp only at hq
          cases hsh : d.shape <;> rw [hsh] at hq <;> simp only at hq <;> (try (cases hq; done))
          · exact lift (s := Builtin.len_ #[t] ty #[ev x]) (y_lenS hT hg hs hsh (hρ x) hq) _ (by simp [execOp, resolve, invoke, builtin])
          · exact lift (s := Builtin.len_ #[t] ty #[ev x]) (y_len hT hg hs hsh (hρ x) hq) _ (by simp [execOp, resolve, invoke, builtin])
      | [], _ => cases hq
      | [_], [] => cases hq
      | [_], _ :: _ :: _ => cases hq
      | _ :: _ :: _, _ => cases hq
    case min =>
      match args with
      | [x, y] => exact lift (s := Builtin.min_ ⟨argTypes⟩ ty #[ev x, ev y]) (y_min hg (hρ x) (hρ y) hq) _ (by simp [execOp, resolve, invoke, builtin])
      | [] => cases hq
      | [_] => cases hq
      | _ :: _ :: _ :: _ => cases hq
    case max =>
      match args with
      | [x, y] => exact lift (s := Builtin.max_ ⟨argTypes⟩ ty #[ev x, ev y]) (y_max hg (hρ x) (hρ y) hq) _ (by simp [execOp, resolve, invoke, builtin])
      | [] => cases hq
      | [_] => cases hq
      | _ :: _ :: _ :: _ => cases hq
end
end Go.H
namespace Go.H
open Go
set_option linter.unusedVariables false
set_option linter.unusedSectionVars false
set_option linter.unusedSimpArgs false

section
variable {C : Nat → Nat → Value → Prop}
theorem oneCell_of {p : PV} {v : Value} (h : RX C p [v]) (hp : p.cellOK = true) : v.oneCell' = true := by
  cases p <;> simp only [RX] at h <;> first
    | (simp [PV.cellOK] at hp; done)
    | (simp only [List.cons.injEq, and_true] at h; subst h; rfl)
    | (obtain ⟨a, n, cap, e, _⟩ := h; simp only [List.cons.injEq, and_true] at e; subst e; rfl)
    | (obtain ⟨b, off, cs, e, _⟩ := h; simp only [List.cons.injEq, and_true] at e; subst e; rfl)
    | (obtain ⟨b, off, e, _⟩ := h; simp only [List.cons.injEq, and_true] at e; subst e; rfl)
    | (obtain ⟨b, e, _⟩ := h; simp only [List.cons.injEq, and_true] at e; subst e; rfl)
theorem oneCells_of : ∀ {ps : List PV} {vs : List Value}, RCs C ps vs → ps.all PV.cellOK = true → ∀ v ∈ vs, v.oneCell' = true
  | [], _, h, _, v, hv => by simp [RCs] at h; subst h; cases hv
  | p :: ps, _, h, hp, v, hv => by
    simp only [RCs] at h
    obtain ⟨u, vs', rfl, h1, h2⟩ := h
    simp only [List.all_cons, Bool.and_eq_true] at hp
    cases hv with
    | head => exact oneCell_of h1 hp.1
    | tail _ hv => exact oneCells_of h2 hp.2 v hv
theorem oneCells_els {e : Nat} : ∀ {ps : List PV} {vs : List Value}, RXs C ps vs → (∀ x ∈ ps, elOK e x) → ∀ v ∈ vs, v.oneCell' = true
  | [], _, h, _, v, hv => by simp [RXs] at h; subst h; cases hv
  | p :: ps, _, h, hp, v, hv => by
    simp only [RXs] at h
    obtain ⟨c1, c2, rfl, h1, h2⟩ := h
    rcases List.mem_append.1 hv with hv | hv
    · exact oneCells_of (RX_cells h1) (hp p (by simp)).2 v hv
    · exact oneCells_els h2 (fun x hx => hp x (by simp [hx])) v hv
end

theorem upd_del (st : St) (b : Nat) (o : HObj) : upd (del st b) b o = upd st b o := by
  funext c
  unfold upd del
  split <;> rfl
theorem del_same (st : St) (b : Nat) : del st b b = none := by simp [del]
theorem del_ne (st : St) {b c : Nat} (h : c ≠ b) : del st b c = st c := by simp [del, h]
theorem del_sub (st : St) (b : Nat) : ∀ c o, del st b c = some o → st c = some o := fun c o h => by
  unfold del at h
  split at h
  · cases h
  · exact h

section
variable {P : Program} {T : TypeId → Option TD} (hT : TyOK P T) {w : World} {st : St} (hg : Good w st)
def After (a : Act) (o : Oper) (w : World) (st : St) (K' : Act → World → Prop) (p : PV) (st' : St) : Prop := ∀ v w', Evo w st w' st' → Good w' st' → RO (Cw w' st') p v → K' (a.put o.dst v) w'

def oldOut (st : St) : Option Nat → St | some b0 => del st b0 | none => st
theorem oldOut_sub (st : St) (old : Option Nat) : ∀ c o, oldOut st old c = some o → st c = some o := by
  cases old with
  | none => exact fun _ _ h => h
  | some b => exact del_sub st b
theorem e_grown_eq (st : St) (esz : Nat) (zs : List PV) (old : Option Nat) (K : PV → St → Prop) : e_grown st esz zs old K =
    ((∀ b cap, (old = some b ∨ st b = none) → zs.length ≤ cap → K (.vsl b zs.length cap) (upd (oldOut st old) b (.vec esz zs cap))) ∨ K (.sl esz false zs) (oldOut st old)) := by
  cases old <;> rfl

include hg in
theorem grown_new {esz : Nat} {zs : List PV} {old : Option Nat} {K : PV → St → Prop} (h : e_grown st esz zs old K) (h0 : 0 < esz) {cs : List Value} {rest : Array Value} {e : TypeId} {cap : Nat}
    (hcs : RXs (Cw w st) zs cs) (hel : ∀ x ∈ zs, elOK esz x) (hsz : cs.length + rest.size = cap * esz) (hcap : zs.length ≤ cap) (hml : cap ≤ maxLen) :
    ∃ p st', K p st' ∧ Evo w st (w.drew.alloc (.cells (cs.toArray ++ rest) e)) st' ∧ Good (w.drew.alloc (.cells (cs.toArray ++ rest) e)) st' ∧
      RO (Cw (w.drew.alloc (.cells (cs.toArray ++ rest) e)) st') p (.slice (some ⟨w.heap.size, 0, none⟩) zs.length cap) := by
  rw [e_grown_eq] at h
  have hsub := oldOut_sub st old
  have hg1 : Good w.drew (oldOut st old) := (hg.sub hsub).drew
  have he1 : Evo w st w.drew (oldOut st old) := (Evo.sub hsub).trans (Evo.drew w _)
  have hcl := RXs.length hcs (fun x hx => (hel x hx).1)
  rcases h with h | h
  · refine ⟨.vsl w.heap.size zs.length cap, _, h w.heap.size cap (.inr (hg.fresh (Nat.le_refl _))) hcap, ?_, ?_, .inr (RX.rv (by simp [RX]) rfl)⟩
    · exact he1.trans (Evo.allocOwn hg1 _ _)
    · refine Good.allocOwn hg1 _ _ ⟨_, e, heap_alloc_at w.drew _, by simp [hsz], hml, h0, hcap, hel, ?_⟩
      have : ((cs.toArray ++ rest).toList.take (zs.length * esz)) = cs := by
        rw [← hcl]; simp
      rw [this]
      exact RXs.mono (fun b o v hc => (Evo.allocOwn hg1 _ _).cw b o v (he1.cw b o v hc)) _ _ hcs
  · refine ⟨.sl esz false zs, _, h, he1.trans (Evo.alloc hg1 _), hg1.alloc _, .inr (RX.rv ?_ rfl)⟩
    simp only [RX]
    refine ⟨_, _, _, rfl, rfl, hcap, hml, (fun h => by cases h), hel, .inr ⟨w.heap.size, 0, cs, rfl, fun j v hj => ⟨?_, ?_⟩, ?_⟩⟩
    · have hc0 := cell_of_heap (w := w.drew.alloc (.cells (cs.toArray ++ rest) e)) (b := w.heap.size) (heap_alloc_at w.drew _) j
      rw [Nat.zero_add, hc0]
      have hjl := (List.getElem?_eq_some_iff.1 hj).1
      simp only [Array.toList_append, List.getElem?_append_left (by simpa using hjl)]
      simpa using hj
    · exact hg1.fresh (Nat.le_refl _)
    · exact RXs.mono (fun b o v hc => (Evo.alloc hg1 _).cw b o v (he1.cw b o v hc)) _ _ hcs
include hg in
theorem grown_same {esz : Nat} {zs xs : List PV} {b cap : Nat} {K : PV → St → Prop} (h : e_grown st esz zs (some b) K) (h0 : 0 < esz) {arr : Array Value} {t : TypeId} (hb : st b = some (.vec esz xs cap)) (hh : w.heap[b]? = some (.cells arr t (0, 0)))
    {cs rest : List Value} (hcs : RXs (Cw w st) zs cs) (hel : ∀ x ∈ zs, elOK esz x) (hsz : cs.length + rest.length = cap * esz) (hcap : zs.length ≤ cap) (hml : cap ≤ maxLen) :
    ∃ p st', K p st' ∧ Evo w st (w.setRow b (cs ++ rest).toArray) st' ∧ Good (w.setRow b (cs ++ rest).toArray) st' ∧ RO (Cw (w.setRow b (cs ++ rest).toArray) st') p (.slice (some ⟨b, 0, none⟩) zs.length cap) := by
  rw [e_grown_eq] at h
  have hcl := RXs.length hcs (fun x hx => (hel x hx).1)
  have hheap := setRow_heap w b arr (cs ++ rest).toArray t (0, 0) hh
  rcases h with h | h
  · have hk := h b cap (.inl rfl) hcap
    simp only [oldOut, upd_del] at hk
    have he : Evo w st (w.setRow b (cs ++ rest).toArray) (upd st b (.vec esz zs cap)) := Evo.own hg hb rfl rfl rfl (by simp) (fun k _ hk => setRow_other w b k _ hk)
    refine ⟨.vsl b zs.length cap, _, hk, he, ?_, .inr (RX.rv (by simp [RX]) rfl)⟩
    refine Good.own hg hb he (fun k _ hk => setRow_other w b k _ hk) ⟨_, t, hheap, by simp; omega, hml, h0, hcap, hel, ?_⟩
    have : ((cs ++ rest).toArray.toList.take (zs.length * esz)) = cs := by rw [← hcl]; simp
    rw [this]
    exact RXs.mono he.cw _ _ hcs
  · have he : Evo w st (w.setRow b (cs ++ rest).toArray) (del st b) := ⟨rfl, rfl, rfl, by simp, fun k hk hn => by
      have hne : k ≠ b := fun e => by rw [e, hb] at hn; cases hn
      exact ⟨setRow_other w b k _ hne, by rw [del_ne _ hne]; exact hn⟩⟩
    have hg' : Good (w.setRow b (cs ++ rest).toArray) (del st b) := hg.next he fun k o hk => by
      have hne : k ≠ b := fun e => by rw [e, del_same] at hk; cases hk
      exact .inl ⟨del_sub st b k o hk, setRow_other w b k _ hne⟩
    refine ⟨.sl esz false zs, _, h, he, hg', .inr (RX.rv ?_ rfl)⟩
    simp only [RX]
    refine ⟨_, _, _, rfl, rfl, hcap, hml, (fun h => by cases h), hel, .inr ⟨b, 0, cs, rfl, fun j v hj => ⟨?_, del_same st b⟩, RXs.mono he.cw _ _ hcs⟩⟩
    rw [Nat.zero_add, cell_of_heap hheap]
    have hjl := (List.getElem?_eq_some_iff.1 hj).1
    simpa [List.getElem?_append_left hjl] using hj

include hg in
theorem elems_read {esz : Nat} {s : PV} {xs : List PV} {v : Value} (hv : RO (Cw w st) s v) (h : elems st esz s = some xs) : ∃ a cap cs, v = .slice a xs.length cap ∧ xs.length ≤ cap ∧ cap ≤ maxLen ∧ RXs (Cw w st) xs cs ∧ (∀ x ∈ xs, elOK esz x) ∧
    (xs = [] ∨ ∃ b off, a = some ⟨b, off, none⟩ ∧ ∀ j u, cs[j]? = some u → w.cell? ⟨b, off + j, none⟩ = some u) := by
  cases s <;> simp only [elems] at h <;> (try (cases h; done))
  case sl e full xs' =>
    split at h
    case isFalse => cases h
    rename_i he
    simp only [Option.some.injEq] at h
    subst h
    obtain ⟨a, cap, rfl, h1, h2, h3, h4, h5⟩ := RO_sl hv
    have hel : ∀ x ∈ xs', elOK esz x := by
      rcases he with rfl | rfl
      · exact h4
      · intro x hx; cases hx
    rcases h5 with rfl | ⟨b, off, cs, rfl, h6, h7⟩
    · exact ⟨a, cap, [], rfl, h1, h2, by simp [RXs], hel, .inl rfl⟩
    · exact ⟨_, cap, cs, rfl, h1, h2, h7, hel, .inr ⟨b, off, rfl, fun j u hj => (h6 j u hj).1⟩⟩
  case vsl b n cap =>
    obtain rfl := RO_vsl hv
    cases hb : st b with
    | none => rw [hb] at h; cases h
    | some o =>
      rw [hb] at h
      cases o <;> simp only at h <;> (try (cases h; done))
      rename_i e xs' cap'
      split at h
      case isFalse => cases h
      rename_i he
      obtain ⟨rfl, hn, rfl⟩ := he
      simp only [Option.some.injEq] at h
      subst h
      obtain ⟨arr, t, h1, h2, h3, h4, h5, h6, h7⟩ := hg b _ hb
      have hl : (xs'.take n).length = n := by rw [List.length_take]; omega
      exact ⟨_, _, _, by rw [hl], by rw [hl]; omega, h3, RXs.take h7 (fun x hx => (h6 x hx).1) n, fun x hx => h6 x (List.mem_of_mem_take hx), .inr ⟨b, 0, rfl, fun j u hj => by
        rw [Nat.zero_add, cell_of_heap h1]
        rw [List.getElem?_take] at hj
        split at hj
        · rw [List.getElem?_take] at hj
          split at hj
          · exact hj
          · cases hj
        · cases hj⟩⟩

theorem src_of {P : Program} {w : World} {C : Nat → Nat → Value → Prop} {esz : Nat} {u e' : TypeId} (hk : P.underlying u = some (.slice e')) {ys : List PV} {a : Option Addr} {cap : Nat} {ds : List Value} (hds : RXs C ys ds) (hel : ∀ x ∈ ys, elOK esz x)
    (hr : ys = [] ∨ ∃ b off, a = some ⟨b, off, none⟩ ∧ ∀ j u, ds[j]? = some u → w.cell? ⟨b, off + j, none⟩ = some u) : Src P esz u (.slice a ys.length cap) ys.length ds w := by
  rcases hr with rfl | ⟨b, off, rfl, hr⟩
  · simp only [RXs] at hds
    subst hds
    cases a with
    | none => exact Src.ofNil w hk cap
    | some a => exact Src.ofSlice w hk a 0 cap [] (by simp) (by intro j u h; simp at h) (by intro u h; cases h)
  · exact Src.ofSlice w hk _ _ cap ds (RXs.length hds (fun x hx => (hel x hx).1)) (fun j u hj => by rw [add_lit]; exact hr j u hj) (oneCells_els hds hel)
theorem run_append_room_row {P : Program} (w : World) (t tx ty e t0 : TypeId) (i : TypeInfo) (ht : P.underlying t = some (.slice e)) (hi : P.info? e = some i) (g sLen sCap : Nat) (cur : Array Value) (hgg : w.heap[g]? = some (.cells cur t0 (0, 0)))
    (x : Value) (n : Nat) (news : List Value) (hs : Src P i.size tx x n news w) (hroom : sLen + n ≤ sCap) (hfit : sLen * i.size + news.length ≤ cur.size) :
    (Builtin.append_ #[t, tx] ty #[.slice (some ⟨g, 0, none⟩) sLen sCap, x]).run P w =
      .ok (.slice (some ⟨g, 0, none⟩) (sLen + n) sCap) (w.setRow g (cur.toList.take (sLen * i.size) ++ news ++ cur.toList.drop (sLen * i.size + news.length)).toArray) := by
  have hst := run_storeCells_at P g (sLen * i.size) t0 news 0 cur w hgg (by simpa using hfit) hs.one
  simp only [Nat.add_zero] at hst
  rcases hs.kind with ⟨e', hk⟩ | hk <;> simp [Builtin.append_, run_underlying ht, run_underlying hk, sizeOf, typeInfo, hi, hs.len, hroom, hs.cells, Addr.add_lit, hst]
theorem firstCells_of {P : Program} {w : World} {C : Nat → Nat → Value → Prop} {esz : Nat} {xs : List PV} {a : Option Addr} {cap : Nat} {cs : List Value} (hcs : RXs C xs cs) (hel : ∀ x ∈ xs, elOK esz x)
    (hr : xs = [] ∨ ∃ b off, a = some ⟨b, off, none⟩ ∧ ∀ j u, cs[j]? = some u → w.cell? ⟨b, off + j, none⟩ = some u) : (Builtin.firstCells esz xs.length (.slice a xs.length cap)).run P w = .ok cs.toArray w := by
  rcases hr with rfl | ⟨b, off, rfl, hr⟩
  · simp only [RXs] at hcs
    subst hcs
    cases a with
    | none => exact run_firstCells_none w esz 0 0 cap
    | some a => exact run_firstCells_some w esz 0 a 0 cap [] (by simp) (by intro j u h; simp at h)
  · exact run_firstCells_some w esz _ _ _ cap cs (RXs.length hcs (fun x hx => (hel x hx).1)) (fun j u hj => by rw [add_lit]; exact hr j u hj)

include hT hg in
theorem append_sound {t e u ty : TypeId} {d de : TD} (hs : T t = some d) (hsh : d.shape = .slice e) (he : T e = some de) (h0 : de.size ≠ 0) (hb0 : de.bytes ≠ 0) {s y : PV} {vs vy : Value} (hvs : RO (Cw w st) s vs) (hvy : RO (Cw w st) y vy) {K : PV → St → Prop}
    (hut : t = u) (h : e_append st de.size de.bytes s y K) : ∃ p st' v w', (Builtin.append_ #[t, u] ty #[vs, vy]).run P w = .ok v w' ∧ K p st' ∧ Evo w st w' st' ∧ Good w' st' ∧ RO (Cw w' st') p v := by
  subst hut
  obtain ⟨td, hu1, hu2⟩ := (hT t d hs).under
  rw [hsh] at hu2
  simp only [ShpOK] at hu2
  subst hu2
  obtain ⟨i, hi, hsize, hbytes, z, hz, hzs, hzok, _⟩ := (hT e de he).info
  unfold e_append at h
  cases hxs : elems st de.size s with
  | none => rw [hxs] at h; exact h.elim
  | some xs =>
  cases hys : elems st de.size y with
  | none => rw [hxs, hys] at h; exact h.elim
  | some ys =>
  rw [hxs, hys] at h
  obtain ⟨hb, h⟩ := h
  obtain ⟨a, cap, cs, rfl, c1, c2, c3, c4, c5⟩ := elems_read hg hvs hxs
  obtain ⟨a', cap', ds, rfl, d1, d2, d3, d4, d5⟩ := elems_read hg hvy hys
  have hsrc : Src P i.size t (.slice a' ys.length cap') ys.length ds w := by rw [hsize]; exact src_of hu1 d3 d4 d5
  have hcl := RXs.length c3 (fun x hx => (c4 x hx).1)
  have hdl := RXs.length d3 (fun x hx => (d4 x hx).1)
  have hzz : RXs (Cw w st) (xs ++ ys) (cs ++ ds) := c3.append d3
  have hzel : ∀ x ∈ xs ++ ys, elOK de.size x := fun x hx => (List.mem_append.1 hx).elim (c4 x) (d4 x)
  have hlen : (xs ++ ys).length = xs.length + ys.length := List.length_append
  -- the arm that grows
  have grow : cap < xs.length + ys.length → ∀ old, e_grown st de.size (xs ++ ys) old K → ∃ p st' v w', (Builtin.append_ #[t, t] ty #[.slice a xs.length cap, .slice a' ys.length cap']).run P w = .ok v w' ∧ K p st' ∧ Evo w st w' st' ∧ Good w' st' ∧ RO (Cw w' st') p v := by
    intro hgrow old hk
    have hb' : (xs.length + ys.length) * i.bytes ≤ 140737488355328 := by rw [hbytes]; exact hb
    have hn : xs.length + ys.length ≤ 140737488355328 := Nat.le_trans (Nat.le_mul_of_pos_right _ (by omega)) hb'
    have hfc := firstCells_of (P := P) (w := w.drew) (cap := cap) c3 c4 (by simpa using c5)
    rw [← hsize] at hfc
    have hrun := run_append_grow_src (P := P) w t t ty e i z hu1 hi hz a xs.length cap cs hfc _ _ _ hsrc hgrow (by omega) (growslice_fits hgrow hb')
    have hge := grownCap_ge w (xs.length + ys.length) cap e
    have hcm : grownCap w (xs.length + ys.length) cap e ≤ maxLen := grownCap_le_maxLen w _ cap e (by simp only [maxLen]; omega)
    have hzc : (Builtin.zeroCells z.cells (grownCap w (xs.length + ys.length) cap e - (xs.length + ys.length))).size = (grownCap w (xs.length + ys.length) cap e - (xs.length + ys.length)) * de.size := by rw [size_zeroCells, hzs]
    obtain ⟨p, st', k1, k2, k3, k4⟩ := grown_new (w := w) hg hk (by omega) (rest := Builtin.zeroCells z.cells (grownCap w (xs.length + ys.length) cap e - (xs.length + ys.length))) (e := e) (cap := grownCap w (xs.length + ys.length) cap e) hzz hzel
      (by rw [List.length_append, hcl, hdl, hzc, ← Nat.add_mul, ← Nat.add_mul]; congr 1; omega) (by rw [hlen]; exact hge) hcm
    refine ⟨p, st', _, _, hrun, k1, k2, k3, ?_⟩
    rw [hlen] at k4
    exact k4
  cases s <;> simp only at h <;> (try (exact h.elim))
  case sl e' full xs' =>
    obtain ⟨hfull, hnil, hcons⟩ := h
    have hxs' : xs' = xs := by
      simp only [elems] at hxs
      split at hxs
      · exact Option.some.inj hxs
      · cases hxs
    subst hxs'
    obtain ⟨a2, cap2, e2, r1, r2, r3, r4⟩ := RO_sl hvs
    simp only [Value.slice.injEq, true_and] at e2
    obtain ⟨rfl, rfl⟩ := e2
    have hcap := r3 hfull
    subst hcap
    by_cases hy : ys = []
    · subst hy
      simp only [RXs] at d3
      subst d3
      refine ⟨_, _, _, w, ?_, hnil rfl, Evo.refl w st, hg, hvs⟩
      have hl0 := hsrc.len w
      have hc0 := hsrc.cells
      simp only [List.length_nil] at hl0 hc0 ⊢
      rcases hsrc.kind with ⟨e', hk⟩ | hk
      · cases a with
        | none => simp [Builtin.append_, run_underlying hu1, sizeOf, typeInfo, hi, hl0, hc0]
        | some a => simp [Builtin.append_, run_underlying hu1, sizeOf, typeInfo, hi, hl0, hc0, storeCells]
      · rw [hu1] at hk; cases hk
    · exact grow (by have := List.length_pos_iff.2 hy; omega) none (hcons hy)
  case vsl b n cap2 =>
    have hv2 := RO_vsl hvs
    simp only [Value.slice.injEq] at hv2
    obtain ⟨rfl, rfl, rfl⟩ := hv2
    by_cases hroom : xs.length + ys.length ≤ cap
    · -- in place
      simp only [elems] at hxs
      cases hbb : st b with
      | none => rw [hbb] at hxs; cases hxs
      | some o =>
      rw [hbb] at hxs
      cases o <;> simp only at hxs <;> (try (cases hxs; done))
      rename_i e2 xs2 cap3
      split at hxs
      case isFalse => cases hxs
      rename_i hc
      obtain ⟨rfl, hnx, rfl⟩ := hc
      simp only [Option.some.injEq] at hxs
      obtain ⟨arr, t0, h1, h2, h3, h4, h5, h6, h7⟩ := hg b _ hbb
      have hrun := run_append_room_row (P := P) w t t ty e t0 i hu1 hi b xs.length cap3 arr h1 _ _ _ hsrc hroom (by
        rw [hdl, hsize, h2, ← Nat.add_mul]; exact Nat.mul_le_mul_right _ hroom)
      rw [hsize] at hrun
      have hxe : ∀ x ∈ xs, elOK de.size x := fun x hx => by rw [← hxs] at hx; exact h6 x (List.mem_of_mem_take hx)
      have hct : RXs (Cw w st) xs (arr.toList.take (xs.length * de.size)) := by
        have := RXs.take h7 (fun x hx => (h6 x hx).1) xs.length
        rw [hxs, List.take_take, Nat.min_eq_left (Nat.mul_le_mul_right _ hnx)] at this
        exact this
      have hctl := RXs.length hct (fun x hx => (hxe x hx).1)
      obtain ⟨p, st', k1, k2, k3, k4⟩ := grown_same (w := w) hg h (by omega) hbb h1 (cs := arr.toList.take (xs.length * de.size) ++ ds) (rest := arr.toList.drop (xs.length * de.size + ds.length)) (hct.append d3) hzel (by
        have hfit : xs.length * de.size + ds.length ≤ cap3 * de.size := by rw [hdl, ← Nat.add_mul]; exact Nat.mul_le_mul_right _ hroom
        simp only [List.length_append, List.length_take, List.length_drop, Array.length_toList, h2]
        omega) (by rw [hlen]; exact hroom) h3
      refine ⟨p, st', _, _, hrun, k1, k2, k3, ?_⟩
      rw [hlen] at k4
      exact k4
    · exact grow (by omega) (some b) h

theorem madeCells_cells {C : Nat → Nat → Value → Prop} {z : PV} {zv : Array Value} {e : Nat} (hz : RX C z zv.toList) (he : zv.size = e) (h0 : 0 < e) : ∀ (n : Nat), RXs C (List.replicate n z) ((List.range (n * e)).map (fun k => zv[k % zv.size]!))
  | 0 => by simp [RXs]
  | n + 1 => by
    have ih := madeCells_cells hz he h0 n
    simp only [List.replicate_succ, RXs]
    refine ⟨zv.toList, _, ?_, hz, ih⟩
    have e1 : (n + 1) * e = e + n * e := by rw [Nat.add_mul, Nat.one_mul, Nat.add_comm]
    rw [e1, List.range_add, List.map_append, List.map_map]
    congr 1
    · apply List.ext_getElem?
      intro j
      rw [List.getElem?_map]
      by_cases hj : j < e
      · rw [List.getElem?_range hj]
        simp only [Option.map_some]
        rw [Nat.mod_eq_of_lt (by omega), getElem!_pos zv j (by omega), Array.getElem?_toList, Array.getElem?_eq_getElem (by omega)]
      · rw [List.getElem?_eq_none (by simp; omega), List.getElem?_eq_none (by simp; omega)]
        rfl
    · apply List.map_congr_left
      intro k _
      simp only [Function.comp]
      have : (e + k) % zv.size = k % zv.size := by rw [he, Nat.add_mod_left]
      rw [this]
include hT hg in
theorem make_sound {t e : TypeId} {d de : TD} (hs : T t = some d) (hsh : d.shape = .slice e) (he : T e = some de) {l c : PV} {vl vc : Value} (hl : RO (Cw w st) l vl) (hc : RO (Cw w st) c vc) {K : PV → St → Prop}
    (h : e_make st de.size de.bytes (elZ de) l c K) : ∃ p st' v w', (Instr.makeSlice t vl vc).run P w = .ok v w' ∧ K p st' ∧ Evo w st w' st' ∧ Good w' st' ∧ RO (Cw w' st') p v := by
  obtain ⟨td, hu1, hu2⟩ := (hT t d hs).under
  rw [hsh] at hu2
  simp only [ShpOK] at hu2
  subst hu2
  obtain ⟨i, hi, hsize, hbytes, z, hz, hzs, hzok, _⟩ := (hT e de he).info
  obtain ⟨hn, hcl, h0, h⟩ := h
  cases l <;> simp only at h <;> (try (exact h.elim))
  rename_i kl ln
  cases c <;> simp only at h <;> (try (exact h.elim))
  rename_i kc cn
  obtain ⟨h1, h2, h3, h4, hk⟩ := h
  obtain rfl := RO_int hl
  obtain rfl := RO_int hc
  have hrun := run_make (P := P) w t e i z hu1 hi hz kl kc ln cn h1 h2 (by rw [hbytes]; exact h3) (by omega)
  have hrx : RX (Cw w st) (elZ de) z.cells.toList := elZ_sound hzok hzs hn hcl
  have hob : Evo w st (w.alloc (.cells (madeCells z.cells (cn.toNat * i.size)) e)) (upd st w.heap.size (.vec de.size (List.replicate ln.toNat (elZ de)) cn.toNat)) := Evo.allocOwn hg _ _
  refine ⟨_, _, _, _, hrun, hk w.heap.size (hg.fresh (Nat.le_refl _)), hob, hg.allocOwn _ _ ⟨_, e, heap_alloc_at w _, by simp [madeCells, hsize], by simp only [maxLen]; omega, h0, by simp; omega, ?_, ?_⟩, .inr (RX.rv (by simp [RX]) rfl)⟩
  · intro x hx
    obtain ⟨_, rfl⟩ := List.mem_replicate.1 hx
    exact ⟨hn, hcl⟩
  · have hall := madeCells_cells hrx hzs h0 cn.toNat
    have hpre := RXs.take hall (fun x hx => by obtain ⟨_, rfl⟩ := List.mem_replicate.1 hx; exact hn) ln.toNat
    rw [List.take_replicate, Nat.min_eq_left (by omega)] at hpre
    have e1 : (madeCells z.cells (cn.toNat * i.size)).toList = (List.range (cn.toNat * de.size)).map (fun k => z.cells[k % z.cells.size]!) := by
      rw [hsize]; simp [madeCells]
    rw [e1, List.length_replicate]
    exact RXs.mono hob.cw _ _ hpre
end
end Go.H
namespace Go.H
open Go
set_option linter.unusedVariables false
set_option linter.unusedSectionVars false
set_option linter.unusedSimpArgs false

section
variable {P : Program} {T : TypeId → Option TD} (hT : TyOK P T) {w : World} {st : St} (hg : Good w st)

theorem putP_now {C : Nat → Nat → Value → Prop} {ks : Shp} {td : TypeDesc} {k x : PV} {v u : Value} (hs : ShpOK ks td) (hk : keyM ks k = true) (hv : RO C k v) (hu : RV C x u) : ∀ {kvs : List (PV × PV)} {es : List MapEntry} (i : Nat) {r : List (PV × PV)}, RMs C kvs es → putP k x kvs = some r →
    (Instr.findNow td v es i = some none ∧ ∀ c, RMs C r (es ++ [{ key := v, val := u, born := c }])) ∨
    (∃ j u' e, Instr.findNow td v es i = some (some (i + j, u')) ∧ es[j]? = some e ∧ e.key = v ∧ RMs C r (es.modify j fun e => { e with key := v, val := u }))
  | [], es, i, r, hm, h => by
    simp only [putP, Option.some.injEq] at h
    simp only [RMs] at hm
    subst h hm
    left
    refine ⟨rfl, fun c => ⟨_, _, rfl, ?_, hu, rfl⟩⟩
    exact hv.rv (by cases ks <;> cases k <;> simp [keyM] at hk <;> rfl)
  | kv :: kvs, _, i, r, ⟨e, es', he, h1, h2, h3⟩, h => by
    subst he
    simp only [putP] at h
    cases hb : keyEq k kv.1 with
    | none => rw [hb] at h; cases h
    | some b =>
      rw [hb] at h
      obtain ⟨hn, hsame⟩ := keyEq_now hs hk hv h1 hb
      cases b with
      | true =>
        simp only [Option.some.injEq] at h
        subst h
        have hke := hsame rfl
        refine .inr ⟨0, e.val, e, by simp [Instr.findNow, hn], rfl, hke, ?_⟩
        refine ⟨_, es', rfl, ?_, hu, h3⟩
        simp only
        rw [← hke]
        exact h1
      | false =>
        simp only at h
        cases hr : putP k x kvs with
        | none => rw [hr] at h; cases h
        | some r' =>
          rw [hr] at h
          simp only [Option.some.injEq] at h
          subst h
          rcases putP_now hs hk hv hu (i + 1) h3 hr with ⟨h4, h5⟩ | ⟨j, u', e0, h4, h5, h6, h7⟩
          · exact .inl ⟨by simp [Instr.findNow, hn, h4], fun c => ⟨e, _, rfl, h1, h2, h5 c⟩⟩
          · exact .inr ⟨j + 1, u', e0, by simp [Instr.findNow, hn, h4]; omega, h5, h6, ⟨e, _, by simp [List.modify_succ_cons], h1, h2, h7⟩⟩

include hg in
theorem mkmap_sound {t : TypeId} {K : PV → St → Prop} (h : e_mkmap st K) : ∃ p st' v w', (Instr.makeMap t none).run P w = .ok v w' ∧ K p st' ∧ Evo w st w' st' ∧ Good w' st' ∧ RO (Cw w' st') p v := by
  have hob : Evo w st (w.alloc (.map #[] 0)) (upd st w.heap.size (.map [])) := Evo.allocOwn hg _ _
  refine ⟨_, _, .map (some w.heap.size), w.alloc (.map #[] 0), rfl, h w.heap.size (hg.fresh (Nat.le_refl _)), hob, hg.allocOwn _ _ ⟨#[], 0, heap_alloc_at w _, by simp [RMs]⟩, .inr (RX.rv (by simp [RX]) rfl)⟩

include hT hg in
theorem mapset_sound {t kt et : TypeId} {d dk : TD} (hs : T t = some d) (hsh : d.shape = .map kt et) (hdk : T kt = some dk) {m k x : PV} {vm vk vx : Value} (hm : RO (Cw w st) m vm) (hk : RO (Cw w st) k vk) (hx : RO (Cw w st) x vx) {K : St → Prop}
    (h : e_mapset st dk.shape m k x K) : ∃ st' w', (Instr.mapUpdate t vm vk vx).run P w = .ok () w' ∧ K st' ∧ Evo w st w' st' ∧ Good w' st' := by
  obtain ⟨td, h1, h2⟩ := (hT t d hs).under
  rw [hsh] at h2
  simp only [ShpOK] at h2
  subst h2
  obtain ⟨tk, h3, h4⟩ := (hT kt dk hdk).under
  unfold e_mapset at h
  split at h
  case isFalse => exact h.elim
  rename_i hc
  obtain ⟨hkm, hxj⟩ := hc
  have hkey := keyM_key h4 hkm hk
  have hxv := hx.rv hxj
  cases m <;> simp only at h <;> (try (exact h.elim))
  rename_i b
  cases hb : st b with
  | none => rw [hb] at h; exact h.elim
  | some o =>
  rw [hb] at h
  cases o <;> simp only at h <;> (try (exact h.elim))
  rename_i kvs
  cases hp : putP k x kvs with
  | none => rw [hp] at h; exact h.elim
  | some kvs' =>
  rw [hp] at h
  simp only at h
  obtain ⟨es, clock, r1, r2⟩ := hg b _ hb
  have hvm : vm = .map (some b) := by
    rcases hm with hm | hm
    · cases hm
    · have := hm.scalar rfl
      simpa [RX] using this
  subst hvm
  have hlt : b < w.heap.size := (Array.getElem?_eq_some_iff.1 r1).1
  have fin : ∀ (es' : Array MapEntry) (clock' : Nat), (Instr.mapUpdate t (.map (some b)) vk vx).run P w = .ok () { w with heap := w.heap.setIfInBounds b (.map es' clock') } → RMs (Cw w st) kvs' es'.toList →
      ∃ st' w', (Instr.mapUpdate t (.map (some b)) vk vx).run P w = .ok () w' ∧ K st' ∧ Evo w st w' st' ∧ Good w' st' := by
    intro es' clock' hrun hrm
    obtain ⟨s1, s2⟩ := MapKept.heap_set (o' := .map es' clock') r1
    have he : Evo w st { w with heap := w.heap.setIfInBounds b (.map es' clock') } (upd st b (.map kvs')) := Evo.own hg hb rfl rfl rfl (by simp) (fun k _ hk => s2 k hk)
    exact ⟨_, _, hrun, h, he, Good.own hg hb he (fun k _ hk => s2 k hk) ⟨es', clock', s1, RMs.mono he.cw hrm⟩⟩
  rcases putP_now h4 hkm hk hxv 0 r2 hp with ⟨h5, h6⟩ | ⟨j, u', e, h5, h6, h7, h8⟩
  · refine fin (es.push { key := vk, val := vx, born := clock }) (clock + 1) ?_ (by simpa using h6 clock)
    unfold Instr.mapUpdate
    simp [h1, run_underlying h1, Result.andThen_ok, MapKept.run_getObj_map r1, Sem.run_pure, MapKept.run_checkKey h3 hkey, MapKept.run_findKey h3 h5, MapKept.run_setObj_map _ r1]
  · refine fin (es.modify j fun e => { e with key := vk, val := vx }) clock ?_ (by simpa using h8)
    have hej : es[j]? = some e := by simpa using h6
    simp only [Nat.zero_add] at h5
    unfold Instr.mapUpdate
    simp [run_underlying h1, Result.andThen_ok, MapKept.run_getObj_map r1, Sem.run_pure, MapKept.run_checkKey h3 hkey, MapKept.run_findKey h3 h5, hej, h7, MapKept.run_keyThatStays hkey, MapKept.run_setObj_map _ r1]
end
end Go.H
namespace Go.H
open Go
set_option linter.unusedVariables false
set_option linter.unusedSectionVars false
set_option linter.unusedSimpArgs false

section
variable {P : Program} {T : TypeId → Option TD} (hT : TyOK P T) {w : World} {st : St} (hg : Good w st)

include hg in
theorem alloc_cells {cs : List PV} {arr : Array Value} {t : TypeId} (h : RCs (Cw w st) cs arr.toList) :
    Evo w st (w.alloc (.cells arr t)) (upd st w.heap.size (.cells cs)) ∧ Good (w.alloc (.cells arr t)) (upd st w.heap.size (.cells cs)) := by
  have he := Evo.allocOwn hg (.cells arr t) (.cells cs)
  exact ⟨he, hg.allocOwn _ _ ⟨arr, t, heap_alloc_at w _, RCs.mono he.cw _ _ h⟩⟩

theorem setRange_len {vs us : List PV} {off : Nat} (h : off + us.length ≤ vs.length) : (setRange vs off us).length = vs.length := by
  unfold setRange
  simp only [List.length_append, List.length_take, List.length_drop]
  omega
theorem setRange_rc {C : Nat → Nat → Value → Prop} {vs us : List PV} {as bs : List Value} {off : Nat} (h : RCs C vs as) (h' : RCs C us bs) (hl : off + us.length ≤ vs.length) :
    RCs C (setRange vs off us) (as.take off ++ bs ++ as.drop (off + bs.length)) := by
  unfold setRange
  rw [RCs.length h']
  exact ((h.take off).append h').append (h.drop _)

theorem RXs.set {C : Nat → Nat → Value → Prop} {e : Nat} : ∀ {xs : List PV} {vs : List Value}, RXs C xs vs → (∀ x ∈ xs, x.ncells = e) → ∀ (i : Nat) (y : PV) (cs : List Value), RX C y cs → y.ncells = e → i < xs.length →
    RXs C (xs.set i y) (vs.take (i * e) ++ cs ++ vs.drop (i * e + e))
  | [], _, _, _, i, y, cs, _, _, hi => by simp at hi
  | x :: xs, _, h, he, i, y, cs, hy, hye, hi => by
    simp only [RXs] at h
    obtain ⟨c1, c2, rfl, h1, h2⟩ := h
    have hl := (RX.length h1).trans (he x (by simp))
    cases i with
    | zero =>
      simp only [List.set_cons_zero, RXs, Nat.zero_mul, List.take_zero, List.nil_append, Nat.zero_add]
      refine ⟨cs, c2, ?_, hy, h2⟩
      rw [List.drop_append, hl, Nat.sub_self, List.drop_zero, List.drop_of_length_le (by omega), List.nil_append]
    | succ i =>
      have ih := RXs.set h2 (fun z hz => he z (by simp [hz])) i y cs hy hye (by simpa using hi)
      simp only [List.set_cons_succ, RXs]
      refine ⟨c1, _, ?_, h1, ih⟩
      have e1 : (i + 1) * e = e + i * e := by rw [Nat.add_mul, Nat.one_mul, Nat.add_comm]
      rw [e1]
      have t1 : (c1 ++ c2).take (e + i * e) = c1 ++ c2.take (i * e) := by
        rw [List.take_append, hl, show e + i * e - e = i * e by omega, List.take_of_length_le (by omega)]
      have d1 : (c1 ++ c2).drop (e + i * e + e) = c2.drop (i * e + e) := by
        rw [List.drop_append, hl, show e + i * e + e - e = i * e + e by omega, List.drop_of_length_le (by omega), List.nil_append]
      rw [t1, d1]
      simp [List.append_assoc]

include hT hg in
theorem store_sound {t : TypeId} {d : TD} (ht : T t = some d) {pa x : PV} {va vx : Value} (ha : RO (Cw w st) pa va) (hx : RO (Cw w st) x vx) {K : St → Prop} (h : e_store st d.size pa x K) :
    ∃ st' w', (Instr.storeAt t va vx).run P w = .ok () w' ∧ K st' ∧ Evo w st w' st' ∧ Good w' st' := by
  unfold e_store at h
  split at h
  case isFalse => exact h.elim
  rename_i hc
  obtain ⟨h1, h2, h3⟩ := hc
  have hv := hx.rv h3
  have hsz := hv.size
  have hcs := hv.cellsRC
  have hone := oneCells_of hcs h1
  cases pa <;> simp only at h <;> (try (exact h.elim))
  case ptr b off =>
    obtain rfl := RO_ptr ha
    cases hb : st b with
    | none => rw [hb] at h; exact h.elim
    | some o =>
    rw [hb] at h
    cases o <;> simp only at h <;> (try (exact h.elim))
    rename_i vs
    split at h
    case isFalse => exact h.elim
    rename_i hfit
    obtain ⟨arr, t0, r1, r2⟩ := hg b _ hb
    have hl := RCs.length r2
    have hst := run_storeCells_at P b off t0 vx.cells.toList 0 arr w r1 (by simp at hl ⊢; omega) hone
    simp only [Nat.add_zero] at hst
    have he : Evo w st (w.setRow b (arr.toList.take off ++ vx.cells.toList ++ arr.toList.drop (off + vx.cells.toList.length)).toArray) (upd st b (.cells (setRange vs off x.cells))) :=
      Evo.own hg hb rfl rfl rfl (by simp) (fun k _ hk => setRow_other w b k _ hk)
    refine ⟨_, _, ?_, h, he, Good.own hg hb he (fun k _ hk => setRow_other w b k _ hk) ⟨_, t0, setRow_heap w b arr _ t0 (0, 0) r1, ?_⟩⟩
    · simp only [Instr.storeAt, Instr.sureAddr, storeVar, pure_bind]
      rw [Sem.run_bind, run_sizeOf' hT ht]
      simp only [Result.andThen_ok]
      rw [if_neg (by omega)]
      exact hst
    · have := setRange_rc (off := off) r2 hcs (by rw [ncells_cells]; omega)
      exact RCs.mono he.cw _ _ (by simpa using this)
  case eptr b e i r =>
    obtain rfl := RO_eptr ha
    cases hb : st b with
    | none => rw [hb] at h; exact h.elim
    | some o =>
    rw [hb] at h
    cases o <;> simp only at h <;> (try (exact h.elim))
    rename_i e' xs cap
    split at h
    case isFalse => exact h.elim
    rename_i hee
    subst hee
    cases hxi : xs[i]? with
    | none => rw [hxi] at h; exact h.elim
    | some y =>
    rw [hxi] at h
    have hil := (List.getElem?_eq_some_iff.1 hxi).1
    obtain ⟨arr, t0, r1, r2, r3, r4, r5, r6, r7⟩ := hg b _ hb
    have hye := (r6 y (List.mem_of_getElem? hxi))
    have hie : i * e' + e' ≤ xs.length * e' := by rw [← Nat.succ_mul]; exact Nat.mul_le_mul_right _ hil
    have hxe : xs.length * e' ≤ cap * e' := Nat.mul_le_mul_right _ r5
    have hyn := hye.1
    obtain ⟨ycs, y1, y2, y3⟩ := RXs.at r7 (fun z hz => (r6 z hz).1) i y hxi
    have hcl : vx.cells.toList.length = d.size := by simp; omega
    -- what is asked of the element that is turned
    have key : ∀ y', r + d.size ≤ e' → elOK e' y' → RX (Cw w st) y' (ycs.take r ++ vx.cells.toList ++ ycs.drop (r + vx.cells.toList.length)) → K (upd st b (.vec e' (xs.set i y') cap)) →
        ∃ st' w', (Instr.storeAt t (.pointer (some ⟨b, i * e' + r, none⟩)) vx).run P w = .ok () w' ∧ K st' ∧ Evo w st w' st' ∧ Good w' st' := by
      intro y' hfit hel hrx hk
      have hst := run_storeCells_at P b (i * e' + r) t0 vx.cells.toList 0 arr w r1 (by omega) hone
      simp only [Nat.add_zero] at hst
      have he : Evo w st (w.setRow b (arr.toList.take (i * e' + r) ++ vx.cells.toList ++ arr.toList.drop (i * e' + r + vx.cells.toList.length)).toArray) (upd st b (.vec e' (xs.set i y') cap)) :=
        Evo.own hg hb rfl rfl rfl (by simp) (fun k _ hk => setRow_other w b k _ hk)
      refine ⟨_, _, ?_, hk, he, Good.own hg hb he (fun k _ hk => setRow_other w b k _ hk) ⟨_, t0, setRow_heap w b arr _ t0 (0, 0) r1, ?_, r3, r4, by simpa using r5, ?_, ?_⟩⟩
      · simp only [Instr.storeAt, Instr.sureAddr, storeVar, pure_bind]
        rw [Sem.run_bind, run_sizeOf' hT ht]
        simp only [Result.andThen_ok]
        rw [if_neg (by omega)]
        exact hst
      · simp only [List.size_toArray, List.length_append, List.length_take, List.length_drop, Array.length_toList]
        omega
      · intro z hz
        rcases List.mem_or_eq_of_mem_set hz with h | h
        · exact r6 z h
        · exact h ▸ hel
      · have hset := RXs.set r7 (fun z hz => (r6 z hz).1) i y' _ hrx hel.1 hil
        have hlist : (arr.toList.take (i * e' + r) ++ vx.cells.toList ++ arr.toList.drop (i * e' + r + vx.cells.toList.length)).toArray.toList.take ((xs.set i y').length * e') =
            (arr.toList.take (xs.length * e')).take (i * e') ++ (ycs.take r ++ vx.cells.toList ++ ycs.drop (r + vx.cells.toList.length)) ++ (arr.toList.take (xs.length * e')).drop (i * e' + e') := by
          apply List.ext_getElem?
          intro j
          have ylook : ∀ q, q < e' → ycs[q]? = arr.toList[i * e' + q]? := by
            intro q hq
            have hq' : q < ycs.length := by omega
            have := y3 q ycs[q] (List.getElem?_eq_getElem hq')
            rw [List.getElem?_take] at this
            split at this
            · rw [this, List.getElem?_eq_getElem hq']
            · cases this
          simp only [List.length_set, List.getElem?_take, List.getElem?_append, List.length_append, List.length_take, List.length_drop, Array.length_toList, List.getElem?_drop]
          have m1 : min (i * e') (min (xs.length * e') arr.size) = i * e' := by omega
          have m2 : min r ycs.length = r := by omega
          have m3 : min (i * e' + r) arr.size = i * e' + r := by omega
          simp only [m1, m2, m3]
          by_cases c1 : j < i * e'
          · rw [if_pos (by omega), if_pos (by omega), if_pos (by omega), if_pos (by omega), if_pos (by omega), if_pos (by omega), if_pos (by omega), if_pos (by omega)]
          · by_cases c2 : j < i * e' + r
            · rw [if_pos (by omega), if_pos (by omega), if_pos (by omega), if_pos (by omega), if_pos (by omega), if_neg (by omega), if_pos (by omega), if_pos (by omega), if_pos (by omega), ylook _ (by omega)]
              congr 1
              omega
            · by_cases c3 : j < i * e' + r + vx.cells.toList.length
              · rw [if_pos (by omega), if_pos (by omega), if_neg (by omega), if_pos (by omega), if_neg (by omega), if_pos (by omega), if_neg (by omega)]
                congr 1
                omega
              · by_cases c4 : j < i * e' + e'
                · rw [if_pos (by omega), if_neg (by omega), if_pos (by omega), if_neg (by omega), if_neg (by omega), ylook _ (by omega)]
                  congr 1
                  omega
                · by_cases c5 : j < xs.length * e'
                  · rw [if_pos c5, if_neg (by omega), if_neg (by omega), if_pos (by omega)]
                    congr 1
                    omega
                  · rw [if_neg c5, if_neg (by omega), if_neg (by omega)]
        rw [hlist]
        exact RXs.mono he.cw _ _ hset
    cases hyy : y with
    | agg cs =>
      rw [hyy] at h
      simp only at h
      split at h
      case isFalse => exact h.elim
      rename_i hfit
      subst hyy
      have hlcs : cs.length = e' := hye.1
      have hxl : x.cells.length = d.size := by rw [ncells_cells]; exact h2
      refine key _ (by omega) ⟨?_, ?_⟩ ?_ h
      · show (setRange cs r x.cells).length = e'
        rw [setRange_len (by omega)]
        exact hlcs
      · show (setRange cs r x.cells).all PV.cellOK = true
        have := hye.2
        simp only [PV.cells] at this
        unfold setRange
        simp only [List.all_append, Bool.and_eq_true]
        exact ⟨⟨List.all_eq_true.2 fun z hz => List.all_eq_true.1 this z (List.mem_of_mem_take hz), h1⟩, List.all_eq_true.2 fun z hz => List.all_eq_true.1 this z (List.mem_of_mem_drop hz)⟩
      · simp only [RX] at y1 ⊢
        exact setRange_rc y1 hcs (by omega)
    | _ =>
      all_goals
        rw [hyy] at h
        simp only at h
        split at h
        case isFalse => exact h.elim
        rename_i hc2
        obtain ⟨c1, c2, c3⟩ := hc2
        subst hyy
        simp only [PV.ncells] at hyn
        subst c1
        refine key x (by omega) ⟨by omega, h1⟩ ?_ h
        rw [List.take_zero, List.nil_append, List.drop_of_length_le (by omega), List.append_nil]
        exact hv.2

theorem y_litOwn (hT : TyOK P T) (hg : Good w st) {ρ : Operand → PV} {ev : Operand → Value} (hρ : ∀ x, RO (Cw w st) (ρ x) (ev x)) {t e : TypeId} {d de : TD} (hs : T t = some d) (hsh : d.shape = .slice e) (he : T e = some de) (h0 : de.size ≠ 0) {len : Nat} (hpos : 0 < len) (hlen : ¬ 16777216 < len * de.size)
    {parts : Array (Nat × Operand)} {xs : List PV} (hq : q_lit de.size len 0 [] (parts.toList.map fun x => (x.1, ρ x.2)) = some (.sl de.size true xs)) :
    ∃ b w', (Instr.buildSlice t len (parts.map fun (i, x) => (i, ev x))).run P w = .ok (.slice (some ⟨b, 0, none⟩) len len) w' ∧ st b = none ∧ Evo w st w' (upd st b (.vec de.size xs len)) ∧ Good w' (upd st b (.vec de.size xs len)) := by
  obtain ⟨td, h1, h2⟩ := run_under' hT hs w
  rw [hsh] at h2
  simp only [ShpOK] at h2
  subst h2
  obtain ⟨z, h4, h5, h6⟩ := run_zero' hT he w
  have hsz0 : ((Array.range (len * de.size)).map (fun k => z.cells[k % z.cells.size]!)).size = len * de.size := by simp
  obtain ⟨cells', xs', r1, r2, r3, r4, r5, r6⟩ := lit_sound hρ de.size len (by omega) parts.toList 0 [] ((Array.range (len * de.size)).map (fun k => z.cells[k % z.cells.size]!)) _ hsz0 (Nat.zero_le _) rfl (by intro x hx; cases hx) (by simp [RXs]) hq
  obtain rfl : xs = xs' := by cases r2; rfl
  have hl : (Array.map (fun (x : Nat × Operand) => (x.1, ev x.2)) parts).toList = parts.toList.map (fun x => (x.1, ev x.2)) := by simp
  refine ⟨w.heap.size, w.alloc (.cells cells' e), ?_, hg.fresh (Nat.le_refl _), Evo.allocOwn hg _ _, Good.allocOwn hg _ _ ?_⟩
  · unfold Instr.buildSlice
    simp only [Sem.run_bind, h1, Result.andThen_ok, run_sizeOf' hT he]
    rw [Sem.run_ite]
    have hn : ¬ (len * de.size > 2 ^ 24) := by simpa using hlen
    rw [if_neg hn]
    have hz : len * de.size ≠ 0 := Nat.mul_ne_zero (by omega) h0
    simp only [hz, if_false, Sem.run_bind, h4, Result.andThen_ok, Sem.run_pure]
    simp only [hl, r1]
    simp [newRow]
  · have hml : len ≤ maxLen := by
      have : len ≤ len * de.size := Nat.le_mul_of_pos_right _ (by omega)
      simp only [maxLen]
      omega
    refine ⟨cells', e, heap_alloc_at w _, r5, hml, by omega, by omega, r4, ?_⟩
    rw [List.take_of_length_le (by rw [r3, Array.length_toList, r5]; exact Nat.le_refl _)]
    exact RXs.mono (Evo.allocOwn hg _ _).cw _ _ r6
theorem q_lit_shape {esz len : Nat} : ∀ {ps : List (Nat × PV)} {i : Nat} {acc : List PV} {e : Nat} {f : Bool} {xs : List PV}, q_lit esz len i acc ps = some (.sl e f xs) → e = esz ∧ f = true
  | [], i, acc, e, f, xs, h => by
    simp only [q_lit] at h
    split at h
    · cases h; exact ⟨rfl, rfl⟩
    · cases h
  | (j, p) :: rest, i, acc, e, f, xs, h => by
    simp only [q_lit] at h
    split at h
    · exact q_lit_shape h
    · cases h
theorem enter_run {P : Program} {g : FuncId} (h : Enters P g) (args : Array Value) (w : World) : (callFunc g args).run P w = .ok (.enter g args) w := by
  obtain ⟨fn, h1, h2, h3⟩ := h
  have hb : ¬ fn.body = none := by cases hbb : fn.body with | none => rw [hbb] at h2; cases h2 | some c => simp
  have h3' : ¬ fn.name = "runtime.NumGoroutine" := by simpa using h3
  simp [callFunc, h1]
  rw [if_neg h3', if_neg hb]

def fw (r : Option Nat) : Fence := { fn := fun _ => True, depth := none, alive := false, round := r }
theorem callsIn_fw {P : Program} {r : Option Nat} {n : Nat} {f : FuncId} {args : Array Value} {w : World} {R : Ending → World → Prop} (h : Calls P f args w R) : CallsIn (fw r) n P f args w R := callsIn_wide.2 h
theorem roundIn_fw {P : Program} {r : Option Nat} {n m : Nat} {l f : Nat} {tmps : Array Value} {x y : Code} {w : World} {R : Ending → World → Prop} (h : RoundIn Fence.wide n P l f tmps x y w R) : RoundIn (fw r) m P l f tmps x y w R :=
  ⟨trivial, fun c cs _ => h.2 c cs (room_wide _)⟩
def opWp (r : Option Nat) (P : Program) (o : Oper) (a : Act) (w : World) (next : Act → World → Prop) (Q : Exit → Act → World → Prop) : Prop :=
  o.uponIn (fw r) 0 P a next Q ((execOp a.eval o).run P w)
def notDefer (o : Op) : Bool := match o with | .defer _ => false | _ => true
theorem opWp_in {r : Option Nat} {P : Program} {o : Oper} {a : Act} {w : World} {next : Act → World → Prop} {Q : Exit → Act → World → Prop} (hd : notDefer o.op = true) (h : opWp r P o a w next Q) : o.wpIn (fw r) 0 P a w next Q :=
  ⟨fun _ _ => trivial, by rw [Oper.semAt_eq _ _ _ (fun c e => by rw [e] at hd; cases hd)]; exact h⟩
include hT hg in
theorem hEff_sound {ρ : Operand → PV} {o : Oper} {a : Act} (hρ : ∀ x, RO (Cw w st) (ρ x) (a.eval x)) {K Kp : PV → St → Prop} {K' : Act → World → Prop} {Q : Exit → Act → World → Prop}
    (hK : ∀ p st', K p st' → After a o w st K' p st')
    (hKp : ∀ p st', Kp p st' → ∀ v w', Evo w st w' st' → Good w' st' → RO (Cw w' st') p v → Q (.panic [{ v, recovered := false }]) a w')
    (h : hEff P T st ρ o.op K Kp) {r : Option Nat} : opWp r P o a w K' Q := by
  obtain ⟨dst, op, ty, pos, after, guard⟩ := o
  unfold opWp
  cases op <;> simp only [hEff] at h <;> (try (exact h.elim))
  case alloc t =>
    cases ht : T t with
    | none => rw [ht] at h; exact h.elim
    | some d =>
      rw [ht] at h
      obtain ⟨z, h4, h5, h6⟩ := run_zero' hT ht w
      obtain ⟨he, hgood⟩ := alloc_cells (t := t) hg (zOK_sound (Cw w st) h6)
      have hrun : (execOp a.eval ⟨dst, .alloc t, ty, pos, after, guard⟩).run P w = .ok (.value (.pointer (some ⟨w.heap.size, 0, none⟩))) (w.alloc (.cells z.cells t)) := by
        simp [execOp, Instr.alloc, h4, newVar, newRow]
      rw [hrun]
      exact hK _ _ (h w.heap.size (hg.fresh (Nat.le_refl _))) _ _ he hgood (.inr (RX.rv (by simp [RX]) rfl))
  case box t x =>
    unfold e_box at h
    split at h
    · exact h.elim
    · rename_i hj
      have hv := (hρ x).rv (by simpa using hj)
      obtain ⟨he, hgood⟩ := alloc_cells (t := t) hg hv.cellsRC
      have hrun : (execOp a.eval ⟨dst, .box t x, ty, pos, after, guard⟩).run P w = .ok (.value (.pointer (some ⟨w.heap.size, 0, none⟩))) (w.alloc (.cells (a.eval x).cells t)) := by
        simp [execOp, Instr.box, newVar, newRow]
      rw [hrun]
      rcases h with h | h
      · refine hK _ _ h _ _ (Evo.alloc hg _) (hg.alloc _) (.inr (RX.rv ?_ rfl))
        simp only [RX]
        refine ⟨w.heap.size, 0, (a.eval x).cells.toList, rfl, fun j v hj => ⟨?_, hg.fresh (Nat.le_refl _)⟩, RCs.mono (Evo.alloc hg _).cw _ _ hv.cellsRC⟩
        rw [cell_of_heap (heap_alloc_at w _), Nat.zero_add]
        exact hj
      · exact hK _ _ (h w.heap.size (hg.fresh (Nat.le_refl _))) _ _ he hgood (.inr (RX.rv (by simp [RX]) rfl))
  case store t ad x =>
    cases ht : T t with
    | none => rw [ht] at h; exact h.elim
    | some d =>
      rw [ht] at h
      obtain ⟨st', w', h1, h2, h3, h4⟩ := store_sound hT hg ht (hρ ad) (hρ x) h
      have hrun : (execOp a.eval ⟨dst, .store t ad x, ty, pos, after, guard⟩).run P w = .ok .skip w' := by
        simp [execOp, h1]
      rw [hrun]
      exact hK _ _ h2 undef w' h3 h4 (.inr ⟨rfl, by simp [RX, undef, Value.cells, RVs]⟩)
  case panic x =>
    cases hx : ρ x <;> rw [hx] at h <;> simp only [e_panic] at h <;> (try (exact h.elim))
    rename_i t p
    have hv := hρ x
    rw [hx] at hv
    obtain ⟨u, hu, _⟩ := RO_iface hv
    have hrun : (execOp a.eval ⟨dst, .panic x, ty, pos, after, guard⟩).run P w = .halt (.panic (.iface t u)) w := by
      simp [execOp, hu, Instr.panic]
    rw [hrun]
    exact hKp _ _ h _ _ (Evo.refl w st) hg (hu ▸ hv)
  case makeMap t r =>
    cases r with
    | some r => exact h.elim
    | none =>
      simp only at h
      obtain ⟨p, st', v, w', h1, h2, h3, h4, h5⟩ := mkmap_sound (P := P) (t := t) hg h
      have hrun : (execOp a.eval ⟨dst, .makeMap t none, ty, pos, after, guard⟩).run P w = .ok (.value v) w' := by
        simp [execOp, h1]
      rw [hrun]
      exact hK p st' h2 v w' h3 h4 h5
  case mapUpdate t m k x =>
    cases hs : T t with
    | none => rw [hs] at h; exact h.elim
    | some d =>
    rw [hs] at h
    simp only at h
    cases hsh : d.shape <;> rw [hsh] at h <;> simp only at h <;> (try (exact h.elim))
    rename_i kt et
    cases hk : T kt with
    | none => rw [hk] at h; exact h.elim
    | some dk =>
    rw [hk] at h
    simp only at h
    obtain ⟨st', w', h1, h2, h3, h4⟩ := mapset_sound hT hg hs hsh hk (hρ m) (hρ k) (hρ x) h
    have hrun : (execOp a.eval ⟨dst, .mapUpdate t m k x, ty, pos, after, guard⟩).run P w = .ok .skip w' := by
      simp [execOp, h1]
    rw [hrun]
    exact hK _ _ h2 undef w' h3 h4 (.inr ⟨rfl, by simp [RX, undef, Value.cells, RVs]⟩)
  case insert t m k x =>
    cases hs : T t with
    | none => rw [hs] at h; exact h.elim
    | some d =>
    rw [hs] at h
    simp only at h
    cases hsh : d.shape <;> rw [hsh] at h <;> simp only at h <;> (try (exact h.elim))
    rename_i kt et
    cases hk : T kt with
    | none => rw [hk] at h; exact h.elim
    | some dk =>
    rw [hk] at h
    simp only at h
    obtain ⟨st', w', h1, h2, h3, h4⟩ := mapset_sound hT hg hs hsh hk (hρ m) (hρ k) (hρ x) h
    have hrun : (execOp a.eval ⟨dst, .insert t m k x, ty, pos, after, guard⟩).run P w = .ok .skip w' := by
      simp [execOp, h1]
    rw [hrun]
    exact hK _ _ h2 undef w' h3 h4 (.inr ⟨rfl, by simp [RX, undef, Value.cells, RVs]⟩)
  case buildSlice t len parts =>
    cases hs : T t with
    | none => rw [hs] at h; exact h.elim
    | some d =>
    rw [hs] at h
    simp only at h
    cases hsh : d.shape <;> rw [hsh] at h <;> simp only at h <;> (try (exact h.elim))
    rename_i e
    cases he : T e with
    | none => rw [he] at h; exact h.elim
    | some de =>
    rw [he] at h
    simp only at h
    split at h
    · exact h.elim
    rename_i h0
    split at h
    · exact h.elim
    rename_i hbig
    unfold e_lit at h
    split at h
    case h_2 => exact h.elim
    rename_i e' f xs hq
    rcases h with ⟨hpos, h⟩ | h
    · obtain ⟨rfl, rfl⟩ := q_lit_shape hq
      obtain ⟨b, w', r1, r2, r3, r4⟩ := y_litOwn (P := P) hT hg hρ hs hsh he h0 hpos hbig hq
      have hrun : (execOp a.eval ⟨dst, .buildSlice t len parts, ty, pos, after, guard⟩).run P w = .ok (.value (.slice (some ⟨b, 0, none⟩) len len)) w' := by
        unfold execOp
        simp only [Sem.run_bind]
        rw [r1]
        rfl
      rw [hrun]
      exact hK _ _ (h b r2) _ _ r3 r4 (.inr ⟨rfl, by simp [RX, Value.cells]⟩)
    · have hq' : opQ T st ρ (Op.buildSlice t len parts) = some (.sl e' f xs) := by
        simp only [opQ, hs, hsh, he]
        rw [if_neg h0, if_neg hbig]
        exact hq
      obtain ⟨v, w', h1, h2, h3, h4⟩ := opQ_sound (P := P) hT hg (o := ⟨dst, .buildSlice t len parts, ty, pos, after, guard⟩) hρ hq'
      rw [h1]
      exact hK _ _ h v w' h2 h3 h4
  case makeSlice t l c =>
    cases hs : T t with
    | none => rw [hs] at h; exact h.elim
    | some d =>
    rw [hs] at h
    simp only at h
    cases hsh : d.shape <;> rw [hsh] at h <;> simp only at h <;> (try (exact h.elim))
    rename_i e
    cases he : T e with
    | none => rw [he] at h; exact h.elim
    | some de =>
    rw [he] at h
    simp only at h
    obtain ⟨p, st', v, w', h1, h2, h3, h4, h5⟩ := make_sound hT hg hs hsh he (hρ l) (hρ c) h
    have hrun : (execOp a.eval ⟨dst, .makeSlice t l c, ty, pos, after, guard⟩).run P w = .ok (.value v) w' := by
      simp [execOp, h1]
    rw [hrun]
    exact hK p st' h2 v w' h3 h4 h5
  case call c =>
    obtain ⟨callee, args, argTypes⟩ := c
    cases callee <;> simp only at h <;> (try (exact h.elim))
    case value f =>
      unfold e_call at h
      cases hf : ρ f <;> rw [hf] at h <;> (try (exact h.elim))
      rename_i fn first caps
      cases fn <;> (try (exact h.elim))
      case yield g =>
        cases first <;> simp only at h <;> (try (exact h.elim))
        cases caps <;> simp only at h <;> (try (exact h.elim))
        have hvf := hρ f
        rw [hf] at hvf
        obtain ⟨vf, vc, hfe, hrf, hrc⟩ := RO_fn hvf
        have e1 : vf = [] := List.length_eq_zero_iff.1 (ROs.length hrf.ros)
        have e2 : vc = [] := List.length_eq_zero_iff.1 (ROs.length hrc.ros)
        subst e1 e2
        have hargs : ROs (Cw w st) (args.toList.map ρ) (args.toList.map a.eval) := by
          induction args.toList with
          | nil => simp [ROs]
          | cons x l ih => exact ⟨_, _, rfl, hρ x, ih⟩
        obtain ⟨fn, tmps, x, y, hy, hr⟩ := h w _ hg hargs
        have hrun : (execOp a.eval ⟨dst, .call ⟨.value f, args, argTypes⟩, ty, pos, after, guard⟩).run P w = .ok (.round g fn tmps x y) w := by
          simp only [execOp, resolve, hfe, Deferred.ofValue, bind_assoc, pure_bind, invoke]
          rw [← hy]
          congr 2
          apply Array.ext'
          simp
        rw [hrun, Oper.uponIn_round]
        refine ⟨fun h => (by cases h), (roundIn_fw hr).mono ?_⟩
        rintro e w' ⟨r, st', h1, h2, h3, h4⟩
        cases e with
        | returned v =>
          cases r with
          | ret p => exact hK p st' h3 v w' h1 h2 h4
          | pan p => exact h4.elim
        | panicked ch =>
          cases r with
          | ret p => exact h4.elim
          | pan p =>
            obtain ⟨v, rfl, h5⟩ := h4
            exact hKp p st' h3 v w' h1 h2 h5
        | outgrown => cases r <;> exact h4.elim
      rename_i g
      have hvf := hρ f
      rw [hf] at hvf
      obtain ⟨vf, vc, hfe, hrf, hrc⟩ := RO_fn hvf
      have hargs : ROs (Cw w st) (args.toList.map ρ) (args.toList.map a.eval) := by
        induction args.toList with
        | nil => simp [ROs]
        | cons x l ih => exact ⟨_, _, rfl, hρ x, ih⟩
      have hall := (hrf.ros.append hargs).append hrc.ros
      have hrun : (execOp a.eval ⟨dst, .call ⟨.value f, args, argTypes⟩, ty, pos, after, guard⟩).run P w = .ok (.enter g (vf ++ args.toList.map a.eval ++ vc).toArray) w := by
        have he := enter_run h.1 (vf ++ args.toList.map a.eval ++ vc).toArray w
        simp only [execOp, resolve, hfe, Deferred.ofValue, bind_assoc, pure_bind, invoke]
        rw [← he]
        congr 2
        apply Array.ext'
        simp
      rw [hrun, Oper.uponIn_enter]
      refine ⟨fun h => (by cases h), (callsIn_fw (h.2 w _ hg hall)).mono ?_⟩
      rintro e w' ⟨r, st', h1, h2, h3, h4⟩
      cases e with
      | returned v =>
        cases r with
        | ret p => exact hK p st' h3 v w' h1 h2 h4
        | pan p => exact h4.elim
      | panicked ch =>
        cases r with
        | ret p => exact h4.elim
        | pan p =>
          obtain ⟨v, rfl, h5⟩ := h4
          exact hKp p st' h3 v w' h1 h2 h5
      | outgrown => cases r <;> exact h4.elim
    case builtin b =>
      cases b <;> simp only at h <;> (try (exact h.elim))
      obtain ⟨args⟩ := args
      obtain ⟨argTypes⟩ := argTypes
      match args, argTypes, h with
      | [s, y], [t, u], h =>
        simp only at h
        split at h
        case isFalse => exact h.elim
        rename_i htu
        cases hs : T t with
        | none => rw [hs] at h; exact h.elim
        | some d =>
        rw [hs] at h
        simp only at h
        cases hsh : d.shape <;> rw [hsh] at h <;> simp only at h <;> (try (exact h.elim))
        rename_i e
        cases he : T e with
        | none => rw [he] at h; exact h.elim
        | some de =>
        rw [he] at h
        simp only at h
        split at h
        · exact h.elim
        · rename_i h0
          rw [not_or] at h0
          obtain ⟨p, st', v, w', h1, h2, h3, h4, h5⟩ := append_sound (ty := ty) hT hg hs hsh he h0.1 h0.2 (hρ s) (hρ y) htu h
          have hrun : (execOp a.eval ⟨dst, .call ⟨.builtin .append, ⟨[s, y]⟩, ⟨[t, u]⟩⟩, ty, pos, after, guard⟩).run P w = .ok (.value v) w' := by
            simp [execOp, resolve, invoke, builtin, h1]
          rw [hrun]
          exact hK p st' h2 v w' h3 h4 h5
end
end Go.H
