/- Part of a proof that the program answers as the reference does: HCore10, HCore11, HCore12, HCore13, HCore14. -/
import Derived.Test.YtipmjpjaklmpfaaGreatDoorHB
namespace Go.H
open Go
set_option linter.unusedVariables false
set_option linter.unusedSectionVars false
set_option linter.unusedSimpArgs false

def Marked (mk : Bool) (w0 w : World) (st : St) (d0 ds : List Deferred) : Prop :=
  match mk with
  | false => ds = d0
  | true => ∃ Ds : List Nat, ds = Ds.map (fun D => { target := .collected D, args := #[] }) ++ d0 ∧ Ds.Nodup ∧ ∀ D ∈ Ds, w0.heap.size ≤ D ∧ w.heap[D]? = some (.deferred (some [])) ∧ st D = none
theorem Marked.start (mk : Bool) (w0 w : World) (st : St) (d0 : List Deferred) : Marked mk w0 w st d0 d0 := by
  cases mk with
  | false => rfl
  | true => exact ⟨[], rfl, List.nodup_nil, fun D h => by cases h⟩
theorem Marked.evo {mk : Bool} {w0 w w' : World} {st st' : St} {d0 ds : List Deferred} (h : Marked mk w0 w st d0 ds) (he : Evo w st w' st') : Marked mk w0 w' st' d0 ds := by
  cases mk with
  | false => exact h
  | true =>
    obtain ⟨Ds, h1, h2, h3⟩ := h
    refine ⟨Ds, h1, h2, fun D hD => ?_⟩
    obtain ⟨a, b, c⟩ := h3 D hD
    obtain ⟨e, f⟩ := he.block D (Array.getElem?_eq_some_iff.1 b).1 c
    exact ⟨a, e.trans b, f⟩
structure Sim (mk : Bool) (w0 : World) (st0 : St) (d0 : List Deferred) (env : List PV) (st : St) (a : Act) (w : World) : Prop where
  evo : Evo w0 st0 w st
  good : Good w st
  slots : ROs (Cw w st) env a.tmps.toList
  defers : Marked mk w0 w st d0 a.defers

def Agree (ms : List Nat) (env env' : List PV) : Prop := env'.length = env.length ∧ ∀ t, t ∉ ms → env'.getD t .junk = env.getD t .junk
theorem putE_rel {C : Nat → Nat → Value → Prop} {env : List PV} {a : Act} (h : ROs C env a.tmps.toList) (d : Option Nat) {p : PV} {v : Value} (hv : RO C p v) : ROs C (putE env d p) (a.put d v).tmps.toList := by
  cases d with
  | none => exact h
  | some d =>
    simp only [putE, Act.put, Array.toList_setIfInBounds]
    exact h.set d p v hv
theorem putE_ne {env : List PV} {d : Option Nat} {p : PV} {t : Nat} (h : d ≠ some t) : (putE env d p).getD t .junk = env.getD t .junk := by
  cases d with
  | none => rfl
  | some d => simp only [putE]; rw [List.getD_eq_getElem?_getD, List.getD_eq_getElem?_getD, List.getElem?_set_ne (fun e => h (by rw [e]))]
theorem putE_len (env : List PV) (d : Option Nat) (p : PV) : (putE env d p).length = env.length := by cases d <;> simp [putE]
theorem put_defers' (a : Act) (d : Option Nat) (v : Value) : (a.put d v).defers = a.defers := by cases d <;> rfl
theorem Marked.put {mk : Bool} {w0 w w' : World} {st st' : St} {d0 : List Deferred} {a : Act} (h : Marked mk w0 w st d0 a.defers) (he : Evo w st w' st') (d : Option Nat) (v : Value) : Marked mk w0 w' st' d0 (a.put d v).defers := by
  rw [put_defers']
  exact h.evo he
theorem RO_undef (C : Nat → Nat → Value → Prop) : RO C (.tup []) undef := .inr ⟨rfl, by simp [RX, undef, Value.cells, RVs]⟩

def runsIn (dsts : List (Option Nat)) (o : Oper) (env : List PV) : Option Bool :=
  match o.guard with
  | none => some true
  | some (j, want) => match dsts.getD j none with
    | none => none
    | some g => match env.getD g .junk with
      | .bool b => some (b == want)
      | .tup [] => some false
      | _ => none

theorem set_id {env : List PV} {g : Nat} {p : PV} (h : env.getD g .junk = p) (hp : p ≠ .junk) : env.set g p = env := by
  by_cases hg : g < env.length
  · rw [List.getD_eq_getElem?_getD, List.getElem?_eq_getElem hg] at h
    simp only [Option.getD_some] at h
    subst h
    exact List.set_getElem_self hg
  · exact List.set_eq_of_length_le (by omega)

section
variable [own : OwnLit] {P : Program} {T : TypeId → Option TD}
theorem hStep_cons {draw : Bool} {ms : List Nat} {dsts : List (Option Nat)} {sk : List Nat} {i : Nat} {o : Oper} {pend : List (Nat × (St → Prop))} {env : List PV} {st : St} {Kp : PV → St → Prop} {next : List Nat → List (Nat × (St → Prop)) → List PV → St → Prop}
    (h : hStep P T draw ms dsts sk i o pend env st Kp next) :
    (runsIn dsts o env = some true ∧ hRun P T draw i (ms.getD i 0) o pend env st Kp (fun pend' env' st' => next sk pend' env' st')) ∨
    (runsIn dsts o env = some false ∧ next (addD o.dst sk) pend (putE env o.dst (.tup [])) st) := by
  unfold hStep at h
  rw [forceL_eq] at h
  unfold runsIn
  cases hgd : o.guard with
  | none => rw [hgd] at h; exact .inl ⟨rfl, h⟩
  | some jw =>
    obtain ⟨j, want⟩ := jw
    rw [hgd] at h
    simp only at h ⊢
    cases hd : dsts.getD j none with
    | none => rw [hd] at h; exact h.elim
    | some g =>
      rw [hd] at h
      simp only at h ⊢
      -- a bool
      have hbool : ∀ b, env.getD g .junk = .bool b → br b
            (br want (hRun P T draw i (ms.getD i 0) o pend (env.set g (.bool true)) st Kp (fun pend' env' st' => next sk pend' env' st'))
              (next (addD o.dst sk) pend (putE (env.set g (.bool true)) o.dst (.tup [])) st))
            (br want (next (addD o.dst sk) pend (putE (env.set g (.bool false)) o.dst (.tup [])) st)
              (hRun P T draw i (ms.getD i 0) o pend (env.set g (.bool false)) st Kp (fun pend' env' st' => next sk pend' env' st'))) →
          (some (b == want) = some true ∧ hRun P T draw i (ms.getD i 0) o pend env st Kp (fun pend' env' st' => next sk pend' env' st')) ∨
          (some (b == want) = some false ∧ next (addD o.dst sk) pend (putE env o.dst (.tup [])) st) := by
        intro b he h
        cases b with
        | true =>
          rw [set_id he (by simp)] at h
          cases want with
          | true => exact .inl ⟨rfl, h⟩
          | false => exact .inr ⟨rfl, h⟩
        | false =>
          rw [set_id he (by simp)] at h
          cases want with
          | true => exact .inr ⟨rfl, h⟩
          | false => exact .inl ⟨rfl, h⟩
      unfold gb at h
      cases hgs : sk.contains g with
      | false =>
        rw [hgs] at h
        simp only at h
        unfold cb at h
        cases he : env.getD g .junk <;> rw [he] at h <;> simp only at h <;> (try (exact h.elim))
        exact hbool _ he h
      | true =>
        rw [hgs] at h
        simp only at h
        cases he : env.getD g .junk with
        | bool b => rw [he] at h; exact hbool _ he h
        | tup ps =>
          rw [he] at h
          cases ps with
          | nil => exact .inr ⟨rfl, h⟩
          | cons _ _ => exact h.elim
        | _ => rw [he] at h; exact h.elim

theorem wanted_of_runs {ops : Array Oper} {C : Nat → Nat → Value → Prop} {env : List PV} {a : Act} {o : Oper} {b : Bool} (h : runsIn (ops.toList.map (·.dst)) o env = some b)
    (hs : ∀ j want g, o.guard = some (j, want) → (ops.toList.map (·.dst)).getD j none = some g → RO C (env.getD g .junk) (a.tmps.toList.getD g undef)) : Region.wanted o (yielded ops a.tmps) = b := by
  unfold runsIn at h
  unfold Region.wanted
  cases hgd : o.guard with
  | none => rw [hgd] at h; simpa using h
  | some jw =>
    obtain ⟨j, want⟩ := jw
    rw [hgd] at h
    simp only at h ⊢
    cases hd : (ops.toList.map (·.dst)).getD j none with
    | none => rw [hd] at h; cases h
    | some g =>
      rw [hd] at h
      simp only at h
      have hro := hs j want g hgd hd
      have hdst : (ops[j]?).bind (·.dst) = some g := by
        rw [List.getD_eq_getElem?_getD, List.getElem?_map] at hd
        cases hj : ops[j]? with
        | none => simp [hj] at hd
        | some oj => simpa [hj] using hd
      have hy : yielded ops a.tmps j = match a.tmps[g]? with | some (.bool b) => some b | _ => none := by
        unfold yielded
        rw [hdst]
        rfl
      have hget : a.tmps.toList.getD g undef = (a.tmps[g]?).getD undef := by simp [List.getD]
      rw [hget] at hro
      cases he : env.getD g .junk with
      | bool c =>
        rw [he] at h hro
        simp only [Option.some.injEq] at h
        have hv := RO_bool hro
        have : a.tmps[g]? = some (.bool c) := by
          cases hg : a.tmps[g]? with
          | none => rw [hg] at hv; simp [undef] at hv
          | some u => rw [hg] at hv; simp at hv; rw [hv]
        rw [hy, this]
        subst h
        cases c <;> cases want <;> rfl
      | tup ps =>
        rw [he] at h hro
        cases ps with
        | cons _ _ => cases h
        | nil =>
          simp only [Option.some.injEq] at h
          obtain ⟨ws, hv, _⟩ := RO_tup hro
          rw [hy]
          subst h
          cases hg : a.tmps[g]? with
          | none => rfl
          | some u => rw [hg] at hv; simp at hv; rw [hv]; rfl
      | _ => rw [he] at h; cases h

theorem opQ_nd {st : St} {ρ : Operand → PV} {o : Op} {p : PV} (h : opQ T st ρ o = some p) : notDefer o = true := by
  cases o <;> first | rfl | (simp only [opQ] at h; cases h)
theorem hEff_nd {st : St} {ρ : Operand → PV} {o : Op} {K Kp : PV → St → Prop} (h : hEff P T st ρ o K Kp) : notDefer o = true := by
  cases o <;> first | rfl | (simp only [hEff] at h)
variable (hT : TyOK P T)
theorem hRun_sound (hT : TyOK P T) {draw : Bool} {i m : Nat} {o : Oper} {pend : List (Nat × (St → Prop))} {env : List PV} {st : St} {Kp : PV → St → Prop} {next : List (Nat × (St → Prop)) → List PV → St → Prop}
    {w : World} {a : Act} (hg : Good w st) (hρ : ∀ x, RO (Cw w st) (evO env x) (a.eval x)) {K' : Act → World → Prop} {Q : Exit → Act → World → Prop}
    (hK : ∀ p st' v w', ((isQ o.op = true ∧ st' = st ∧ opQ T st (evO env) o.op = some p ∧ next (if draw && looksSt o.op then (i, fun st' => opQ T st' (evO env) o.op = some p) :: pend else pend) (putE env o.dst p) st) ∨
        (isQ o.op = false ∧ (if draw then stabK m pend st' (next pend (putE env o.dst p) st') else next pend (putE env o.dst p) st'))) →
      Evo w st w' st' → Good w' st' → RO (Cw w' st') p v → K' (a.put o.dst v) w')
    (hKp : ∀ p st' v w', Kp p st' → Evo w st w' st' → Good w' st' → RO (Cw w' st') p v → Q (.panic [{ v, recovered := false }]) a w')
    (h : hRun P T draw i m o pend env st Kp next) {r : Option Nat} : o.wpIn (fw r) 0 P a w K' Q := by
  unfold hRun at h
  split at h
  · rename_i hq
    cases hp : opQ T st (evO env) o.op with
    | none => rw [hp] at h; exact h.elim
    | some p =>
      rw [hp] at h
      obtain ⟨v, w', h1, h2, h3, h4⟩ := opQ_sound (P := P) hT hg hρ hp
      refine opWp_in (opQ_nd hp) ?_
      unfold opWp
      rw [h1]
      exact hK p st v w' (.inl ⟨hq, rfl, hp, h⟩) h2 h3 h4
  · rename_i hq
    refine opWp_in (hEff_nd h) ?_
    exact hEff_sound hT hg hρ (fun p st' hk v w' he hg' hr => hK p st' v w' (.inr ⟨by simpa using hq, hk⟩) he hg' hr) (fun p st' hk v w' he hg' hr => hKp p st' v w' hk he hg' hr) h

theorem hSeq_sound (hT : TyOK P T) {r : Option Nat} {mk : Bool} {ops : Array Oper} {w0 : World} {st0 : St} {d0 : List Deferred} {K : List PV → St → Prop} {Kp : PV → St → Prop} {Q : Exit → Act → World → Prop} {env0 : List PV} {mds : List Nat}
    (hK : ∀ env st a w, K env st → Agree mds env0 env → Sim mk w0 st0 d0 env st a w → Q .normal a w)
    (hKp : ∀ p st v a w, Kp p st → Evo w0 st0 w st → Good w st → RO (Cw w st) p v → Marked mk w0 w st d0 a.defers → Q (.panic [{ v, recovered := false }]) a w) :
    ∀ (l : List (Nat × Oper)) (env : List PV) (st : St) (a : Act) (w : World), (∀ x ∈ l, ops[x.1]? = some x.2 ∧ ∀ d, x.2.dst = some d → d ∈ mds) → Agree mds env0 env → Sim mk w0 st0 d0 env st a w →
      (∃ sk, hSeq P T (ops.toList.map (·.dst)) sk l env st K Kp) → wpOpsIn (fw r) 0 P ops Q (l.map (·.1)) a w
  | [], env, st, a, w, _, hag, hs, ⟨_, h⟩ => hK env st a w h hag hs
  | (i, o) :: rest, env, st, a, w, hl, hag, hs, ⟨_, h⟩ => by
    have hi : ops[i]? = some o := (hl (i, o) (by simp)).1
    have hag' : ∀ p, Agree mds env0 (putE env o.dst p) := fun p => ⟨(putE_len _ _ _).trans hag.1, fun t ht => by
      rw [putE_ne (fun e => ht ((hl (i, o) (by simp)).2 t e))]
      exact hag.2 t ht⟩
    simp only [List.map_cons, wpOpsIn, hi]
    have hslot : ∀ j want g, o.guard = some (j, want) → (ops.toList.map (·.dst)).getD j none = some g → RO (Cw w st) (env.getD g .junk) (a.tmps.toList.getD g undef) := fun _ _ g _ _ => hs.slots.get g
    rcases hStep_cons h with ⟨hr, h⟩ | ⟨hr, h⟩
    · rw [wanted_of_runs hr hslot]
      simp only [if_true]
      refine hRun_sound hT hs.good (evO_sound hs.slots) ?_ ?_ h
      · intro p st' v w' hn he hg' hro
        have hsim : Sim mk w0 st0 d0 (putE env o.dst p) st' (a.put o.dst v) w' := ⟨hs.evo.trans he, hg', putE_rel (hs.slots.mono he.cw) _ hro, hs.defers.put he _ _⟩
        rcases hn with ⟨_, rfl, _, hn⟩ | ⟨_, hn⟩
        · exact hSeq_sound hT hK hKp rest _ _ _ _ (fun x hx => hl x (by simp [hx])) (hag' _) hsim ⟨_, hn⟩
        · simp only [Bool.false_eq_true, if_false] at hn
          exact hSeq_sound hT hK hKp rest _ _ _ _ (fun x hx => hl x (by simp [hx])) (hag' _) hsim ⟨_, hn⟩
      · intro p st' v w' hk he hg' hro
        exact hKp p st' v a w' hk (hs.evo.trans he) hg' hro (hs.defers.evo he)
    · rw [wanted_of_runs hr hslot]
      simp only [Bool.false_eq_true, if_false]
      refine ⟨fun _ _ => trivial, ?_⟩
      refine hSeq_sound hT hK hKp rest _ _ _ _ (fun x hx => hl x (by simp [hx])) (hag' _) ?_ ⟨_, h⟩
      exact ⟨hs.evo, hs.good, putE_rel hs.slots _ (RO_undef _), hs.defers.put (Evo.refl w st) _ _⟩
end
end Go.H
namespace Go.H
open Go
set_option linter.unusedVariables false
set_option linter.unusedSectionVars false
set_option linter.unusedSimpArgs false

theorem opQ_congr {T : TypeId → Option TD} {st : St} {ρ ρ' : Operand → PV} {o : Op} (h : ∀ x ∈ o.operands, ρ x = ρ' x) : opQ T st ρ o = opQ T st ρ' o := by
  have hl : ∀ (l : List Operand), (∀ x ∈ l, ρ x = ρ' x) → l.map ρ = l.map ρ' := fun l hl => List.map_congr_left hl
  have hparts : ∀ (ps : List (Nat × Operand)), (∀ x ∈ ps.map (·.2), ρ x = ρ' x) → (ps.map fun x => (x.1, ρ x.2)) = ps.map fun x => (x.1, ρ' x.2) := fun ps hp =>
    List.map_congr_left fun p hm => by rw [hp p.2 (List.mem_map.2 ⟨p, hm, rfl⟩)]
  cases o <;> simp only [Op.operands] at h <;> simp only [opQ]
  case call c =>
    obtain ⟨callee, args, argTypes⟩ := c
    cases callee <;> simp only
    rename_i b
    cases b <;> simp only
    all_goals
      obtain ⟨args⟩ := args
      simp only
      match args with
      | [x] => first | rfl | (simp only; rw [h x (by simp [Call.operands])])
      | [] => rfl
      | [x, y] => first | rfl | (simp only; rw [h x (by simp [Call.operands]), h y (by simp [Call.operands])])
      | _ :: _ :: _ :: _ => rfl
  case build t ps =>
    have := hparts ps.toList (fun x hx => h x (by simpa using hx))
    simp only [this]
  case buildSlice t n ps =>
    have := hparts ps.toList (fun x hx => h x (by simpa using hx))
    simp only [this]
  case makeFunc f a b =>
    rw [hl a.toList (fun x hx => h x (by simp at hx ⊢; exact .inl hx)), hl b.toList (fun x hx => h x (by simp at hx ⊢; exact .inr hx))]
  case slice t x lo hi mx =>
    have e1 : ρ x = ρ' x := h x (by simp)
    have e2 : lo.map ρ = lo.map ρ' := by cases lo with | none => rfl | some y => simp [h y (by simp)]
    have e3 : hi.map ρ = hi.map ρ' := by cases hi with | none => rfl | some y => simp [h y (by simp)]
    have e4 : mx.map ρ = mx.map ρ' := by cases mx with | none => rfl | some y => simp [h y (by simp)]
    rw [e1, e2, e3, e4]
  case move x => rw [h x (by simp)]
  case assign x => rw [h x (by simp)]
  case pick c a b => rw [h c (by simp), h a (by simp), h b (by simp)]
  case load t x => rw [h x (by simp)]
  case nilCheck x => rw [h x (by simp)]
  case binOp op t x y yt => rw [h x (by simp), h y (by simp)]
  case unOp op t x => rw [h x (by simp)]
  case convert s d x => rw [h x (by simp)]
  case makeInterface t x => rw [h x (by simp)]
  case fieldAddr t x f => rw [h x (by simp)]
  case field t x f => rw [h x (by simp)]
  case indexAddr t x i => rw [h x (by simp), h i (by simp)]
  case index t x i => rw [h x (by simp), h i (by simp)]
  case extract x i => rw [h x (by simp)]
  case lookup t m k ok => rw [h m (by simp), h k (by simp)]
theorem opQ_st {T : TypeId → Option TD} {st st' : St} {ρ : Operand → PV} {o : Op} (h : looksSt o = false) : opQ T st ρ o = opQ T st' ρ o := by
  cases o <;> first | rfl | (simp [looksSt] at h)
theorem hEff_congr {P : Program} {T : TypeId → Option TD} {st : St} {ρ ρ' : Operand → PV} {o : Op} {K Kp : PV → St → Prop} (h : ∀ x ∈ o.operands, ρ x = ρ' x) : hEff P T st ρ o K Kp = hEff P T st ρ' o K Kp := by
  cases o <;> simp only [Op.operands] at h <;> simp only [hEff]
  case buildSlice t n ps =>
    have hparts : ps.toList.map (fun x => (x.1, ρ x.2)) = ps.toList.map (fun x => (x.1, ρ' x.2)) := List.map_congr_left fun x hx => by rw [h x.2 (by simp; exact ⟨x.1, by simpa using hx⟩)]
    simp only [hparts]
  case box t x => rw [h x (by simp)]
  case store t a x => rw [h a (by simp), h x (by simp)]
  case panic x => rw [h x (by simp)]
  case makeSlice t l c => rw [h l (by simp), h c (by simp)]
  case mapUpdate t m k x => rw [h m (by simp), h k (by simp), h x (by simp)]
  case insert t m k x => rw [h m (by simp), h k (by simp), h x (by simp)]
  case call c =>
    obtain ⟨callee, args, argTypes⟩ := c
    cases callee <;> simp only
    case value f =>
      have e1 : ρ f = ρ' f := h f (by simp [Call.operands])
      have e2 : args.toList.map ρ = args.toList.map ρ' := List.map_congr_left fun x hx => h x (by simp [Call.operands]; right; simpa using hx)
      rw [e1, e2]
    case builtin b =>
      cases b <;> simp only
      obtain ⟨args⟩ := args
      simp only
      match args with
      | [s, y] => simp only; rw [h s (by simp [Call.operands]), h y (by simp [Call.operands])]
      | [] => rfl
      | [_] => rfl
      | _ :: _ :: _ :: _ => rfl

def onlyρ (env : List PV) (o : Op) (x : Operand) : PV :=
  match x with
  | .tmp t => if (o.operands.toList.any fun | .tmp u => u == t | _ => false) then env.getD t .junk else .junk
  | x => evO env x
theorem onlyρ_eq (env : List PV) (o : Op) : ∀ x ∈ o.operands, evO env x = onlyρ env o x := by
  intro x hx
  cases x with
  | tmp t =>
    simp only [onlyρ, evO]
    rw [if_pos]
    rw [List.any_eq_true]
    exact ⟨.tmp t, by simpa using hx, by simp⟩
  | _ => rfl
theorem onlyρ_rel {C : Nat → Nat → Value → Prop} {env : List PV} {a : Act} {l : List Oper} {o : Oper} (h : ∀ t ∈ reads l o, RO C (env.getD t .junk) (a.tmps.toList.getD t undef)) (x : Operand) : RO C (onlyρ env o.op x) (a.eval x) := by
  cases x with
  | tmp t =>
    simp only [onlyρ]
    split
    · rename_i ht
      rw [List.any_eq_true] at ht
      obtain ⟨y, hy, hyt⟩ := ht
      have hyy : y = .tmp t := by cases y <;> simp at hyt; rw [hyt]
      subst hyy
      have := h t (by unfold reads; exact List.mem_append.2 (.inl (List.mem_filterMap.2 ⟨_, hy, rfl⟩)))
      simpa [Act.eval, List.getD, Array.getD_eq_getD_getElem?] using this
    · exact RO_junk _ _
  | const v => exact RO_cPV C v
  | func f => exact .inr ⟨rfl, by simp [onlyρ, evO, Act.eval, RX, Value.cells, RVs]⟩
  | global g => exact RO_junk _ _

theorem maskOf_spec (o : Oper) (acc : List Nat) (j : Nat) : (maskOf o acc).testBit j = true ↔ ∃ e ∈ o.after.toList, Region.binds .any e = true ∧ (e.on = j ∨ (acc.getD e.on 0).testBit j = true) := by
  have key : ∀ (es : List Edge) (s : Nat), (es.foldl (fun s e => if Region.binds .any e then s ||| 2 ^ e.on ||| acc.getD e.on 0 else s) s).testBit j = true ↔
      s.testBit j = true ∨ ∃ e ∈ es, Region.binds .any e = true ∧ (e.on = j ∨ (acc.getD e.on 0).testBit j = true) := by
    intro es
    induction es with
    | nil => intro s; simp
    | cons e es ih =>
      intro s
      simp only [List.foldl_cons, ih]
      by_cases hb : Region.binds .any e = true
      · simp only [hb, if_true, Nat.testBit_or, Bool.or_eq_true, Nat.testBit_two_pow, decide_eq_true_eq, List.mem_cons]
        constructor
        · rintro (((h | h) | h) | ⟨e', h1, h2⟩)
          · exact .inl h
          · exact .inr ⟨e, .inl rfl, hb, .inl h⟩
          · exact .inr ⟨e, .inl rfl, hb, .inr h⟩
          · exact .inr ⟨e', .inr h1, h2⟩
        · rintro (h | ⟨e', rfl | h1, h2, h3⟩)
          · exact .inl (.inl (.inl h))
          · rcases h3 with h3 | h3
            · exact .inl (.inl (.inr h3))
            · exact .inl (.inr h3)
          · exact .inr ⟨e', h1, h2, h3⟩
      · simp only [hb, if_false, List.mem_cons, Bool.false_eq_true]
        constructor
        · rintro (h | ⟨e', h1, h2⟩)
          · exact .inl h
          · exact .inr ⟨e', .inr h1, h2⟩
        · rintro (h | ⟨e', rfl | h1, h2, h3⟩)
          · exact .inl h
          · exact absurd h2 hb
          · exact .inr ⟨e', h1, h2, h3⟩
  unfold maskOf
  rw [key]
  simp
theorem masks_getElem (l : List Oper) : ∀ i o, l[i]? = some o → ∃ acc, (masks l)[i]? = some (maskOf o acc) ∧ acc.length = i ∧ ∀ k, k < i → acc.getD k 0 = (masks l).getD k 0 := by
  have key : ∀ (l : List Oper) (acc : List Nat), ∀ i o, l[i]? = some o → ∃ acc', (l.foldl (fun acc o => acc ++ [maskOf o acc]) acc)[acc.length + i]? = some (maskOf o acc') ∧ acc'.length = acc.length + i ∧
      (∀ k, k < acc.length + i → acc'[k]? = (l.foldl (fun acc o => acc ++ [maskOf o acc]) acc)[k]?) := by
    intro l
    induction l with
    | nil => intro acc i o h; simp at h
    | cons x l ih =>
      intro acc i o h
      have hpre : ∀ (l : List Oper) (acc : List Nat) k, k < acc.length → (l.foldl (fun acc o => acc ++ [maskOf o acc]) acc)[k]? = acc[k]? := by
        intro l
        induction l with
        | nil => intro acc k _; rfl
        | cons y l ih2 =>
          intro acc k hk
          simp only [List.foldl_cons]
          rw [ih2 _ k (by simp; omega), List.getElem?_append_left hk]
      cases i with
      | zero =>
        simp at h
        subst h
        refine ⟨acc, ?_, rfl, ?_⟩
        · simp only [List.foldl_cons, Nat.add_zero]
          rw [hpre _ _ _ (by simp)]
          simp
        · intro k hk
          simp only [List.foldl_cons]
          rw [hpre _ _ _ (by simp; omega), List.getElem?_append_left (by omega)]
      | succ i =>
        simp at h
        obtain ⟨acc', h1, h2, h3⟩ := ih (acc ++ [maskOf x acc]) i o h
        simp only [List.length_append, List.length_singleton] at h1 h2 h3
        exact ⟨acc', by simp only [List.foldl_cons]; rw [← h1]; congr 1; omega, by omega, fun k hk => by simp only [List.foldl_cons]; exact h3 k (by omega)⟩
  intro i o h
  obtain ⟨acc', h1, h2, h3⟩ := key l [] i o h
  simp only [List.length_nil, Nat.zero_add] at h1 h2 h3
  refine ⟨acc', h1, h2, fun k hk => ?_⟩
  rw [List.getD_eq_getElem?_getD, List.getD_eq_getElem?_getD, h3 k hk]
  rfl
theorem masks_spec {l : List Oper} {i : Nat} {o : Oper} (h : l[i]? = some o) (j : Nat) : ((masks l).getD i 0).testBit j = true ↔
    ∃ e ∈ o.after.toList, Region.binds .any e = true ∧ (e.on = j ∨ (e.on < i ∧ ((masks l).getD e.on 0).testBit j = true)) := by
  obtain ⟨acc, h1, hal, h2⟩ := masks_getElem l i o h
  rw [List.getD_eq_getElem?_getD, h1]
  simp only [Option.getD_some, maskOf_spec]
  have hacc : ∀ k, (k < i → acc.getD k 0 = (masks l).getD k 0) ∧ (i ≤ k → acc.getD k 0 = 0) := by
    intro k
    refine ⟨fun hk => h2 k hk, fun hk => ?_⟩
    rw [List.getD_eq_getElem?_getD, List.getElem?_eq_none (by omega)]
    rfl
  constructor
  · rintro ⟨e, h3, h4, h5⟩
    refine ⟨e, h3, h4, h5.imp id fun h6 => ?_⟩
    by_cases hk : e.on < i
    · exact ⟨hk, by rw [← (hacc e.on).1 hk]; exact h6⟩
    · rw [(hacc e.on).2 (by omega)] at h6; simp at h6
  · rintro ⟨e, h3, h4, h5⟩
    refine ⟨e, h3, h4, h5.imp id fun ⟨hk, h6⟩ => ?_⟩
    rw [(hacc e.on).1 hk]
    exact h6
end Go.H
namespace Go.H
open Go
set_option linter.unusedVariables false
set_option linter.unusedSectionVars false
set_option linter.unusedSimpArgs false

def before (l : List Oper) (i j : Nat) : Prop := ((masks l).getD j 0).testBit i = true

theorem nodupB_iff : ∀ {l : List Nat}, nodupB l = true → l.Nodup
  | [], _ => List.nodup_nil
  | x :: r, h => by
    simp only [nodupB, Bool.and_eq_true, Bool.not_eq_true', List.contains_eq_mem, decide_eq_false_iff_not] at h
    exact List.nodup_cons.2 ⟨h.1, nodupB_iff h.2⟩

structure Draws [own : OwnLit] (l : List Oper) : Prop where
  uniq : ∀ (i j : Nat) (oi oj : Oper) (d : Nat), l[i]? = some oi → l[j]? = some oj → i ≠ j → oi.dst = some d → oj.dst ≠ some d
  rds : ∀ (i j : Nat) (oi oj : Oper) (d : Nat), l[i]? = some oi → l[j]? = some oj → oi.dst = some d → d ∈ reads l oj → i ≠ j ∧ (before l i j ∨ before l j i)
  len : (canon l).length = l.length
  nodup : (canon l).Nodup
  lt : ∀ i ∈ canon l, i < l.length
  inb : ∀ o ∈ l, ∀ e ∈ o.after.toList, e.on < l.length
  resp : ∀ (k j : Nat), (canon l)[k]? = some j → ∀ (i : Nat), i < l.length → before l i j → i ∈ (canon l).take k

theorem zip_mem {α : Type} {l : List α} {i : Nat} {x : α} (h : l[i]? = some x) : (x, i) ∈ l.zipIdx := by
  rw [List.mem_zipIdx_iff_getElem?]
  exact h

theorem draws_of [own : OwnLit] {l : List Oper} (h : drawOK l = true) : Draws l := by
  unfold drawOK at h
  simp only [Bool.and_eq_true] at h
  obtain ⟨⟨⟨h1, ⟨h2, h3⟩, h4⟩, h7⟩, h5⟩ := h
  have pair : ∀ i j oi oj, l[i]? = some oi → l[j]? = some oj → _ := fun i j oi oj hi hj => List.all_eq_true.1 (List.all_eq_true.1 h1 _ (zip_mem hi)) _ (zip_mem hj)
  simp only [Bool.and_eq_true] at pair
  refine ⟨?_, ?_, by simpa using h2, nodupB_iff h3, fun i hi => by simpa using List.all_eq_true.1 h4 i hi, fun o ho e he => by simpa using List.all_eq_true.1 (List.all_eq_true.1 h7 o ho) e he, ?_⟩
  · intro i j oi oj d hi hj hne hd hd'
    have := (pair i j oi oj hi hj).1
    simp [hne, hd, hd'] at this
  · intro i j oi oj d hi hj hd hr
    have := (pair i j oi oj hi hj).2
    rw [hd] at this
    simp [hr] at this
    exact this
  · intro k j hk i hi hb
    have := List.all_eq_true.1 (List.all_eq_true.1 h5 _ (zip_mem hk)) i (by simpa using hi)
    unfold before at hb
    simp only [hb, Bool.not_true, Bool.false_or] at this
    simpa using this

structure Track (l : List Oper) (done fuel : Nat) (c1 : List Nat) : Prop where
  dn : ∀ i, done.testBit i = true ↔ i ∈ c1
  fuel : c1.length + fuel = l.length
  nod : c1.Nodup
  clt : ∀ i ∈ c1, i < l.length
  resp : ∀ u j v, c1 = u ++ j :: v → ∀ i, before l i j → i ∈ u
theorem Track.nil (l : List Oper) : Track l 0 l.length [] :=
  ⟨fun i => by simp, by simp, List.nodup_nil, (fun _ h => by cases h), fun u j v h => by simp at h⟩
theorem Track.ready {l : List Oper} {done fuel : Nat} {c1 : List Nat} (h : Track l done fuel c1) {i : Nat} (hr : ((masks l).getD i 0 &&& done == (masks l).getD i 0) = true) {j : Nat} (hb : before l j i) : j ∈ c1 := by
  rw [← h.dn]
  have e : (masks l).getD i 0 &&& done = (masks l).getD i 0 := by simpa using hr
  unfold before at hb
  rw [← e, Nat.testBit_and, Bool.and_eq_true] at hb
  exact hb.2
theorem Track.isReady {l : List Oper} {done fuel : Nat} {c1 : List Nat} (h : Track l done fuel c1) {i : Nat} (hr : ∀ j, before l j i → j ∈ c1) : ((masks l).getD i 0 &&& done == (masks l).getD i 0) = true := by
  rw [beq_iff_eq]
  apply Nat.eq_of_testBit_eq
  intro j
  rw [Nat.testBit_and]
  cases hb : ((masks l).getD i 0).testBit j with
  | false => rfl
  | true => rw [(h.dn j).2 (hr j hb)]; rfl
theorem Track.push {l : List Oper} {done fuel : Nat} {c1 : List Nat} (h : Track l done (fuel + 1) c1) {i : Nat} (hi : i < l.length) (hn : i ∉ c1) (hr : ((masks l).getD i 0 &&& done == (masks l).getD i 0) = true) : Track l (done ||| 2 ^ i) fuel (c1 ++ [i]) := by
  refine ⟨fun k => ?_, by have := h.fuel; simp; omega, ?_, ?_, ?_⟩
  · rw [Nat.testBit_or, Bool.or_eq_true, h.dn, Nat.testBit_two_pow, List.mem_append, List.mem_singleton, decide_eq_true_eq]
    exact or_congr Iff.rfl eq_comm
  · rw [List.nodup_append]
    refine ⟨h.nod, by simp, fun a ha b hb => ?_⟩
    simp at hb
    subst hb
    exact fun e => hn (e ▸ ha)
  · intro k hk
    rcases List.mem_append.1 hk with hk | hk
    · exact h.clt k hk
    · simp at hk; exact hk ▸ hi
  · intro u j v hc k hb
    rcases List.eq_nil_or_concat v with hv | ⟨v', x, hv⟩
    · subst hv
      obtain ⟨h1, h2⟩ := List.append_inj_left' hc rfl, List.append_inj_right' hc rfl
      have : i = j := by simpa using h2
      subst this
      rw [← h1]
      exact h.ready hr hb
    · subst hv
      rw [List.concat_eq_append, show u ++ j :: (v' ++ [x]) = (u ++ j :: v') ++ [x] by simp] at hc
      have h1 := List.append_inj_left' hc rfl
      exact h.resp u j v' h1 k hb
theorem nodup_le : ∀ (n : Nat) (l : List Nat), l.Nodup → (∀ x ∈ l, x < n) → l.length ≤ n
  | 0, [], _, _ => Nat.le_refl _
  | 0, x :: _, _, h => absurd (h x (by simp)) (by omega)
  | n + 1, l, hn, h => by
    have h1 := nodup_le n (l.erase n) (hn.erase n) (fun x hx => by
      have h2 := h x (List.mem_of_mem_erase hx)
      have h3 : x ≠ n := fun e => by subst e; exact (List.Nodup.not_mem_erase hn) hx
      omega)
    have := List.length_erase (a := n) (l := l)
    split at this <;> omega
theorem Track.fuel_pos {l : List Oper} {done fuel : Nat} {c1 : List Nat} (h : Track l done fuel c1) {i : Nat} (hi : i < l.length) (hn : i ∉ c1) : 0 < fuel := by
  have h1 : (i :: c1).Nodup := List.nodup_cons.2 ⟨hn, h.nod⟩
  have := nodup_le l.length (i :: c1) h1 (fun x hx => by
    cases hx with
    | head => exact hi
    | tail _ hx => exact h.clt x hx)
  have := h.fuel
  rw [List.length_cons] at *
  omega

def wr (l : List Oper) (t : Nat) : Option Nat := (List.range l.length).find? (fun j => (l[j]?).bind (·.dst) == some t)
theorem wr_some {l : List Oper} {t j : Nat} (h : wr l t = some j) : ∃ o, l[j]? = some o ∧ o.dst = some t := by
  have := List.find?_some h
  simp only [beq_iff_eq] at this
  cases hj : l[j]? with
  | none => rw [hj] at this; cases this
  | some o => rw [hj] at this; exact ⟨o, rfl, this⟩
theorem wr_eq [own : OwnLit] {l : List Oper} (hd : Draws l) {t j : Nat} {o : Oper} (hj : l[j]? = some o) (ht : o.dst = some t) : wr l t = some j := by
  cases h : wr l t with
  | none =>
    unfold wr at h
    rw [List.find?_eq_none] at h
    have := h j (by simp; exact (List.getElem?_eq_some_iff.1 hj).1)
    simp [hj, ht] at this
  | some k =>
    obtain ⟨ok, h1, h2⟩ := wr_some h
    by_cases e : k = j
    · rw [e]
    · exact absurd ht (hd.uniq k j ok o t h1 hj e h2)

def envAt (l : List Oper) (env0 : List PV) (c : List Nat) (pv : Nat → PV) (t : Nat) : PV :=
  match wr l t with
  | some j => if j ∈ c then pv j else env0.getD t .junk
  | none => env0.getD t .junk
def slotAt (l : List Oper) (env0 : List PV) (listed : Array Bool) (pv : Nat → PV) (t : Nat) : PV :=
  match wr l t with
  | some j => if listed.getD j false = true then pv j else env0.getD t .junk
  | none => env0.getD t .junk

def Closed (l : List Oper) (listed : Array Bool) : Prop := ∀ j o, l[j]? = some o → listed.getD j false = true → ∀ e ∈ o.after.toList, Region.binds .any e = true → listed.getD e.on false = true

theorem anc_done {l : List Oper} {listed : Array Bool} (hc : Closed l listed) (hlen : listed.size = l.length) : ∀ (i : Nat) (o : Oper), l[i]? = some o → (∀ e ∈ o.after.toList, Region.binds .any e = true → listed.getD e.on false = true) →
    ∀ j, before l j i → listed.getD j false = true := by
  intro i
  induction i using Nat.strongRecOn with
  | _ i ih =>
    intro o ho hdir j hb
    unfold before at hb
    rw [masks_spec ho] at hb
    obtain ⟨e, h1, h2, h3⟩ := hb
    have hd := hdir e h1 h2
    rcases h3 with rfl | ⟨h3, h4⟩
    · exact hd
    · have hlt : e.on < l.length := by
        have := (List.getElem?_eq_some_iff.1 ho).1
        omega
      exact ih e.on h3 _ (List.getElem?_eq_getElem hlt) (hc e.on _ (List.getElem?_eq_getElem hlt) hd) j h4
theorem direct_before {l : List Oper} {i : Nat} {o : Oper} (ho : l[i]? = some o) {e : Edge} (he : e ∈ o.after.toList) (hb : Region.binds .any e = true) : before l e.on i := by
  unfold before
  rw [masks_spec ho]
  exact ⟨e, he, hb, .inl rfl⟩

section
variable [own : OwnLit] {P : Program} {T : TypeId → Option TD}

structure Waits (T : TypeId → Option TD) (l : List Oper) (env0 : List PV) (pend : List (Nat × (St → Prop))) (st : St) (c1 : List Nat) (pv : Nat → PV) (q : Nat) : Prop where
  ex : ∃ (o : Oper) (envq : List PV) (b : Bool) (u v : List Nat), l[q]? = some o ∧ isQ o.op = true ∧ runsIn (l.map (·.dst)) o envq = some b ∧ c1 = u ++ q :: v ∧ envq.length = env0.length ∧
    (∀ t, t < env0.length → envq.getD t .junk = envAt l env0 u pv t) ∧
    (b = true → opQ T st (evO envq) o.op = some (pv q) ∧ (looksSt o.op = true → (q, fun st' => opQ T st' (evO envq) o.op = some (pv q)) ∈ pend)) ∧ (b = false → pv q = .tup [])

structure Inv (T : TypeId → Option TD) (l : List Oper) (env0 : List PV) (listed : Array Bool) (a : Act) (w : World) (done fl : Nat) (pend : List (Nat × (St → Prop))) (env : List PV) (st : St) (c1 : List Nat) (pv : Nat → PV) : Prop where
  tr : Track l done fl c1
  sub : ∀ i, listed.getD i false = true → i ∈ c1
  eff : ∀ i ∈ c1, ∀ o, l[i]? = some o → isQ o.op = false → listed.getD i false = true
  envv : ∀ t, t < env0.length → env.getD t .junk = envAt l env0 c1 pv t
  elen : env.length = env0.length
  tlen : a.tmps.toList.length = env0.length
  slot : ∀ t, t < env0.length → RO (Cw w st) (slotAt l env0 listed pv t) (a.tmps.toList.getD t undef)
  waits : ∀ q ∈ c1, listed.getD q false = false → Waits T l env0 pend st c1 pv q
  closed : Closed l listed
  llen : listed.size = l.length

variable {l : List Oper} (hd : Draws l) {env0 : List PV} {listed : Array Bool} {a : Act} {w : World} {done fl : Nat} {pend : List (Nat × (St → Prop))} {env : List PV} {st : St} {c1 : List Nat} {pv : Nat → PV}

include hd in
theorem reads_ok (hi : Inv T l env0 listed a w done fl pend env st c1 pv) {i : Nat} {o : Oper} (ho : l[i]? = some o) (hnd : listed.getD i false = false) (hdir : ∀ e ∈ o.after.toList, Region.binds .any e = true → listed.getD e.on false = true)
    {u : List Nat} (hu1 : ∀ j, before l j i → j ∈ u) (hu2 : ∀ j, before l i j → j ∉ u) {envq : List PV} (hlen : envq.length = env0.length) (henv : ∀ t, t < env0.length → envq.getD t .junk = envAt l env0 u pv t) :
    ∀ t ∈ reads l o, RO (Cw w st) (envq.getD t .junk) (a.tmps.toList.getD t undef) := by
  intro t ht
  by_cases hlt : t < env0.length
  · rw [henv t hlt]
    have hs := hi.slot t hlt
    suffices h : envAt l env0 u pv t = slotAt l env0 listed pv t by rw [h]; exact hs
    unfold envAt slotAt
    cases hw : wr l t with
    | none => rfl
    | some j =>
      obtain ⟨oj, hj, hjd⟩ := wr_some hw
      obtain ⟨hne, hb⟩ := hd.rds j i oj o t hj ho hjd ht
      rcases hb with hb | hb
      · have hdone := anc_done hi.closed hi.llen i o ho hdir j hb
        simp only
        rw [if_pos (hu1 j hb), if_pos hdone]
      · have hndj : listed.getD j false = false := by
          cases hdj : listed.getD j false with
          | false => rfl
          | true =>
            have := anc_done hi.closed hi.llen j oj hj (hi.closed j oj hj hdj) i hb
            rw [hnd] at this; cases this
        have hnm : j ∉ u := hu2 j hb
        simp only
        rw [if_neg hnm, if_neg (by rw [hndj]; simp)]
  · have : envq.getD t .junk = .junk := by rw [List.getD_eq_getElem?_getD, List.getElem?_eq_none (by omega)]; rfl
    rw [this]
    exact RO_junk _ _

theorem guard_reads {o : Oper} {j : Nat} {want : Bool} {g : Nat} (hg : o.guard = some (j, want)) (h : (l.map (·.dst)).getD j none = some g) : g ∈ reads l o := by
  unfold reads
  refine List.mem_append.2 (.inr ?_)
  rw [hg]
  have : (l[j]?).bind (·.dst) = some g := by
    rw [List.getD_eq_getElem?_getD, List.getElem?_map] at h
    cases hj : l[j]? with
    | none => rw [hj] at h; simp at h
    | some oj => rw [hj] at h; simpa using h
  simp [this]

theorem getD_set {listed : Array Bool} {i j : Nat} (hi : i < listed.size) : (listed.setIfInBounds i true).getD j false = if j = i then true else listed.getD j false := by
  rw [Array.getD_eq_getD_getElem?, Array.getD_eq_getD_getElem?, Array.getElem?_setIfInBounds]
  by_cases h : i = j
  · subst h; simp [hi]
  · rw [if_neg h, if_neg (Ne.symm h)]

include hd in
theorem slot_put (hi : Inv T l env0 listed a w done fl pend env st c1 pv) {i : Nat} {o : Oper} (ho : l[i]? = some o) {p : PV} {v : Value} {w' : World} {st' : St} {pv' : Nat → PV} (hpv : pv' i = p) (hpv' : ∀ j, listed.getD j false = true → pv' j = pv j)
    (hC : ∀ b o v, Cw w st b o v → Cw w' st' b o v) (hv : RO (Cw w' st') p v) (hnd : listed.getD i false = false) :
    ∀ t, t < env0.length → RO (Cw w' st') (slotAt l env0 (listed.setIfInBounds i true) pv' t) ((a.put o.dst v).tmps.toList.getD t undef) := by
  intro t ht
  have hil : i < listed.size := by rw [hi.llen]; exact (List.getElem?_eq_some_iff.1 ho).1
  have hs := (hi.slot t ht).mono hC
  unfold slotAt at hs ⊢
  cases hw : wr l t with
  | none =>
    rw [hw] at hs
    have hne : o.dst ≠ some t := fun e => by rw [wr_eq hd ho e] at hw; cases hw
    have : (a.put o.dst v).tmps.toList.getD t undef = a.tmps.toList.getD t undef := by
      cases hdst : o.dst with
      | none => rfl
      | some d =>
        simp only [Act.put, Array.toList_setIfInBounds]
        rw [List.getD_eq_getElem?_getD, List.getD_eq_getElem?_getD, List.getElem?_set_ne (fun e => hne (by rw [hdst, e]))]
    rw [this]
    exact hs
  | some j =>
    rw [hw] at hs
    simp only at hs ⊢
    by_cases e : j = i
    · subst e
      obtain ⟨oj, hj, hjd⟩ := wr_some hw
      rw [ho] at hj
      cases hj
      rw [if_pos (by rw [getD_set hil, if_pos rfl]), hpv]
      have : (a.put o.dst v).tmps.toList.getD t undef = v := by
        rw [hjd]
        simp only [Act.put, Array.toList_setIfInBounds]
        rw [List.getD_eq_getElem?_getD, List.getElem?_set_self (by rw [hi.tlen]; exact ht)]
        rfl
      rw [this]
      exact hv
    · have hne : o.dst ≠ some t := fun e' => by rw [wr_eq hd ho e'] at hw; exact e (Option.some.inj hw).symm
      have : (a.put o.dst v).tmps.toList.getD t undef = a.tmps.toList.getD t undef := by
        cases hdst : o.dst with
        | none => rfl
        | some d =>
          simp only [Act.put, Array.toList_setIfInBounds]
          rw [List.getD_eq_getElem?_getD, List.getD_eq_getElem?_getD, List.getElem?_set_ne (fun e => hne (by rw [hdst, e]))]
      rw [this, getD_set hil, if_neg e]
      by_cases hdj : listed.getD j false = true
      · rw [if_pos hdj] at hs ⊢
        rw [hpv' j hdj]
        exact hs
      · rw [if_neg hdj] at hs ⊢
        exact hs
theorem closed_set (hi : Inv T l env0 listed a w done fl pend env st c1 pv) {i : Nat} {o : Oper} (ho : l[i]? = some o) (hdir : ∀ e ∈ o.after.toList, Region.binds .any e = true → listed.getD e.on false = true) : Closed l (listed.setIfInBounds i true) := by
  have hil : i < listed.size := by rw [hi.llen]; exact (List.getElem?_eq_some_iff.1 ho).1
  intro j oj hj hdj e he hb
  rw [getD_set hil] at hdj ⊢
  split
  · rfl
  · split at hdj
    · rename_i hji
      subst hji
      rw [ho] at hj
      cases hj
      exact hdir e he hb
    · exact hi.closed j oj hj hdj e he hb
theorem tlen_put (hi : Inv T l env0 listed a w done fl pend env st c1 pv) (d : Option Nat) (v : Value) : (a.put d v).tmps.toList.length = env0.length := by
  cases d with
  | none => exact hi.tlen
  | some d => simp only [Act.put, Array.toList_setIfInBounds, List.length_set]; exact hi.tlen

include hd in
theorem advance {K : List PV → St → Prop} {Kp : PV → St → Prop} : ∀ (fl done : Nat) (pend : List (Nat × (St → Prop))) (env : List PV) (c1 : List Nat) (pv : Nat → PV), Inv T l env0 listed a w done fl pend env st c1 pv →
    hDrawE P T l fl done pend env st K Kp →
    ∃ fl' done' pend' env' c1' pv', Inv T l env0 listed a w done' fl' pend' env' st c1' pv' ∧ (fl' = 0 ∨ nextQ l (masks l) done' = none) ∧ hDrawE P T l fl' done' pend' env' st K Kp
  | 0, done, pend, env, c1, pv, hi, h => ⟨0, done, pend, env, c1, pv, hi, .inl rfl, h⟩
  | fl + 1, done, pend, env, c1, pv, hi, h => by
    cases hnq : nextQ l (masks l) done with
    | none => exact ⟨fl + 1, done, pend, env, c1, pv, hi, .inr hnq, h⟩
    | some i =>
      obtain ⟨sk, h⟩ := h
      simp only [hDraw, hnq] at h
      have hf := List.find?_some hnq
      simp only [Bool.and_eq_true, Bool.not_eq_true'] at hf
      obtain ⟨⟨hf1, hf2⟩, hf3⟩ := hf
      cases ho : l[i]? with
      | none => rw [ho] at h; exact h.elim
      | some o =>
      rw [ho] at h hf3
      simp only at h
      have hq : isQ o.op = true := by simpa using hf3
      have hil : i < l.length := (List.getElem?_eq_some_iff.1 ho).1
      have hni : i ∉ c1 := by
        intro hm
        rw [← hi.tr.dn, hf1] at hm
        cases hm
      have hnd : listed.getD i false = false := by
        cases h : listed.getD i false with
        | false => rfl
        | true => exact absurd (hi.sub i h) hni
      -- what it comes to
      have go : ∀ (p : PV) (pend' : List (Nat × (St → Prop))) (b : Bool), (∀ x ∈ pend, x ∈ pend') → runsIn (l.map (·.dst)) o env = some b →
          (b = true → opQ T st (evO env) o.op = some p ∧ (looksSt o.op = true → (i, fun st' => opQ T st' (evO env) o.op = some p) ∈ pend')) → (b = false → p = .tup []) →
          hDrawE P T l fl (done ||| 2 ^ i) pend' (putE env o.dst p) st K Kp →
          ∃ fl' done' pend' env' c1' pv', Inv T l env0 listed a w done' fl' pend' env' st c1' pv' ∧ (fl' = 0 ∨ nextQ l (masks l) done' = none) ∧ hDrawE P T l fl' done' pend' env' st K Kp := by
        intro p pend' b hsub hr h1 h2 h
        refine advance fl (done ||| 2 ^ i) pend' (putE env o.dst p) (c1 ++ [i]) (fun j => if j = i then p else pv j) ?_ h
        have hpvne : ∀ j ∈ c1, (if j = i then p else pv j) = pv j := fun j hj => if_neg (fun (e : j = i) => hni (e ▸ hj))
        have henvAt : ∀ (u : List Nat), (∀ j ∈ u, j ∈ c1) → ∀ t, envAt l env0 u (fun j => if j = i then p else pv j) t = envAt l env0 u pv t := by
          intro u hu t
          unfold envAt
          cases wr l t with
          | none => rfl
          | some j =>
            simp only
            split
            · rename_i hj; exact hpvne j (hu j hj)
            · rfl
        refine ⟨hi.tr.push hil hni hf2, fun j hj => List.mem_append.2 (.inl (hi.sub j hj)), ?_, ?_, ?_, hi.tlen, ?_, ?_, hi.closed, hi.llen⟩
        · intro j hj oj hoj hqj
          rcases List.mem_append.1 hj with hj | hj
          · exact hi.eff j hj oj hoj hqj
          · simp at hj
            subst hj
            rw [ho] at hoj
            cases hoj
            rw [hq] at hqj; cases hqj
        · intro t ht
          unfold envAt
          cases hw : wr l t with
          | none =>
            have hne : o.dst ≠ some t := fun e => by rw [wr_eq hd ho e] at hw; cases hw
            rw [putE_ne hne, hi.envv t ht]
            unfold envAt
            rw [hw]
          | some j =>
            by_cases e : j = i
            · subst e
              obtain ⟨oj, hj, hjd⟩ := wr_some hw
              rw [ho] at hj
              cases hj
              simp only [List.mem_append, List.mem_singleton, or_true, if_true]
              rw [hjd]
              simp only [putE]
              rw [List.getD_eq_getElem?_getD, List.getElem?_set_self (by rw [hi.elen]; exact ht)]
              rfl
            · have hne : o.dst ≠ some t := fun e' => by rw [wr_eq hd ho e'] at hw; exact e (Option.some.inj hw).symm
              rw [putE_ne hne, hi.envv t ht]
              unfold envAt
              rw [hw]
              simp only [List.mem_append, List.mem_singleton, e, or_false, if_false]
        · cases hdst : o.dst with
          | none => exact hi.elen
          | some d => simp only [putE, List.length_set]; exact hi.elen
        · intro t ht
          have := hi.slot t ht
          unfold slotAt at this ⊢
          cases hw : wr l t with
          | none => rw [hw] at this; exact this
          | some j =>
            rw [hw] at this
            simp only at this ⊢
            split
            · rename_i hdj
              rw [if_pos hdj] at this
              rw [hpvne j (hi.sub j hdj)]
              exact this
            · rename_i hdj
              rw [if_neg hdj] at this
              exact this
        · intro q hq' hndq
          rcases List.mem_append.1 hq' with hq' | hq'
          · obtain ⟨oq, envq, b', u, v, e1, e2, e3, e4, e5, e6, e7, e8⟩ := (hi.waits q hq' hndq).ex
            have hqi : q ≠ i := fun e => hni (e ▸ hq')
            refine ⟨oq, envq, b', u, v ++ [i], e1, e2, e3, by rw [e4]; simp, e5, ?_, ?_, ?_⟩
            · intro t ht
              rw [e6 t ht, henvAt u (fun j hj => by rw [e4]; simp [hj])]
            · intro hb
              simp only [hqi, if_false]
              exact ⟨(e7 hb).1, fun hl => hsub _ ((e7 hb).2 hl)⟩
            · intro hb
              simp only [hqi, if_false]
              exact e8 hb
          · simp at hq'
            subst hq'
            refine ⟨o, env, b, c1, [], ho, hq, hr, rfl, hi.elen, ?_, ?_, ?_⟩
            · intro t ht
              rw [hi.envv t ht, henvAt c1 (fun _ h => h)]
            · intro hb; simp only [if_true]; exact h1 hb
            · intro hb; simp only [if_true]; exact h2 hb
      rcases hStep_cons h with ⟨hr, h⟩ | ⟨hr, h⟩
      · unfold hRun at h
        rw [if_pos hq] at h
        cases hp : opQ T st (evO env) o.op with
        | none => rw [hp] at h; exact h.elim
        | some p =>
          rw [hp] at h
          refine go p _ true ?_ hr (fun _ => ⟨hp, ?_⟩) (fun hb => by cases hb) ⟨_, h⟩
          · intro x hx
            split
            · exact List.mem_cons_of_mem _ hx
            · exact hx
          · intro hl
            rw [if_pos (by simp [hl])]
            exact List.mem_cons_self
      · exact go (.tup []) pend false (fun _ h => h) hr (fun hb => by cases hb) (fun _ => rfl) ⟨_, h⟩

theorem stabK_spec {m : Nat} : ∀ {pend : List (Nat × (St → Prop))} {st' : St} {K : Prop}, stabK m pend st' K → (∀ x ∈ pend, m.testBit x.1 = false → x.2 st') ∧ K
  | [], _, _, h => ⟨(fun _ h => by cases h), h⟩
  | (j, f) :: r, st', K, h => by
    simp only [stabK] at h
    split at h
    · rename_i hj
      obtain ⟨h1, h2⟩ := stabK_spec h
      refine ⟨fun x hx hm => ?_, h2⟩
      cases hx with
      | head => rw [hj] at hm; cases hm
      | tail _ hx => exact h1 x hx hm
    · obtain ⟨h0, h⟩ := h
      obtain ⟨h1, h2⟩ := stabK_spec h
      refine ⟨fun x hx hm => ?_, h2⟩
      cases hx with
      | head => exact h0
      | tail _ hx => exact h1 x hx hm
end
end Go.H
namespace Go.H
open Go
set_option linter.unusedVariables false
set_option linter.unusedSectionVars false
set_option linter.unusedSimpArgs false

theorem ROs.of_get {C : Nat → Nat → Value → Prop} : ∀ {ps : List PV} {vs : List Value}, vs.length = ps.length → (∀ t, t < ps.length → RO C (ps.getD t .junk) (vs.getD t undef)) → ROs C ps vs
  | [], vs, h, _ => by simpa [ROs] using h
  | p :: ps, [], h, _ => by simp at h
  | p :: ps, v :: vs, h, hg => by
    refine ⟨v, vs, rfl, by simpa using hg 0 (by simp), ROs.of_get (by simpa using h) fun t ht => ?_⟩
    simpa using hg (t + 1) (by simpa using ht)

theorem all_in_len : ∀ (n : Nat) (c : List Nat), (∀ i, i < n → i ∈ c) → n ≤ c.length
  | 0, _, _ => Nat.zero_le _
  | n + 1, c, h => by
    have hn := h n (by omega)
    have h1 := all_in_len n (c.erase n) (fun i hi => (List.mem_erase_of_ne (by omega)).2 (h i (by omega)))
    rw [List.length_erase_of_mem hn] at h1
    have := List.length_pos_of_mem hn
    omega

section
variable [own : OwnLit] {P : Program} {T : TypeId → Option TD} (hT : TyOK P T) {ops : Array Oper} (hd : Draws ops.toList) {env0 : List PV}
  {w0 : World} {st0 : St} {d0 : List Deferred} {K : List PV → St → Prop} {Kp : PV → St → Prop} {Q : Exit → Act → World → Prop}

theorem ready_iff {listed : Array Bool} (hl : listed.size = ops.toList.length) {i : Nat} : i ∈ Region.ready .any ops listed ↔
    ∃ o, ops.toList[i]? = some o ∧ listed.getD i false = false ∧ ∀ e ∈ o.after.toList, Region.binds .any e = true → listed.getD e.on false = true := by
  unfold Region.ready
  rw [List.mem_filter]
  simp only [List.mem_range, Bool.and_eq_true, Bool.not_eq_true']
  have hgg : ∀ j, j < ops.size → listed.getD j true = listed.getD j false := fun j hj => by
    have : j < listed.size := by rw [hl]; simpa using hj
    simp [Array.getD, this]
  constructor
  · rintro ⟨h1, h2, h3⟩
    cases ho : ops[i]? with
    | none => rw [ho] at h3; simp at h3
    | some o =>
      rw [ho] at h3
      refine ⟨o, by simpa using ho, by rw [← hgg i h1]; exact h2, fun e he hb => ?_⟩
      simp only [Option.map_some, Option.getD_some, Array.all_eq_true'] at h3
      have := h3 e (by simpa using he)
      simpa [hb] using this
  · rintro ⟨o, h1, h2, h3⟩
    have h1' : ops[i]? = some o := by simpa using h1
    have hi : i < ops.size := (Array.getElem?_eq_some_iff.1 h1').1
    refine ⟨hi, by rw [hgg i hi]; exact h2, ?_⟩
    rw [h1']
    simp only [Option.map_some, Option.getD_some, Array.all_eq_true']
    intro e he
    by_cases hb : Region.binds .any e = true
    · simp [hb, h3 e (by simpa using he) hb]
    · simp [hb]

theorem filter_less : ∀ (r : List Nat) (i : Nat) (f g : Nat → Bool), r.Nodup → i ∈ r → f i = false → g i = true → (∀ j, j ≠ i → f j = g j) → (r.filter f).length + 1 ≤ (r.filter g).length
  | [], _, _, _, _, h, _, _, _ => by cases h
  | x :: r, i, f, g, hn, hm, hf, hgi, hfg => by
    rw [List.nodup_cons] at hn
    by_cases hx : x = i
    · subst hx
      have e : r.filter f = r.filter g := List.filter_congr fun j hj => hfg j (fun e => hn.1 (e ▸ hj))
      rw [List.filter_cons, List.filter_cons, hf, hgi, e]
      simp
    · have hm' : i ∈ r := by
        cases hm with
        | head => exact absurd rfl hx
        | tail _ h => exact h
      have ih := filter_less r i f g hn.2 hm' hf hgi hfg
      rw [List.filter_cons, List.filter_cons, hfg x hx]
      cases g x <;> simp <;> omega
def undone (l : List Oper) (listed : Array Bool) : Nat := ((List.range l.length).filter (fun i => !listed.getD i false)).length
theorem undone_set {l : List Oper} {listed : Array Bool} (hl : listed.size = l.length) {i : Nat} (hi : i < l.length) (hnd : listed.getD i false = false) : undone l (listed.setIfInBounds i true) + 1 ≤ undone l listed := by
  unfold undone
  have hset : ∀ j, (listed.setIfInBounds i true).getD j false = if j = i then true else listed.getD j false := fun j => getD_set (by omega)
  exact filter_less (List.range l.length) i _ _ List.nodup_range (by simpa using hi) (by rw [hset, if_pos rfl]; rfl) (by rw [hnd]; rfl) (fun j hj => by rw [hset, if_neg hj])
theorem undone_zero {l : List Oper} {listed : Array Bool} : undone l listed = 0 ↔ ∀ i, i < l.length → listed.getD i false = true := by
  unfold undone
  rw [List.length_eq_zero_iff, List.filter_eq_nil_iff]
  simp

include hd in
theorem draw_end {listed : Array Bool} {a : Act} {w : World} {done fl : Nat} {pend : List (Nat × (St → Prop))} {env : List PV} {st : St} {c1 : List Nat} {pv : Nat → PV}
    (hi : Inv T ops.toList env0 listed a w done fl pend env st c1 pv) (h : hDrawE P T ops.toList fl done pend env st K Kp) (hall : ∀ i, i < ops.toList.length → listed.getD i false = true) :
    K env st ∧ ROs (Cw w st) env a.tmps.toList ∧ Agree (modsOps ops.toList) env0 env := by
  have hfl : fl = 0 := by
    have h1 := all_in_len ops.toList.length c1 (fun i hil => hi.sub i (hall i hil))
    have h2 := hi.tr.fuel
    omega
  subst hfl
  obtain ⟨_, h⟩ := h
  refine ⟨h, ROs.of_get (by rw [hi.tlen, hi.elen]) fun t ht => ?_, hi.elen, fun t ht => ?_⟩
  · rw [hi.elen] at ht
    have hs := hi.slot t ht
    rw [hi.envv t ht]
    unfold slotAt at hs
    unfold envAt
    cases hw : wr ops.toList t with
    | none => rw [hw] at hs; exact hs
    | some j =>
      rw [hw] at hs
      simp only at hs ⊢
      obtain ⟨o, hj, _⟩ := wr_some hw
      have hdj := hall j (List.getElem?_eq_some_iff.1 hj).1
      rw [if_pos hdj] at hs
      rw [if_pos (hi.sub j hdj)]
      exact hs
  · have hw : wr ops.toList t = none := by
      cases hw : wr ops.toList t with
      | none => rfl
      | some j =>
        obtain ⟨o, hj, hjd⟩ := wr_some hw
        exact absurd (List.mem_filterMap.2 ⟨o, List.mem_of_getElem? hj, hjd⟩) ht
    by_cases hlt : t < env0.length
    · rw [hi.envv t hlt]
      unfold envAt
      rw [hw]
    · rw [List.getD_eq_getElem?_getD, List.getD_eq_getElem?_getD, List.getElem?_eq_none (by rw [hi.elen]; omega), List.getElem?_eq_none (by omega)]

include hd in
theorem ready_some {listed : Array Bool} (hl : listed.size = ops.toList.length) (h : ¬ ∀ i, i < ops.toList.length → listed.getD i false = true) : Region.ready .any ops listed ≠ [] := by
  intro hnil
  apply h
  -- along the order of the layer
  have key : ∀ (k i : Nat), (canon ops.toList)[k]? = some i → listed.getD i false = true := by
    intro k
    induction k using Nat.strongRecOn with
    | _ k ih =>
      intro i hk
      have hil := hd.lt i (List.mem_of_getElem? hk)
      cases hdi : listed.getD i false with
      | true => rfl
      | false =>
        exfalso
        have : i ∈ Region.ready .any ops listed := by
          rw [ready_iff hl]
          refine ⟨_, List.getElem?_eq_getElem hil, hdi, fun e he hb => ?_⟩
          have hlt := hd.inb _ (List.getElem_mem hil) e he
          have hm := hd.resp k i hk e.on hlt (direct_before (List.getElem?_eq_getElem hil) he hb)
          rw [List.mem_iff_getElem?] at hm
          obtain ⟨j, hj⟩ := hm
          rw [List.getElem?_take] at hj
          split at hj
          · rename_i hjk
            exact ih j hjk e.on hj
          · cases hj
        rw [hnil] at this
        cases this
  intro i hi
  -- every number is in the order
  have hmem : i ∈ canon ops.toList := by
    apply Classical.byContradiction
    intro hni
    have h1 : (i :: canon ops.toList).Nodup := List.nodup_cons.2 ⟨hni, hd.nodup⟩
    have := nodup_le ops.toList.length (i :: canon ops.toList) h1 (fun x hx => by
      cases hx with
      | head => exact hi
      | tail _ hx => exact hd.lt x hx)
    rw [List.length_cons, hd.len] at this
    omega
  obtain ⟨k, hk⟩ := List.mem_iff_getElem?.1 hmem
  exact key k i hk
end
end Go.H
namespace Go.H
open Go
set_option linter.unusedVariables false
set_option linter.unusedSectionVars false
set_option linter.unusedSimpArgs false

section
variable [own : OwnLit] {P : Program} {T : TypeId → Option TD} (hT : TyOK P T) {ops : Array Oper} (hd : Draws ops.toList) {env0 : List PV}
  {r : Option Nat} {mk : Bool} {w0 : World} {st0 : St} {d0 : List Deferred} {K : List PV → St → Prop} {Kp : PV → St → Prop} {Q : Exit → Act → World → Prop}

include hT hd in
theorem draw_sound (hK : ∀ env st a w, K env st → Agree (modsOps ops.toList) env0 env → Sim mk w0 st0 d0 env st a w → Q .normal a w)
    (hKp : ∀ p st v a w, Kp p st → Evo w0 st0 w st → Good w st → RO (Cw w st) p v → Marked mk w0 w st d0 a.defers → Q (.panic [{ v, recovered := false }]) a w) :
    ∀ (fuel : Nat) (listed : Array Bool) (a : Act) (w : World) (done fl : Nat) (pend : List (Nat × (St → Prop))) (env : List PV) (st : St) (c1 : List Nat) (pv : Nat → PV),
      Inv T ops.toList env0 listed a w done fl pend env st c1 pv → (fl = 0 ∨ nextQ ops.toList (masks ops.toList) done = none) → hDrawE P T ops.toList fl done pend env st K Kp →
      undone ops.toList listed ≤ fuel → Evo w0 st0 w st → Good w st → Marked mk w0 w st d0 a.defers → wpAnyIn (fw r) 0 P .any ops Q fuel listed a w := by
  intro fuel
  induction fuel with
  | zero =>
    intro listed a w done fl pend env st c1 pv hi hh h hu he hg hdf
    have hall := undone_zero.1 (Nat.le_zero.1 hu)
    refine ⟨?_, ?_⟩
    · cases hr : Region.ready .any ops listed with
      | nil => rfl
      | cons i r =>
        have : i ∈ Region.ready .any ops listed := by rw [hr]; exact List.mem_cons_self
        obtain ⟨o, h1, h2, _⟩ := (ready_iff hi.llen).1 this
        rw [hall i (List.getElem?_eq_some_iff.1 h1).1] at h2
        cases h2
    · obtain ⟨h1, h2, h3⟩ := draw_end hd hi h hall
      exact hK env st a w h1 h3 ⟨he, hg, h2, hdf⟩
  | succ fuel ih =>
    intro listed a w done fl pend env st c1 pv hi hh h hu he hg hdf
    refine ⟨fun hr => ?_, fun i hri => ?_⟩
    · have hall : ∀ i, i < ops.toList.length → listed.getD i false = true := Classical.byContradiction fun hc => ready_some hd hi.llen hc hr
      obtain ⟨h1, h2, h3⟩ := draw_end hd hi h hall
      exact hK env st a w h1 h3 ⟨he, hg, h2, hdf⟩
    obtain ⟨o, ho, hnd, hdir⟩ := (ready_iff hi.llen).1 hri
    have hil : i < ops.toList.length := (List.getElem?_eq_some_iff.1 ho).1
    have hils : i < listed.size := by rw [hi.llen]; exact hil
    have ho' : ops[i]? = some o := by simpa using ho
    have hu' : undone ops.toList (listed.setIfInBounds i true) ≤ fuel := by have := undone_set hi.llen hil hnd; omega
    have hset : ∀ j, (listed.setIfInBounds i true).getD j false = if j = i then true else listed.getD j false := fun j => getD_set hils
    have hcl' := closed_set hi ho hdir
    have hll' : (listed.setIfInBounds i true).size = ops.toList.length := by simpa using hi.llen
    have hdl : ops.toList.length = ops.size := by simp
    unfold wpOpIn
    rw [ho']
    simp only
    by_cases hic : i ∈ c1
    · -- the layer has been here
      obtain ⟨oq, envq, b, u, v, e1, e2, e3, e4, e5, e6, e7, e8⟩ := (hi.waits i hic hnd).ex
      rw [ho] at e1
      cases e1
      have hrd := reads_ok hd hi ho hnd hdir (u := u) (fun j hb => hi.tr.resp u i v e4 j hb) (fun j hb hju => by
        obtain ⟨u1, u2, hu3⟩ := List.append_of_mem hju
        have h1 := hi.tr.resp u1 j (u2 ++ i :: v) (by rw [e4, hu3]; simp) i hb
        have hn := hi.tr.nod
        rw [e4, hu3] at hn
        exact (List.nodup_append.1 hn).2.2 i (by simp [h1]) i (by simp) rfl) e5 e6
      have hw := wanted_of_runs (ops := ops) (a := a) e3 (fun j want g hgd hdj => hrd g (guard_reads hgd hdj))
      -- what is asked behind it
      have cont : ∀ (v : Value) (w' : World), Evo w st w' st → Good w' st → RO (Cw w' st) (pv i) v → wpAnyIn (fw r) 0 P .any ops Q fuel (listed.setIfInBounds i true) (a.put o.dst v) w' := by
        intro v w' hev hg' hv
        refine ih _ _ _ done fl pend env st c1 pv ⟨hi.tr, ?_, ?_, hi.envv, hi.elen, tlen_put hi _ _, slot_put hd hi ho rfl (fun _ _ => rfl) hev.cw hv hnd, ?_, hcl', hll'⟩ hh h hu' (he.trans hev) hg' (hdf.put hev _ _)
        · intro j hj
          rw [hset] at hj
          split at hj
          · rename_i e; exact e ▸ hic
          · exact hi.sub j hj
        · intro j hj oj hoj hq
          rw [hset]
          split
          · rfl
          · exact hi.eff j hj oj hoj hq
        · intro q hq hndq
          rw [hset] at hndq
          split at hndq
          · cases hndq
          · exact hi.waits q hq hndq
      cases b with
      | true =>
        rw [hw]
        simp only [if_true]
        obtain ⟨h1, h2⟩ := e7 rfl
        rw [opQ_congr (onlyρ_eq envq o.op)] at h1
        obtain ⟨v, w', r1, r2, r3, r4⟩ := opQ_sound (P := P) hT hg (onlyρ_rel hrd) h1
        refine opWp_in (opQ_nd h1) ?_
        unfold opWp
        rw [r1]
        exact cont v w' r2 r3 r4
      | false =>
        rw [hw]
        simp only [Bool.false_eq_true, if_false]
        refine ⟨fun _ _ => trivial, ?_⟩
        refine cont undef w (Evo.refl w st) hg ?_
        rw [e8 rfl]
        exact RO_undef _
    · -- the next operation that turns the state
      have hready : ∀ j, before ops.toList j i → j ∈ c1 := fun j hb => hi.sub j (anc_done hi.closed hi.llen i o ho hdir j hb)
      have hrdy := hi.tr.isReady hready
      have hdb : done.testBit i = false := by
        cases hb : done.testBit i with
        | false => rfl
        | true => exact absurd ((hi.tr.dn i).1 hb) hic
      obtain ⟨fl, rfl⟩ : ∃ k, fl = k + 1 := ⟨fl - 1, by have := hi.tr.fuel_pos hil hic; omega⟩
      have hnq : nextQ ops.toList (masks ops.toList) done = none := by
        rcases hh with hh | hh
        · cases hh
        · exact hh
      have hqo : isQ o.op = false := by
        cases hq : isQ o.op with
        | false => rfl
        | true =>
          have := List.find?_eq_none.1 hnq i (by simpa using hil)
          rw [hdb, hrdy, ho] at this
          simp [hq] at this
      have hrd := reads_ok hd hi ho hnd hdir (u := c1) hready (fun j hb hjc => by
        obtain ⟨u1, u2, hu3⟩ := List.append_of_mem hjc
        have h1 := hi.tr.resp u1 j u2 hu3 i hb
        exact hic (by rw [hu3]; simp [h1])) hi.elen hi.envv
      -- what is asked behind it
      have cont : ∀ (p : PV) (st' : St) (v : Value) (w' : World), Evo w st w' st' → Good w' st' → RO (Cw w' st') p v → (∀ x ∈ pend, x.2 st → ((masks ops.toList).getD i 0).testBit x.1 = false → x.2 st') →
          hDrawE P T ops.toList fl (done ||| 2 ^ i) pend (putE env o.dst p) st' K Kp → wpAnyIn (fw r) 0 P .any ops Q fuel (listed.setIfInBounds i true) (a.put o.dst v) w' := by
        intro p st' v w' hev hg' hv hstab hseq
        have hpvne : ∀ j ∈ c1, (if j = i then p else pv j) = pv j := fun j hj => if_neg (fun (e : j = i) => hic (e ▸ hj))
        have henvAt : ∀ (u : List Nat), (∀ j ∈ u, j ∈ c1) → ∀ t, envAt ops.toList env0 u (fun j => if j = i then p else pv j) t = envAt ops.toList env0 u pv t := by
          intro u hu t
          unfold envAt
          cases wr ops.toList t with
          | none => rfl
          | some j =>
            simp only
            split
            · rename_i hj; exact hpvne j (hu j hj)
            · rfl
        have hinv : Inv T ops.toList env0 (listed.setIfInBounds i true) (a.put o.dst v) w' (done ||| 2 ^ i) fl pend (putE env o.dst p) st' (c1 ++ [i]) (fun j => if j = i then p else pv j) := by
          refine ⟨hi.tr.push hil hic hrdy, ?_, ?_, ?_, ?_, tlen_put hi _ _, ?_, ?_, hcl', hll'⟩
          · intro j hj
            rw [hset] at hj
            split at hj
            · rename_i e; subst e; simp
            · exact List.mem_append.2 (.inl (hi.sub j hj))
          · intro j hj oj hoj hq
            rw [hset]
            split
            · rfl
            · rename_i e
              rcases List.mem_append.1 hj with hj | hj
              · exact hi.eff j hj oj hoj hq
              · simp at hj; exact absurd hj e
          · intro t ht
            unfold envAt
            cases hw : wr ops.toList t with
            | none =>
              have hne : o.dst ≠ some t := fun e => by rw [wr_eq hd ho e] at hw; cases hw
              rw [putE_ne hne, hi.envv t ht]
              unfold envAt
              rw [hw]
            | some j =>
              by_cases e : j = i
              · subst e
                obtain ⟨oj, hj, hjd⟩ := wr_some hw
                rw [ho] at hj
                cases hj
                simp only [List.mem_append, List.mem_singleton, or_true, if_true]
                rw [hjd]
                simp only [putE]
                rw [List.getD_eq_getElem?_getD, List.getElem?_set_self (by rw [hi.elen]; exact ht)]
                rfl
              · have hne : o.dst ≠ some t := fun e' => by rw [wr_eq hd ho e'] at hw; exact e (Option.some.inj hw).symm
                rw [putE_ne hne, hi.envv t ht]
                unfold envAt
                rw [hw]
                simp only [List.mem_append, List.mem_singleton, e, or_false, if_false]
          · cases hdst : o.dst with
            | none => exact hi.elen
            | some d => simp only [putE, List.length_set]; exact hi.elen
          · exact slot_put hd hi ho (by simp) (fun j hj => hpvne j (hi.sub j hj)) hev.cw hv hnd
          · intro q hq' hndq
            rw [hset] at hndq
            split at hndq
            · cases hndq
            rename_i hqi
            have hqc : q ∈ c1 := by
              rcases List.mem_append.1 hq' with h1 | h1
              · exact h1
              · simp at h1; exact absurd h1 hqi
            obtain ⟨oq, envq, b', u, v', e1, e2, e3, e4, e5, e6, e7, e8⟩ := (hi.waits q hqc hndq).ex
            refine ⟨oq, envq, b', u, v' ++ [i], e1, e2, e3, by rw [e4]; simp, e5, ?_, ?_, ?_⟩
            · intro t ht
              rw [e6 t ht, henvAt u (fun j hj => by rw [e4]; simp [hj])]
            · intro hb
              simp only [hqi, if_false]
              obtain ⟨h1, h2⟩ := e7 hb
              refine ⟨?_, h2⟩
              cases hl : looksSt oq.op with
              | false => rw [← opQ_st (st := st) hl]; exact h1
              | true =>
                -- what was loaded is there still
                have hnb : ((masks ops.toList).getD i 0).testBit q = false := by
                  cases hbq : ((masks ops.toList).getD i 0).testBit q with
                  | false => rfl
                  | true =>
                    have := anc_done hi.closed hi.llen i o ho hdir q hbq
                    rw [hndq] at this
                    cases this
                exact hstab _ (h2 hl) h1 hnb
            · intro hb
              simp only [hqi, if_false]
              exact e8 hb
        obtain ⟨fl', done', pend', env', c1', pv', i1, i2, i3⟩ := advance hd fl (done ||| 2 ^ i) pend (putE env o.dst p) (c1 ++ [i]) _ hinv hseq
        exact ih _ _ _ done' fl' pend' env' st' c1' pv' i1 i2 i3 hu' (he.trans hev) hg' (hdf.put hev _ _)
      obtain ⟨sk, h⟩ := h
      simp only [hDraw, hnq] at h
      have h := allP_mem h i (by
        unfold readyE
        rw [List.mem_filter]
        refine ⟨by simpa using hil, ?_⟩
        rw [hdb, hrdy]
        rfl)
      rw [ho] at h
      simp only at h
      rcases hStep_cons h with ⟨hr, h⟩ | ⟨hr, h⟩
      · have hw := wanted_of_runs (ops := ops) (a := a) hr (fun j want g hgd hdj => hrd g (guard_reads hgd hdj))
        rw [hw]
        simp only [if_true]
        unfold hRun at h
        rw [if_neg (by rw [hqo]; simp), hEff_congr (onlyρ_eq env o.op)] at h
        refine opWp_in (hEff_nd h) ?_
        refine hEff_sound hT hg (onlyρ_rel hrd) ?_ ?_ h
        · intro p st' hk v w' hev hg' hv
          simp only [if_true] at hk
          obtain ⟨k1, k2⟩ := stabK_spec hk
          exact cont p st' v w' hev hg' hv (fun x hx _ hm => k1 x hx hm) ⟨_, k2⟩
        · intro p st' hk v w' hev hg' hv
          exact hKp p st' v a w' hk (he.trans hev) hg' hv (hdf.evo hev)
      · have hw := wanted_of_runs (ops := ops) (a := a) hr (fun j want g hgd hdj => hrd g (guard_reads hgd hdj))
        rw [hw]
        simp only [Bool.false_eq_true, if_false]
        refine ⟨fun _ _ => trivial, ?_⟩
        refine cont (.tup []) st undef w (Evo.refl w st) hg (RO_undef _) ?_ ⟨_, h⟩
        exact fun _ _ h1 _ => h1

include hT in
theorem hRegion_sound (hm : P.follows .mixedOrders = true) {id : Nat} {draw : Bool} {env : List PV} {st : St} {a : Act} {w : World}
    (hK : ∀ env' st a w, K env' st → Agree (modsOps ops.toList) env env' → Sim mk w0 st0 d0 env' st a w → Q .normal a w)
    (hKp : ∀ p st v a w, Kp p st → Evo w0 st0 w st → Good w st → RO (Cw w st) p v → Marked mk w0 w st d0 a.defers → Q (.panic [{ v, recovered := false }]) a w)
    (hs : Sim mk w0 st0 d0 env st a w) (h : hRegion P T ops draw env st K Kp) : (Code.region id ops draw).wpIn (fw r) 0 P Q a w := by
  unfold hRegion at h
  cases draw with
  | false =>
    simp only [Bool.false_eq_true, if_false] at h
    refine wpIn_region ?_
    have hl : (ops.toList.zipIdx.map fun x => (x.2, x.1)).map (·.1) = List.range ops.size := by
      rw [List.map_map]
      have : ((fun x : Nat × Oper => x.1) ∘ fun x : Oper × Nat => (x.2, x.1)) = fun x => x.2 := rfl
      rw [this]
      simp [List.range_eq_range']
    rw [← hl]
    refine hSeq_sound hT (env0 := env) (mds := modsOps ops.toList) hK hKp _ _ _ _ _ ?_ ⟨rfl, fun _ _ => rfl⟩ hs ⟨_, h⟩
    intro x hx
    rw [List.mem_map] at hx
    obtain ⟨y, hy, rfl⟩ := hx
    have := (List.mem_zipIdx_iff_getElem?).1 hy
    exact ⟨by simpa using this, fun d hd => List.mem_filterMap.2 ⟨y.1, List.mem_of_getElem? this, hd⟩⟩
  | true =>
    simp only [if_true] at h
    split at h
    case isFalse => exact h.elim
    rename_i hok
    have hd := draws_of hok
    refine wpIn_region_any hm ?_
    have hsz : ops.size = ops.toList.length := by simp
    -- at the beginning nothing is done
    have hrep : ∀ i, (Array.replicate ops.size false).getD i false = false := fun i => by
      rw [Array.getD_eq_getD_getElem?]
      by_cases h : i < ops.size
      · simp [h]
      · simp [h]
    have hsim : Sim mk w0 st0 d0 env st a w.drew := ⟨hs.evo.trans (Evo.drew w st), hs.good.drew, hs.slots.mono (Evo.drew w st).cw, hs.defers.evo (Evo.drew w st)⟩
    have hinv : Inv T ops.toList env (Array.replicate ops.size false) a w.drew 0 ops.toList.length [] env st [] (fun _ => .junk) := by
      refine ⟨Track.nil _, fun i hi => ?_, (fun i hi => by cases hi), fun t ht => ?_, rfl, ?_, fun t ht => ?_, (fun q hq => by cases hq), fun j o _ hj => ?_, by simp⟩
      · rw [hrep] at hi; cases hi
      · unfold envAt
        cases wr ops.toList t <;> simp
      · exact ROs.length hsim.slots
      · unfold slotAt
        have := hsim.slots.get t
        cases wr ops.toList t with
        | none => exact this
        | some j => simp only; rw [if_neg (by rw [hrep]; simp)]; exact this
      · rw [hrep] at hj; cases hj
    obtain ⟨fl', done', pend', env', c1', pv', i1, i2, i3⟩ := advance hd _ _ _ _ _ _ hinv ⟨_, h⟩
    refine draw_sound hT hd hK hKp ops.size _ _ _ _ _ _ _ _ _ _ i1 i2 i3 ?_ hsim.evo hsim.good hsim.defers
    unfold undone
    refine Nat.le_trans (List.length_filter_le _ _) ?_
    simp
end
end Go.H
