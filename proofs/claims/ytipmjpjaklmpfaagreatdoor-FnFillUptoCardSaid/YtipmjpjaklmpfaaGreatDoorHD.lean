/- Part of a proof that the program answers as the reference does: HCore15, HCore16, HCore17, HCore18, HCore19, HTree, HCut. -/
import Derived.IntWalk
import Derived.Test.YtipmjpjaklmpfaaGreatDoorHC
namespace Go.H
open Go
set_option linter.unusedVariables false
set_option linter.unusedSectionVars false
set_option linter.unusedSimpArgs false

theorem Agree.refl (ms : List Nat) (env : List PV) : Agree ms env env := ⟨rfl, fun _ _ => rfl⟩
theorem Agree.trans {ms ms' : List Nat} {e1 e2 e3 : List PV} (h : Agree ms e1 e2) (h' : Agree ms' e2 e3) : Agree (ms ++ ms') e1 e3 := ⟨h'.1.trans h.1, fun t ht => by
  simp only [List.mem_append, not_or] at ht
  rw [h'.2 t ht.2, h.2 t ht.1]⟩
theorem Agree.mono {ms ms' : List Nat} {e1 e2 : List PV} (h : Agree ms e1 e2) (hs : ∀ t ∈ ms, t ∈ ms') : Agree ms' e1 e2 := ⟨h.1, fun t ht => h.2 t fun hm => ht (hs t hm)⟩

def LQ (mk : Bool) (w0 : World) (st0 : St) (d0 : List Deferred) (ms : List Nat) (env : List PV) (Q : HExit → List PV → St → Prop) : Exit → Act → World → Prop
  | .normal, a, w => ∃ env' st', Q .normal env' st' ∧ Agree ms env env' ∧ Sim mk w0 st0 d0 env' st' a w
  | .exit id, a, w => ∃ env' st', Q (.exit id) env' st' ∧ Agree ms env env' ∧ Sim mk w0 st0 d0 env' st' a w
  | .goto l, a, w => ∃ env' st', Q (.goto l) env' st' ∧ Agree ms env env' ∧ Sim mk w0 st0 d0 env' st' a w
  | .ret, a, w => ∃ env' st', Q .ret env' st' ∧ Agree ms env env' ∧ Sim mk w0 st0 d0 env' st' a w
  | .panic ch, a, w => ∃ env' st' p v, Q (.pan p) env' st' ∧ ch = [{ v, recovered := false }] ∧ Evo w0 st0 w st' ∧ Good w st' ∧ RO (Cw w st') p v ∧ Marked mk w0 w st' d0 a.defers
  | .outgrown, _, _ => False

def LoopWp (r : Option Nat) (P : Program) (c : Code) (Q : Exit → Act → World → Prop) (a : Act) (w : World) : Prop :=
  ∀ (b : Frame) (k : List Item) (cs : List Frame), b.roundOf = (fw r).round → (fw r).fn b.fn → (fw r).room (cs.length + 1 + 0) →
    ∃ e a' w', Q e a' w' ∧ ArrivesIn (Machine.fenced P (fw r)) P (lone (b.atR a (.code c :: .inLoop c :: k)) cs w) b k cs e a' w'
theorem LoopWp.loop {r : Option Nat} {P : Program} {c : Code} {Q : Exit → Act → World → Prop} {a : Act} {w : World} (h : LoopWp r P c Q a w) : (Code.loop c).wpIn (fw r) 0 P Q a w := fun b k cs hro hb hr => by
  obtain ⟨e, a', w', hq, harr⟩ := h b k cs hro hb hr
  exact ⟨e, a', w', hq, .of_steps (.one (fenced_calm hb hr rfl) stepR_loop) harr⟩
theorem LoopWp.round {r : Option Nat} {P : Program} {c : Code} {Q : Exit → Act → World → Prop} {a : Act} {w : World} (h : c.wpIn (fw r) 0 P (Exit.then (LoopWp r P c Q) Q) a w) : LoopWp r P c Q a w := fun b k cs hro hb hr => by
  obtain ⟨e, a₁, w₁, hq, harr⟩ := h b (.inLoop c :: k) cs hro hb hr
  cases e with
  | normal =>
    obtain ⟨e₂, a₂, w₂, hq₂, harr₂⟩ := hq b k cs hro hb hr
    exact ⟨e₂, a₂, w₂, hq₂, .of_steps (StepsIn.trans harr (.one (fenced_calm hb hr rfl) stepR_inLoop)) harr₂⟩
  | exit id => exact ⟨_, a₁, w₁, hq, .pass (x := .inLoop c) rfl (fun _ _ => .inl (by simp)) harr⟩
  | goto l => exact ⟨_, a₁, w₁, hq, .pass (x := .inLoop c) rfl (fun _ _ => .inl (by simp)) harr⟩
  | ret => exact ⟨_, a₁, w₁, hq, .pass (x := .inLoop c) rfl (fun _ _ => .inl (by simp)) harr⟩
  | panic ch => exact ⟨_, a₁, w₁, hq, .pass (x := .inLoop c) rfl (fun _ _ => .inl (by simp)) harr⟩
  | outgrown => exact ⟨_, a₁, w₁, hq, .pass (x := .inLoop c) rfl (fun _ _ => .inl (by simp)) harr⟩

theorem junkGo_len (m : Nat) : ∀ (i : Nat) (env : List PV), (junkGo m i env).length = env.length
  | _, [] => rfl
  | i, p :: ps => by simp only [junkGo, List.length_cons]; rw [junkGo_len m (i + 1) ps]
theorem junkAll_len (ms : List Nat) (env : List PV) : (junkAll env ms).length = env.length := junkGo_len _ _ _
theorem fillAll_len (ls : List PV) : ∀ (live : List Nat) (i : Nat) (env : List PV), (fillAll env ls i live).length = env.length
  | [], _, _ => rfl
  | t :: ts, i, env => by simp only [fillAll]; rw [fillAll_len]; simp
theorem getD_set' (env : List PV) (t u : Nat) (p : PV) : (env.set t p).getD u .junk = if t = u then (if u < env.length then p else .junk) else env.getD u .junk := by
  rw [List.getD_eq_getElem?_getD, List.getD_eq_getElem?_getD, List.getElem?_set]
  by_cases h : t = u
  · subst h
    simp only [if_true]
    split <;> rfl
  · rw [if_neg h, if_neg h]
theorem junkGo_get (m : Nat) : ∀ (i : Nat) (env : List PV) (u : Nat), (junkGo m i env).getD u .junk = if m.testBit (i + u) = true then .junk else env.getD u .junk
  | _, [], u => by simp [junkGo]
  | i, p :: ps, 0 => by simp only [junkGo, List.getD_cons_zero, Nat.add_zero]; cases m.testBit i <;> simp
  | i, p :: ps, u + 1 => by simp only [junkGo, List.getD_cons_succ]; rw [junkGo_get m (i + 1) ps u, show i + 1 + u = i + (u + 1) by omega]
theorem maskL_bit (ms : List Nat) (u : Nat) : (maskL ms).testBit u = true ↔ u ∈ ms := by
  have key : ∀ (ms : List Nat) (s : Nat), (ms.foldl (fun s t => s ||| 2 ^ t) s).testBit u = true ↔ s.testBit u = true ∨ u ∈ ms := by
    intro ms
    induction ms with
    | nil => intro s; simp
    | cons t ts ih =>
      intro s
      rw [List.foldl_cons, ih, Nat.testBit_or, Bool.or_eq_true, Nat.testBit_two_pow, decide_eq_true_eq, List.mem_cons, or_assoc]
      exact or_congr Iff.rfl (or_congr eq_comm Iff.rfl)
  unfold maskL
  rw [key]
  simp
theorem junkAll_get (ms : List Nat) (env : List PV) (u : Nat) : (junkAll env ms).getD u .junk = if u ∈ ms then .junk else env.getD u .junk := by
  unfold junkAll
  rw [junkGo_get, Nat.zero_add]
  by_cases h : u ∈ ms
  · rw [if_pos h, if_pos ((maskL_bit ms u).2 h)]
  · rw [if_neg h, if_neg (fun e => h ((maskL_bit ms u).1 e))]
theorem fillAll_get (ls : List PV) : ∀ (live : List Nat) (i : Nat) (env : List PV) (u : Nat), live.Nodup → (fillAll env ls i live).getD u .junk =
    (match live.idxOf? u with | some j => (if u < env.length then ls.getD (i + j) .junk else .junk) | none => env.getD u .junk)
  | [], _, _, _, _ => by simp [fillAll]
  | t :: ts, i, env, u, hn => by
    rw [List.nodup_cons] at hn
    simp only [fillAll]
    rw [fillAll_get ls ts (i + 1) _ u hn.2, List.length_set]
    by_cases e : t = u
    · subst e
      have h1 : ts.idxOf? t = none := by rw [List.idxOf?_eq_none_iff]; exact hn.1
      have h2 : (t :: ts).idxOf? t = some 0 := by simp [List.idxOf?_cons]
      rw [h1, h2, getD_set']
      simp
    · have h2 : (t :: ts).idxOf? u = (ts.idxOf? u).map (· + 1) := by
        rw [List.idxOf?_cons]
        have : (t == u) = false := by simpa using e
        rw [this]
        rfl
      rw [h2, getD_set', if_neg e]
      cases ts.idxOf? u with
      | none => rfl
      | some j => simp only [Option.map_some]; rw [show i + 1 + j = i + (j + 1) by omega]
theorem refill_get {env ls : List PV} {ms live : List Nat} (hn : live.Nodup) (u : Nat) (hu : u < env.length) : (refill env ms live ls).getD u .junk =
    (match live.idxOf? u with | some j => ls.getD j .junk | none => if u ∈ ms then .junk else env.getD u .junk) := by
  unfold refill
  rw [fillAll_get ls live 0 _ u hn, junkAll_len, junkAll_get]
  cases live.idxOf? u with
  | none => rfl
  | some j => simp only; rw [if_pos hu, Nat.zero_add]
theorem refill_len (env ls : List PV) (ms live : List Nat) : (refill env ms live ls).length = env.length := by
  unfold refill
  rw [fillAll_len, junkAll_len]
theorem idxOf?_some {l : List Nat} {u j : Nat} (h : l.idxOf? u = some j) : l[j]? = some u := by
  rw [List.idxOf?_eq_some_iff] at h
  obtain ⟨h1, h2, _⟩ := h
  rw [List.getElem?_eq_getElem h1]
  simpa using h2

section
variable [own : OwnLit] {P : Program} {T : TypeId → Option TD} (hT : TyOK P T) (hm : P.follows .mixedOrders = true) {ann : List (Nat × List Nat)} {r : Option Nat} {mk : Bool} {d0 : List Deferred} {w0 : World} {st0 : St}

theorem LQ.mono {ms ms' : List Nat} {env env' : List PV} {Q Q' : HExit → List PV → St → Prop} (hq : ∀ e env st, Q e env st → Q' e env st) (ha : ∀ env2, Agree ms env env2 → Agree ms' env' env2) {e : Exit} {a : Act} {w : World}
    (h : LQ mk w0 st0 d0 ms env Q e a w) : LQ mk w0 st0 d0 ms' env' Q' e a w := by
  cases e with
  | normal => obtain ⟨e1, s1, h1, h2, h3⟩ := h; exact ⟨e1, s1, hq _ _ _ h1, ha _ h2, h3⟩
  | exit id => obtain ⟨e1, s1, h1, h2, h3⟩ := h; exact ⟨e1, s1, hq _ _ _ h1, ha _ h2, h3⟩
  | goto l => obtain ⟨e1, s1, h1, h2, h3⟩ := h; exact ⟨e1, s1, hq _ _ _ h1, ha _ h2, h3⟩
  | ret => obtain ⟨e1, s1, h1, h2, h3⟩ := h; exact ⟨e1, s1, hq _ _ _ h1, ha _ h2, h3⟩
  | panic ch => obtain ⟨e1, s1, p, v, h1, h2⟩ := h; exact ⟨e1, s1, p, v, hq _ _ _ h1, h2⟩
  | outgrown => exact h

theorem refill_back {env env' : List PV} {ms live : List Nat} (hnd : live.Nodup) {st' : St} {a' : Act} {w' : World} (hlen : env'.length = env.length) (hag : ∀ t, t < env.length → t ∉ ms → t ∉ live → env'.getD t .junk = env.getD t .junk) (hs' : Sim mk w0 st0 d0 env' st' a' w') :
    Sim mk w0 st0 d0 (refill env ms live (pickAll env' live)) st' a' w' := by
  have hl' : a'.tmps.toList.length = env'.length := ROs.length hs'.slots
  refine ⟨hs'.evo, hs'.good, ?_, hs'.defers⟩
  refine ROs.of_get (by rw [refill_len]; omega) fun t ht => ?_
  rw [refill_len] at ht
  rw [refill_get hnd t ht]
  have hst := hs'.slots.get t
  cases hj : live.idxOf? t with
  | some j =>
    have := idxOf?_some hj
    simp only [pickAll]
    rw [List.getD_eq_getElem?_getD, List.getElem?_map, this]
    exact hst
  | none =>
    simp only
    split
    · exact RO_junk _ _
    · rename_i hmm
      have := hag t ht hmm (List.idxOf?_eq_none_iff.1 hj)
      rw [← this]
      exact hst
theorem refill_agree {env ls : List PV} {ms live : List Nat} (hnd : live.Nodup) (hlm : ∀ t ∈ live, t ∈ ms) : Agree ms env (refill env ms live ls) := ⟨refill_len _ _ _ _, fun t ht => by
  by_cases htl : t < env.length
  · rw [refill_get hnd t htl]
    cases hj : live.idxOf? t with
    | none => simp [ht]
    | some j =>
      have hmem : t ∈ live := List.mem_of_getElem? (idxOf?_some hj)
      exact absurd (hlm t hmem) ht
  · rw [List.getD_eq_getElem?_getD, List.getD_eq_getElem?_getD, List.getElem?_eq_none (by rw [refill_len]; omega), List.getElem?_eq_none (by omega)]⟩
theorem sim_conv {env : List PV} {ms live : List Nat} (hnd : live.Nodup) (hlt : ∀ t ∈ live, t < env.length) {ls ls' : List PV} {st1 st2 : St} {a' : Act} {w' : World} (hcv : Conv ls st1 ls' st2) (hll : ls.length = live.length)
    (hs' : Sim mk w0 st0 d0 (refill env ms live ls) st1 a' w') : ls'.length = live.length ∧ Sim mk w0 st0 d0 (refill env ms live ls') st2 a' w' := by
  obtain ⟨hg2, he2, hv2⟩ := hcv w' hs'.good
  have hl' : a'.tmps.toList.length = env.length := by rw [ROs.length hs'.slots, refill_len]
  have hros : ROs (Cw w' st1) ls (live.map fun t => a'.tmps.toList.getD t undef) := by
    refine ROs.of_get (by simp [hll]) fun j hj => ?_
    have hjl : j < live.length := by omega
    have htl := hlt live[j] (List.getElem_mem hjl)
    have := hs'.slots.get live[j]
    rw [refill_get hnd _ htl] at this
    have hidx : live.idxOf? live[j] = some j := by
      rw [List.idxOf?_eq_some_iff]
      refine ⟨hjl, by simp, fun k hk => ?_⟩
      intro e
      have e' : live[k] = live[j] := by simpa using e
      have := (List.getElem_inj hnd).1 e'
      omega
    rw [hidx] at this
    simp only at this
    rw [List.getD_eq_getElem?_getD (l := List.map _ _), List.getElem?_map, List.getElem?_eq_getElem hjl]
    exact this
  have hros' := hv2 _ hros
  have hll' : ls'.length = live.length := by have := ROs.length hros'; simpa using this.symm
  refine ⟨hll', hs'.evo.trans he2, hg2, ?_, hs'.defers.evo he2⟩
  refine ROs.of_get (by rw [refill_len]; omega) fun t ht => ?_
  rw [refill_len] at ht
  rw [refill_get hnd t ht]
  cases hj : live.idxOf? t with
  | some j =>
    have hjt := idxOf?_some hj
    have hjl := (List.getElem?_eq_some_iff.1 hjt).1
    have := hros'.get j
    rw [List.getD_eq_getElem?_getD (l := List.map _ _), List.getElem?_map, hjt] at this
    exact this
  | none =>
    have := hs'.slots.get t
    rw [refill_get hnd t ht, hj] at this
    exact this.mono he2.cw
theorem join_sound {o : Option (List Nat)} {ms : List Nat} {env : List PV} {Q : HExit → List PV → St → Prop} {run : (HExit → List PV → St → Prop) → Prop} {c : Code} {a : Act} {w : World}
    (h : joinAt o ms env Q run) (hr : ∀ Q', run Q' → c.wpIn (fw r) 0 P (LQ mk w0 st0 d0 ms env Q') a w) : c.wpIn (fw r) 0 P (LQ mk w0 st0 d0 ms env Q) a w := by
  cases o with
  | none => exact hr Q h
  | some live =>
    simp only [joinAt] at h
    split at h
    case isFalse => exact h.elim
    rename_i hok
    simp only [okLive, Bool.and_eq_true] at hok
    have hlm : ∀ t ∈ live, t ∈ ms := fun t ht => by have := List.all_eq_true.1 hok.2 t ht; simp at this; exact this.2
    have hlt : ∀ t ∈ live, t < env.length := fun t ht => by have := List.all_eq_true.1 hok.2 t ht; simp at this; exact this.1
    have hnd := nodupB_iff hok.1
    refine wpIn_mono (hr _ (h (fun ls st => ls.length = live.length → ∀ a w, Sim mk w0 st0 d0 (refill env ms live ls) st a w → ∃ e1 s1, Q .normal e1 s1 ∧ Agree ms env e1 ∧ Sim mk w0 st0 d0 e1 s1 a w)
      (fun ls st hq _ a w hs => ⟨_, st, hq, refill_agree hnd hlm, hs⟩)
      (fun ls st ls' st' hcv hj hll a w hs => by obtain ⟨h1, h2⟩ := sim_conv hnd hlt hcv hll hs; exact hj h1 a w h2))) ?_
    intro e a2 w2 hq
    cases e with
    | normal =>
      obtain ⟨e1, s1, h1, h2, h3⟩ := hq
      exact h1 (by simp [pickAll]) a2 w2 (refill_back hnd h2.1 (fun t _ ht _ => h2.2 t ht) h3)
    | exit id => exact hq
    | goto l => exact hq
    | ret => exact hq
    | panic ch => exact hq
    | outgrown => exact hq.elim

theorem Evo.put {w w' : World} {st st' : St} (he : Evo w st w' st') {l : Nat} (hl : w.heap.size ≤ l) (o : Obj) : Evo w st (w'.putObj l o) st' :=
  ⟨he.os, he.tape, he.output, by rw [World.putObj_size]; exact he.size, fun b hb hn => by
    obtain ⟨h1, h2⟩ := he.block b hb hn
    exact ⟨(World.putObj_heap_other (by omega)).trans h1, h2⟩⟩
def isCellsO : Obj → Bool
  | .cells .. => true
  | _ => false
theorem cell_loop {w : World} {l : Nat} {o : Obj} (h : w.heap[l]? = some o) (ho : isCellsO o = false) (j : Nat) : w.cell? ⟨l, j, none⟩ = none := by
  unfold World.cell?
  simp only [h]
  cases o <;> first | rfl | (simp [isCellsO] at ho)
theorem cw_put {w : World} {st st' : St} {l : Nat} {o : Obj} (h : w.heap[l]? = some o) (ho : isCellsO o = false) (o' : Obj) (hs : ∀ c, c ≠ l → st c = none → st' c = none) (b j : Nat) (v : Value) (hc : Cw w st b j v) : Cw (w.putObj l o') st' b j v := by
  have hne : b ≠ l := fun e => by
    have h1 := hc.1
    rw [e, cell_loop h ho] at h1
    cases h1
  refine ⟨?_, hs b hne hc.2⟩
  have h1 := hc.1
  unfold World.cell? at h1 ⊢
  simp only [World.putObj_heap_other (o := o') hne]
  exact h1
theorem Good.putN {w : World} {st : St} {l : Nat} {o : Obj} (hg : Good w st) (h : w.heap[l]? = some o) (ho : isCellsO o = false) (hl : st l = none) (o' : Obj) : Good (w.putObj l o') st := fun b ob hb => by
  have hne : b ≠ l := fun e => by rw [e, hl] at hb; cases hb
  exact (hg b ob hb).mono (cw_put h ho o' fun _ _ h => h) (World.putObj_heap_other hne)
theorem setP_rel {C : Nat → Nat → Value → Prop} : ∀ {ps : List Nat} {i : Nat} {env : List PV} {tmps : Array Value} {args : List PV} {vals : List Value}, ROs C env tmps.toList → ROs C (args.drop i) vals → ps.length = vals.length →
    ROs C (setP env ps i args) ((ps.zip vals).foldl (fun t x => t.setIfInBounds x.1 x.2) tmps).toList
  | [], i, env, tmps, args, vals, h, hv, hl => by
    cases vals with
    | nil => simpa [setP] using h
    | cons x l => simp at hl
  | t :: ts, i, env, tmps, args, [], h, hv, hl => by simp at hl
  | t :: ts, i, env, tmps, args, v :: vs, h, hv, hl => by
    simp only [setP, List.zip_cons_cons, List.foldl_cons]
    have hlen := ROs.length hv
    simp only [List.length_cons, List.length_drop] at hlen
    have hi : i < args.length := by omega
    rw [List.drop_eq_getElem_cons hi] at hv
    obtain ⟨v', vs', e, h1, h2⟩ := hv
    cases e
    refine setP_rel (tmps := tmps.setIfInBounds t v) ?_ h2 (by simpa using hl)
    rw [Array.toList_setIfInBounds, List.getD_eq_getElem?_getD, List.getElem?_eq_getElem hi]
    exact h.set t _ v h1
def isJump : HExit → Bool | .exit _ => true | .goto _ => true | .ret => true | _ => false
theorem jumps_jump : ∀ {c : Code} {e : HExit}, e ∈ jumps c → isJump e = true := by
  intro c
  induction c <;> intro e h <;> simp only [jumps, List.mem_append, List.mem_singleton, List.not_mem_nil] at h
  case seq a b iha ihb => exact h.elim iha ihb
  case cond c a b iha ihb => exact h.elim iha ihb
  case block id c ih => exact ih h
  case loop c ih => exact ih h
  case scope c ih => exact ih h
  case exit id => subst h; rfl
  case goto id => subst h; rfl
  case ret => subst h; rfl
theorem orJ_mem : ∀ {js : List (HExit × (St → Prop))} {f : HExit × (St → Prop) → Prop}, orJ js f → ∃ e ∈ js, f e
  | [], _, h => h.elim
  | e :: r, f, h => by
    rcases h with h | h
    · exact ⟨e, by simp, h⟩
    · obtain ⟨e', h1, h2⟩ := orJ_mem h
      exact ⟨e', by simp [h1], h2⟩
def jumpCode : HExit → Code
  | .exit id => .exit id
  | .goto l => .goto l
  | _ => .ret
include hT hm in
theorem range_sound {g : Operand} {ps : Array Tmp} {x y : Code} {env : List PV} {st : St} {Q : HExit → List PV → St → Prop} {a : Act} {w : World}
    (ihx : ∀ (l : Nat) (env : List PV) (st : St) (Q : HExit → List PV → St → Prop) (a : Act) (w : World) (w0 : World) (st0 : St), hCode P T ann x env st Q → Sim false w0 st0 [] env st a w → x.wpIn (fw (some l)) 0 P (LQ false w0 st0 [] (mods ann x) env Q) a w)
    (ihy : ∀ (l : Nat) (env : List PV) (st : St) (Q : HExit → List PV → St → Prop) (a : Act) (w : World) (w0 : World) (st0 : St), hCode P T ann y env st Q → Sim false w0 st0 [] env st a w → y.wpIn (fw (some l)) 0 P (LQ false w0 st0 [] (mods ann y) env Q) a w)
    (h : hRange P (evO env g) st (fun args s B X => if args.length = ps.size then hCode P T ann x (setP env ps.toList 0 args) s (fun e env' s' => match e with
        | .normal => B s' (fun s' => hCode P T ann y env' s' (fun e _ s' => X e s'))
        | _ => False) else False) (fun s => Q .normal env s) ((jumps y).map fun e => (e, fun s => Q e env s)))
    (hs : Sim true w0 st0 d0 env st a w) : (Code.rangeFunc g ps x y).wpIn (fw none) 0 P (LQ true w0 st0 d0 (mods ann (.rangeFunc g ps x y)) env Q) a w := by
  unfold hRange at h
  have hvg := evO_sound hs.slots g
  cases hev : evO env g <;> rw [hev] at h <;> simp only at h <;> (try (exact h.elim))
  rename_i f first caps
  cases f <;> simp only at h <;> (try (exact h.elim))
  rename_i gf
  rw [hev] at hvg
  obtain ⟨vf, vc, hfe, hrf, hrc⟩ := RO_fn hvg
  refine wpIn_rangeFunc (F := fw none) (n := 0) ?_
  intro fn _
  obtain ⟨rec, hrec⟩ : ∃ rec : LoopState → Option Code → Loop, rec = fun st pe => { state := st, pending := pe, fn, tmps := a.tmps, params := ps, assign := x, body := y, defers := w.heap.size } := ⟨_, rfl⟩
  have htm : ∀ s p, (rec s p).tmps = a.tmps := fun _ _ => by rw [hrec]
  have hg := hs.good
  -- the two blocks that are laid
  have e1 := Evo.alloc hg (.deferred (some []))
  have g1 := Good.alloc hg (.deferred (some []))
  obtain ⟨wD, hwD⟩ : ∃ wD, w.alloc (.deferred (some [])) = wD := ⟨_, rfl⟩
  rw [hwD] at e1 g1
  have hDsz : wD.heap.size = w.heap.size + 1 := by rw [← hwD, World.size_alloc]
  have hD0 : wD.heap[w.heap.size]? = some (.deferred (some [])) := by rw [← hwD]; exact heap_alloc_at w _
  have e2 := Evo.allocOwn g1 (.loop (rec .ready none)) (.loop env (rec .ready none))
  have g2 := Good.allocOwn g1 (.loop (rec .ready none)) (.loop env (rec .ready none)) ⟨heap_alloc_at wD _, by rw [htm]; exact hs.slots.mono (e1.trans e2).cw⟩
  obtain ⟨l, hl⟩ : ∃ l, wD.heap.size = l := ⟨_, rfl⟩
  rw [hl] at e2 g2
  obtain ⟨w1, hw1⟩ : ∃ w1, wD.alloc (.loop (rec .ready none)) = w1 := ⟨_, rfl⟩
  have hD1 : w1.heap[w.heap.size]? = some (.deferred (some [])) := by rw [← hw1]; exact (heap_alloc_lt wD _ (by omega)).trans hD0
  rw [hw1] at e2 g2
  have hstl : st l = none := hg.fresh (by omega)
  have hstD : st w.heap.size = none := hg.fresh (Nat.le_refl _)
  have hlw : w.heap.size < l := by omega
  have key0 := h l env (rec .ready none) { rec .ready none with state := .busy } (fun e => rec .done (some (jumpCode e))) hstl
  obtain ⟨key1, key2⟩ := key0 (by
    intro args s K Kp hsl hrd W vals hgW hv
    split at hrd
    case isFalse => exact hrd.elim
    rename_i hlen
    obtain ⟨hL, hE⟩ := hgW l _ hsl
    have hvl := ROs.length hv
    have hy := run_yield (P := P) (args := vals.toArray) hL (by rw [hrec]; simp only [List.size_toArray]; omega)
    rw [hrec] at hy
    refine ⟨fn, _, x, y, hy, ?_⟩
    refine roundIn_of_wpIn (F := Fence.wide) trivial ?_
    show x.wpIn (fw (some l)) 0 P _ _ _
    have hs1 : Sim false W s [] (setP env ps.toList 0 args) s { tmps := (ps.zip vals.toArray).foldl (fun t (x : Nat × Value) => t.setIfInBounds x.1 x.2) a.tmps, defers := [] } W := by
      refine ⟨Evo.refl _ _, hgW, ?_, rfl⟩
      have hE' : ROs (Cw W s) env a.tmps.toList := by rw [htm] at hE; exact hE
      have := setP_rel (ps := ps.toList) (i := 0) (args := args) hE' (by rw [List.drop_zero]; exact hv) (by rw [Array.length_toList]; omega)
      have e : (ps.zip vals.toArray).foldl (fun t (x : Nat × Value) => t.setIfInBounds x.1 x.2) a.tmps = (ps.toList.zip vals).foldl (fun t x => t.setIfInBounds x.1 x.2) a.tmps := by
        rw [← Array.foldl_toList, Array.toList_zip]
      rw [e]
      exact this
    refine wpIn_mono (ihx l _ _ _ _ _ W s hrd hs1) ?_
    intro e a1 w2 hq
    cases e with
    | exit id => obtain ⟨_, _, h1, _⟩ := hq; exact h1.elim
    | goto l => obtain ⟨_, _, h1, _⟩ := hq; exact h1.elim
    | ret => obtain ⟨_, _, h1, _⟩ := hq; exact h1.elim
    | panic ch => obtain ⟨_, _, _, _, h1, _⟩ := hq; exact h1.elim
    | outgrown => exact hq.elim
    | normal =>
    obtain ⟨env1, st1, ⟨b2, hb⟩, _, hs2⟩ := hq
    obtain ⟨hL2, hE2r⟩ := hs2.good l _ b2
    refine ⟨_, run_beginRound hL2 (by rw [hrec]), ?_⟩
    have hlt2 : l < w2.heap.size := (Array.getElem?_eq_some_iff.1 hL2).1
    obtain ⟨w3, hw3⟩ : ∃ w3, w2.putObj l (.loop { rec .ready none with state := .busy }) = w3 := ⟨_, rfl⟩
    rw [hw3]
    have hL3 : w3.heap[l]? = some (.loop { rec .ready none with state := .busy }) := by rw [← hw3]; exact World.putObj_heap_same hlt2
    obtain ⟨st3, hst3⟩ : ∃ st3, upd st1 l (.loop env { rec .ready none with state := .busy }) = st3 := ⟨_, rfl⟩
    rw [hst3] at hb
    have hc3 : ∀ b j v, Cw w2 st1 b j v → Cw w3 st3 b j v := by rw [← hw3, ← hst3]; exact cw_put hL2 rfl _ fun c hc h => by rw [upd_ne _ _ hc]; exact h
    have hg3 : Good w3 st3 := fun c oc hc => by
      by_cases e : c = l
      · subst e
        rw [← hst3, upd_same] at hc
        cases hc
        exact ⟨hL3, hE2r.mono hc3⟩
      · rw [← hst3, upd_ne _ _ e] at hc
        exact (hs2.good c oc hc).mono hc3 (by rw [← hw3]; exact World.putObj_heap_other e)
    refine wpIn_mono (ihy l env1 st3 _ a1 w3 w3 st3 hb ⟨Evo.refl _ _, hg3, hs2.slots.mono hc3, hs2.defers⟩) ?_
    -- the round's end
    have fin : ∀ (jump : Option Code) (w4 : World) (st4 : St) (env4 : List PV) (a4 : Act), Sim false w3 st3 [] env4 st4 a4 w4 → st4 l = some (.loop env { rec .ready none with state := .busy }) → ∃ v w5, (Instr.endRound l jump).run P w4 = .ok (.bool jump.isNone) w5 ∧ v = Value.bool jump.isNone ∧
        Evo W s w5 (upd st4 l (.loop env (rec (if jump.isNone then .ready else .done) jump))) ∧ Good w5 (upd st4 l (.loop env (rec (if jump.isNone then .ready else .done) jump))) := by
      intro jump w4 st4 env4 a4 hs4 hl4
      obtain ⟨hL4, _⟩ := hs4.good l _ hl4
      have hlt4 : l < w4.heap.size := (Array.getElem?_eq_some_iff.1 hL4).1
      have hend := run_endRound (P := P) jump hL4
      have hr5 : ({ ({ rec .ready none with state := .busy } : Loop) with state := if jump.isNone then .ready else .done, pending := jump } : Loop) = rec (if jump.isNone then .ready else .done) jump := by rw [hrec]
      rw [hr5] at hend
      refine ⟨_, _, hend, rfl, ?_⟩
      obtain ⟨o5, ho5⟩ : ∃ o5, rec (if jump.isNone then .ready else .done) jump = o5 := ⟨_, rfl⟩
      have ht5 : o5.tmps = a.tmps := by rw [← ho5, hrec]
      rw [ho5]
      have hE5 : Evo W s (w4.putObj l (.loop o5)) (upd st4 l (.loop env o5)) := by
        refine ⟨?_, ?_, ?_, ?_, ?_⟩
        · show w4.os = W.os
          rw [hs4.evo.os, ← hw3]; exact hs2.evo.os
        · show w4.tape = W.tape
          rw [hs4.evo.tape, ← hw3]; exact hs2.evo.tape
        · show w4.output = W.output
          rw [hs4.evo.output, ← hw3]; exact hs2.evo.output
        · rw [World.putObj_size]
          have h1 := hs4.evo.size
          rw [← hw3, World.putObj_size] at h1
          exact Nat.le_trans hs2.evo.size h1
        · intro b hb hn
          have hne : b ≠ l := fun e => by rw [e, hsl] at hn; cases hn
          obtain ⟨d1, d2⟩ := hs2.evo.block b hb hn
          have hb3 : b < w3.heap.size := by rw [← hw3, World.putObj_size]; exact Nat.lt_of_lt_of_le hb hs2.evo.size
          obtain ⟨d3, d4⟩ := hs4.evo.block b hb3 (by rw [← hst3, upd_ne _ _ hne]; exact d2)
          refine ⟨?_, by rw [upd_ne _ _ hne]; exact d4⟩
          rw [World.putObj_heap_other hne, d3, ← hw3, World.putObj_heap_other hne, d1]
      refine ⟨hE5, fun b ob hb => ?_⟩
      by_cases e : b = l
      · subst e
        rw [upd_same] at hb
        cases hb
        refine ⟨World.putObj_heap_same hlt4, ?_⟩
        rw [ht5]
        have := hE.mono hE5.cw
        rw [htm] at this
        exact this
      · rw [upd_ne _ _ e] at hb
        exact (hs4.good b ob hb).mono (cw_put hL4 rfl _ fun c hc h => by rw [upd_ne _ _ hc]; exact h) (World.putObj_heap_other e)
    intro e a4 w4 hq
    cases e with
    | normal =>
      obtain ⟨env4, st4, ⟨h0, h1⟩, _, h3⟩ := hq
      obtain ⟨v, w5, r1, rfl, r2, r3⟩ := fin none w4 st4 env4 a4 h3 h0
      exact ⟨_, w5, r1, .ret (.bool true), _, r2, r3, h1, .inr (RX.rv (by simp [RX]) rfl)⟩
    | exit id =>
      obtain ⟨env4, st4, ⟨h0, h1⟩, _, h3⟩ := hq
      obtain ⟨v, w5, r1, rfl, r2, r3⟩ := fin (some (.exit id)) w4 st4 env4 a4 h3 h0
      exact ⟨_, w5, r1, .ret (.bool false), _, r2, r3, h1, .inr (RX.rv (by simp [RX]) rfl)⟩
    | goto t =>
      obtain ⟨env4, st4, ⟨h0, h1⟩, _, h3⟩ := hq
      obtain ⟨v, w5, r1, rfl, r2, r3⟩ := fin (some (.goto t)) w4 st4 env4 a4 h3 h0
      exact ⟨_, w5, r1, .ret (.bool false), _, r2, r3, h1, .inr (RX.rv (by simp [RX]) rfl)⟩
    | ret =>
      obtain ⟨env4, st4, ⟨h0, h1⟩, _, h3⟩ := hq
      obtain ⟨v, w5, r1, rfl, r2, r3⟩ := fin (some .ret) w4 st4 env4 a4 h3 h0
      exact ⟨_, w5, r1, .ret (.bool false), _, r2, r3, h1, .inr (RX.rv (by simp [RX]) rfl)⟩
    | panic ch => obtain ⟨_, _, _, _, h1, _⟩ := hq; exact h1.2.elim
    | outgrown => exact hq.elim)
  -- the call of the function
  have hargs : ROs (Cw w1 (upd st l (.loop env (rec .ready none)))) (first ++ [.fn (.yield l) [] []] ++ caps) (vf ++ [Value.func (.yield l) #[] #[]] ++ vc) := by
    have hm1 := (e1.trans e2).cw
    have hyv : RO (Cw w1 (upd st l (.loop env (rec .ready none)))) (.fn (.yield l) [] []) (.func (.yield l) #[] #[]) := by
      refine .inr (RX.rv ?_ rfl)
      simp only [RX]
      exact ⟨[], [], rfl, by simp [RVs], by simp [RVs]⟩
    have hy1 : ROs (Cw w1 (upd st l (.loop env (rec .ready none)))) [.fn (.yield l) [] []] [.func (.yield l) #[] #[]] := ⟨_, [], rfl, hyv, rfl⟩
    exact ((hrf.ros.mono hm1).append hy1).append (hrc.ros.mono hm1)
  have hcall := key2 w1 _ g2 hargs
  have hent : (Instr.enterLoop fn a.tmps ps x y (fw none).round).run P w = .ok (l, [{ target := .collected w.heap.size, args := #[] }]) w1 := by
    have := run_enterLoop_outer (P := P) (w := w) fn a.tmps ps x y
    rw [hwD] at this
    rw [show (fw none).round = none from rfl, this, ← hw1, hrec, ← hl, hDsz]
  refine ⟨l, [{ target := .collected w.heap.size, args := #[] }], w1, { target := .fn (.func gf) vc.toArray, args := vf.toArray ++ #[.func (.yield l) #[] #[]] }, w1, gf, (vf ++ [Value.func (.yield l) #[] #[]] ++ vc).toArray, w1, hent, ?_, fun _ _ => trivial, ?_, fun h => (by cases h), ?_⟩
  · simp only [resolve, hfe]
    simp [Deferred.ofValue, Act.eval]
  · have := enter_run key1 (vf ++ [Value.func (.yield l) #[] #[]] ++ vc).toArray w1
    simp only [invoke]
    rw [← this]
    congr 2
    apply Array.ext'
    simp
  refine (callsIn_fw hcall).mono ?_
  rintro e w2 ⟨res, st2, he, hg2, hR, hres⟩
  have hE2 : Evo w st w2 st2 := ((e1.trans e2).trans he)
  have hD1s : (upd st l (.loop env (rec .ready none))) w.heap.size = none := by rw [upd_ne _ _ (by omega)]; exact hstD
  obtain ⟨dd1, dd2⟩ := he.block w.heap.size (Array.getElem?_eq_some_iff.1 hD1).1 hD1s
  have hD2 : w2.heap[w.heap.size]? = some (.deferred (some [])) := dd1.trans hD1
  -- behind the loop
  have behind : ∀ (rc : Loop) (o : Obj), st2 l = some (.loop env rc) → Sim true w0 st0 d0 env (del st2 l) { a with defers := [({ target := .collected w.heap.size, args := #[] } : Deferred)] ++ a.defers } (w2.putObj l o) := by
    intro rc o hr
    obtain ⟨hL, _⟩ := hg2 l _ hr
    have hdl : ∀ b o, del st2 l b = some o → st2 b = some o := del_sub st2 l
    have hE3 : Evo w st (w2.putObj l o) (del st2 l) := (hE2.trans (Evo.sub hdl)).put (by omega) o
    refine ⟨hs.evo.trans hE3, ?_, hs.slots.mono hE3.cw, ?_⟩
    · exact (hg2.sub hdl).putN hL rfl (del_same _ _) o
    · obtain ⟨Ds, h1, h2, h3⟩ := hs.defers.evo hE3
      refine ⟨w.heap.size :: Ds, by rw [h1]; rfl, List.nodup_cons.2 ⟨fun hm => ?_, h2⟩, fun D hm => ?_⟩
      · obtain ⟨Ds', h1', h2', h3'⟩ := hs.defers
        have : Ds = Ds' := by
          have := h1.symm.trans h1'
          exact List.map_inj_right (fun x y e => by simpa using e) |>.1 (List.append_cancel_right this)
        obtain ⟨_, hb, _⟩ := h3' _ (this ▸ hm)
        have := (Array.getElem?_eq_some_iff.1 hb).1
        omega
      · rcases List.mem_cons.1 hm with rfl | hm
        · exact ⟨hs.evo.size, (World.putObj_heap_other (by omega)).trans hD2, by rw [del_ne _ (by omega)]; exact dd2⟩
        · exact h3 D hm
  cases e with
  | panicked ch => cases res with | ret p => exact hres.elim | pan p => exact hR.elim
  | outgrown => cases res <;> exact hres.elim
  | returned v =>
    cases res with
    | pan p => exact hres.elim
    | ret p =>
    rcases hR with ⟨h1, h2⟩ | hR
    · obtain ⟨hL, _⟩ := hg2 l _ h1
      have hend := run_endLoop (P := P) hL (by rw [hrec]; simp)
      refine ⟨none, _, by rw [hend, hrec], ?_⟩
      exact ⟨env, _, h2, Agree.refl _ _, behind _ _ h1⟩
    · obtain ⟨ee, hje, h1, h2⟩ := orJ_mem hR
      obtain ⟨e, hj0, rfl⟩ := List.mem_map.1 hje
      simp only at h1 h2
      have hj := jumps_jump hj0
      obtain ⟨hL, _⟩ := hg2 l _ h1
      have hend := run_endLoop (P := P) hL (by rw [hrec]; simp)
      refine ⟨some (jumpCode e), _, by rw [hend, hrec], ?_⟩
      cases e with
      | normal => cases hj
      | pan p => cases hj
      | exit id => exact wpIn_exit ⟨env, _, h2, Agree.refl _ _, behind _ _ h1⟩
      | goto t => exact wpIn_goto ⟨env, _, h2, Agree.refl _ _, behind _ _ h1⟩
      | ret => exact wpIn_ret ⟨env, _, h2, Agree.refl _ _, behind _ _ h1⟩

include hT hm in
theorem hCode_sound_in : ∀ (c : Code) (r : Option Nat) (mk : Bool) (d0 : List Deferred) (w0 : World) (st0 : St), ((mk = true ∧ r = none) ∨ noRF c = true) → ∀ (env : List PV) (st : St) (Q : HExit → List PV → St → Prop) (a : Act) (w : World), hCode P T ann c env st Q → Sim mk w0 st0 d0 env st a w → c.wpIn (fw r) 0 P (LQ mk w0 st0 d0 (mods ann c) env Q) a w := by
  intro c
  induction c with
  | skip => exact fun r mk d0 w0 st0 hrf env st Q a w h hs => wpIn_skip ⟨env, st, h, Agree.refl _ _, hs⟩
  | label l => exact fun r mk d0 w0 st0 hrf env st Q a w h hs => wpIn_label ⟨env, st, h, Agree.refl _ _, hs⟩
  | exit id => exact fun r mk d0 w0 st0 hrf env st Q a w h hs => wpIn_exit ⟨env, st, h, Agree.refl _ _, hs⟩
  | goto l => exact fun r mk d0 w0 st0 hrf env st Q a w h hs => wpIn_goto ⟨env, st, h, Agree.refl _ _, hs⟩
  | ret => exact fun r mk d0 w0 st0 hrf env st Q a w h hs => wpIn_ret ⟨env, st, h, Agree.refl _ _, hs⟩
  | scope c ih => exact fun r mk d0 w0 st0 hrf env st Q a w h hs => h.elim
  | rangeFunc f ps x y ihx ihy =>
    intro r mk d0 w0 st0 hrf env st Q a w h hs
    rcases hrf with ⟨rfl, rfl⟩ | hrf
    · simp only [hCode] at h
      split at h
      case isFalse => exact h.elim
      rename_i hn
      exact range_sound hT hm (ihx := fun l env st Q a w w0 st0 => ihx (some l) false [] w0 st0 (.inr hn.1) env st Q a w) (ihy := fun l env st Q a w w0 st0 => ihy (some l) false [] w0 st0 (.inr hn.2) env st Q a w) h hs
    · cases hrf
  | refuse why => exact fun r mk d0 w0 st0 hrf env st Q a w h hs => h.elim
  | region id ops draw =>
    intro r mk d0 w0 st0 hrf env st Q0 a w h hs
    refine join_sound h fun Q h => ?_
    refine hRegion_sound hT hm ?_ ?_ hs h
    · exact fun env' st' a' w' hk hag hs' => ⟨env', st', hk, hag.mono (fun t ht => List.mem_append_left _ ht), hs'⟩
    · exact fun p st' v a' w' hk he hg hr hd => ⟨env, st', p, v, hk, rfl, he, hg, hr, hd⟩
  | seq x y ihx ihy =>
    intro r mk d0 w0 st0 hrf env st Q a w h hs
    refine wpIn_seq (wpIn_mono (ihx r mk d0 w0 st0 (hrf.imp (fun h => h) fun h => (by simp only [noRF, Bool.and_eq_true] at h; exact h.1)) env st _ a w h hs) ?_)
    intro e a' w' hq
    cases e with
    | normal =>
      obtain ⟨e1, s1, h1, h2, h3⟩ := hq
      refine wpIn_mono (ihy r mk d0 w0 st0 (hrf.imp (fun h => h) fun h => (by simp only [noRF, Bool.and_eq_true] at h; exact h.2)) e1 s1 Q a' w' h1 h3) ?_
      exact fun e a2 w2 h => LQ.mono (fun _ _ _ h => h) (fun _ hag => h2.trans hag) h
    | exit id => obtain ⟨e1, s1, h1, h2, h3⟩ := hq; exact ⟨e1, s1, h1, h2.mono (by simp [mods]; intro t ht; exact .inl ht), h3⟩
    | goto l => obtain ⟨e1, s1, h1, h2, h3⟩ := hq; exact ⟨e1, s1, h1, h2.mono (by simp [mods]; intro t ht; exact .inl ht), h3⟩
    | ret => obtain ⟨e1, s1, h1, h2, h3⟩ := hq; exact ⟨e1, s1, h1, h2.mono (by simp [mods]; intro t ht; exact .inl ht), h3⟩
    | panic ch => exact hq
    | outgrown => exact hq.elim
  | cond c x y ihx ihy =>
    intro r mk d0 w0 st0 hrf env st Q0 a w h hs
    refine join_sound h fun Q h => ?_
    simp only [cb] at h
    cases hc : evO env c <;> rw [hc] at h <;> simp only at h <;> (try (exact h.elim))
    rename_i b
    have hv := evO_sound hs.slots c
    rw [hc] at hv
    have hb := RO_bool hv
    refine wpIn_cond hb ?_
    cases b with
    | true => exact wpIn_mono (ihx r mk d0 w0 st0 (hrf.imp (fun h => h) fun h => (by simp only [noRF, Bool.and_eq_true] at h; exact h.1)) env st Q a w h hs) fun e a2 w2 h => LQ.mono (fun _ _ _ h => h) (fun _ hag => hag.mono (fun t ht => List.mem_append_left _ (List.mem_append_left _ ht))) h
    | false => exact wpIn_mono (ihy r mk d0 w0 st0 (hrf.imp (fun h => h) fun h => (by simp only [noRF, Bool.and_eq_true] at h; exact h.2)) env st Q a w h hs) fun e a2 w2 h => LQ.mono (fun _ _ _ h => h) (fun _ hag => hag.mono (fun t ht => List.mem_append_left _ (List.mem_append_right _ ht))) h
  | block id c ih =>
    intro r mk d0 w0 st0 hrf env st Q0 a w h hs
    refine join_sound h fun Q h => ?_
    refine wpIn_block (wpIn_mono (ih r mk d0 w0 st0 (hrf.imp (fun h => h) fun h => (by simpa only [noRF] using h)) env st _ a w h hs) ?_)
    intro e a' w' hq
    have hq := LQ.mono (ms' := mods ann c ++ more ann (4 * id + 3)) (env' := env) (fun _ _ _ h => h) (fun _ hag => hag.mono (fun t ht => List.mem_append_left _ ht)) hq
    cases e with
    | normal => exact hq
    | exit id' =>
      obtain ⟨e1, s1, h1, h2, h3⟩ := hq
      simp only at h1
      show if id' = id then _ else _
      by_cases e : id' = id
      · rw [if_pos e] at h1 ⊢; exact ⟨e1, s1, h1, h2, h3⟩
      · rw [if_neg e] at h1 ⊢; exact ⟨e1, s1, h1, h2, h3⟩
    | goto l => exact hq
    | ret => exact hq
    | panic ch => exact hq
    | outgrown => exact hq.elim
  | loop c ih =>
    intro r mk d0 w0 st0 hrf env st Q a w h hs
    simp only [hCode] at h
    split at h
    case isFalse => exact h.elim
    rename_i hok
    generalize look ann (firstRegion c) = live at h hok
    simp only [okLive, Bool.and_eq_true] at hok
    have hlm : ∀ t ∈ live, t ∈ mods ann c := fun t ht => by have := List.all_eq_true.1 hok.2 t ht; simp at this; exact this.2
    have hnd := nodupB_iff hok.1
    have hlt : ∀ t ∈ live, t < env.length := fun t ht => by have := List.all_eq_true.1 hok.2 t ht; simp at this; exact this.1
    -- right slots for what is picked out of them
    have back : ∀ {env' : List PV} {st' : St} {a' : Act} {w' : World} {ls : List PV}, Agree (mods ann c) (refill env (mods ann c) live ls) env' → Sim mk w0 st0 d0 env' st' a' w' → Sim mk w0 st0 d0 (refill env (mods ann c) live (pickAll env' live)) st' a' w' := by
      intro env' st' a' w' ls hag hs'
      have hl' : a'.tmps.toList.length = env'.length := ROs.length hs'.slots
      refine ⟨hs'.evo, hs'.good, ?_, hs'.defers⟩
      have helen : env'.length = env.length := hag.1.trans (refill_len _ _ _ _)
      refine ROs.of_get (by rw [refill_len]; omega) fun t ht => ?_
      rw [refill_len] at ht
      rw [refill_get hnd t ht]
      have hst := hs'.slots.get t
      cases hj : live.idxOf? t with
      | some j =>
        have := idxOf?_some hj
        simp only [pickAll]
        rw [List.getD_eq_getElem?_getD, List.getElem?_map, this]
        exact hst
      | none =>
        simp only
        split
        · exact RO_junk _ _
        · rename_i hmm
          have := hag.2 t hmm
          rw [refill_get hnd t ht, hj] at this
          simp only [hmm, if_false] at this
          rw [← this]
          exact hst
    -- what holds at the head of a round
    refine LoopWp.loop ?_
    have key := h (fun ls st' => ls.length = live.length → ∀ a w, Sim mk w0 st0 d0 (refill env (mods ann c) live ls) st' a w → LoopWp r P c (LQ mk w0 st0 d0 (mods ann c) env Q) a w) ?_ ?_
    · refine key (by simp [pickAll]) a w ?_
      refine ⟨hs.evo, hs.good, ?_, hs.defers⟩
      have hl' : a.tmps.toList.length = env.length := ROs.length hs.slots
      refine ROs.of_get (by rw [refill_len]; omega) fun t ht => ?_
      rw [refill_len] at ht
      rw [refill_get hnd t ht]
      have hst := hs.slots.get t
      cases hj : live.idxOf? t with
      | some j =>
        have := idxOf?_some hj
        simp only [pickAll]
        rw [List.getD_eq_getElem?_getD, List.getElem?_map, this]
        exact hst
      | none =>
        simp only
        split
        · exact RO_junk _ _
        · exact hst
    · intro ls st' Y hY hF hll a' w' hs'
      refine LoopWp.round (wpIn_mono (ih r mk d0 w0 st0 (hrf.imp (fun h => h) fun h => (by simpa only [noRF] using h)) _ st' _ a' w' hF hs') ?_)
      have hag2 : ∀ env2, Agree (mods ann c) (refill env (mods ann c) live ls) env2 → Agree (mods ann c) env env2 := fun env2 h2 => ⟨h2.1.trans (refill_len _ _ _ _), fun t ht => by
        rw [h2.2 t ht]
        by_cases htl : t < env.length
        · rw [refill_get hnd t htl]
          cases hj : live.idxOf? t with
          | none => simp [ht]
          | some j =>
            have hmem : t ∈ live := List.mem_of_getElem? (idxOf?_some hj)
            exact absurd (hlm t hmem) ht
        · rw [List.getD_eq_getElem?_getD, List.getD_eq_getElem?_getD, List.getElem?_eq_none (by rw [refill_len]; omega), List.getElem?_eq_none (by omega)]⟩
      intro e a2 w2 hq
      cases e with
      | normal =>
        obtain ⟨e1, s1, h1, h2, h3⟩ := hq
        exact hY _ _ h1 (by simp [pickAll]) a2 w2 (back h2 h3)
      | exit id => obtain ⟨e1, s1, h1, h2, h3⟩ := hq; exact ⟨e1, s1, h1, hag2 _ h2, h3⟩
      | goto l => obtain ⟨e1, s1, h1, h2, h3⟩ := hq; exact ⟨e1, s1, h1, hag2 _ h2, h3⟩
      | ret => obtain ⟨e1, s1, h1, h2, h3⟩ := hq; exact ⟨e1, s1, h1, hag2 _ h2, h3⟩
      | panic ch => exact hq
      | outgrown => exact hq.elim
    · intro ls st1 ls' st2 hcv hX hll a' w' hs'
      obtain ⟨h1, h2⟩ := sim_conv hnd hlt hcv hll hs'
      exact hX h1 a' w' h2
include hT hm in
theorem hCode_sound (c : Code) (env : List PV) (st : St) (Q : HExit → List PV → St → Prop) (a : Act) (w : World) (hn : noRF c = true) (h : hCode P T ann c env st Q) (hs : Sim false w0 st0 d0 env st a w) : c.wp P (LQ false w0 st0 d0 (mods ann c) env Q) a w :=
  wpIn_wide.1 (hCode_sound_in hT hm c none false d0 w0 st0 (.inr hn) env st Q a w h hs)
end
end Go.H
namespace Go.H
open Go
set_option linter.unusedVariables false
set_option linter.unusedSectionVars false
set_option linter.unusedSimpArgs false

section
variable [own : OwnLit] {P : Program} {T : TypeId → Option TD} (hT : TyOK P T) (hm : P.follows .mixedOrders = true)

def resOne (tmps : Array Value) (r : ResultVar) : Sem Value := match r with
  | .tmp t => pure (tmps.getD t undef)
  | .cell a t => do loadVar t (← asAddr (tmps.getD a undef))
theorem results_eq (fn : Func) (tmps : Array Value) : results fn tmps = (do
    let vs ← fn.results.mapM (resOne tmps)
    pure (if h : vs.size = 1 then vs[0] else .tuple vs)) := by
  unfold results
  have : (fun x : ResultVar => (match x with
    | .tmp t => pure (tmps.getD t undef)
    | .cell a t => do loadVar t (← asAddr (tmps.getD a undef)) : Sem Value)) = resOne tmps := by
    funext x
    cases x <;> rfl
  rw [← this]
  rfl
include hT in
theorem resK_sound {w : World} {st : St} (hg : Good w st) {env : List PV} {tmps : Array Value} (hs : ROs (Cw w st) env tmps.toList) {K : List PV → Prop} : ∀ (rs : List ResultVar) (acc : List PV), resK T st env rs acc K →
    ∃ ps vs, K (acc.reverse ++ ps) ∧ (rs.mapM (resOne tmps)).run P w = .ok vs w ∧ ROs (Cw w st) ps vs
  | [], acc, h => ⟨[], [], by simpa [resK] using h, rfl, by simp [ROs]⟩
  | .tmp t :: r, acc, h => by
    simp only [resK] at h
    obtain ⟨ps, vs, h0, h1, h2⟩ := resK_sound hg hs r _ h
    have hg := hs.get t
    have e : tmps.toList.getD t undef = tmps.getD t undef := by simp [List.getD, Array.getD_eq_getD_getElem?]
    rw [e] at hg
    refine ⟨_ :: ps, _ :: vs, by simpa using h0, ?_, _, vs, rfl, hg, h2⟩
    rw [List.mapM_cons, Sem.run_bind]
    show ((pure (tmps.getD t undef) : Sem Value).run P w).andThen _ = _
    simp only [Sem.run_pure, Result.andThen_ok, Sem.run_bind, h1]
  | .cell a t :: r, acc, h => by
    simp only [resK] at h
    cases ht : T t with
    | none => rw [ht] at h; exact h.elim
    | some d =>
      rw [ht] at h
      simp only at h
      cases hq : q_load st d.shape.agg d.size (env.getD a .junk) with
      | none => rw [hq] at h; exact h.elim
      | some p =>
        rw [hq] at h
        obtain ⟨ps, vs, h0, h1, h2⟩ := resK_sound hg hs r _ h
        have hga := hs.get a
        have e : tmps.toList.getD a undef = tmps.getD a undef := by simp [List.getD, Array.getD_eq_getD_getElem?]
        rw [e] at hga
        obtain ⟨v, h3, h4⟩ := load_sound (P := P) hT hg ht hga hq
        have hptr : ∃ ad, tmps.getD a undef = .pointer (some ad) := by
          cases hx : tmps.getD a undef <;> rw [hx] at h3 <;> (try (simp [Instr.loadAt, Instr.sureAddr] at h3; done))
          rename_i o
          cases o with
          | none => simp [Instr.loadAt, Instr.sureAddr] at h3
          | some ad => exact ⟨ad, rfl⟩
        obtain ⟨ad, had⟩ := hptr
        rw [had] at h3
        refine ⟨p :: ps, v :: vs, by simpa using h0, ?_, v, vs, rfl, h4, h2⟩
        simp only [Instr.loadAt, Instr.sureAddr, pure_bind] at h3
        rw [List.mapM_cons, Sem.run_bind]
        have e1 : (resOne tmps (.cell a t)).run P w = .ok v w := by
          simp only [resOne, had, asAddr, pure_bind]
          exact h3
        rw [e1]
        simp only [Result.andThen_ok, Sem.run_bind, h1, Sem.run_pure]
include hT in
theorem fin_sound {w : World} {st : St} (hg : Good w st) {env : List PV} {tmps : Array Value} (hs : ROs (Cw w st) env tmps.toList) {fn : Func} {R : Res → St → Prop} (h : resK T st env fn.results.toList [] (finK R st)) :
    ∃ p v, (results fn tmps).run P w = .ok v w ∧ RO (Cw w st) p v ∧ retR R p st := by
  obtain ⟨ps, vs, h0, h1, h2⟩ := resK_sound (P := P) hT hg hs _ _ h
  simp only [List.reverse_nil, List.nil_append] at h0
  have hrun : (results fn tmps).run P w = .ok (if h : vs.toArray.size = 1 then vs.toArray[0] else .tuple vs.toArray) w := by
    rw [results_eq, Array.mapM_eq_mapM_toList]
    simp only [Sem.run_bind, Sem.run_map, h1, Result.andThen_ok]
    rfl
  have hl := ROs.length h2
  have many : ∀ (hne : ¬ vs.toArray.size = 1), retR R (.tup ps) st → ∃ p v, (results fn tmps).run P w = .ok v w ∧ RO (Cw w st) p v ∧ retR R p st := fun hne hr =>
    ⟨.tup ps, .tuple vs.toArray, by rw [hrun, dif_neg hne], .inr ⟨rfl, by simp only [RX, Value.cells]; exact ⟨vs, by simp, RVs.of_ros h2⟩⟩, hr⟩
  match ps, h2, hl, h0 with
  | [q], h2, hl, h0 =>
    obtain ⟨v, vs', rfl, h3, h4⟩ := h2
    simp only [ROs] at h4
    subst h4
    exact ⟨q, v, by rw [hrun]; rfl, h3, h0⟩
  | [], h2, hl, h0 => exact many (by simp; simp at hl; simp [hl]) h0
  | q1 :: q2 :: qs, h2, hl, h0 => exact many (by simp; simp at hl; omega) h0

theorem leaves_of {w0 : World} {st' : St} {fn : Func} {tmps : Array Value} {R : Ending → World → Prop} {u : FrameMode} {Z : World → Prop} (hu : u ≠ .run)
    (hZ : ∀ w D, Z w → w0.heap.size ≤ D → w.heap[D]? = some (.deferred (some [])) → st' D = none → Z (w.putObj D (.deferred none)))
    (hend : ∀ w, Z w → LeavesIn (fw none) 0 P fn tmps R [] u w) : ∀ (Ds : List Nat) (w : World), Z w → Ds.Nodup → (∀ D ∈ Ds, w0.heap.size ≤ D ∧ w.heap[D]? = some (.deferred (some [])) ∧ st' D = none) →
    LeavesInM (fw none) 0 P fn tmps R (Ds.map (fun D => ({ target := .collected D, args := #[] } : Deferred)) ++ []) u w
  | [], w, hz, _, _ => hend w hz
  | D :: Ds, w, hz, hn, hD => by
    obtain ⟨h1, h2, h3⟩ := hD D (by simp)
    rw [List.nodup_cons] at hn
    refine ⟨hu, .inl ⟨D, _, rfl, run_takeDeferred h2, ?_⟩⟩
    refine leaves_of hu hZ hend Ds _ (hZ w D hz h1 h2 h3) hn.2 fun E hE => ?_
    obtain ⟨k1, k2, k3⟩ := hD E (by simp [hE])
    exact ⟨k1, (World.putObj_heap_other (fun e : E = D => hn.1 (by rw [← e]; exact hE))).trans k2, k3⟩

include hT hm in
theorem hcalls_of_func {ann : List (Nat × List Nat)} {f : FuncId} {fn : Func} (hf : P.funcs[f]? = some fn) (hb : fn.body.isSome = true) (hname : (fn.name == "runtime.NumGoroutine") = false) {args : List PV} {st : St} {R : Res → St → Prop}
    (h : hFunc P T ann fn args st R) : HCalls P f args st R := by
  refine ⟨⟨fn, hf, hb, hname⟩, fun w vals hg hv => ?_⟩
  unfold hFunc at h
  cases hbd : fn.body with
  | none => rw [hbd] at hb; cases hb
  | some c =>
    rw [hbd] at h
    simp only at h
    have hl := ROs.length hv
    refine (callsIn_wide (n := 0)).1 (callsIn_of_wp_marks (F := fw none) (n := 0) hf hbd trivial (wpIn_mono (hCode_sound_in hT hm c none true [] w st (.inl ⟨rfl, rfl⟩) _ st _ _ w h ?_) ?_))
    · refine ⟨Evo.refl w st, hg, ?_, Marked.start _ _ _ _ _⟩
      simp only [Array.toList_append, Array.toList_replicate, List.size_toArray, hl]
      exact hv.append (ROs.junks _ _ (by simp))
    · -- the end
      have fin : ∀ (env : List PV) (st' : St) (a : Act) (w' : World), resK T st' env fn.results.toList [] (finK R st') → Sim true w st [] env st' a w' →
          LeavesInM (fw none) 0 P fn a.tmps (Post R w st) a.defers .returning w' := by
        intro env st' a w' hq hs
        obtain ⟨Ds, hd1, hd2, hd3⟩ := hs.defers
        rw [hd1]
        refine leaves_of (w0 := w) (st' := st') (Z := fun w' => Evo w st w' st' ∧ Good w' st' ∧ ROs (Cw w' st') env a.tmps.toList) (fun e => by cases e) ?_ ?_ Ds w' ⟨hs.evo, hs.good, hs.slots⟩ hd2 hd3
        · rintro w1 D ⟨z1, z2, z3⟩ h1 h2 h3
          exact ⟨z1.put h1 _, z2.putN h2 rfl h3 _, z3.mono (cw_put h2 rfl _ fun _ _ h => h)⟩
        · rintro w1 ⟨z1, z2, z3⟩
          obtain ⟨p, v, h1, h2, p', st'', hcv, hr⟩ := fin_sound (P := P) hT z2 z3 hq
          obtain ⟨hg2, he2, hv2⟩ := hcv w1 z2
          obtain ⟨v', vs', e, h3, _⟩ := hv2 [v] ⟨v, [], rfl, h2, rfl⟩
          simp only [List.cons.injEq] at e
          obtain ⟨rfl, _⟩ := e
          exact ⟨v, h1, .ret p', st'', z1.trans he2, hg2, hr, h3⟩
      intro e a w' hq
      cases e with
      | normal => obtain ⟨e1, s1, h1, _, h3⟩ := hq; exact fin e1 s1 a w' h1 h3
      | ret => obtain ⟨e1, s1, h1, _, h3⟩ := hq; exact fin e1 s1 a w' h1 h3
      | panic ch =>
        obtain ⟨e1, s1, p, v, h1, rfl, he, hg', hro, hdf⟩ := hq
        obtain ⟨Ds, hd1, hd2, hd3⟩ := hdf
        show LeavesInM (fw none) 0 P fn a.tmps _ a.defers _ w'
        rw [hd1]
        refine leaves_of (w0 := w) (st' := s1) (Z := fun w' => Evo w st w' s1 ∧ Good w' s1 ∧ RO (Cw w' s1) p v) (fun e => by cases e) ?_ ?_ Ds w' ⟨he, hg', hro⟩ hd2 hd3
        · rintro w1 D ⟨z1, z2, z3⟩ h1 h2 h3
          exact ⟨z1.put h1 _, z2.putN h2 rfl h3 _, z3.mono (cw_put h2 rfl _ fun _ _ h => h)⟩
        · rintro w1 ⟨z1, z2, z3⟩
          obtain ⟨p', st'', hcv, hr⟩ := h1
          obtain ⟨hg2, he2, hv2⟩ := hcv w1 z2
          obtain ⟨v', vs', e, h3, _⟩ := hv2 [v] ⟨v, [], rfl, z3, rfl⟩
          simp only [List.cons.injEq] at e
          obtain ⟨rfl, _⟩ := e
          exact ⟨.pan p', st'', z1.trans he2, hg2, hr, v, rfl, h3⟩
      | exit id => obtain ⟨_, _, h1, _⟩ := hq; exact h1.elim
      | goto l => obtain ⟨_, _, h1, _⟩ := hq; exact h1.elim
      | outgrown => exact hq.elim
end

theorem hFix_unroll {F : List PV → St → (List PV → St → Prop) → Prop} {ls : List PV} {st : St} (h : F ls st (hFix F)) : hFix F ls st := fun X h1 h2 => h1 ls st (hFix F) (fun l s hls => hls X h1 h2) h
theorem Conv.refl (ls : List PV) (st : St) : Conv ls st ls st := fun w hg => ⟨hg, Evo.refl w st, fun _ h => h⟩
theorem Conv.trans {l1 l2 l3 : List PV} {s1 s2 s3 : St} (h : Conv l1 s1 l2 s2) (h' : Conv l2 s2 l3 s3) : Conv l1 s1 l3 s3 := fun w hg => by
  obtain ⟨g2, e2, v2⟩ := h w hg
  obtain ⟨g3, e3, v3⟩ := h' w g2
  exact ⟨g3, e2.trans e3, fun vals hv => v3 vals (v2 vals hv)⟩
def Sub (st st' : St) : Prop := ∀ b o, st b = some o → st' b = some o
theorem Sub.refl (st : St) : Sub st st := fun _ _ h => h
theorem Sub.trans {s1 s2 s3 : St} (h : Sub s1 s2) (h' : Sub s2 s3) : Sub s1 s3 := fun b o hb => h' b o (h b o hb)
theorem Sub.fresh {st st' : St} {b : Nat} {o : HObj} (h : Sub st st') (hb : st b = none) : Sub st (upd st' b o) := fun c oc hc => by
  have : c ≠ b := fun e => by rw [e, hb] at hc; cases hc
  rw [upd_ne _ _ this]
  exact h c oc hc
theorem Sub.upd {st st' : St} (h : Sub st st') (b : Nat) (o : HObj) : Sub (upd st b o) (upd st' b o) := fun c oc hc => by
  by_cases e : c = b
  · subst e; rw [upd_same] at hc ⊢; exact hc
  · rw [upd_ne _ _ e] at hc ⊢; exact h c oc hc
theorem Conv.sub {ls : List PV} {st st' : St} (h : Sub st' st) : Conv ls st ls st' := fun w hg => ⟨hg.sub h, Evo.sub h, fun _ hv => hv.mono (Evo.sub h).cw⟩
theorem Conv.cons {p p' : PV} {ls ls' : List PV} {st st' : St} (h1 : Conv [p] st [p'] st') (h2 : Conv ls st ls' st') : Conv (p :: ls) st (p' :: ls') st' := fun w hg => by
  obtain ⟨g1, e1, v1⟩ := h1 w hg
  obtain ⟨g2, e2, v2⟩ := h2 w hg
  refine ⟨g1, e1, fun vals hv => ?_⟩
  obtain ⟨v, vs, rfl, h3, h4⟩ := hv
  obtain ⟨v', vs', e, h5, _⟩ := v1 [v] ⟨v, [], rfl, h3, rfl⟩
  simp only [List.cons.injEq] at e
  obtain ⟨rfl, _⟩ := e
  exact ⟨v, vs, rfl, h5, v2 vs h4⟩
theorem Conv.freeze {b n cap esz : Nat} {xs : List PV} {st : St} (hb : st b = some (.vec esz xs cap)) (hn : xs.length = n) : Conv [.vsl b n cap] st [.sl esz false xs] (del st b) := fun w hg => by
  refine ⟨hg.sub (del_sub st b), Evo.sub (del_sub st b), fun vals hv => ?_⟩
  obtain ⟨v, vs, rfl, h1, h2⟩ := hv
  obtain rfl := RO_vsl h1
  obtain ⟨arr, t, r1, r2, r3, r4, r5, r6, r7⟩ := hg b _ hb
  refine ⟨_, vs, rfl, .inr (RX.rv ?_ rfl), ?_⟩
  · simp only [RX]
    refine ⟨_, _, _, rfl, hn.symm, by omega, r3, (fun h => by cases h), r6, .inr ⟨b, 0, arr.toList.take (xs.length * esz), rfl, fun j v hj => ⟨?_, del_same st b⟩, RXs.mono (Evo.sub (del_sub st b)).cw _ _ r7⟩⟩
    rw [Nat.zero_add, cell_of_heap r1]
    rw [List.getElem?_take] at hj
    split at hj
    · exact hj
    · cases hj
  · simp only [ROs] at h2
    subst h2
    rfl
theorem Conv.unfull {esz : Nat} {full : Bool} {xs : List PV} {st : St} : Conv [.sl esz full xs] st [.sl esz false xs] st := fun w hg => by
  refine ⟨hg, Evo.refl w st, fun vals hv => ?_⟩
  obtain ⟨v, us, rfl, h1, h2⟩ := hv
  refine ⟨v, us, rfl, .inr ?_, h2⟩
  obtain ⟨a, cap, rfl, h3, h4, h5, h6, h7⟩ := RO_sl h1
  refine RX.rv ?_ rfl
  simp only [RX]
  exact ⟨_, _, _, rfl, rfl, h3, h4, (fun h => by cases h), h6, h7⟩
theorem Conv.empty {esz e' : Nat} {full : Bool} {st : St} : Conv [.sl esz full []] st [.sl e' full []] st := fun w hg => by
  refine ⟨hg, Evo.refl w st, fun vals hv => ?_⟩
  obtain ⟨v, us, rfl, h1, h2⟩ := hv
  refine ⟨v, us, rfl, .inr ?_, h2⟩
  obtain ⟨a, cap, rfl, h3, h4, h5, h6, h7⟩ := RO_sl h1
  refine RX.rv ?_ rfl
  unfold RX
  exact ⟨_, _, _, rfl, rfl, h3, h4, h5, (fun x hx => by cases hx), .inl rfl⟩
theorem Conv.agg {ps qs : List PV} {st st' : St} (h : Conv ps st qs st') (hq : qs.all PV.cellOK = true) (hp : ps.all PV.cellOK = true) : Conv [.agg ps] st [.agg qs] st' := fun w hg => by
  obtain ⟨g1, e1, v1⟩ := h w hg
  refine ⟨g1, e1, fun vals hv => ?_⟩
  obtain ⟨v, us, rfl, h1, h2⟩ := hv
  obtain ⟨vs, rfl, h3⟩ := RO_agg h1
  refine ⟨_, us, rfl, .inr (RV_agg ?_), h2⟩
  have toR : ∀ {ps : List PV} {vs : List Value}, RCs (Cw w st) ps vs → ps.all PV.cellOK = true → ROs (Cw w st) ps vs := by
    intro ps
    induction ps with
    | nil => intro vs h _; simpa [RCs, ROs] using h
    | cons p ps ih =>
      intro vs h hp
      simp only [RCs] at h
      obtain ⟨v, vs', rfl, h1, h2⟩ := h
      simp only [List.all_cons, Bool.and_eq_true] at hp
      exact ⟨v, vs', rfl, .inr (h1.rv (by cases p <;> simp [PV.cellOK] at hp <;> rfl)), ih h2 hp.2⟩
  have ofR : ∀ {ps : List PV} {vs : List Value}, ROs (Cw w st') ps vs → ps.all PV.cellOK = true → RCs (Cw w st') ps vs := by
    intro ps
    induction ps with
    | nil => intro vs h _; simpa [RCs, ROs] using h
    | cons p ps ih =>
      intro vs h hp
      obtain ⟨v, vs', rfl, h1, h2⟩ := h
      simp only [List.all_cons, Bool.and_eq_true] at hp
      simp only [RCs]
      have hj : p.isJunk = false ∧ p.isAgg = false := by cases p <;> simp [PV.cellOK] at hp <;> exact ⟨rfl, rfl⟩
      exact ⟨v, vs', rfl, (h1.rv hj.1).scalar hj.2, ih h2 hp.2⟩
  exact ofR (v1 _ (toR h3 hp)) hq
theorem Conv.nil {st st' : St} (h : Sub st' st) : Conv [] st [] st' := Conv.sub h

theorem hRet.intro {p p' : PV} {st st' : St} {R : PV → St → Prop} (hc : Conv [p] st [p'] st') (h : R p' st') : hRet p st R := ⟨p', st', hc, h⟩
theorem hRet.same {p : PV} {st st' : St} {R : PV → St → Prop} (hs : Sub st' st) (h : R p st') : hRet p st R := ⟨p, st', Conv.sub hs, h⟩
end Go.H
namespace Go.H
open Go
set_option linter.unusedVariables false

instance ownNo : OwnLit := ⟨false⟩

def tyTab (tab : List (Nat × TD)) (t : TypeId) : Option TD := (tab.find? fun x => x.1 == t).map (·.2)
def shpB : Shp → TypeDesc → Bool
  | .int k, .int k' => k == k'
  | .bool, .bool => true
  | .string, .string => true
  | .pointer, .pointer _ => true
  | .slice e, .slice e' => e == e'
  | .array n e, .array n' e' => n == n' && e == e'
  | .map k e, .map k' e' => k == k' && e == e'
  | .func, .func .. => true
  | .iface, .interface _ => true
  | .struct fs, .struct fields => fields.toList.map (fun f => (f.offset, f.type)) == fs
  | _, _ => false
theorem shpB_ok {s : Shp} {d : TypeDesc} (h : shpB s d = true) : ShpOK s d := by
  unfold shpB at h
  split at h <;> simp_all [ShpOK]
def tyB (P : Program) (t : TypeId) (d : TD) : Bool :=
  (match P.info? t with
   | some i => i.size == d.size && i.bytes == d.bytes && (match i.zero with | some z => z.cells.size == d.size && zOK d.zero z.cells.toList && vIsAgg z == d.shape.agg | none => false)
   | none => false) &&
  (match P.underlying t with | some td => shpB d.shape td | none => false)
theorem tyB_ok {P : Program} {t : TypeId} {d : TD} (h : tyB P t d = true) : TyFact P t d := by
  unfold tyB at h
  rw [Bool.and_eq_true] at h
  obtain ⟨h1, h2⟩ := h
  constructor
  · split at h1
    · rename_i i hi
      rw [Bool.and_eq_true, Bool.and_eq_true] at h1
      obtain ⟨⟨h3, h4⟩, h5⟩ := h1
      split at h5
      · rename_i z hz
        rw [Bool.and_eq_true, Bool.and_eq_true] at h5
        exact ⟨i, hi, by simpa using h3, by simpa using h4, z, hz, by simpa using h5.1.1, h5.1.2, by simpa using h5.2⟩
      · cases h5
    · cases h1
  · split at h2
    · rename_i td htd
      exact ⟨td, htd, shpB_ok h2⟩
    · cases h2
theorem tyTab_ok {P : Program} {tab : List (Nat × TD)} (h : (tab.all fun x => tyB P x.1 x.2) = true) : TyOK P (tyTab tab) := by
  intro t d hd
  unfold tyTab at hd
  rw [Option.map_eq_some_iff] at hd
  obtain ⟨x, hx, rfl⟩ := hd
  have h1 := List.find?_some hx
  have h2 := List.mem_of_find?_eq_some hx
  have h3 := List.all_eq_true.1 h x h2
  have : x.1 = t := by simpa using h1
  subst this
  exact tyB_ok h3

end Go.H
namespace Go.H
open Go
set_option linter.unusedVariables false

@[simp] theorem qb_some (p : PV) (k : PV → Prop) : qb (some p) k = k p := rfl
@[simp] theorem cb_bool (b : Bool) (k : Bool → Prop) : cb (.bool b) k = k b := rfl
@[simp] theorem br_true (X Y : Prop) : br true X Y = X := rfl
@[simp] theorem br_false (X Y : Prop) : br false X Y = Y := rfl
theorem br_dec {c : Prop} [Decidable c] {X Y : Prop} (h1 : c → X) (h2 : ¬ c → Y) : br (decide c) X Y := by
  by_cases h : c
  · rw [decide_eq_true h]; exact h1 h
  · rw [decide_eq_false h]; exact h2 h
theorem br_of {b : Bool} {X Y : Prop} (h1 : b = true → X) (h2 : b = false → Y) : br b X Y := by
  cases b with
  | true => exact h1 rfl
  | false => exact h2 rfl
theorem retR_same {R : Res → St → Prop} {p : PV} {st : St} (h : R (.ret p) st) : retR R p st := hRet.same (fun _ _ h => h) h
theorem retR_sub {R : Res → St → Prop} {p : PV} {st st' : St} (hs : Sub st' st) (h : R (.ret p) st') : retR R p st := hRet.same hs h
theorem callK_of {P : Program} {g : FuncId} {args : List PV} {st : St} {K Kp : PV → St → Prop} {R : Res → St → Prop} (hc : HCalls P g args st R)
    (hk : ∀ p st', R (.ret p) st' → K p st') (hp : ∀ p st', R (.pan p) st' → Kp p st') : callK P g args st K Kp :=
  hc.mono fun r st' h => by cases r with | ret p => exact hk p st' h | pan p => exact hp p st' h
def Just (p : PV) (st : St) : Res → St → Prop := fun r st' => st' = st ∧ r = .ret p
theorem callK_just {P : Program} {g : FuncId} {args : List PV} {st : St} {K Kp : PV → St → Prop} {p : PV} (hc : HCalls P g args st (Just p st)) (hk : K p st) : callK P g args st K Kp :=
  callK_of hc (fun q st' h => by obtain ⟨rfl, h⟩ := h; cases h; exact hk) (fun q st' h => by obtain ⟨_, h⟩ := h; cases h)
theorem Just.ret {p : PV} {st st1 : St} (hs : Sub st st1) : retR (Just p st) p st1 := retR_sub hs ⟨rfl, rfl⟩
@[simp] theorem q_bin_int (op : BinOp) (k : IntKind) (a b : Int) : q_bin op (.int k a) (.int k b) = q_int op k a b := by simp [q_bin]
@[simp] theorem q_bin_str (op : BinOp) (a b : List UInt8) : q_bin op (.str a) (.str b) = q_str op a b := rfl
@[simp] theorem q_bin_junkr (op : BinOp) (k : IntKind) (a : Int) : q_bin op (.int k a) .junk = none := rfl
@[simp] theorem q_lss (k : IntKind) (a b : Int) : q_int .lss k a b = some (.bool (decide (a < b))) := rfl
@[simp] theorem q_leq (k : IntKind) (a b : Int) : q_int .leq k a b = some (.bool (decide (a ≤ b))) := rfl
@[simp] theorem q_gtr (k : IntKind) (a b : Int) : q_int .gtr k a b = some (.bool (decide (b < a))) := rfl
@[simp] theorem q_geq (k : IntKind) (a b : Int) : q_int .geq k a b = some (.bool (decide (b ≤ a))) := rfl
@[simp] theorem q_eql (k : IntKind) (a b : Int) : q_int .eql k a b = some (.bool (decide (a = b))) := rfl
@[simp] theorem q_neq (k : IntKind) (a b : Int) : q_int .neq k a b = some (.bool (decide (a ≠ b))) := rfl
@[simp] theorem q_add (k : IntKind) (a b : Int) : q_int .add k a b = some (.int k (k.wrap (a + b))) := rfl
@[simp] theorem q_sub (k : IntKind) (a b : Int) : q_int .sub k a b = some (.int k (k.wrap (a - b))) := rfl
@[simp] theorem q_mul (k : IntKind) (a b : Int) : q_int .mul k a b = some (.int k (k.wrap (a * b))) := rfl
@[simp] theorem q_seql (a b : List UInt8) : q_str .eql a b = some (.bool (decide (a = b))) := rfl
@[simp] theorem q_sneq (a b : List UInt8) : q_str .neq a b = some (.bool (decide (a ≠ b))) := rfl
@[simp] theorem q_not (b : Bool) : q_un .not (.bool b) = some (.bool (!b)) := rfl
@[simp] theorem q_lenS_str (s : List UInt8) : q_lenS (.str s) = some (.int .i64 s.length) := rfl
@[simp] theorem q_len_sl (e : Nat) (f : Bool) (xs : List PV) : q_len (.sl e f xs) = some (.int .i64 xs.length) := rfl
@[simp] theorem q_len_vsl (b n c : Nat) : q_len (.vsl b n c) = some (.int .i64 n) := rfl
@[simp] theorem q_fa_ptr (off b o : Nat) : q_fa off (.ptr b o) = some (.ptr b (o + off)) := rfl
@[simp] theorem q_nil_ptr (b o : Nat) : q_nil (.ptr b o) = some (.ptr b o) := rfl
@[simp] theorem q_nil_ref (cs : List PV) : q_nil (.ref cs) = some (.ref cs) := rfl
theorem q_load_ptr {st : St} {agg : Bool} {n b off : Nat} {vs : List PV} (h : st b = some (.cells vs)) : q_load st agg n (.ptr b off) = takeV agg n (vs.drop off) := by simp [q_load, h]
@[simp] theorem upd_self (st : St) (b : Nat) (o : HObj) : upd st b o b = some o := upd_same st b o
theorem wrap64 {n : Int} (h1 : -9223372036854775808 ≤ n) (h2 : n ≤ 9223372036854775807) : IntKind.wrap .i64 n = n := IntWalk.i64_in n ⟨h1, h2⟩
end Go.H
namespace Go.H
open Go
set_option linter.unusedVariables false
set_option linter.unusedSimpArgs false

theorem e_box_ref {st : St} {p : PV} {K : PV → St → Prop} (hp : p.isJunk = false) (h : K (.ref p.cells) st) : e_box st p K := by
  unfold e_box; rw [hp]; exact .inl h
theorem e_box_own {st : St} {p : PV} {K : PV → St → Prop} (hp : p.isJunk = false) (h : ∀ b, st b = none → K (.ptr b 0) (upd st b (.cells p.cells))) : e_box st p K := by
  unfold e_box; rw [hp]; exact .inr h
@[simp] theorem q_fa_ref (off : Nat) (cs : List PV) (h : off ≤ cs.length) : q_fa off (.ref cs) = some (.ref (cs.drop off)) := by simp [q_fa, h]
@[simp] theorem q_load_ref (st : St) (agg : Bool) (n : Nat) (cs : List PV) : q_load st agg n (.ref cs) = takeV agg n cs := rfl

mutual
def PV.WF : PV → Prop
  | .sl _ _ xs => xs.length ≤ maxLen ∧ WFs xs
  | .agg cs => WFs cs
  | .tup cs => WFs cs
  | .ref cs => WFs cs
  | .fn _ a b => WFs a ∧ WFs b
  | .iface _ p => PV.WF p
  | _ => True
def WFs : List PV → Prop
  | [] => True
  | p :: ps => PV.WF p ∧ WFs ps
end
section
variable {C : Nat → Nat → Value → Prop}
mutual
theorem RX.wf : ∀ (p : PV) (vs : List Value), RX C p vs → p.WF
  | .junk, _, _ => by simp [PV.WF]
  | .int .., _, _ => by simp [PV.WF]
  | .bool .., _, _ => by simp [PV.WF]
  | .str .., _, _ => by simp [PV.WF]
  | .agg cs, vs, h => by simp only [RX] at h; simp only [PV.WF]; exact RCs.wf cs vs h
  | .tup ps, vs, h => by
    simp only [RX] at h
    obtain ⟨ws, e, h⟩ := h
    simp only [PV.WF]; exact RVs.wf ps ws h
  | .sl _ _ xs, vs, h => by
    simp only [RX] at h
    obtain ⟨a, n, cap, e, h1, h2, h3, h4, h5, h6⟩ := h
    simp only [PV.WF]
    refine ⟨by omega, ?_⟩
    rcases h6 with h6 | ⟨b, off, cs, e1, h7, h8⟩
    · subst h6; simp [WFs]
    · exact RXs.wf xs cs h8
  | .vsl .., _, _ => by simp [PV.WF]
  | .ref ps, vs, h => by
    simp only [RX] at h
    obtain ⟨b, off, cs, e, h7, h8⟩ := h
    simp only [PV.WF]; exact RCs.wf ps cs h8
  | .ptr .., _, _ => by simp [PV.WF]
  | .eptr .., _, _ => by simp [PV.WF]
  | .nilp, _, _ => by simp [PV.WF]
  | .fn _ first caps, vs, h => by
    simp only [RX] at h
    obtain ⟨vf, vc, e, h1, h2⟩ := h
    simp only [PV.WF]; exact ⟨RVs.wf first vf h1, RVs.wf caps vc h2⟩
  | .nilfn, _, _ => by simp [PV.WF]
  | .iface _ p, vs, h => by
    simp only [RX] at h
    obtain ⟨v, e, h1, h2⟩ := h
    simp only [PV.WF]; exact RX.wf p _ h2
  | .niliface, _, _ => by simp [PV.WF]
  | .map .., _, _ => by simp [PV.WF]
  | .nilmap, _, _ => by simp [PV.WF]
theorem RCs.wf : ∀ (ps : List PV) (vs : List Value), RCs C ps vs → WFs ps
  | [], _, _ => by simp [WFs]
  | p :: ps, vs, h => by
    simp only [RCs] at h
    obtain ⟨v, vs', e, h1, h2⟩ := h
    simp only [WFs]; exact ⟨RX.wf p _ h1, RCs.wf ps vs' h2⟩
theorem RXs.wf : ∀ (ps : List PV) (vs : List Value), RXs C ps vs → WFs ps
  | [], _, _ => by simp [WFs]
  | p :: ps, vs, h => by
    simp only [RXs] at h
    obtain ⟨c1, c2, e, h1, h2⟩ := h
    simp only [WFs]; exact ⟨RX.wf p _ h1, RXs.wf ps c2 h2⟩
theorem RVs.wf : ∀ (ps : List PV) (vs : List Value), RVs C ps vs → WFs ps
  | [], _, _ => by simp [WFs]
  | p :: ps, vs, h => by
    simp only [RVs] at h
    obtain ⟨v, vs', e, h1, h2⟩ := h
    simp only [WFs]
    refine ⟨?_, RVs.wf ps vs' h2⟩
    rcases h1 with h1 | h1
    · subst h1; simp [PV.WF]
    · exact RX.wf p _ h1.2
end
end
theorem ROs.wf {C : Nat → Nat → Value → Prop} {ps : List PV} {vs : List Value} (h : ROs C ps vs) : WFs ps := RVs.wf ps vs (RVs.of_ros h)
theorem WFs.mem : ∀ {ps : List PV}, WFs ps → ∀ p ∈ ps, p.WF
  | p :: ps, h, q, hq => by
    simp only [WFs] at h
    cases hq with
    | head => exact h.1
    | tail _ hq => exact WFs.mem h.2 q hq
theorem HCalls.wf {P : Program} {f : FuncId} {args : List PV} {st : St} {R : Res → St → Prop} (he : Enters P f) (h : WFs args → HCalls P f args st R) : HCalls P f args st R :=
  ⟨he, fun w vals hg ha => (h ha.wf).2 w vals hg ha⟩

theorem hFix_rec {σ : Type} {F : List PV → St → (List PV → St → Prop) → Prop} (m : σ → Nat) (enc : σ → List PV) (stf : σ → St) (I : σ → Prop)
    (step : ∀ s, I s → (∀ s', m s' < m s → I s' → hFix F (enc s') (stf s')) → F (enc s) (stf s) (hFix F)) (s0 : σ) (h0 : I s0) : hFix F (enc s0) (stf s0) := by
  have key : ∀ n s, m s = n → I s → hFix F (enc s) (stf s) := by
    intro n
    induction n using Nat.strongRecOn with
    | _ n ih =>
      intro s hs hi
      exact hFix_unroll (step s hi fun s' hm hi' => ih (m s') (by omega) s' rfl hi')
  exact key _ s0 rfl h0
theorem hJ_of {B : List PV → St → Prop} {F : (List PV → St → Prop) → Prop} (h : ∀ J : List PV → St → Prop, (∀ ls st, B ls st → J ls st) → F J) : hJ B F := fun J hJ _ => h J hJ
theorem hJ_cv {B : List PV → St → Prop} {F : (List PV → St → Prop) → Prop} (h : ∀ J : List PV → St → Prop, (∀ ls st ls' st', Conv ls st ls' st' → B ls' st' → J ls st) → F J) : hJ B F := fun J hJ hC => h J fun ls st ls' st' hc hb => hC ls st ls' st' hc (hJ ls' st' hb)

def Grow (st0 : St) (esz : Nat) (acc : List PV) (p : PV) (st : St) : Prop :=
  (acc = [] ∧ (∃ e, p = .sl e true []) ∧ st = st0) ∨ (∃ b cap, p = .vsl b acc.length cap ∧ acc.length ≤ cap ∧ st0 b = none ∧ st = upd st0 b (.vec esz acc cap))
theorem Grow.nil (st : St) (esz e : Nat) : Grow st esz [] (.sl e true []) st := .inl ⟨rfl, ⟨e, rfl⟩, rfl⟩
@[simp] theorem upd_upd (st : St) (b : Nat) (o o' : HObj) : upd (upd st b o) b o' = upd st b o' := by funext c; unfold upd; split <;> rfl
theorem del_upd (st : St) (b : Nat) (o : HObj) (h : st b = none) : del (upd st b o) b = st := by
  funext c; unfold del upd; split
  · rename_i e; rw [e, h]
  · rfl
theorem elems_sl (st : St) (e : Nat) (f : Bool) (xs : List PV) : elems st e (.sl e f xs) = some xs := by simp [elems]
theorem Grow.append {st0 st : St} {esz bytes : Nat} {acc ys : List PV} {p y : PV} {K : PV → St → Prop} (h : Grow st0 esz acc p st) (hy : elems st esz y = some ys) (hb : (acc.length + ys.length) * bytes ≤ 140737488355328)
    (hk : ∀ p' st', Grow st0 esz (acc ++ ys) p' st' → K p' st') : e_append st esz bytes p y K := by
  rcases h with ⟨rfl, ⟨e, rfl⟩, rfl⟩ | ⟨b, cap, rfl, hcap, hn, rfl⟩
  · have e1 : elems st esz (.sl e true []) = some [] := by simp [elems]
    unfold e_append
    rw [e1, hy]
    refine ⟨by simpa using hb, rfl, fun h => hk _ _ (.inl ⟨by simp [h], ⟨_, rfl⟩, rfl⟩), fun h => .inl fun b cap hb' hc => hk _ _ (.inr ⟨b, cap, rfl, hc, ?_, rfl⟩)⟩
    rcases hb' with hb' | hb'
    · cases hb'
    · exact hb'
  · have e1 : elems (upd st0 b (.vec esz acc cap)) esz (.vsl b acc.length cap) = some acc := by simp [elems, upd_same]
    unfold e_append
    rw [e1, hy]
    refine ⟨hb, .inl fun b' cap' hb' hc => hk _ _ (.inr ⟨b', cap', rfl, hc, ?_, ?_⟩)⟩
    · rcases hb' with hb' | hb'
      · cases hb'; exact hn
      · unfold upd at hb'; split at hb'
        · cases hb'
        · exact hb'
    · show upd (del (upd st0 b (.vec esz acc cap)) b) b' _ = _
      rw [del_upd _ _ _ hn]
theorem Grow.len {st0 st : St} {esz : Nat} {acc : List PV} {p : PV} (h : Grow st0 esz acc p st) : q_len p = some (.int .i64 acc.length) := by
  rcases h with ⟨rfl, ⟨e, rfl⟩, rfl⟩ | ⟨b, cap, rfl, hcap, hn, rfl⟩ <;> simp [q_len]
theorem Grow.sub {st0 st : St} {esz : Nat} {acc : List PV} {p : PV} (h : Grow st0 esz acc p st) : Sub st0 st := by
  rcases h with ⟨rfl, ⟨e, rfl⟩, rfl⟩ | ⟨b, cap, rfl, hcap, hn, rfl⟩
  · exact Sub.refl _
  · exact Sub.fresh (Sub.refl _) hn
theorem Grow.elems {st0 st : St} {esz : Nat} {acc : List PV} {p : PV} (h : Grow st0 esz acc p st) : elems st esz p = some acc := by
  rcases h with ⟨rfl, ⟨e, rfl⟩, rfl⟩ | ⟨b, cap, rfl, hcap, hn, rfl⟩ <;> simp [Go.H.elems, upd_same]
theorem Grow.freeze {st0 st : St} {esz : Nat} {acc : List PV} {p : PV} (h : Grow st0 esz acc p st) : Conv [p] st [.sl esz false acc] st0 := by
  rcases h with ⟨rfl, ⟨e, rfl⟩, rfl⟩ | ⟨b, cap, rfl, hcap, hn, rfl⟩
  · exact Conv.trans (Conv.empty (e' := esz)) Conv.unfull
  · have := Conv.freeze (b := b) (n := acc.length) (cap := cap) (esz := esz) (xs := acc) (st := upd st0 b (.vec esz acc cap)) (upd_same _ _ _) rfl
    rwa [del_upd _ _ _ hn] at this

theorem Conv.int (st st' : St) (k : IntKind) (n : Int) (hs : Sub st' st) : Conv [.int k n] st [.int k n] st' := Conv.sub hs
theorem Conv.two {p q p' q' : PV} {st st' : St} (h1 : Conv [p] st [p'] st') (h2 : Conv [q] st [q'] st') : Conv [p, q] st [p', q'] st' := Conv.cons h1 h2
theorem Conv.sl_to (st : St) (e e' : Nat) (f : Bool) (xs : List PV) (h : e = e' ∨ xs = []) : Conv [.sl e f xs] st [.sl e' false xs] st := by
  rcases h with rfl | rfl
  · exact Conv.unfull
  · exact Conv.trans (Conv.empty (e' := e')) Conv.unfull
theorem retR_conv {R : Res → St → Prop} {p p' : PV} {st st' : St} (hc : Conv [p] st [p'] st') (h : R (.ret p') st') : retR R p st := ⟨p', st', hc, h⟩
theorem Just.conv {p p' : PV} {st st1 : St} (hc : Conv [p'] st1 [p] st) : retR (Just p st) p' st1 := retR_conv hc ⟨rfl, rfl⟩

theorem upd_apply (st : St) (b c : Nat) (o : HObj) : upd st b o c = if c = b then some o else st c := rfl
theorem upd_none (st : St) (b c : Nat) (o : HObj) : upd st b o c = none ↔ ¬ c = b ∧ ¬ b = c ∧ st c = none := by
  unfold upd
  split
  · rename_i h; simp [h]
  · rename_i h; simp [h, Ne.symm h]
theorem Sub.of {st st' : St} (h : ∀ b o, st b = some o → st' b = some o) : Sub st st' := h
@[simp] theorem br_not (b : Bool) (X Y : Prop) : br (!b) X Y = br b Y X := by cases b <;> rfl
theorem e_store_ptr {st : St} {n b off : Nat} {x : PV} {vs : List PV} {K : St → Prop} (hb : st b = some (.cells vs)) (hx : x.cells.all PV.cellOK = true) (hn : x.ncells = n) (hj : x.isJunk = false) (hf : off + n ≤ vs.length)
    (h : K (upd st b (.cells (setRange vs off x.cells)))) : e_store st n (.ptr b off) x K := by
  unfold e_store
  rw [if_pos ⟨hx, hn, hj⟩]
  simp only [hb]
  rw [if_pos hf]
  exact h

@[congr] theorem qb_congr {q q' : Option PV} {k : PV → Prop} (h : q = q') : qb q k = qb q' k := by rw [h]
@[congr] theorem cb_congr {q q' : PV} {k : Bool → Prop} (h : q = q') : cb q k = cb q' k := by rw [h]
@[congr] theorem br_congr {b b' : Bool} {X Y : Prop} (h : b = b') : br b X Y = br b' X Y := by rw [h]
@[congr] theorem callK_congr {P : Program} {g : FuncId} {us us' : List PV} {st : St} {K Kp : PV → St → Prop} (h : us = us') : callK P g us st K Kp = callK P g us' st K Kp := by rw [h]
@[congr] theorem e_box_congr {st : St} {p p' : PV} {K : PV → St → Prop} (h : p = p') : e_box st p K = e_box st p' K := by rw [h]
@[congr] theorem e_alloc_congr {st : St} {z : List PV} {K : PV → St → Prop} : e_alloc st z K = e_alloc st z K := rfl
@[congr] theorem e_store_congr {st : St} {n : Nat} {a a' x x' : PV} {K : St → Prop} (h : a = a') (h' : x = x') : e_store st n a x K = e_store st n a' x' K := by rw [h, h']
@[congr] theorem e_append_congr {st : St} {n m : Nat} {a a' x x' : PV} {K : PV → St → Prop} (h : a = a') (h' : x = x') : e_append st n m a x K = e_append st n m a' x' K := by rw [h, h']
@[congr] theorem e_make_congr {st : St} {n m : Nat} {z a a' x x' : PV} {K : PV → St → Prop} (h : a = a') (h' : x = x') : e_make st n m z a x K = e_make st n m z a' x' K := by rw [h, h']
@[congr] theorem e_mkmap_congr {st : St} {K : PV → St → Prop} : e_mkmap st K = e_mkmap st K := rfl
@[congr] theorem e_mapset_congr {st : St} {ks : Shp} {m m' k k' x x' : PV} {K : St → Prop} (h : m = m') (h' : k = k') (h'' : x = x') : e_mapset st ks m k x K = e_mapset st ks m' k' x' K := by rw [h, h', h'']
@[congr] theorem e_call_congr {P : Program} {st : St} {f f' : PV} {us us' : List PV} {K Kp : PV → St → Prop} (h : f = f') (h' : us = us') : e_call P st f us K Kp = e_call P st f' us' K Kp := by rw [h, h']
@[congr] theorem e_panic_congr {st : St} {x x' : PV} {K : PV → St → Prop} (h : x = x') : e_panic x st K = e_panic x' st K := by rw [h]
@[congr] theorem hFix_congr {F : List PV → St → (List PV → St → Prop) → Prop} {ls ls' : List PV} {st : St} (h : ls = ls') : hFix F ls st = hFix F ls' st := by rw [h]
@[congr] theorem hJ_congr {B : List PV → St → Prop} {F : (List PV → St → Prop) → Prop} : hJ B F = hJ B F := rfl
@[congr] theorem retR_congr {R : Res → St → Prop} {p p' : PV} {st : St} (h : p = p') : retR R p st = retR R p' st := by rw [h]

section ctors
variable (k : IntKind) (n : Int) (b : Bool) (s : List UInt8) (cs : List PV) (e m o i r : Nat) (f : Bool) (g : Fn) (us : List PV) (t : TypeId) (p : PV)
@[simp] theorem isJunk_int : (PV.int k n).isJunk = false := rfl
@[simp] theorem isJunk_bool : (PV.bool b).isJunk = false := rfl
@[simp] theorem isJunk_str : (PV.str s).isJunk = false := rfl
@[simp] theorem isJunk_agg : (PV.agg cs).isJunk = false := rfl
@[simp] theorem isJunk_sl : (PV.sl e f cs).isJunk = false := rfl
@[simp] theorem isJunk_vsl : (PV.vsl e m o).isJunk = false := rfl
@[simp] theorem isJunk_ref : (PV.ref cs).isJunk = false := rfl
@[simp] theorem isJunk_ptr : (PV.ptr m o).isJunk = false := rfl
@[simp] theorem isJunk_eptr : (PV.eptr m e i r).isJunk = false := rfl
@[simp] theorem isJunk_fn : (PV.fn g us cs).isJunk = false := rfl
@[simp] theorem isJunk_iface : (PV.iface t p).isJunk = false := rfl
@[simp] theorem isJunk_map : (PV.map m).isJunk = false := rfl
@[simp] theorem isJunk_nilmap : (PV.nilmap).isJunk = false := rfl
@[simp] theorem isJunk_nilp : (PV.nilp).isJunk = false := rfl
@[simp] theorem isJunk_niliface : (PV.niliface).isJunk = false := rfl
@[simp] theorem cells_int : (PV.int k n).cells = [.int k n] := rfl
@[simp] theorem cells_bool : (PV.bool b).cells = [.bool b] := rfl
@[simp] theorem cells_str : (PV.str s).cells = [.str s] := rfl
@[simp] theorem cells_agg : (PV.agg cs).cells = cs := rfl
@[simp] theorem cells_sl : (PV.sl e f cs).cells = [.sl e f cs] := rfl
@[simp] theorem cells_vsl : (PV.vsl e m o).cells = [.vsl e m o] := rfl
@[simp] theorem cells_ref : (PV.ref cs).cells = [.ref cs] := rfl
@[simp] theorem cells_ptr : (PV.ptr m o).cells = [.ptr m o] := rfl
@[simp] theorem cells_eptr : (PV.eptr m e i r).cells = [.eptr m e i r] := rfl
@[simp] theorem cells_fn : (PV.fn g us cs).cells = [.fn g us cs] := rfl
@[simp] theorem cells_iface : (PV.iface t p).cells = [.iface t p] := rfl
@[simp] theorem cells_map : (PV.map m).cells = [.map m] := rfl
@[simp] theorem cells_nilmap : (PV.nilmap).cells = [.nilmap] := rfl
@[simp] theorem cells_nilp : (PV.nilp).cells = [.nilp] := rfl
@[simp] theorem ncells_int : (PV.int k n).ncells = 1 := rfl
@[simp] theorem ncells_bool : (PV.bool b).ncells = 1 := rfl
@[simp] theorem ncells_str : (PV.str s).ncells = 1 := rfl
@[simp] theorem ncells_agg : (PV.agg cs).ncells = cs.length := rfl
@[simp] theorem ncells_sl : (PV.sl e f cs).ncells = 1 := rfl
@[simp] theorem ncells_vsl : (PV.vsl e m o).ncells = 1 := rfl
@[simp] theorem ncells_ref : (PV.ref cs).ncells = 1 := rfl
@[simp] theorem ncells_ptr : (PV.ptr m o).ncells = 1 := rfl
@[simp] theorem ncells_eptr : (PV.eptr m e i r).ncells = 1 := rfl
@[simp] theorem ncells_fn : (PV.fn g us cs).ncells = 1 := rfl
@[simp] theorem ncells_iface : (PV.iface t p).ncells = 1 := rfl
@[simp] theorem ncells_map : (PV.map m).ncells = 1 := rfl
@[simp] theorem ncells_nilmap : (PV.nilmap).ncells = 1 := rfl
@[simp] theorem ncells_nilp : (PV.nilp).ncells = 1 := rfl
@[simp] theorem cellOK_int : (PV.int k n).cellOK = true := rfl
@[simp] theorem cellOK_bool : (PV.bool b).cellOK = true := rfl
@[simp] theorem cellOK_str : (PV.str s).cellOK = true := rfl
@[simp] theorem cellOK_sl : (PV.sl e f cs).cellOK = true := rfl
@[simp] theorem cellOK_vsl : (PV.vsl e m o).cellOK = true := rfl
@[simp] theorem cellOK_ref : (PV.ref cs).cellOK = true := rfl
@[simp] theorem cellOK_ptr : (PV.ptr m o).cellOK = true := rfl
@[simp] theorem cellOK_eptr : (PV.eptr m e i r).cellOK = true := rfl
@[simp] theorem cellOK_fn : (PV.fn g us cs).cellOK = true := rfl
@[simp] theorem cellOK_iface : (PV.iface t p).cellOK = true := rfl
@[simp] theorem cellOK_map : (PV.map m).cellOK = true := rfl
@[simp] theorem cellOK_nilmap : (PV.nilmap).cellOK = true := rfl
@[simp] theorem cellOK_nilp : (PV.nilp).cellOK = true := rfl
@[simp] theorem isAgg_int : (PV.int k n).isAgg = false := rfl
@[simp] theorem isAgg_bool : (PV.bool b).isAgg = false := rfl
@[simp] theorem isAgg_str : (PV.str s).isAgg = false := rfl
@[simp] theorem isAgg_sl : (PV.sl e f cs).isAgg = false := rfl
@[simp] theorem isAgg_vsl : (PV.vsl e m o).isAgg = false := rfl
@[simp] theorem isAgg_ref : (PV.ref cs).isAgg = false := rfl
@[simp] theorem isAgg_ptr : (PV.ptr m o).isAgg = false := rfl
@[simp] theorem isAgg_eptr : (PV.eptr m e i r).isAgg = false := rfl
@[simp] theorem isAgg_fn : (PV.fn g us cs).isAgg = false := rfl
@[simp] theorem isAgg_iface : (PV.iface t p).isAgg = false := rfl
@[simp] theorem isAgg_map : (PV.map m).isAgg = false := rfl
@[simp] theorem isAgg_nilmap : (PV.nilmap).isAgg = false := rfl
@[simp] theorem isAgg_nilp : (PV.nilp).isAgg = false := rfl
end ctors
@[simp] theorem takeV_t (n : Nat) (cs : List PV) : takeV true n cs = if n ≤ cs.length then some (.agg (cs.take n)) else none := rfl
@[simp] theorem takeV_int (n : Nat) (cs : List PV) (k : IntKind) (i : Int) : takeV false n (.int k i :: cs) = some (.int k i) := rfl
@[simp] theorem takeV_bool (n : Nat) (cs : List PV) (b : Bool) : takeV false n (.bool b :: cs) = some (.bool b) := rfl
@[simp] theorem takeV_str (n : Nat) (cs : List PV) (s : List UInt8) : takeV false n (.str s :: cs) = some (.str s) := rfl
@[simp] theorem takeV_sl (n : Nat) (cs : List PV) (e : Nat) (f : Bool) (xs : List PV) : takeV false n (.sl e f xs :: cs) = some (.sl e f xs) := rfl
@[simp] theorem takeV_vsl (n : Nat) (cs : List PV) (b l c : Nat) : takeV false n (.vsl b l c :: cs) = some (.vsl b l c) := rfl
@[simp] theorem takeV_ref (n : Nat) (cs : List PV) (xs : List PV) : takeV false n (.ref xs :: cs) = some (.ref xs) := rfl
@[simp] theorem takeV_ptr (n : Nat) (cs : List PV) (b o : Nat) : takeV false n (.ptr b o :: cs) = some (.ptr b o) := rfl
@[simp] theorem takeV_eptr (n : Nat) (cs : List PV) (b e i r : Nat) : takeV false n (.eptr b e i r :: cs) = some (.eptr b e i r) := rfl
@[simp] theorem takeV_nilp (n : Nat) (cs : List PV)  : takeV false n (.nilp :: cs) = some (.nilp) := rfl
@[simp] theorem takeV_fn (n : Nat) (cs : List PV) (g : Fn) (us vs : List PV) : takeV false n (.fn g us vs :: cs) = some (.fn g us vs) := rfl
@[simp] theorem takeV_nilfn (n : Nat) (cs : List PV)  : takeV false n (.nilfn :: cs) = some (.nilfn) := rfl
@[simp] theorem takeV_iface (n : Nat) (cs : List PV) (t : TypeId) (p : PV) : takeV false n (.iface t p :: cs) = some (.iface t p) := rfl
@[simp] theorem takeV_niliface (n : Nat) (cs : List PV)  : takeV false n (.niliface :: cs) = some (.niliface) := rfl
@[simp] theorem takeV_map (n : Nat) (cs : List PV) (b : Nat) : takeV false n (.map b :: cs) = some (.map b) := rfl
@[simp] theorem takeV_nilmap (n : Nat) (cs : List PV)  : takeV false n (.nilmap :: cs) = some (.nilmap) := rfl
theorem q_load_p {st : St} {agg : Bool} {n b off : Nat} {vs : List PV} (h : st b = some (.cells vs)) : q_load st agg n (.ptr b off) = takeV agg n (vs.drop off) := by simp [q_load, h]
theorem q_load_e {st : St} {agg : Bool} {n b e i r cap : Nat} {xs : List PV} {x : PV} (h : st b = some (.vec e xs cap)) (hx : xs[i]? = some x) : q_load st agg n (.eptr b e i r) = takeV agg n (x.cells.drop r) := by simp [q_load, h, hx]
@[simp] theorem q_ex_tup (vs : List PV) (i : Nat) : q_ex (.tup vs) i = vs[i]? := rfl
@[simp] theorem q_beq_eql (a b : Bool) : q_beq .eql (.bool a) (.bool b) = some (.bool (a == b)) := rfl
@[simp] theorem q_beq_neq (a b : Bool) : q_beq .neq (.bool a) (.bool b) = some (.bool (a != b)) := rfl
@[simp] theorem q_ia_vsl (esz b n c : Nat) (k : IntKind) (i : Int) : q_ia esz (.vsl b n c) (.int k i) = if 0 ≤ i ∧ i.toNat < n then some (.eptr b esz i.toNat 0) else none := rfl
@[simp] theorem q_fa_eptr (off b e i r : Nat) : q_fa off (.eptr b e i r) = some (.eptr b e i (r + off)) := rfl
@[simp] theorem q_nil_eptr (b e i r : Nat) : q_nil (.eptr b e i r) = some (.eptr b e i r) := rfl
@[simp] theorem q_conv_int (k k' : IntKind) (n : Int) : q_conv k (.int k' n) = some (.int k (k.wrap n)) := rfl
@[simp] theorem q_cstr_str (s : List UInt8) : q_cstr (.str s) = some (.str s) := rfl
@[simp] theorem q_sadd (a b : List UInt8) : q_str .add a b = if a.length + b.length ≤ 9223372036854775807 then some (.str (a ++ b)) else none := rfl
@[simp] theorem q_lit_nil (esz len i : Nat) (acc : List PV) : q_lit esz len i acc [] = if i = len then some (.sl esz true acc.reverse) else none := rfl
@[simp] theorem q_lit_cons (esz len i j : Nat) (acc : List PV) (p : PV) (r : List (Nat × PV)) : q_lit esz len i acc ((j, p) :: r) = if j = i ∧ p.ncells = esz ∧ p.cells.all PV.cellOK = true then q_lit esz len (i + 1) (p :: acc) r else none := rfl
@[simp] theorem e_store_p (st : St) (n b off : Nat) (x : PV) (K : St → Prop) (vs : List PV) (hb : st b = some (.cells vs)) : e_store st n (.ptr b off) x K = if x.cells.all PV.cellOK = true ∧ x.ncells = n ∧ x.isJunk = false then (if off + n ≤ vs.length then K (upd st b (.cells (setRange vs off x.cells))) else False) else False := by
  unfold e_store; simp only [hb]
theorem Just.bool {b v : Bool} {st st1 : St} (h : b = v) (hs : Sub st st1 := by exact Sub.refl _) : retR (Just (.bool v) st) (.bool b) st1 := h ▸ Just.ret hs
theorem Just.int {k : IntKind} {b v : Int} {st st1 : St} (h : b = v) (hs : Sub st st1 := by exact Sub.refl _) : retR (Just (.int k v) st) (.int k b) st1 := h ▸ Just.ret hs
theorem Just.same {p v : PV} {st st1 : St} (h : p = v) (hs : Sub st st1 := by exact Sub.refl _) : retR (Just v st) p st1 := h ▸ Just.ret hs
theorem q_ix_str (s : List UInt8) (k : IntKind) (i : Nat) {c : UInt8} (h : s[i]? = some c) : q_ix (.str s) (.int k (i : Int)) = some (.int .u8 c.toNat) := by simp [q_ix, h]
@[simp] theorem q_ix_zero (c : UInt8) (s : List UInt8) (k : IntKind) : q_ix (.str (c :: s)) (.int k 0) = some (.int .u8 c.toNat) := by simp [q_ix]
theorem ne_of {st : St} {b c : Nat} {o : HObj} (h : st b = some o) (h' : st c = none) : b ≠ c := fun e => by rw [e, h'] at h; cases h
theorem upd_comm (st : St) {b c : Nat} (o o' : HObj) (h : b ≠ c) : upd (upd st b o) c o' = upd (upd st c o') b o := by
  funext d; unfold upd; split
  · split
    · rename_i h1 h2; exact absurd (h2.symm.trans h1) h
    · rfl
  · rfl
theorem Grow.store {st0 st : St} {esz : Nat} {acc : List PV} {p : PV} (h : Grow st0 esz acc p st) {c : Nat} {o : HObj} (o' : HObj) (hc : st0 c = some o) : Grow (upd st0 c o') esz acc p (upd st c o') := by
  rcases h with ⟨rfl, ⟨e, rfl⟩, rfl⟩ | ⟨b, cap, rfl, hcap, hn, rfl⟩
  · exact .inl ⟨rfl, ⟨e, rfl⟩, rfl⟩
  · have hne := ne_of hc hn
    exact .inr ⟨b, cap, rfl, hcap, by rw [upd_ne _ _ hne.symm]; exact hn, by rw [upd_comm _ _ _ hne.symm]⟩
theorem Sub.get {st st' : St} (h : Sub st st') {b : Nat} {o : HObj} (hb : st b = some o) : st' b = some o := h b o hb
theorem Sub.isNone {st st' : St} (h : Sub st st') {b : Nat} (hb : st' b = none) : st b = none := by
  cases hs : st b with
  | none => rfl
  | some o => rw [h b o hs] at hb; cases hb
theorem Sub.put {st st' : St} (h : Sub st st') {b : Nat} {o : HObj} (hb : st b = none) : Sub st (Go.H.upd st' b o) := h.fresh hb
theorem Conv.tup {ps qs : List PV} {st st' : St} (h : Conv ps st qs st') : Conv [.tup ps] st [.tup qs] st' := fun w hg => by
  obtain ⟨h1, h2, h3⟩ := h w hg
  refine ⟨h1, h2, fun vals hv => ?_⟩
  obtain ⟨v, vs', e, hr, hrest⟩ := hv
  simp only [ROs] at hrest
  subst hrest
  refine ⟨v, [], e, ?_, by simp [ROs]⟩
  obtain ⟨ws, rfl, hrv⟩ := RO_tup hr
  refine .inr ⟨rfl, ?_⟩
  simp only [RX, Value.cells]
  exact ⟨ws, rfl, RVs.of_ros (h3 ws hrv.ros)⟩
def ints (l : List Int) : PV := .sl 1 false (l.map (PV.int .i64))
@[simp] theorem ints_eq (l : List Int) : ints l = .sl 1 false (l.map (PV.int .i64)) := rfl
structure Reads (st : St) (esz : Nat) (xs : List PV) (p : PV) : Prop where
  len : q_len p = some (.int .i64 xs.length)
  get : ∀ (i : Nat) (x : PV) (k : IntKind), xs[i]? = some x → ∃ a, q_ia esz p (.int k (i : Int)) = some a ∧ ∀ agg n, q_load st agg n a = takeV agg n x.cells
theorem Reads.sl (st : St) (esz : Nat) (f : Bool) (xs : List PV) : Reads st esz xs (.sl esz f xs) :=
  ⟨rfl, fun i x k hx => ⟨.ref x.cells, by simp [q_ia, hx], fun _ _ => rfl⟩⟩
theorem Grow.reads {st0 st : St} {esz : Nat} {acc : List PV} {p : PV} (h : Grow st0 esz acc p st) : Reads st esz acc p := by
  refine ⟨h.len, fun i x k hx => ?_⟩
  rcases h with ⟨rfl, ⟨e, rfl⟩, rfl⟩ | ⟨b, cap, rfl, hcap, hn, rfl⟩
  · cases hx
  · have hi := (List.getElem?_eq_some_iff.1 hx).1
    exact ⟨.eptr b esz i 0, by simp [hi], fun agg n => by rw [q_load_e (upd_same _ _ _) hx]; rfl⟩
@[simp] theorem e_call_func (P : Program) (st : St) (g : FuncId) (us vs xs : List PV) (K Kp : PV → St → Prop) : e_call P st (.fn (.func g) us vs) xs K Kp = callK P g (us ++ xs ++ vs) st K Kp := rfl
theorem HCalls.conv_ret {P : Program} {f : FuncId} {args : List PV} {st : St} {R R' : Res → St → Prop} (hc : HCalls P f args st R) (h : ∀ p st', R (.ret p) st' → ∃ p' st'', Conv [p] st' [p'] st'' ∧ R' (.ret p') st'')
    (hp : ∀ p st', R (.pan p) st' → ∃ p' st'', Conv [p] st' [p'] st'' ∧ R' (.pan p') st'') : HCalls P f args st R' := by
  refine ⟨hc.1, fun w vals hg ha => (hc.2 w vals hg ha).mono ?_⟩
  rintro e w' ⟨r, st', h1, h2, h3, h4⟩
  have one : ∀ {p p' : PV} {v : Value} {st' st'' : St}, Good w' st' → Evo w st w' st' → Conv [p] st' [p'] st'' → RO (Cw w' st') p v → Good w' st'' ∧ Evo w st w' st'' ∧ RO (Cw w' st'') p' v := by
    intro p p' v st' st'' hg' he hcv hv
    obtain ⟨k1, k2, k3⟩ := hcv w' hg'
    have := k3 [v] ⟨v, [], rfl, hv, rfl⟩
    obtain ⟨v2, vs2, e2, h5, _⟩ := this
    simp only [List.cons.injEq] at e2
    exact ⟨k1, he.trans k2, e2.1 ▸ h5⟩
  cases r with
  | ret p =>
    cases e with
    | returned v =>
      obtain ⟨p', st'', hcv, hr⟩ := h p st' h3
      obtain ⟨k1, k2, k3⟩ := one h2 h1 hcv h4
      exact ⟨.ret p', st'', k2, k1, hr, k3⟩
    | panicked ch => exact h4.elim
    | outgrown => exact h4.elim
  | pan p =>
    cases e with
    | returned v => exact h4.elim
    | panicked ch =>
      obtain ⟨v, rfl, h5⟩ := h4
      obtain ⟨p', st'', hcv, hr⟩ := hp p st' h3
      obtain ⟨k1, k2, k3⟩ := one h2 h1 hcv h5
      exact ⟨.pan p', st'', k2, k1, hr, v, rfl, k3⟩
    | outgrown => exact h4.elim
theorem Grow.beside {st0 st : St} {esz : Nat} {acc : List PV} {p : PV} (h : Grow st0 esz acc p st) {c : Nat} (o : HObj) (hc : st c = none) : Grow (upd st0 c o) esz acc p (upd st c o) := by
  rcases h with ⟨rfl, ⟨e, rfl⟩, rfl⟩ | ⟨b, cap, rfl, hcap, hn, rfl⟩
  · exact .inl ⟨rfl, ⟨e, rfl⟩, rfl⟩
  · have hne : b ≠ c := fun e => by rw [← e, upd_same] at hc; cases hc
    exact .inr ⟨b, cap, rfl, hcap, by rw [upd_ne _ _ hne]; exact hn, by rw [upd_comm _ _ _ hne]⟩
end Go.H
namespace Go.H
open Go
set_option linter.unusedVariables false

inductive Tr where
  | mk (kind n : Int) (name : List UInt8) (kids : List Tr)
  deriving Inhabited
namespace Tr
def kind : Tr → Int | mk k _ _ _ => k
def n : Tr → Int | mk _ n _ _ => n
def name : Tr → List UInt8 | mk _ _ s _ => s
def kids : Tr → List Tr | mk _ _ _ ks => ks
@[simp] theorem kind_mk (k n : Int) (s : List UInt8) (ks : List Tr) : (mk k n s ks).kind = k := rfl
@[simp] theorem n_mk (k n : Int) (s : List UInt8) (ks : List Tr) : (mk k n s ks).n = n := rfl
@[simp] theorem name_mk (k n : Int) (s : List UInt8) (ks : List Tr) : (mk k n s ks).name = s := rfl
@[simp] theorem kids_mk (k n : Int) (s : List UInt8) (ks : List Tr) : (mk k n s ks).kids = ks := rfl
theorem eta (t : Tr) : t = mk t.kind t.n t.name t.kids := by cases t; rfl
theorem kids_lt {t x : Tr} (h : x ∈ t.kids) : SizeOf.sizeOf x < SizeOf.sizeOf t := by
  cases t with
  | mk k n s ks =>
    have := List.sizeOf_lt_of_mem h
    simp at this ⊢; omega
theorem ind {M : Tr → Prop} (h : ∀ t : Tr, (∀ x ∈ t.kids, M x) → M t) (t : Tr) : M t := h t (fun x hx => ind h x)
termination_by SizeOf.sizeOf t
decreasing_by exact kids_lt hx
end Tr

def tree : Tr → PV
  | .mk k n s ks => .agg [.int .i64 k, .int .i64 n, .str s, .sl 4 false (ks.attach.map fun x => tree x.1)]
termination_by t => SizeOf.sizeOf t
decreasing_by
  have := List.sizeOf_lt_of_mem x.2
  simp; omega
def trees (ts : List Tr) : PV := .sl 4 false (ts.map tree)
theorem tree_eq (t : Tr) : tree t = .agg [.int .i64 t.kind, .int .i64 t.n, .str t.name, .sl 4 false (t.kids.map tree)] := by
  cases t; rw [tree]; simp
@[simp] theorem tree_isJunk (t : Tr) : (tree t).isJunk = false := by rw [tree_eq]; rfl
@[simp] theorem tree_isAgg (t : Tr) : (tree t).isAgg = true := by rw [tree_eq]; rfl
theorem tree_cells (t : Tr) : (tree t).cells = [.int .i64 t.kind, .int .i64 t.n, .str t.name, .sl 4 false (t.kids.map tree)] := by rw [tree_eq]; rfl
@[simp] theorem tree_ncells (t : Tr) : (tree t).ncells = 4 := by rw [tree_eq]; rfl
@[simp] theorem tree_cellOK (t : Tr) : (tree t).cells.all PV.cellOK = true := by rw [tree_cells]; rfl
@[simp high] theorem takeV_tree (t : Tr) : takeV true 4 (tree t).cells = some (tree t) := by
  rw [tree_cells, tree_eq]; rfl
theorem tree_wf {t : Tr} (h : (tree t).WF) : t.kids.length ≤ maxLen ∧ ∀ x ∈ t.kids, (tree x).WF := by
  rw [tree_eq] at h
  simp only [PV.WF, WFs, List.length_map] at h
  refine ⟨h.2.2.2.1.1, fun x hx => WFs.mem h.2.2.2.1.2 _ (List.mem_map_of_mem hx)⟩
theorem trees_wf {ts : List Tr} (h : (trees ts).WF) : ts.length ≤ maxLen ∧ ∀ x ∈ ts, (tree x).WF := by
  simp only [trees, PV.WF, List.length_map] at h
  exact ⟨h.1, fun x hx => WFs.mem h.2 _ (List.mem_map_of_mem hx)⟩
theorem ia_trees {ts : List Tr} {i : Nat} {k : IntKind} (h : i < ts.length) : q_ia 4 (.sl 4 false (ts.map tree)) (.int k (i : Int)) = some (.ref (tree ts[i]).cells) := by
  simp [q_ia, h]

@[simp] theorem tree_len (t : Tr) : (tree t).cells.length = 4 := by rw [tree_cells]; rfl
@[simp] theorem tree_f0 (t : Tr) (n : Nat) : takeV false n (tree t).cells = some (.int .i64 t.kind) := by rw [tree_cells]; rfl
@[simp] theorem tree_f1 (t : Tr) (n : Nat) : takeV false n ((tree t).cells.tail) = some (.int .i64 t.n) := by rw [tree_cells]; rfl
@[simp] theorem tree_f2 (t : Tr) (n : Nat) : takeV false n ((tree t).cells.drop 2) = some (.str t.name) := by rw [tree_cells]; rfl
@[simp] theorem tree_f3 (t : Tr) (n : Nat) : takeV false n ((tree t).cells.drop 3) = some (.sl 4 false (t.kids.map tree)) := by rw [tree_cells]; rfl
@[simp] theorem tree_take (t : Tr) : .agg ((tree t).cells.take 4) = tree t := by rw [tree_cells, tree_eq]; rfl
@[simp] theorem tree_s0 (t : Tr) (x : PV) : setRange (tree t).cells 0 [x] = [x, .int .i64 t.n, .str t.name, .sl 4 false (t.kids.map tree)] := by rw [tree_cells]; rfl
@[simp] theorem tree_s1 (t : Tr) (x : PV) : setRange (tree t).cells 1 [x] = [.int .i64 t.kind, x, .str t.name, .sl 4 false (t.kids.map tree)] := by rw [tree_cells]; rfl
@[simp] theorem tree_s2 (t : Tr) (x : PV) : setRange (tree t).cells 2 [x] = [.int .i64 t.kind, .int .i64 t.n, x, .sl 4 false (t.kids.map tree)] := by rw [tree_cells]; rfl
@[simp] theorem tree_s3 (t : Tr) (x : PV) : setRange (tree t).cells 3 [x] = [.int .i64 t.kind, .int .i64 t.n, .str t.name, x] := by rw [tree_cells]; rfl
@[simp] theorem tree_sAll (t : Tr) (a b c d : PV) : setRange [a, b, c, d] 0 (tree t).cells = (tree t).cells := by rw [tree_cells]; rfl
@[simp] theorem tree_sTree (t u : Tr) : setRange (tree u).cells 0 (tree t).cells = (tree t).cells := by rw [tree_cells, tree_cells]; rfl
@[simp] theorem set4_0 (a b c d x : PV) : setRange [a, b, c, d] 0 [x] = [x, b, c, d] := rfl
@[simp] theorem set4_1 (a b c d x : PV) : setRange [a, b, c, d] 1 [x] = [a, x, c, d] := rfl
@[simp] theorem set4_2 (a b c d x : PV) : setRange [a, b, c, d] 2 [x] = [a, b, x, d] := rfl
@[simp] theorem set4_3 (a b c d x : PV) : setRange [a, b, c, d] 3 [x] = [a, b, c, x] := rfl
@[simp] theorem set4_all (a b c d a' b' c' d' : PV) : setRange [a, b, c, d] 0 [a', b', c', d'] = [a', b', c', d'] := rfl
@[simp] theorem tree_set4 (t : Tr) (a b c d : PV) : setRange (tree t).cells 0 [a, b, c, d] = [a, b, c, d] := by rw [tree_cells]; rfl
@[simp] theorem tree_fold (k n : Int) (s : List UInt8) (ks : List Tr) : PV.agg [.int .i64 k, .int .i64 n, .str s, .sl 4 false (ks.map tree)] = tree (.mk k n s ks) := by rw [tree_eq]; rfl
@[simp] theorem trees_eq (ts : List Tr) : trees ts = .sl 4 false (ts.map tree) := rfl
theorem conv_tree (st : St) (k n : Int) (s : List UInt8) (e : Nat) (f : Bool) (ks : List Tr) (h : e = 4 ∨ ks = []) : Conv [.agg [.int .i64 k, .int .i64 n, .str s, .sl e f (ks.map tree)]] st [tree (.mk k n s ks)] st := by
  rw [← tree_fold]
  exact Conv.agg (Conv.cons (Conv.refl _ _) (Conv.cons (Conv.refl _ _) (Conv.cons (Conv.refl _ _) (Conv.sl_to st e 4 f _ (by rcases h with h | h; exact .inl h; exact .inr (by simp [h])))))) rfl rfl
@[simp] theorem tree_cellOK' (t : Tr) : (∀ x ∈ (tree t).cells, x.cellOK = true) ↔ True := by
  have := tree_cellOK t
  rw [List.all_eq_true] at this
  simpa using this
theorem Just.tree {k n : Int} {s : List UInt8} {e : Nat} {f : Bool} {xs : List PV} {t : Tr} {st st1 : St} (hx : xs = t.kids.map Go.H.tree) (he : e = 4 ∨ xs = []) (hk : k = t.kind) (hn : n = t.n) (hs : s = t.name) (h : Sub st st1 := by exact Sub.refl _) :
    retR (Just (Go.H.tree t) st) (.agg [.int .i64 k, .int .i64 n, .str s, .sl e f xs]) st1 := by
  subst hx hk hn hs
  refine Just.conv (Conv.trans (conv_tree st1 t.kind t.n t.name e f t.kids (by rcases he with h | h; exact .inl h; exact .inr (by simpa using h))) ?_)
  rw [← Tr.eta]
  exact Conv.sub h
theorem Just.trees {e : Nat} {f : Bool} {xs : List PV} {ts : List Tr} {st st1 : St} (hx : xs = ts.map Go.H.tree) (he : e = 4 ∨ xs = []) (h : Sub st st1 := by exact Sub.refl _) :
    retR (Just (Go.H.trees ts) st) (.sl e f xs) st1 := by
  subst hx
  exact Just.conv (Conv.trans (Conv.sl_to st1 e 4 f _ he) (Conv.sub h))
theorem callK_conv {P : Program} {g : FuncId} {us us' : List PV} {st st' : St} {K Kp : PV → St → Prop} (hc : Conv us st us' st') (h : callK P g us' st' K Kp) : callK P g us st K Kp := HCalls.conv hc h
structure PT (st : St) (cs : List PV) (p : PV) : Prop where
  nil : q_nil p = some p
  at_ : ∀ off, off ≤ cs.length → ∃ q, q_fa off p = some q ∧ ∀ agg n, q_load st agg n q = takeV agg n (cs.drop off)
theorem PT.ref (st : St) (cs : List PV) : PT st cs (.ref cs) := ⟨rfl, fun off h => ⟨.ref (cs.drop off), by simp [q_fa, h], fun _ _ => rfl⟩⟩
theorem PT.ptr {st : St} {b : Nat} {cs : List PV} (h : st b = some (.cells cs)) : PT st cs (.ptr b 0) := ⟨rfl, fun off _ => ⟨.ptr b off, by simp, fun _ _ => by rw [q_load_p h]⟩⟩
def OwnTree (t : Tr) (st : St) : Res → St → Prop := fun r st' => ∃ q, r = .ret (.agg [.int .i64 t.kind, .int .i64 t.n, .str t.name, q]) ∧ Grow st 4 (t.kids.map tree) q st'
theorem Grow.cellOK {st0 st : St} {esz : Nat} {acc : List PV} {p : PV} (h : Grow st0 esz acc p st) : p.cellOK = true := by
  rcases h with ⟨rfl, ⟨e, rfl⟩, rfl⟩ | ⟨b, cap, rfl, hcap, hn, rfl⟩ <;> rfl
theorem OwnTree.just {P : Program} {f : FuncId} {args : List PV} {t : Tr} {st : St} (hc : HCalls P f args st (OwnTree t st)) : HCalls P f args st (Just (tree t) st) := by
  refine hc.conv_ret (fun p st' h => ?_) (fun p st' h => ?_)
  · obtain ⟨q, h1, h2⟩ := h
    cases h1
    refine ⟨tree t, st, ?_, rfl, rfl⟩
    rw [tree_eq]
    exact Conv.agg (Conv.cons (Conv.sub h2.sub) (Conv.cons (Conv.sub h2.sub) (Conv.cons (Conv.sub h2.sub) h2.freeze))) rfl (by simp [h2.cellOK])
  · obtain ⟨q, h1, _⟩ := h
    cases h1
theorem callK_own {P : Program} {g : FuncId} {us : List PV} {st : St} {K Kp : PV → St → Prop} {t : Tr} (hc : HCalls P g us st (OwnTree t st)) (hk : ∀ q st', Grow st 4 (t.kids.map tree) q st' → K (.agg [.int .i64 t.kind, .int .i64 t.n, .str t.name, q]) st') : callK P g us st K Kp := by
  refine callK_of hc (fun p st' h => ?_) (fun p st' h => ?_)
  · obtain ⟨q, h1, h2⟩ := h; cases h1; exact hk q st' h2
  · obtain ⟨q, h1, h2⟩ := h; cases h1
def GrowF (st0 : St) (esz : Nat) (acc : List PV) (p : PV) (st : St) : Prop := Grow st0 esz acc p st ∨ (p = .sl esz false acc ∧ st = st0)
theorem GrowF.sub {st0 st : St} {esz : Nat} {acc : List PV} {p : PV} (h : GrowF st0 esz acc p st) : Sub st0 st := by
  rcases h with h | ⟨rfl, rfl⟩
  · exact h.sub
  · exact Sub.refl _
theorem GrowF.freeze {st0 st : St} {esz : Nat} {acc : List PV} {p : PV} (h : GrowF st0 esz acc p st) : Conv [p] st [.sl esz false acc] st0 := by
  rcases h with h | ⟨rfl, rfl⟩
  · exact h.freeze
  · exact Conv.refl _ _
theorem GrowF.store {st0 st : St} {esz : Nat} {acc : List PV} {p : PV} (h : GrowF st0 esz acc p st) {c : Nat} {o : HObj} (o' : HObj) (hc : st0 c = some o) : GrowF (upd st0 c o') esz acc p (upd st c o') := by
  rcases h with h | ⟨rfl, rfl⟩
  · exact .inl (h.store o' hc)
  · exact .inr ⟨rfl, rfl⟩
theorem GrowF.beside {st0 st : St} {esz : Nat} {acc : List PV} {p : PV} (h : GrowF st0 esz acc p st) {c : Nat} (o : HObj) (hc : st c = none) : GrowF (upd st0 c o) esz acc p (upd st c o) := by
  rcases h with h | ⟨rfl, rfl⟩
  · exact .inl (h.beside o hc)
  · exact .inr ⟨rfl, rfl⟩
theorem GrowF.cellOK {st0 st : St} {esz : Nat} {acc : List PV} {p : PV} (h : GrowF st0 esz acc p st) : p.cellOK = true := by
  rcases h with h | ⟨rfl, rfl⟩
  · exact h.cellOK
  · rfl
theorem GrowF.tree {st0 st : St} {t : Tr} {q : PV} (h : GrowF st0 4 (t.kids.map Go.H.tree) q st) : Conv [.agg [.int .i64 t.kind, .int .i64 t.n, .str t.name, q]] st [Go.H.tree t] st0 := by
  rw [tree_eq]
  exact Conv.agg (Conv.cons (Conv.sub h.sub) (Conv.cons (Conv.sub h.sub) (Conv.cons (Conv.sub h.sub) h.freeze))) rfl (by simp [h.cellOK])
end Go.H
namespace Go.H
open Go

def codeAt : List Bool → Code → Code
  | [], c => c
  | true :: r, .seq _ b => codeAt r b
  | false :: r, .seq a _ => codeAt r a
  | _, c => c
def putAt : List Bool → Code → Code → Code
  | [], _, x => x
  | true :: r, .seq a b, x => .seq a (putAt r b x)
  | false :: r, .seq a b, x => .seq (putAt r a x) b
  | _, c, _ => c
def optGet : Option Code → Code
  | some c => c
  | none => .skip
def topQ (T : TypeId → Option TD) (fn : Func) (R : Res → St → Prop) : HExit → List PV → St → Prop := fun e env st' => match e with
  | .normal => resK T st' env fn.results.toList [] (finK R st')
  | .ret => resK T st' env fn.results.toList [] (finK R st')
  | .pan p => panR R p st'
  | _ => False
end Go.H
