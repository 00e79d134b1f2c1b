/- The card of the law FnExactSimpleCheck: the program's SimpleCheck answers as the reference's does, where what is read is of bulk at most 1048576. -/
import Derived.Test.YtmfdgpjmdbdhcaaDoorCards
import Derived.Test.YtmfdgpjmdbdhcaaDoorTie
import Derived.Test.YtmfdgpjmdbdhcaaDoorHY
import Derived.Test.YtmfdgpjmdbdhcaaDoorHF
set_option linter.unusedVariables false
set_option maxRecDepth 100000
namespace Go.Proofs.YtmfdgpjmdbdhcaaDoor.fnExactSimpleCheck
open Go Go.H Go.ChangeShapes Go.WideShapes Go.ChangeAt Go.RowKit

theorem own : ownKnob Tryd.prog.godebug = none := by kernel_rfl
theorem treeTys : TreeTys Tryd.prog 25 23 3 9 where
  ut := ⟨_, _, _, _, Tryd.underlying25, rfl, rfl, rfl, rfl, rfl, rfl, rfl, rfl⟩
  us := Tryd.underlying23
  ui := Tryd.underlying3
  un := Tryd.underlying9
  ct := by kernel_rfl
  ci := by kernel_rfl
  cn := by kernel_rfl
  cs := by kernel_rfl
theorem typedTys : TypedTys Tryd.prog 45 22 25 9 where
  ux := ⟨_, _, Tryd.underlying45, rfl, rfl, rfl, rfl⟩
  us := Tryd.underlying22
  cx := by kernel_rfl
theorem shut : Shut Tryd.prog (fun t => t = 22 ∨ t = 45 ∨ t = 9 ∨ t = 25 ∨ t = 3 ∨ t = 23) where
  cases := by
    intro t ht
    rcases ht with rfl | rfl | rfl | rfl | rfl | rfl
    · exact .inr (.inr (.inr (.inl ⟨45, Tryd.underlying22, by simp, by rw [show Tryd.prog.cellsOf 45 = 5 by kernel_rfl]; omega⟩)))
    · refine .inr (.inr (.inr (.inr ⟨_, Tryd.underlying45, ?_⟩)))
      intro f hf
      simp at hf
      rcases hf with rfl | rfl <;> simp
    · exact .inr (.inr (.inl Tryd.underlying9))
    · refine .inr (.inr (.inr (.inr ⟨_, Tryd.underlying25, ?_⟩)))
      intro f hf
      simp at hf
      rcases hf with rfl | rfl | rfl | rfl <;> simp
    · exact .inl ⟨_, Tryd.underlying3⟩
    · exact .inr (.inr (.inr (.inl ⟨25, Tryd.underlying23, by simp, by rw [show Tryd.prog.cellsOf 25 = 4 by kernel_rfl]; omega⟩)))
mutual
theorem bulkD_eq {H : Type} : ∀ d : DataW H, Rows.uptoBulk d = bulkD d
  | .lit l => by cases l <;> simp [Rows.uptoBulk, bulkD]
  | .nil => by simp [Rows.uptoBulk, bulkD]
  | .ptr d => by simp [Rows.uptoBulk, bulkD, bulkD_eq d]
  | .slice elems spare => by simp [Rows.uptoBulk, bulkD, bulkDs_eq elems, bulkDs_eq spare]
  | .agg parts => by simp [Rows.uptoBulk, bulkD, bulkDs_eq parts]
  | .iface _ d => by simp [Rows.uptoBulk, bulkD, bulkD_eq d]
  | .map entries => by simp [Rows.uptoBulk, bulkD, bulkDe_eq entries]
  | .held _ => by simp [Rows.uptoBulk, bulkD]
theorem bulkDs_eq {H : Type} : ∀ l : List (DataW H), Rows.uptoBulkAll l = bulkDs l
  | [] => by simp [Rows.uptoBulkAll, bulkDs]
  | d :: r => by simp [Rows.uptoBulkAll, bulkDs, bulkD_eq d, bulkDs_eq r]
theorem bulkDe_eq {H : Type} : ∀ l : List (Lit × DataW H), Rows.uptoBulkEntries l = bulkDe l
  | [] => by simp [Rows.uptoBulkEntries, bulkDe]
  | x :: r => by simp [Rows.uptoBulkEntries, bulkDe, bulkDx_eq x, bulkDe_eq r]
theorem bulkDx_eq {H : Type} : ∀ x : Lit × DataW H, Rows.uptoBulkEntry x = bulkDx x
  | (l, d) => by cases l <;> simp [Rows.uptoBulkEntry, bulkDx, bulkD_eq d]
end
theorem bound {H : Type} {l : List (DataW H)} (hk : Rows.uptoSmall H l = true) : bulkDs l ≤ 1048576 := by
  rw [← bulkDs_eq]
  simpa [Rows.uptoSmall] using hk

/-- WHAT THE WALK GIVES. -/
theorem contract (H : Type) (enc : TypeId × Value → H) (W : World) (base : Nat) (args : Array Value) (ds gs : List (DataW H)) (before : List MemPlace)
    (hval : ∀ (j : Nat) t v, Tryd.f3.params[j]? = some t → args[j]? = some v → Value.okWide Tryd.prog W .any base t v)
    (hW : DataW.Whole enc Tryd.prog Tryd.f3.params.toList Rows.fnExactSimpleCheckSpec.vars false W args.toList ds gs before) (hb : bulkDs (ds ++ gs) ≤ 1048576) :
    Calls Tryd.prog 3 args W fun e W' => ∃ v, e = .returned v ∧ Rows.fnExactSimpleCheckSpec.post enc Tryd.prog Tryd.f3 false true false false W args v W' := by
  have hA := hW
  obtain ⟨p, q, hA, hV, _, _, _⟩ := hA
  obtain ⟨rfl, rfl⟩ := trodVars_none hV
  have hA : DataW.TrodAll enc Tryd.prog W 0 (fun _ => true) true [22, 23, 23, 25, 25] args.toList ds p := by rw [Tryd.params3] at hA; exact hA
  obtain ⟨v0, vs0, d0, ds0, p0, q0, hargs, rfl, rfl, h0, r0⟩ := trodAll_cons hA
  obtain ⟨v1, vs1, d1, ds1, p1, q1, rfl, rfl, rfl, h1, r1⟩ := trodAll_cons r0
  obtain ⟨v2, vs2, d2, ds2, p2, q2, rfl, rfl, rfl, h2, r2⟩ := trodAll_cons r1
  obtain ⟨v3, vs3, d3, ds3, p3, q3, rfl, rfl, rfl, h3, r3⟩ := trodAll_cons r2
  obtain ⟨v4, vs4, d4, ds4, p4, q4, rfl, rfl, rfl, h4, r4⟩ := trodAll_cons r3
  obtain ⟨rfl, rfl, rfl⟩ := trodAll_nil r4
  obtain rfl : args = #[v0, v1, v2, v3, v4] := by cases args; simp_all
  rw [Tryd.params3] at hval
  have k0 := hval 0 22 v0 (by simp) (by simp)
  obtain ⟨x0, y0, z0⟩ := arg_typeds treeTys typedTys k0 h0
  have k1 := hval 1 23 v1 (by simp) (by simp)
  obtain ⟨x1, y1, z1⟩ := arg_trees treeTys k1 h1
  have k2 := hval 2 23 v2 (by simp) (by simp)
  obtain ⟨x2, y2, z2⟩ := arg_trees treeTys k2 h2
  have k3 := hval 3 25 v3 (by simp) (by simp)
  obtain ⟨x3, y3, z3⟩ := arg_tree treeTys k3 h3
  have k4 := hval 4 25 v4 (by simp) (by simp)
  obtain ⟨x4, y4, z4⟩ := arg_tree treeTys k4 h4
  have hbb : Ty.bulks x0 + Tr.bulks x1 + Tr.bulks x2 + x3.bulk + x4.bulk ≤ 1048576 := by
    have := z0
    unfold DXs at this
    have := z1.1
    have := z2.1
    have := z3.1
    have := z4.1
    simp only [bulkDs, List.append_nil] at hb
    omega
  have hro : ROs (Cm W) [typeds x0, trees x1, trees x2, tree x3, tree x4] #[v0, v1, v2, v3, v4].toList := ⟨_, _, rfl, y0, ⟨_, _, rfl, y1, ⟨_, _, rfl, y2, ⟨_, _, rfl, y3, ⟨_, _, rfl, y4, rfl⟩⟩⟩⟩⟩
  exact law_calls (Go.H.Tryd.h_laws_FnExactSimpleCheck x0 x1 x2 x3 x4 hbb _) hro hW rfl (by kernel_rfl) Tryd.underlying4 shut (by rw [Tryd.params3]; simp) (fun ds hl => by
    rw [Tryd.params3] at hl
    match ds, hl with
    | [a0, a1, a2, a3, a4], _ => exact ⟨rfl, rfl, rfl⟩)
noncomputable def wargs : Array Value := #[.slice none 0 0, .slice none 0 0, .slice none 0 0, .agg #[.int .i64 0, .int .i64 0, .string ⟨#[]⟩, .slice none 0 0], .agg #[.int .i64 0, .int .i64 0, .string ⟨#[]⟩, .slice none 0 0]]
noncomputable def ww (os : Os) : World := laidWorld Tryd.prog Rows.fnExactSimpleCheckUptoRow.laid os
theorem laid_met (os : Os) : laidMet Tryd.prog Rows.fnExactSimpleCheckUptoRow.laid ((ww os).forCall (fun _ _ => 0) ⟨#[], wargs, []⟩).memory :=
  laidMet_of_run' 8 (by kernel_rfl) (by kernel_rfl)
theorem reads (os : Os) {H : Type} (enc : TypeId × Value → H) : ∃ places, DataW.whole enc Tryd.prog ((ww os).forCall (fun _ _ => 0) ⟨#[], wargs, []⟩).memory Tryd.f3.params.toList Rows.fnExactSimpleCheckSpec.vars false wargs.toList 8 = some ([.nil, .nil, .nil, .agg [.lit (.int .i64 0), .lit (.int .i64 0), .lit (.string []), .nil], .agg [.lit (.int .i64 0), .lit (.int .i64 0), .lit (.string []), .nil]], [], places) :=
  ⟨[], by kernel_rfl⟩
theorem liftedUpto (os : Os) (started : os.Started) (H : Type) (enc : TypeId × Value → H) (F : Stop.Interp) :
    ReturnsInHanded {} Tryd.checked os 3 .any ((Rows.OpenSpec.upto Rows.fnExactSimpleCheckSpec).preRow enc Tryd.prog Tryd.f3 Rows.fnExactSimpleCheckUptoRow.domain false Rows.fnExactSimpleCheckUptoRow.laid) (((Rows.OpenSpec.upto Rows.fnExactSimpleCheckSpec).at F).post enc Tryd.prog Tryd.f3 false true false false) := by
  obtain ⟨places, hx⟩ := reads os enc
  refine returnsInHanded_of_row (C := Tryd.checked) (s := Rows.OpenSpec.upto Rows.fnExactSimpleCheckSpec) own started (by kernel_rfl) Tryd.func3
    (witness_row_at (enc := enc) (C := Tryd.checked) false (ww os) wargs rfl (by kernel_rfl) (by kernel_rfl) (by kernel_rfl)
      (OpenSpec.preRow_of_cond 8 hx (by kernel_rfl) (fun k hk => by cases hk; kernel_rfl) (by kernel_rfl) (laid_met os))) ?_
  intro W base args ds gs before hval hW _ hcond _ hL _ _
  exact contract H enc W base args ds gs before hval hW (bound (hcond _ rfl))
theorem saidUpto : Rows.FnExactSimpleCheckUptoSaid :=
  OpenClaim.holds_of_cond 3 Tryd.f3 rfl rfl rfl rfl rfl rfl rfl ⟨rfl, rfl, rfl, rfl, rfl⟩ rfl rfl rfl rfl rfl (by kernel_rfl) Tryd.func3 (by kernel_rfl)
    (of_decide_eq_true (by kernel_rfl)) (by unfold Func.isWrapper; first | (rw [if_pos (by decide +kernel)]; kernel_rfl) | (rw [if_neg (by decide +kernel)]; exact ⟨rfl, rfl⟩))
    (fun os started H enc _ F => by rw [OpenClaim.pre_eq_preRow]; exact liftedUpto os started H enc F)
theorem plain (f : FuncId) (fn : Func) (hf : Tryd.pinned.checked.prog.funcNamed "loop.example/g00091/laws.FnExactSimpleCheck" = some f) (hfn : Tryd.pinned.checked.prog.funcs[f]? = some fn) :
    true = Tryd.pinned.checked.prog.looks [] ∧ ∀ (j : Nat) t, fn.params[j]? = some t → Tryd.pinned.checked.prog.wantsStandIn t = false := by
  obtain rfl : f = 3 := Option.some.inj ((show Tryd.prog.funcNamed "loop.example/g00091/laws.FnExactSimpleCheck" = some 3 by kernel_rfl).symm.trans hf) |>.symm
  obtain rfl : fn = Tryd.f3 := (Option.some.inj (Tryd.func3.symm.trans hfn)).symm
  refine ⟨by kernel_rfl, fun j t ht => ?_⟩
  rw [Tryd.params3] at ht
  have hm := Array.mem_of_getElem? ht
  simp at hm
  rcases hm with rfl | rfl | rfl
  · exact (show Tryd.prog.wantsStandIn 22 = false by kernel_rfl)
  · exact (show Tryd.prog.wantsStandIn 23 = false by kernel_rfl)
  · exact (show Tryd.prog.wantsStandIn 25 = false by kernel_rfl)
/-- THE SECOND FORM's CARD. -/
theorem cardUpto : Rows.FnExactSimpleCheckUptoCardSaid :=
  Claim7.holds_tied_plain_at .later [] _ _ _ _ saidUpto (fun _ h => by cases h) (by kernel_rfl) (fun _ h => by cases h) fnExactSimpleCheckUpto_row_tie rfl ⟨rfl, rfl⟩ (by kernel_rfl) rfl plain (by kernel_rfl)
end Go.Proofs.YtmfdgpjmdbdhcaaDoor.fnExactSimpleCheck
