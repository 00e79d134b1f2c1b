/- Holes filled with closed terms of their types leave a long term of the same type without holes, if nothing is too big. (P8) -/
import Derived.Test.YtipmjpjaklmpfaaGreatDoorCards
import Derived.Test.YtipmjpjaklmpfaaGreatDoorTie
import Derived.Test.YtipmjpjaklmpfaaGreatDoorHF
import Derived.Test.YtipmjpjaklmpfaaGreatDoorHNE
import Derived.Test.YtipmjpjaklmpfaaGreatDoorHG
import Derived.Test.YtipmjpjaklmpfaaGreatDoorHKJ
set_option linter.unusedVariables false
set_option maxRecDepth 100000
namespace Go.Proofs.YtipmjpjaklmpfaaGreatDoor.fnFill
open Go Go.H Go.ChangeShapes Go.WideShapes Go.ChangeAt Go.RowKit

theorem own : ownKnob Tryz.prog.godebug = none := by kernel_rfl
theorem shut : Shut Tryz.prog (fun t => t = 22 ∨ t = 5) where
  cases := by
    intro t ht
    rcases ht with rfl | rfl
    · exact .inr (.inr (.inr (.inl ⟨5, Tryz.underlying22, by simp, by rw [show Tryz.prog.cellsOf 5 = 1 by kernel_rfl]; omega⟩)))
    · exact .inl ⟨_, Tryz.underlying5⟩
mutual
theorem bulkD_eq {H : Type} : ∀ d : DataW H, Rows.uptoBulk d = bulkD d
  | .lit l => by cases l <;> simp [Rows.uptoBulk, bulkD]
  | .nil => by simp [Rows.uptoBulk, bulkD]
  | .ptr d => by simp [Rows.uptoBulk, bulkD, bulkD_eq d]
  | .slice elems spare => by simp [Rows.uptoBulk, bulkD, bulkDs_eq elems, bulkDs_eq spare]
  | .agg parts => by simp [Rows.uptoBulk, bulkD, bulkDs_eq parts]
  | .iface _ d => by simp [Rows.uptoBulk, bulkD, bulkD_eq d]
  | .map entries => by simp [Rows.uptoBulk, bulkD, bulkDe_eq entries]
  | .held _ => by simp [Rows.uptoBulk, bulkD]
theorem bulkDs_eq {H : Type} : ∀ l : List (DataW H), Rows.uptoBulkAll l = bulkDs l
  | [] => by simp [Rows.uptoBulkAll, bulkDs]
  | d :: r => by simp [Rows.uptoBulkAll, bulkDs, bulkD_eq d, bulkDs_eq r]
theorem bulkDe_eq {H : Type} : ∀ l : List (Lit × DataW H), Rows.uptoBulkEntries l = bulkDe l
  | [] => by simp [Rows.uptoBulkEntries, bulkDe]
  | x :: r => by simp [Rows.uptoBulkEntries, bulkDe, bulkDx_eq x, bulkDe_eq r]
theorem bulkDx_eq {H : Type} : ∀ x : Lit × DataW H, Rows.uptoBulkEntry x = bulkDx x
  | (l, d) => by cases l <;> simp [Rows.uptoBulkEntry, bulkDx, bulkD_eq d]
end
theorem bound {H : Type} {l : List (DataW H)} (hk : Rows.uptoSmall H l = true) : bulkDs l ≤ 1048576 := by
  rw [← bulkDs_eq]
  simpa [Rows.uptoSmall] using hk

/-- WHAT THE WALK GIVES. -/
theorem contract (H : Type) (enc : TypeId × Value → H) (W : World) (base : Nat) (args : Array Value) (ds gs : List (DataW H)) (before : List MemPlace)
    (hval : ∀ (j : Nat) t v, Tryz.f4.params[j]? = some t → args[j]? = some v → Value.okWide Tryz.prog W .any base t v)
    (hW : DataW.Whole enc Tryz.prog Tryz.f4.params.toList Rows.fnFillSpec.vars false W args.toList ds gs before) (hb : bulkDs (ds ++ gs) ≤ 1048576) :
    Calls Tryz.prog 4 args W fun e W' => ∃ v, e = .returned v ∧ Rows.fnFillSpec.post enc Tryz.prog Tryz.f4 false true false false W args v W' := by
  have hA := hW
  obtain ⟨p, q, hA, hV, _, _, _⟩ := hA
  obtain ⟨rfl, rfl⟩ := trodVars_none hV
  have hA : DataW.TrodAll enc Tryz.prog W 0 (fun _ => true) true [22, 22] args.toList ds p := by rw [Tryz.params4] at hA; exact hA
  obtain ⟨v0, vs0, d0, ds0, p0, q0, hargs, rfl, rfl, h0, r0⟩ := trodAll_cons hA
  obtain ⟨v1, vs1, d1, ds1, p1, q1, rfl, rfl, rfl, h1, r1⟩ := trodAll_cons r0
  obtain ⟨rfl, rfl, rfl⟩ := trodAll_nil r1
  obtain rfl : args = #[v0, v1] := by cases args; simp_all
  rw [Tryz.params4] at hval
  have k0 := hval 0 22 v0 (by simp) (by simp)
  obtain ⟨x0, y0, z0⟩ := arg_bytes Tryz.underlying22 (by kernel_rfl) Tryz.underlying5 k0 h0
  have k1 := hval 1 22 v1 (by simp) (by simp)
  obtain ⟨x1, y1, z1⟩ := arg_bytes Tryz.underlying22 (by kernel_rfl) Tryz.underlying5 k1 h1
  have hbb : x0.length + x1.length ≤ 1048576 := by
    have := z0
    have := z1
    simp only [bulkDs, List.append_nil] at hb
    omega
  have hro : ROs (Cm W) [bytesP x0, bytesP x1] #[v0, v1].toList := ⟨_, _, rfl, y0, ⟨_, _, rfl, y1, rfl⟩⟩
  exact law_calls (Go.H.Tryz.h_laws_FnFill x0 x1 hbb _) hro hW rfl (by kernel_rfl) Tryz.underlying4 shut (by rw [Tryz.params4]; simp) (fun ds hl => by
    rw [Tryz.params4] at hl
    match ds, hl with
    | [a0, a1], _ => exact ⟨rfl, rfl, rfl⟩)
theorem jf0 : (Rows.fnFillUptoRow.wf (OpenSpec.ofChange (Rows.OpenSpec.upto Rows.fnFillSpec).bare)) = true := by kernel_rfl
theorem jf1 : (laidOutB Tryz.pinned.checked.prog) = true := YtipmjpjaklmpfaaGreatDoor.jp1
theorem jf2 : (mapsRowed Tryz.pinned.checked.prog) = true := YtipmjpjaklmpfaaGreatDoor.jp2
theorem jf3 : (Tryz.f4.params.all (Tryz.pinned.checked.prog.readableRec ·)) = true := by kernel_rfl
theorem jf4 : (namedTie Tryz.pinned.checked.prog Rows.fnFillUptoRow.named (Rows.OpenSpec.upto Rows.fnFillSpec).bare.vars) = true := by kernel_rfl
theorem jf5 : (Rows.fnFillUptoRow.stops == []) = true := by kernel_rfl
theorem jf6 : (Tryz.pinned.checked.prog.stops == []) = true := YtipmjpjaklmpfaaGreatDoor.jp6
theorem jf7 : (Rows.fnFillUptoRow.knobs == []) = true := by kernel_rfl
theorem jf8 : (Tryz.pinned.checked.prog.stopKnobs == []) = true := YtipmjpjaklmpfaaGreatDoor.jp8
theorem jf9 : (Rows.fnFillUptoRow.inPlace == Tryz.pinned.checked.prog.inPlace 4) = true := by kernel_rfl
theorem jf10 : (Rows.fnFillUptoRow.unfollowed == Tryz.pinned.checked.prog.unfollowed 4) = true := by kernel_rfl
theorem jf11 : (Rows.fnFillUptoRow.recurses == Tryz.pinned.checked.prog.recurses 4) = true := by kernel_rfl
theorem jf12 : (Rows.fnFillUptoRow.named == Tryz.pinned.checked.prog.varsNamed 4) = true := by kernel_rfl
theorem jf13 : (Rows.fnFillUptoRow.maps == (Tryz.f4.params.toList ++ (Rows.OpenSpec.upto Rows.fnFillSpec).bare.plain.varTypes Tryz.pinned.checked.prog).any (Tryz.pinned.checked.prog.mapsRec ·)) = true := by kernel_rfl
theorem jf14 : (Rows.fnFillUptoRow.ifaces == (Tryz.f4.params.toList ++ (Rows.OpenSpec.upto Rows.fnFillSpec).bare.plain.varTypes Tryz.pinned.checked.prog).any (Tryz.pinned.checked.prog.ifacesRec ·)) = true := by kernel_rfl
theorem jf15 : (Rows.fnFillUptoRow.mapsOut == Tryz.pinned.checked.prog.mapsAmong Tryz.f4.resultTypes.toList) = true := by kernel_rfl
theorem jf16 : (Rows.fnFillUptoRow.loops == (Tryz.f4.params.toList ++ (Rows.OpenSpec.upto Rows.fnFillSpec).bare.plain.varTypes Tryz.pinned.checked.prog).any (Tryz.pinned.checked.prog.loopsFrom ·)) = true := by kernel_rfl
theorem jf17 : (Rows.fnFillUptoRow.wideKeys == (Tryz.f4.params.toList ++ (Rows.OpenSpec.upto Rows.fnFillSpec).bare.plain.varTypes Tryz.pinned.checked.prog ++ Tryz.f4.resultTypes.toList).any (Tryz.pinned.checked.prog.wideKeysFrom ·)) = true := by kernel_rfl
theorem jf18 : ((Rows.OpenSpec.upto Rows.fnFillSpec).bare.vars.all (Tryz.pinned.checked.prog.varReadable ·)) = true := by kernel_rfl
theorem jf19 : (Tryz.f4.resultTypes.all (fun t => Tryz.pinned.checked.prog.readableRec t && decide (t < Tryz.pinned.checked.prog.types.size))) = true := by kernel_rfl
theorem jf20 : (Rows.fnFillUptoRow.ifacesOut == Tryz.f4.resultTypes.toList.any (Tryz.pinned.checked.prog.ifacesRec ·)) = true := by kernel_rfl
theorem jf21 : (Rows.fnFillUptoRow.loopsOut == Tryz.f4.resultTypes.toList.any (Tryz.pinned.checked.prog.loopsFrom ·)) = true := by kernel_rfl
theorem jf22 : (Rows.fnFillUptoRow.plainKeys == Tryz.pinned.checked.prog.plainKeys) = true := YtipmjpjaklmpfaaGreatDoor.jp22
theorem jf23 : (Rows.fnFillUptoRow.shortTexts.isNone) = true := by kernel_rfl
theorem jf24 : (Tryz.pinned.checked.prog.stopsHeard) = true := YtipmjpjaklmpfaaGreatDoor.jp24
theorem jf25 : (Tryz.pinned.checked.prog.mayEnter) = true := YtipmjpjaklmpfaaGreatDoor.jp25
theorem jf26 : (Rows.fnFillUptoRow.lifted == Tryz.pinned.checked.prog.liftsFinal) = true := YtipmjpjaklmpfaaGreatDoor.jp26
theorem jf27 : (Tryz.pinned.checked.prog.make == some Rows.fnFillUptoRow.make) = true := YtipmjpjaklmpfaaGreatDoor.jp27
theorem jf28 : (Rows.fnFillUptoRow.kinds == (if Rows.fnFillUptoRow.domain.isEmpty then [] else Tryz.f4.params.toList.map fun t => match Tryz.pinned.checked.prog.underlying t with | some (.int k) => some k | _ => none)) = true := by kernel_rfl
theorem jf29 : (Rows.fnFillUptoRow.pinned == Rows.fnFillUptoRow.pinnedBy) = true := by kernel_rfl
theorem jf30 : (Rows.fnFillUptoRow.veiled == (Tryz.f4.params.toList ++ (Rows.OpenSpec.upto Rows.fnFillSpec).bare.plain.varTypes Tryz.pinned.checked.prog ++ Tryz.f4.resultTypes.toList).any (Tryz.pinned.checked.prog.veiledRec ·)) = true := by kernel_rfl
theorem jf31 : (Rows.fnFillUptoRow.veiledFits Tryz.pinned.checked.prog Tryz.f4.params.toList (Tryz.f4.params.toList ++ (Rows.OpenSpec.upto Rows.fnFillSpec).bare.plain.varTypes Tryz.pinned.checked.prog ++ Tryz.f4.resultTypes.toList)) = true := by kernel_rfl
theorem jf : joinedFacts Tryz.pinned.checked.prog 4 Tryz.f4 (Rows.OpenSpec.upto Rows.fnFillSpec).bare Rows.fnFillUptoRow = true :=
  joined_of jf0 jf1 jf2 jf3 jf4 jf5 jf6 jf7 jf8 jf9 jf10 jf11 jf12 jf13 jf14 jf15 jf16 jf17 jf18 jf19 jf20 jf21 jf22 jf23 jf24 jf25 jf26 jf27 jf28 jf29 jf30 jf31
noncomputable def wargs : Array Value := #[.slice none 0 0, .slice none 0 0]
noncomputable def ww (os : Os) : World := laidWorldS Tryz.prog Rows.fnFillUptoRow.laid os
theorem laid_met (os : Os) : laidMet Tryz.prog Rows.fnFillUptoRow.laid ((ww os).forCall (fun _ _ => 0) ⟨#[], wargs, []⟩).memory :=
  laidMet_of_run' 8 (by kernel_rfl) (by kernel_rfl)
theorem reads (os : Os) {H : Type} (enc : TypeId × Value → H) : ∃ places, DataW.whole enc Tryz.prog ((ww os).forCall (fun _ _ => 0) ⟨#[], wargs, []⟩).memory Tryz.f4.params.toList Rows.fnFillSpec.vars false wargs.toList 8 = some ([.nil, .nil], [], places) :=
  ⟨[], by kernel_rfl⟩
theorem liftedUpto (os : Os) (started : os.Started) (H : Type) (enc : TypeId × Value → H) (F : Stop.Interp) :
    ReturnsInHanded {} Tryz.checked os 4 .any ((Rows.OpenSpec.upto Rows.fnFillSpec).preRow enc Tryz.prog Tryz.f4 Rows.fnFillUptoRow.domain false Rows.fnFillUptoRow.laid) (((Rows.OpenSpec.upto Rows.fnFillSpec).at F).post enc Tryz.prog Tryz.f4 false true false false) := by
  obtain ⟨places, hx⟩ := reads os enc
  refine returnsInHanded_of_row (C := Tryz.checked) (s := Rows.OpenSpec.upto Rows.fnFillSpec) own started (by kernel_rfl) Tryz.func4
    (witness_row_at (enc := enc) (C := Tryz.checked) false (ww os) wargs rfl (by kernel_rfl) (by kernel_rfl) (by kernel_rfl)
      (OpenSpec.preRow_of_cond 8 hx (by kernel_rfl) (fun k hk => by cases hk; kernel_rfl) (by kernel_rfl) (laid_met os))) ?_
  intro W base args ds gs before hval hW _ hcond _ hL _ _
  exact contract H enc W base args ds gs before hval hW (bound (hcond _ rfl))
theorem saidUpto : Rows.FnFillUptoSaid :=
  OpenClaim.holds_of_cond 4 Tryz.f4 rfl rfl rfl rfl rfl rfl rfl ⟨rfl, rfl, rfl, rfl, rfl⟩ rfl rfl rfl rfl rfl (by kernel_rfl) Tryz.func4 jf
    (of_decide_eq_true (by kernel_rfl)) (by unfold Func.isWrapper; first | (rw [if_pos (by decide +kernel)]; kernel_rfl) | (rw [if_neg (by decide +kernel)]; exact ⟨rfl, rfl⟩))
    (fun os started H enc _ F => by rw [OpenClaim.pre_eq_preRow]; exact liftedUpto os started H enc F)
theorem plain (f : FuncId) (fn : Func) (hf : Tryz.pinned.checked.prog.funcNamed "loop.example/g00091/laws.FnFill" = some f) (hfn : Tryz.pinned.checked.prog.funcs[f]? = some fn) :
    true = Tryz.pinned.checked.prog.looks [] ∧ ∀ (j : Nat) t, fn.params[j]? = some t → Tryz.pinned.checked.prog.wantsStandIn t = false := by
  obtain rfl : f = 4 := Option.some.inj ((show Tryz.prog.funcNamed "loop.example/g00091/laws.FnFill" = some 4 by kernel_rfl).symm.trans hf) |>.symm
  obtain rfl : fn = Tryz.f4 := (Option.some.inj (Tryz.func4.symm.trans hfn)).symm
  refine ⟨by kernel_rfl, fun j t ht => ?_⟩
  rw [Tryz.params4] at ht
  have hm := Array.mem_of_getElem? ht
  simp at hm
  subst hm
  exact (show Tryz.prog.wantsStandIn 22 = false by kernel_rfl)
/-- THE SECOND FORM's CARD. -/
theorem cardUpto : Rows.FnFillUptoCardSaid :=
  Claim7.holds_tied_plain_at .later [] _ _ _ _ saidUpto (fun _ h => by cases h) (by kernel_rfl) (fun _ h => by cases h) fnFillUpto_row_tie rfl ⟨rfl, rfl⟩ (by kernel_rfl) rfl plain (by kernel_rfl)
end Go.Proofs.YtipmjpjaklmpfaaGreatDoor.fnFill
