/- The program's built-in logic. -/
import Derived.Test.YtemgbochnkpihaaGreatDoorCards
import Derived.Test.YtemgbochnkpihaaGreatDoorTie
import Derived.Test.YtemgbochnkpihaaGreatDoorHW
import Derived.Test.YtemgbochnkpihaaGreatDoorHF
import Derived.Test.YtemgbochnkpihaaGreatDoorHKJ
set_option linter.unusedVariables false
set_option maxRecDepth 100000
namespace Go.Proofs.YtemgbochnkpihaaGreatDoor.fnExactLogicSig
open Go Go.H Go.ChangeShapes Go.WideShapes Go.ChangeAt Go.RowKit

theorem own : ownKnob Tryz.prog.godebug = none := by kernel_rfl
theorem shut : Shut Tryz.prog (fun _ => False) where
  cases := fun t ht => ht.elim
mutual
theorem bulkD_eq {H : Type} : ∀ d : DataW H, Rows.uptoBulk d = bulkD d
  | .lit l => by cases l <;> simp [Rows.uptoBulk, bulkD]
  | .nil => by simp [Rows.uptoBulk, bulkD]
  | .ptr d => by simp [Rows.uptoBulk, bulkD, bulkD_eq d]
  | .slice elems spare => by simp [Rows.uptoBulk, bulkD, bulkDs_eq elems, bulkDs_eq spare]
  | .agg parts => by simp [Rows.uptoBulk, bulkD, bulkDs_eq parts]
  | .iface _ d => by simp [Rows.uptoBulk, bulkD, bulkD_eq d]
  | .map entries => by simp [Rows.uptoBulk, bulkD, bulkDe_eq entries]
  | .held _ => by simp [Rows.uptoBulk, bulkD]
theorem bulkDs_eq {H : Type} : ∀ l : List (DataW H), Rows.uptoBulkAll l = bulkDs l
  | [] => by simp [Rows.uptoBulkAll, bulkDs]
  | d :: r => by simp [Rows.uptoBulkAll, bulkDs, bulkD_eq d, bulkDs_eq r]
theorem bulkDe_eq {H : Type} : ∀ l : List (Lit × DataW H), Rows.uptoBulkEntries l = bulkDe l
  | [] => by simp [Rows.uptoBulkEntries, bulkDe]
  | x :: r => by simp [Rows.uptoBulkEntries, bulkDe, bulkDx_eq x, bulkDe_eq r]
theorem bulkDx_eq {H : Type} : ∀ x : Lit × DataW H, Rows.uptoBulkEntry x = bulkDx x
  | (l, d) => by cases l <;> simp [Rows.uptoBulkEntry, bulkDx, bulkD_eq d]
end
theorem bound {H : Type} {l : List (DataW H)} (hk : Rows.uptoSmall H l = true) : bulkDs l ≤ 1048576 := by
  rw [← bulkDs_eq]
  simpa [Rows.uptoSmall] using hk

/-- WHAT THE WALK GIVES. -/
theorem contract (H : Type) (enc : TypeId × Value → H) (W : World) (base : Nat) (args : Array Value) (ds gs : List (DataW H)) (before : List MemPlace)
    (hval : ∀ (j : Nat) t v, Tryz.f9.params[j]? = some t → args[j]? = some v → Value.okWide Tryz.prog W .any base t v)
    (hW : DataW.Whole enc Tryz.prog Tryz.f9.params.toList Rows.fnExactLogicSigSpec.vars false W args.toList ds gs before) (hb : bulkDs (ds ++ gs) ≤ 1048576) :
    Calls Tryz.prog 9 args W fun e W' => ∃ v, e = .returned v ∧ Rows.fnExactLogicSigSpec.post enc Tryz.prog Tryz.f9 false true false false W args v W' := by
  have hA := hW
  obtain ⟨p, q, hA, hV, _, _, _⟩ := hA
  obtain ⟨rfl, rfl⟩ := trodVars_none hV
  have hA : DataW.TrodAll enc Tryz.prog W 0 (fun _ => true) true [] args.toList ds p := by rw [Tryz.params9] at hA; exact hA
  obtain ⟨hargs, rfl, rfl⟩ := trodAll_nil hA
  obtain rfl : args = #[] := by cases args; simp_all
  have hro : ROs (Cm W) [] #[].toList := rfl
  exact law_calls (Go.H.Tryz.h_laws_FnExactLogicSig  _) hro hW rfl (by kernel_rfl) Tryz.underlying4 shut (by rw [Tryz.params9]; simp) (fun ds hl => by
    rw [Tryz.params9] at hl
    match ds, hl with
    | [], _ => exact ⟨rfl, rfl, rfl⟩)
theorem jf0 : (Rows.fnExactLogicSigUptoRow.wf (OpenSpec.ofChange (Rows.OpenSpec.upto Rows.fnExactLogicSigSpec).bare)) = true := by kernel_rfl
theorem jf1 : (laidOutB Tryz.pinned.checked.prog) = true := YtemgbochnkpihaaGreatDoor.jp1
theorem jf2 : (mapsRowed Tryz.pinned.checked.prog) = true := YtemgbochnkpihaaGreatDoor.jp2
theorem jf3 : (Tryz.f9.params.all (Tryz.pinned.checked.prog.readableRec ·)) = true := by kernel_rfl
theorem jf4 : (namedTie Tryz.pinned.checked.prog Rows.fnExactLogicSigUptoRow.named (Rows.OpenSpec.upto Rows.fnExactLogicSigSpec).bare.vars) = true := by kernel_rfl
theorem jf5 : (Rows.fnExactLogicSigUptoRow.stops == []) = true := by kernel_rfl
theorem jf6 : (Tryz.pinned.checked.prog.stops == []) = true := YtemgbochnkpihaaGreatDoor.jp6
theorem jf7 : (Rows.fnExactLogicSigUptoRow.knobs == []) = true := by kernel_rfl
theorem jf8 : (Tryz.pinned.checked.prog.stopKnobs == []) = true := YtemgbochnkpihaaGreatDoor.jp8
theorem jf9 : (Rows.fnExactLogicSigUptoRow.inPlace == Tryz.pinned.checked.prog.inPlace 9) = true := by kernel_rfl
theorem jf10 : (Rows.fnExactLogicSigUptoRow.unfollowed == Tryz.pinned.checked.prog.unfollowed 9) = true := by kernel_rfl
theorem jf11 : (Rows.fnExactLogicSigUptoRow.recurses == Tryz.pinned.checked.prog.recurses 9) = true := by kernel_rfl
theorem jf12 : (Rows.fnExactLogicSigUptoRow.named == Tryz.pinned.checked.prog.varsNamed 9) = true := by kernel_rfl
theorem jf13 : (Rows.fnExactLogicSigUptoRow.maps == (Tryz.f9.params.toList ++ (Rows.OpenSpec.upto Rows.fnExactLogicSigSpec).bare.plain.varTypes Tryz.pinned.checked.prog).any (Tryz.pinned.checked.prog.mapsRec ·)) = true := by kernel_rfl
theorem jf14 : (Rows.fnExactLogicSigUptoRow.ifaces == (Tryz.f9.params.toList ++ (Rows.OpenSpec.upto Rows.fnExactLogicSigSpec).bare.plain.varTypes Tryz.pinned.checked.prog).any (Tryz.pinned.checked.prog.ifacesRec ·)) = true := by kernel_rfl
theorem jf15 : (Rows.fnExactLogicSigUptoRow.mapsOut == Tryz.pinned.checked.prog.mapsAmong Tryz.f9.resultTypes.toList) = true := by kernel_rfl
theorem jf16 : (Rows.fnExactLogicSigUptoRow.loops == (Tryz.f9.params.toList ++ (Rows.OpenSpec.upto Rows.fnExactLogicSigSpec).bare.plain.varTypes Tryz.pinned.checked.prog).any (Tryz.pinned.checked.prog.loopsFrom ·)) = true := by kernel_rfl
theorem jf17 : (Rows.fnExactLogicSigUptoRow.wideKeys == (Tryz.f9.params.toList ++ (Rows.OpenSpec.upto Rows.fnExactLogicSigSpec).bare.plain.varTypes Tryz.pinned.checked.prog ++ Tryz.f9.resultTypes.toList).any (Tryz.pinned.checked.prog.wideKeysFrom ·)) = true := by kernel_rfl
theorem jf18 : ((Rows.OpenSpec.upto Rows.fnExactLogicSigSpec).bare.vars.all (Tryz.pinned.checked.prog.varReadable ·)) = true := by kernel_rfl
theorem jf19 : (Tryz.f9.resultTypes.all (fun t => Tryz.pinned.checked.prog.readableRec t && decide (t < Tryz.pinned.checked.prog.types.size))) = true := by kernel_rfl
theorem jf20 : (Rows.fnExactLogicSigUptoRow.ifacesOut == Tryz.f9.resultTypes.toList.any (Tryz.pinned.checked.prog.ifacesRec ·)) = true := by kernel_rfl
theorem jf21 : (Rows.fnExactLogicSigUptoRow.loopsOut == Tryz.f9.resultTypes.toList.any (Tryz.pinned.checked.prog.loopsFrom ·)) = true := by kernel_rfl
theorem jf22 : (Rows.fnExactLogicSigUptoRow.plainKeys == Tryz.pinned.checked.prog.plainKeys) = true := YtemgbochnkpihaaGreatDoor.jp22
theorem jf23 : (Rows.fnExactLogicSigUptoRow.shortTexts.isNone) = true := by kernel_rfl
theorem jf24 : (Tryz.pinned.checked.prog.stopsHeard) = true := YtemgbochnkpihaaGreatDoor.jp24
theorem jf25 : (Tryz.pinned.checked.prog.mayEnter) = true := YtemgbochnkpihaaGreatDoor.jp25
theorem jf26 : (Rows.fnExactLogicSigUptoRow.lifted == Tryz.pinned.checked.prog.liftsFinal) = true := YtemgbochnkpihaaGreatDoor.jp26
theorem jf27 : (Tryz.pinned.checked.prog.make == some Rows.fnExactLogicSigUptoRow.make) = true := YtemgbochnkpihaaGreatDoor.jp27
theorem jf28 : (Rows.fnExactLogicSigUptoRow.kinds == (if Rows.fnExactLogicSigUptoRow.domain.isEmpty then [] else Tryz.f9.params.toList.map fun t => match Tryz.pinned.checked.prog.underlying t with | some (.int k) => some k | _ => none)) = true := by kernel_rfl
theorem jf29 : (Rows.fnExactLogicSigUptoRow.pinned == Rows.fnExactLogicSigUptoRow.pinnedBy) = true := by kernel_rfl
theorem jf30 : (Rows.fnExactLogicSigUptoRow.veiled == (Tryz.f9.params.toList ++ (Rows.OpenSpec.upto Rows.fnExactLogicSigSpec).bare.plain.varTypes Tryz.pinned.checked.prog ++ Tryz.f9.resultTypes.toList).any (Tryz.pinned.checked.prog.veiledRec ·)) = true := by kernel_rfl
theorem jf31 : (Rows.fnExactLogicSigUptoRow.veiledFits Tryz.pinned.checked.prog Tryz.f9.params.toList (Tryz.f9.params.toList ++ (Rows.OpenSpec.upto Rows.fnExactLogicSigSpec).bare.plain.varTypes Tryz.pinned.checked.prog ++ Tryz.f9.resultTypes.toList)) = true := by kernel_rfl
theorem jf : joinedFacts Tryz.pinned.checked.prog 9 Tryz.f9 (Rows.OpenSpec.upto Rows.fnExactLogicSigSpec).bare Rows.fnExactLogicSigUptoRow = true :=
  joined_of jf0 jf1 jf2 jf3 jf4 jf5 jf6 jf7 jf8 jf9 jf10 jf11 jf12 jf13 jf14 jf15 jf16 jf17 jf18 jf19 jf20 jf21 jf22 jf23 jf24 jf25 jf26 jf27 jf28 jf29 jf30 jf31
noncomputable def wargs : Array Value := #[]
noncomputable def ww (os : Os) : World := laidWorldS Tryz.prog Rows.fnExactLogicSigUptoRow.laid os
theorem laid_met (os : Os) : laidMet Tryz.prog Rows.fnExactLogicSigUptoRow.laid ((ww os).forCall (fun _ _ => 0) ⟨#[], wargs, []⟩).memory :=
  laidMet_of_run' 8 (by kernel_rfl) (by kernel_rfl)
theorem reads (os : Os) {H : Type} (enc : TypeId × Value → H) : ∃ places, DataW.whole enc Tryz.prog ((ww os).forCall (fun _ _ => 0) ⟨#[], wargs, []⟩).memory Tryz.f9.params.toList Rows.fnExactLogicSigSpec.vars false wargs.toList 8 = some ([], [], places) :=
  ⟨[], by kernel_rfl⟩
theorem liftedUpto (os : Os) (started : os.Started) (H : Type) (enc : TypeId × Value → H) (F : Stop.Interp) :
    ReturnsInHanded {} Tryz.checked os 9 .any ((Rows.OpenSpec.upto Rows.fnExactLogicSigSpec).preRow enc Tryz.prog Tryz.f9 Rows.fnExactLogicSigUptoRow.domain false Rows.fnExactLogicSigUptoRow.laid) (((Rows.OpenSpec.upto Rows.fnExactLogicSigSpec).at F).post enc Tryz.prog Tryz.f9 false true false false) := by
  obtain ⟨places, hx⟩ := reads os enc
  refine returnsInHanded_of_row (C := Tryz.checked) (s := Rows.OpenSpec.upto Rows.fnExactLogicSigSpec) own started (by kernel_rfl) Tryz.func9
    (witness_row_at (enc := enc) (C := Tryz.checked) false (ww os) wargs rfl (by kernel_rfl) (by kernel_rfl) (by kernel_rfl)
      (OpenSpec.preRow_of_cond 8 hx (by kernel_rfl) (fun k hk => by cases hk; kernel_rfl) (by kernel_rfl) (laid_met os))) ?_
  intro W base args ds gs before hval hW _ hcond _ hL _ _
  exact contract H enc W base args ds gs before hval hW (bound (hcond _ rfl))
theorem saidUpto : Rows.FnExactLogicSigUptoSaid :=
  OpenClaim.holds_of_cond 9 Tryz.f9 rfl rfl rfl rfl rfl rfl rfl ⟨rfl, rfl, rfl, rfl, rfl⟩ rfl rfl rfl rfl rfl (by kernel_rfl) Tryz.func9 jf
    (of_decide_eq_true (by kernel_rfl)) (by unfold Func.isWrapper; first | (rw [if_pos (by decide +kernel)]; kernel_rfl) | (rw [if_neg (by decide +kernel)]; exact ⟨rfl, rfl⟩))
    (fun os started H enc _ F => by rw [OpenClaim.pre_eq_preRow]; exact liftedUpto os started H enc F)
theorem plain (f : FuncId) (fn : Func) (hf : Tryz.pinned.checked.prog.funcNamed "loop.example/g00091/laws.FnExactLogicSig" = some f) (hfn : Tryz.pinned.checked.prog.funcs[f]? = some fn) :
    true = Tryz.pinned.checked.prog.looks [] ∧ ∀ (j : Nat) t, fn.params[j]? = some t → Tryz.pinned.checked.prog.wantsStandIn t = false := by
  obtain rfl : f = 9 := Option.some.inj ((show Tryz.prog.funcNamed "loop.example/g00091/laws.FnExactLogicSig" = some 9 by kernel_rfl).symm.trans hf) |>.symm
  obtain rfl : fn = Tryz.f9 := (Option.some.inj (Tryz.func9.symm.trans hfn)).symm
  refine ⟨by kernel_rfl, fun j t ht => ?_⟩
  rw [Tryz.params9] at ht
  simp at ht
/-- THE SECOND FORM's CARD. -/
theorem cardUpto : Rows.FnExactLogicSigUptoCardSaid :=
  Claim7.holds_tied_plain_at .later [] _ _ _ _ saidUpto (fun _ h => by cases h) (by kernel_rfl) (fun _ h => by cases h) fnExactLogicSigUpto_row_tie rfl ⟨rfl, rfl⟩ (by kernel_rfl) rfl plain (by kernel_rfl)
end Go.Proofs.YtemgbochnkpihaaGreatDoor.fnExactLogicSig
