/- Part of a proof that the program answers as the reference does: FS5. -/
import Derived.Test.YtemgbochnkpihaaGreatDoorHT
/- MADE BY PROGRAM (hgen.py): what the functions compute, over pure values. -/
set_option linter.unusedVariables false
set_option maxRecDepth 100000
namespace Go.H.Tryz
open Go Go.H
def b_spec_l01High (a0 : PV) (st : St) (R : Res → St → Prop) : Prop :=
 e_box st a0 fun v1 st =>
 hJ (fun ls st =>
  cb (ls.getD 0 .junk) fun b => br b
   (retR R (.bool true) st)
   (hFix (fun ls_1 st X =>
    qb (q_fa 3 v1) fun v13 =>
    qb (q_load st false 1 v13) fun v14 =>
    qb (q_len v14) fun v15 =>
    qb (q_bin .lss (ls_1.getD 0 .junk) v15) fun v16 =>
    cb v16 fun b_1 => br b_1
     (qb (q_fa 3 v1) fun v19 =>
     qb (q_load st false 1 v19) fun v20 =>
     qb (q_ia 4 v20 (ls_1.getD 0 .junk)) fun v22 =>
     qb (q_load st true 4 v22) fun v23 =>
     callK prog n_spec_l01High [v23] st (fun v24 st =>
     cb v24 fun b_2 => br b_2
      (retR R (.bool true) st)
      (qb (q_bin .add (ls_1.getD 0 .junk) (.int .i64 1)) fun v18 =>
      X [v18] st)) (panR R))
     (retR R (.bool false) st))
    [(.int .i64 0)] st))
  (fun k =>
 qb (q_fa 0 v1) fun v4 =>
 qb (q_load st false 1 v4) fun v5 =>
 qb (q_bin .eql v5 (.int .i64 5)) fun v6 =>
 cb v6 fun b_3 => br b_3
  (qb (q_fa 1 v1) fun v8 =>
  qb (q_load st false 1 v8) fun v9 =>
  qb (q_bin .gtr v9 (.int .i64 100)) fun v10 =>
  k [v10] st)
  (k [(.bool false)] st))
theorem e_spec_l01High : Enters prog n_spec_l01High := ⟨Go.Proofs.Tryz.f107, by kernel_rfl, by kernel_rfl, by kernel_rfl⟩
theorem c_spec_l01High {a0 : PV} {st : St} {R : Res → St → Prop} (h : b_spec_l01High a0 st R) : HCalls prog n_spec_l01High [a0] st R :=
 hcalls_of_func tyOK mixed (fn := Go.Proofs.Tryz.f107) (by kernel_rfl) (by kernel_rfl) (by kernel_rfl) (ann := [(16, [3]), (5, [11])])
  (show hFunc prog TT [(16, [3]), (5, [11])] Go.Proofs.Tryz.f107 [a0] st R from (show hFunc prog TT [(16, [3]), (5, [11])] Go.Proofs.Tryz.f107 [a0] st R = b_spec_l01High a0 st R by kernel_rfl) ▸ h)
def b_impl_in (a0 a1 a2 : PV) (st : St) (R : Res → St → Prop) : Prop :=
 qb (q_bin .geq a0 a1) fun v9 =>
 cb v9 fun b => br b
  (qb (q_bin .leq a0 a2) fun v13 =>
  retR R v13 st)
  (retR R (.bool false) st)
theorem c_impl_in {a0 a1 a2 : PV} {st : St} {R : Res → St → Prop} (h : b_impl_in a0 a1 a2 st R) : HCalls prog n_impl_in [a0, a1, a2] st R :=
 hcalls_of_func tyOK mixed (fn := Go.Proofs.Tryz.f108) (by kernel_rfl) (by kernel_rfl) (by kernel_rfl) (ann := [])
  (show hFunc prog TT [] Go.Proofs.Tryz.f108 [a0, a1, a2] st R from (show hFunc prog TT [] Go.Proofs.Tryz.f108 [a0, a1, a2] st R = b_impl_in a0 a1 a2 st R by kernel_rfl) ▸ h)
end Go.H.Tryz
