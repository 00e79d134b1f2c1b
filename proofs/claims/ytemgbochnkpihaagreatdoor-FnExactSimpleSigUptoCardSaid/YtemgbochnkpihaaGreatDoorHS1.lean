/- Part of a proof that the program answers as the reference does: FS1. -/
import Derived.Test.YtemgbochnkpihaaGreatDoorHT
/- MADE BY PROGRAM (hgen.py): what the functions compute, over pure values. -/
set_option linter.unusedVariables false
set_option maxRecDepth 100000
namespace Go.H.Tryz
open Go Go.H
def b_laws_eqTree (a0 a1 : PV) (st : St) (R : Res → St → Prop) : Prop :=
 e_box st a0 fun v2 st =>
 e_box st a1 fun v3 st =>
 qb (q_fa 0 v2) fun v5 =>
 qb (q_load st false 1 v5) fun v6 =>
 qb (q_fa 0 v3) fun v7 =>
 qb (q_load st false 1 v7) fun v8 =>
 qb (q_bin .neq v6 v8) fun v9 =>
 cb v9 fun b => br b
  (retR R (.bool false) st)
  (qb (q_fa 1 v2) fun v10 =>
  qb (q_load st false 1 v10) fun v11 =>
  qb (q_fa 1 v3) fun v12 =>
  qb (q_load st false 1 v12) fun v13 =>
  qb (q_bin .neq v11 v13) fun v14 =>
  cb v14 fun b_1 => br b_1
   (retR R (.bool false) st)
   (qb (q_fa 2 v2) fun v15 =>
   qb (q_load st false 1 v15) fun v16 =>
   qb (q_fa 2 v3) fun v17 =>
   qb (q_load st false 1 v17) fun v18 =>
   qb (q_bin .neq v16 v18) fun v19 =>
   cb v19 fun b_2 => br b_2
    (retR R (.bool false) st)
    (qb (q_fa 3 v2) fun v20 =>
    qb (q_load st false 1 v20) fun v21 =>
    qb (q_fa 3 v3) fun v22 =>
    qb (q_load st false 1 v22) fun v23 =>
    callK prog n_laws_eqTreeS [v21, v23] st (fun v24 st =>
    qb (q_un .not v24) fun v25 =>
    cb v25 fun b_3 => br b_3
     (retR R (.bool false) st)
     (retR R (.bool true) st)) (panR R))))
theorem e_laws_eqTree : Enters prog n_laws_eqTree := ⟨Go.Proofs.Tryz.f27, by kernel_rfl, by kernel_rfl, by kernel_rfl⟩
theorem c_laws_eqTree {a0 a1 : PV} {st : St} {R : Res → St → Prop} (h : b_laws_eqTree a0 a1 st R) : HCalls prog n_laws_eqTree [a0, a1] st R :=
 hcalls_of_func tyOK mixed (fn := Go.Proofs.Tryz.f27) (by kernel_rfl) (by kernel_rfl) (by kernel_rfl) (ann := [])
  (show hFunc prog TT [] Go.Proofs.Tryz.f27 [a0, a1] st R from (show hFunc prog TT [] Go.Proofs.Tryz.f27 [a0, a1] st R = b_laws_eqTree a0 a1 st R by kernel_rfl) ▸ h)
def b_laws_szDecl (a0 a1 : PV) (st : St) (R : Res → St → Prop) : Prop :=
 e_box st a0 fun v2 st =>
 qb (q_fa 0 v2) fun v6 =>
 qb (q_load st false 1 v6) fun v7 =>
 qb (q_lenS v7) fun v8 =>
 qb (q_bin .sub a1 v8) fun v9 =>
 qb (q_bin .lss v9 (.int .i64 0)) fun v11 =>
 cb v11 fun b => br b
  (retR R (.int .i64 (-1)) st)
  (qb (q_fa 2 v2) fun v12 =>
  qb (q_load st true 4 v12) fun v13 =>
  callK prog n_laws_szTree [v13, v9] st (fun v15 st =>
  qb (q_bin .lss v15 (.int .i64 0)) fun v17 =>
  cb v17 fun b_1 => br b_1
   (retR R (.int .i64 (-1)) st)
   (retR R v15 st)) (panR R))
theorem c_laws_szDecl {a0 a1 : PV} {st : St} {R : Res → St → Prop} (h : b_laws_szDecl a0 a1 st R) : HCalls prog n_laws_szDecl [a0, a1] st R :=
 hcalls_of_func tyOK mixed (fn := Go.Proofs.Tryz.f41) (by kernel_rfl) (by kernel_rfl) (by kernel_rfl) (ann := [])
  (show hFunc prog TT [] Go.Proofs.Tryz.f41 [a0, a1] st R from (show hFunc prog TT [] Go.Proofs.Tryz.f41 [a0, a1] st R = b_laws_szDecl a0 a1 st R by kernel_rfl) ▸ h)
end Go.H.Tryz
