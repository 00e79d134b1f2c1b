/- Part of a proof that the program answers as the reference does: FS6. -/
import Derived.Test.YtemgbochnkpihaaGreatDoorHT
/- MADE BY PROGRAM (hgen.py): what the functions compute, over pure values. -/
set_option linter.unusedVariables false
set_option maxRecDepth 100000
namespace Go.H.Tryz
open Go Go.H
def b_spec_l01Lift (a0 a1 a2 : PV) (st : St) (R : Res → St → Prop) : Prop :=
 e_box st a0 fun v3 st =>
 e_alloc st [.int .i64 0, .int .i64 0, .str [], .sl 0 true []] fun v6 st =>
 qb (q_lit 4 0 0 [] []) fun v10 =>
 hJ (fun ls st =>
  qb (q_load st true 4 v3) fun v33 =>
  callK prog n_spec_l01With [v33, (ls.getD 0 .junk)] st (fun v35 st =>
  e_alloc st [.int .i64 0, .int .i64 0, .str [], .sl 0 true []] fun v9 st =>
  e_store st 4 v9 v35 fun st =>
  hJ (fun ls_1 st =>
   cb (ls_1.getD 0 .junk) fun b => br b
    (qb (q_fa 1 v9) fun v45 =>
    qb (q_load st false 1 v45) fun v46 =>
    qb (q_bin .add v46 a2) fun v48 =>
    qb (q_fa 1 v9) fun v49 =>
    e_store st 1 v49 v48 fun st =>
    qb (q_load st true 4 v9) fun v50 =>
    e_store st 4 v6 v50 fun st =>
    qb (q_load st true 4 v6) fun r => retR R r st)
    (qb (q_load st true 4 v9) fun v50_1 =>
    e_store st 4 v6 v50_1 fun st =>
    qb (q_load st true 4 v6) fun r_1 => retR R r_1 st))
   (fun k_1 =>
  qb (q_fa 0 v3) fun v36 =>
  qb (q_load st false 1 v36) fun v37 =>
  qb (q_bin .eql v37 (.int .i64 5)) fun v38 =>
  cb v38 fun b_1 => br b_1
   (qb (q_fa 1 v3) fun v40 =>
   qb (q_load st false 1 v40) fun v41 =>
   qb (q_bin .geq v41 a1) fun v43 =>
   k_1 [v43] st)
   (k_1 [(.bool false)] st))) (panR R))
  (fun k =>
 hFix (fun ls_2 st X =>
  qb (q_fa 3 v3) fun v12 =>
  qb (q_load st false 1 v12) fun v13 =>
  qb (q_len v13) fun v14 =>
  qb (q_bin .lss (ls_2.getD 1 .junk) v14) fun v15 =>
  cb v15 fun b_2 => br b_2
   (qb (q_fa 3 v3) fun v19 =>
   qb (q_load st false 1 v19) fun v20 =>
   qb (q_ia 4 v20 (ls_2.getD 1 .junk)) fun v22 =>
   qb (q_load st true 4 v22) fun v23 =>
   qb (q_load st true 4 v3) fun v25 =>
   callK prog n_spec_l01Under [v25, (ls_2.getD 1 .junk)] st (fun v27 st =>
   q_load st true 4 v22 = some v23 ∧ q_load st false 1 v19 = some v20 ∧ (qb (q_bin .add a1 v27) fun v28 =>
   callK prog n_spec_l01Lift [v23, v28, a2] st (fun v30 st =>
   qb (q_lit 4 1 0 [] [(0, v30)]) fun v31 =>
   e_append st 4 56 (ls_2.getD 0 .junk) v31 (fun v32 st =>
   qb (q_bin .add (ls_2.getD 1 .junk) (.int .i64 1)) fun v17 =>
   X [v32, v17] st)) (panR R))) (panR R))
   (k [(ls_2.getD 0 .junk)] st))
  [v10, (.int .i64 0)] st)
theorem e_spec_l01Lift : Enters prog n_spec_l01Lift := ⟨Go.Proofs.Tryz.f123, by kernel_rfl, by kernel_rfl, by kernel_rfl⟩
theorem c_spec_l01Lift {a0 a1 a2 : PV} {st : St} {R : Res → St → Prop} (h : b_spec_l01Lift a0 a1 a2 st R) : HCalls prog n_spec_l01Lift [a0, a1, a2] st R :=
 hcalls_of_func tyOK mixed (fn := Go.Proofs.Tryz.f123) (by kernel_rfl) (by kernel_rfl) (by kernel_rfl) (ann := [(12, [7, 8]), (3, [7]), (29, [44])])
  (show hFunc prog TT [(12, [7, 8]), (3, [7]), (29, [44])] Go.Proofs.Tryz.f123 [a0, a1, a2] st R from (show hFunc prog TT [(12, [7, 8]), (3, [7]), (29, [44])] Go.Proofs.Tryz.f123 [a0, a1, a2] st R = b_spec_l01Lift a0 a1 a2 st R by kernel_rfl) ▸ h)
def b_impl_stop (a0 a1 : PV) (st : St) (R : Res → St → Prop) : Prop :=
 qb (q_struct [.int .i64 0, .int .i64 0] [(0, 1, a0), (1, 1, a1)]) fun v6 =>
 qb (q_iface ty_impl_halt v6) fun v7 =>
 e_panic v7 st (panR R)
theorem c_impl_stop {a0 a1 : PV} {st : St} {R : Res → St → Prop} (h : b_impl_stop a0 a1 st R) : HCalls prog n_impl_stop [a0, a1] st R :=
 hcalls_of_func tyOK mixed (fn := Go.Proofs.Tryz.f131) (by kernel_rfl) (by kernel_rfl) (by kernel_rfl) (ann := [])
  (show hFunc prog TT [] Go.Proofs.Tryz.f131 [a0, a1] st R from (show hFunc prog TT [] Go.Proofs.Tryz.f131 [a0, a1] st R = b_impl_stop a0 a1 st R by kernel_rfl) ▸ h)
def b_impl_lift (a0 a1 a2 : PV) (st : St) (R : Res → St → Prop) : Prop :=
 e_box st a0 fun v3 st =>
 e_box st a1 fun v4 st =>
 e_box st a2 fun v5 st =>
 e_alloc st [.int .i64 0, .int .i64 0, .str [], .sl 0 true []] fun v6 st =>
 qb (q_load st true 4 v3) fun v7 =>
 callK prog n_impl_turned [v7, (.int .i64 0), (.fn (.func n_impl_lift_1) [] [v4, v5])] st (fun v9 st =>
 e_store st 4 v6 v9 fun st =>
 qb (q_load st true 4 v6) fun r => retR R r st) (panR R)
theorem c_impl_lift {a0 a1 a2 : PV} {st : St} {R : Res → St → Prop} (h : b_impl_lift a0 a1 a2 st R) : HCalls prog n_impl_lift [a0, a1, a2] st R :=
 hcalls_of_func tyOK mixed (fn := Go.Proofs.Tryz.f133) (by kernel_rfl) (by kernel_rfl) (by kernel_rfl) (ann := [])
  (show hFunc prog TT [] Go.Proofs.Tryz.f133 [a0, a1, a2] st R from (show hFunc prog TT [] Go.Proofs.Tryz.f133 [a0, a1, a2] st R = b_impl_lift a0 a1 a2 st R by kernel_rfl) ▸ h)
def b_spec_NameOK (a0 : PV) (st : St) (R : Res → St → Prop) : Prop :=
 callK prog n_spec_l00Word [a0] st (fun v5 st =>
 qb (q_un .not v5) fun v6 =>
 cb v6 fun b => br b
  (retR R (.bool false) st)
  (qb (q_bin .eql a0 (.str [116, 121, 112, 101])) fun v9 =>
  cb v9 fun b_1 => br b_1
   (retR R (.bool false) st)
   (qb (q_bin .eql a0 (.str [95])) fun v13 =>
   cb v13 fun b_2 => br b_2
    (retR R (.bool false) st)
    (hJ (fun ls st =>
     qb (q_ix a0 (.int .i64 0)) fun v32 =>
     qb (q_bin .neq v32 (.int .u8 120)) fun v33 =>
     cb v33 fun b_3 => br b_3
      (retR R (.bool true) st)
      (qb (q_lenS a0) fun v36 =>
      qb (q_bin .eql v36 (.int .i64 1)) fun v37 =>
      retR R v37 st))
     (fun k =>
    hFix (fun ls_1 st X =>
     qb (q_lenS a0) fun v17 =>
     qb (q_bin .lss (ls_1.getD 0 .junk) v17) fun v18 =>
     cb v18 fun b_4 => br b_4
      (qb (q_ix a0 (.int .i64 0)) fun v22 =>
      qb (q_bin .neq v22 (.int .u8 120)) fun v23 =>
      cb v23 fun b_5 => br b_5
       (retR R (.bool true) st)
       (qb (q_ix a0 (ls_1.getD 0 .junk)) fun v27 =>
       callK prog n_spec_l00Digit [v27] st (fun v28 st =>
       qb (q_un .not v28) fun v29 =>
       cb v29 fun b_6 => br b_6
        (retR R (.bool true) st)
        (qb (q_bin .add (ls_1.getD 0 .junk) (.int .i64 1)) fun v20 =>
        X [v20] st)) (panR R)))
      (k [] st))
     [(.int .i64 1)] st))))) (panR R)
theorem c_spec_NameOK {a0 : PV} {st : St} {R : Res → St → Prop} (h : b_spec_NameOK a0 st R) : HCalls prog n_spec_NameOK [a0] st R :=
 hcalls_of_func tyOK mixed (fn := Go.Proofs.Tryz.f137) (by kernel_rfl) (by kernel_rfl) (by kernel_rfl) (ann := [(16, [3]), (3, [])])
  (show hFunc prog TT [(16, [3]), (3, [])] Go.Proofs.Tryz.f137 [a0] st R from (show hFunc prog TT [(16, [3]), (3, [])] Go.Proofs.Tryz.f137 [a0] st R = b_spec_NameOK a0 st R by kernel_rfl) ▸ h)
def b_spec_l01Family (a0 : PV) (st : St) (R : Res → St → Prop) : Prop :=
 e_box st a0 fun v1 st =>
 qb (q_fa 0 v1) fun v3 =>
 qb (q_load st false 1 v3) fun v4 =>
 qb (q_bin .eql v4 (.int .i64 2)) fun v6 =>
 cb v6 fun b => br b
  (qb (q_fa 1 v1) fun v7 =>
  qb (q_load st false 1 v7) fun v8 =>
  qb (q_bin .eql v8 (.int .i64 0)) fun v9 =>
  cb v9 fun b_1 => br b_1
   (qb (q_fa 2 v1) fun v11 =>
   qb (q_load st false 1 v11) fun v12 =>
   qb (q_bin .eql v12 (.str [])) fun v13 =>
   cb v13 fun b_2 => br b_2
    (qb (q_fa 3 v1) fun v16 =>
    qb (q_load st false 1 v16) fun v17 =>
    qb (q_len v17) fun v18 =>
    qb (q_bin .eql v18 (.int .i64 2)) fun v19 =>
    cb v19 fun b_3 => br b_3
     (qb (q_fa 3 v1) fun v22 =>
     qb (q_load st false 1 v22) fun v23 =>
     qb (q_ia 4 v23 (.int .i64 0)) fun v24 =>
     qb (q_load st true 4 v24) fun v25 =>
     callK prog n_spec_l01Family [v25] st (fun v26 st =>
     cb v26 fun b_4 => br b_4
      (qb (q_fa 3 v1) fun v29 =>
      qb (q_load st false 1 v29) fun v30 =>
      qb (q_ia 4 v30 (.int .i64 1)) fun v31 =>
      qb (q_load st true 4 v31) fun v32 =>
      callK prog n_spec_l01Family [v32] st (fun v33 st =>
      retR R v33 st) (panR R))
      (retR R (.bool false) st)) (panR R))
     (retR R (.bool false) st))
    (retR R (.bool false) st))
   (retR R (.bool false) st))
  (qb (q_bin .eql v4 (.int .i64 3)) fun v36 =>
  cb v36 fun b_5 => br b_5
   (qb (q_fa 1 v1) fun v37 =>
   qb (q_load st false 1 v37) fun v38 =>
   qb (q_bin .eql v38 (.int .i64 0)) fun v39 =>
   cb v39 fun b_6 => br b_6
    (qb (q_fa 2 v1) fun v41 =>
    qb (q_load st false 1 v41) fun v42 =>
    callK prog n_spec_NameOK [v42] st (fun v43 st =>
    cb v43 fun b_7 => br b_7
     (qb (q_fa 3 v1) fun v46 =>
     qb (q_load st false 1 v46) fun v47 =>
     callK prog n_spec_l01Terms [v47, (.bool false)] st (fun v48 st =>
     retR R v48 st) (panR R))
     (retR R (.bool false) st)) (panR R))
    (retR R (.bool false) st))
   (retR R (.bool false) st))
theorem c_spec_l01Family {a0 : PV} {st : St} {R : Res → St → Prop} (h : b_spec_l01Family a0 st R) : HCalls prog n_spec_l01Family [a0] st R :=
 hcalls_of_func tyOK mixed (fn := Go.Proofs.Tryz.f139) (by kernel_rfl) (by kernel_rfl) (by kernel_rfl) (ann := [])
  (show hFunc prog TT [] Go.Proofs.Tryz.f139 [a0] st R from (show hFunc prog TT [] Go.Proofs.Tryz.f139 [a0] st R = b_spec_l01Family a0 st R by kernel_rfl) ▸ h)
def b_spec_KindOK (a0 : PV) (st : St) (R : Res → St → Prop) : Prop :=
 e_box st a0 fun v1 st =>
 qb (q_load st true 4 v1) fun v3 =>
 callK prog n_spec_l01Small [v3] st (fun v4 st =>
 cb v4 fun b => br b
  (qb (q_load st true 4 v1) fun v6 =>
  callK prog n_spec_l01Kind [v6] st (fun v7 st =>
  retR R v7 st) (panR R))
  (retR R (.bool false) st)) (panR R)
theorem c_spec_KindOK {a0 : PV} {st : St} {R : Res → St → Prop} (h : b_spec_KindOK a0 st R) : HCalls prog n_spec_KindOK [a0] st R :=
 hcalls_of_func tyOK mixed (fn := Go.Proofs.Tryz.f140) (by kernel_rfl) (by kernel_rfl) (by kernel_rfl) (ann := [])
  (show hFunc prog TT [] Go.Proofs.Tryz.f140 [a0] st R from (show hFunc prog TT [] Go.Proofs.Tryz.f140 [a0] st R = b_spec_KindOK a0 st R by kernel_rfl) ▸ h)
def b_spec_FamilyOK (a0 : PV) (st : St) (R : Res → St → Prop) : Prop :=
 e_box st a0 fun v1 st =>
 qb (q_load st true 4 v1) fun v3 =>
 callK prog n_spec_l01Small [v3] st (fun v4 st =>
 cb v4 fun b => br b
  (qb (q_load st true 4 v1) fun v6 =>
  callK prog n_spec_l01Family [v6] st (fun v7 st =>
  retR R v7 st) (panR R))
  (retR R (.bool false) st)) (panR R)
theorem c_spec_FamilyOK {a0 : PV} {st : St} {R : Res → St → Prop} (h : b_spec_FamilyOK a0 st R) : HCalls prog n_spec_FamilyOK [a0] st R :=
 hcalls_of_func tyOK mixed (fn := Go.Proofs.Tryz.f141) (by kernel_rfl) (by kernel_rfl) (by kernel_rfl) (ann := [])
  (show hFunc prog TT [] Go.Proofs.Tryz.f141 [a0] st R from (show hFunc prog TT [] Go.Proofs.Tryz.f141 [a0] st R = b_spec_FamilyOK a0 st R by kernel_rfl) ▸ h)
def b_spec_l04Check (a0 : PV) (st : St) (R : Res → St → Prop) : Prop :=
 qb (q_struct [.int .i64 0] []) fun v4 =>
 e_box st v4 fun v5 st =>
 qb (q_struct [.sl 0 true [], .nilp, .int .i64 0, .int .i64 0] [(0, 1, a0), (1, 1, v5)]) fun v6 =>
 e_box st v6 fun v7 st =>
 retR R v7 st
theorem c_spec_l04Check {a0 : PV} {st : St} {R : Res → St → Prop} (h : b_spec_l04Check a0 st R) : HCalls prog n_spec_l04Check [a0] st R :=
 hcalls_of_func tyOK mixed (fn := Go.Proofs.Tryz.f142) (by kernel_rfl) (by kernel_rfl) (by kernel_rfl) (ann := [])
  (show hFunc prog TT [] Go.Proofs.Tryz.f142 [a0] st R from (show hFunc prog TT [] Go.Proofs.Tryz.f142 [a0] st R = b_spec_l04Check a0 st R by kernel_rfl) ▸ h)
def b_spec_l04Run_kind (a0 a1 a2 a3 : PV) (st : St) (R : Res → St → Prop) : Prop :=
 e_box st a2 fun v6 st =>
 qb (q_fa 0 v6) fun v9 =>
 qb (q_load st false 1 v9) fun v10 =>
 qb (q_bin .eql v10 (.int .i64 1)) fun v11 =>
 cb v11 fun b => br b
  (retR R (.bool true) st)
  (qb (q_fa 3 v6) fun v14 =>
  qb (q_load st false 1 v14) fun v15 =>
  qb (q_ia 4 v15 (.int .i64 0)) fun v16 =>
  qb (q_load st true 4 v16) fun v17 =>
  qb (q_bin .add a3 (.int .i64 1)) fun v19 =>
  callK prog n_spec_l04Run_family [a0, a1, v17, v19] st (fun v20 st =>
  cb v20 fun b_1 => br b_1
   (qb (q_fa 3 v6) fun v24 =>
   qb (q_load st false 1 v24) fun v25 =>
   qb (q_ia 4 v25 (.int .i64 0)) fun v26 =>
   qb (q_load st true 4 v26) fun v27 =>
   qb (q_fa 3 v6) fun v29 =>
   qb (q_load st false 1 v29) fun v30 =>
   qb (q_ia 4 v30 (.int .i64 1)) fun v31 =>
   qb (q_load st true 4 v31) fun v32 =>
   qb (q_bin .add a3 (.int .i64 1)) fun v34 =>
   qb (q_fa 3 v6) fun v35 =>
   qb (q_load st false 1 v35) fun v36 =>
   qb (q_ia 4 v36 (.int .i64 0)) fun v37 =>
   qb (q_load st true 4 v37) fun v38 =>
   callK prog n_spec_l04More [a1, v27] st (fun v28 st =>
   q_load st true 4 v37 = some v38 ∧ q_load st false 1 v35 = some v36 ∧ q_load st true 4 v31 = some v32 ∧ q_load st false 1 v29 = some v30 ∧ (callK prog n_spec_l01Size [v38] st (fun v39 st =>
   q_load st true 4 v31 = some v32 ∧ q_load st false 1 v29 = some v30 ∧ (qb (q_bin .add v34 v39) fun v40 =>
   callK prog n_spec_l04Run_kind [a0, v28, v32, v40] st (fun v41 st =>
   retR R v41 st) (panR R))) (panR R))) (panR R))
   (retR R (.bool false) st)) (panR R))
theorem c_spec_l04Run_kind {a0 a1 a2 a3 : PV} {st : St} {R : Res → St → Prop} (h : b_spec_l04Run_kind a0 a1 a2 a3 st R) : HCalls prog n_spec_l04Run_kind [a0, a1, a2, a3] st R :=
 hcalls_of_func tyOK mixed (fn := Go.Proofs.Tryz.f143) (by kernel_rfl) (by kernel_rfl) (by kernel_rfl) (ann := [])
  (show hFunc prog TT [] Go.Proofs.Tryz.f143 [a0, a1, a2, a3] st R from (show hFunc prog TT [] Go.Proofs.Tryz.f143 [a0, a1, a2, a3] st R = b_spec_l04Run_kind a0 a1 a2 a3 st R by kernel_rfl) ▸ h)
def b_spec_l04Run_family (a0 a1 a2 a3 : PV) (st : St) (R : Res → St → Prop) : Prop :=
 e_box st a2 fun v6 st =>
 qb (q_fa 0 v6) fun v12 =>
 qb (q_load st false 1 v12) fun v13 =>
 qb (q_bin .eql v13 (.int .i64 2)) fun v14 =>
 cb v14 fun b => br b
  (qb (q_fa 3 v6) fun v17 =>
  qb (q_load st false 1 v17) fun v18 =>
  qb (q_ia 4 v18 (.int .i64 0)) fun v19 =>
  qb (q_load st true 4 v19) fun v20 =>
  qb (q_bin .add a3 (.int .i64 1)) fun v22 =>
  callK prog n_spec_l04Run_family [a0, a1, v20, v22] st (fun v23 st =>
  cb v23 fun b_1 => br b_1
   (qb (q_fa 3 v6) fun v27 =>
   qb (q_load st false 1 v27) fun v28 =>
   qb (q_ia 4 v28 (.int .i64 0)) fun v29 =>
   qb (q_load st true 4 v29) fun v30 =>
   qb (q_fa 3 v6) fun v32 =>
   qb (q_load st false 1 v32) fun v33 =>
   qb (q_ia 4 v33 (.int .i64 1)) fun v34 =>
   qb (q_load st true 4 v34) fun v35 =>
   qb (q_bin .add a3 (.int .i64 1)) fun v37 =>
   qb (q_fa 3 v6) fun v38 =>
   qb (q_load st false 1 v38) fun v39 =>
   qb (q_ia 4 v39 (.int .i64 0)) fun v40 =>
   qb (q_load st true 4 v40) fun v41 =>
   callK prog n_spec_l04More [a1, v30] st (fun v31 st =>
   q_load st true 4 v40 = some v41 ∧ q_load st false 1 v38 = some v39 ∧ q_load st true 4 v34 = some v35 ∧ q_load st false 1 v32 = some v33 ∧ (callK prog n_spec_l01Size [v41] st (fun v42 st =>
   q_load st true 4 v34 = some v35 ∧ q_load st false 1 v32 = some v33 ∧ (qb (q_bin .add v37 v42) fun v43 =>
   callK prog n_spec_l04Run_family [a0, v31, v35, v43] st (fun v44 st =>
   retR R v44 st) (panR R))) (panR R))) (panR R))
   (retR R (.bool false) st)) (panR R))
  (qb (q_nil a0) fun v47 =>
  qb (q_fa 0 v47) fun v48 =>
  qb (q_load st false 1 v48) fun v49 =>
  qb (q_fa 2 v6) fun v50 =>
  qb (q_load st false 1 v50) fun v51 =>
  callK prog n_spec_l04Find [v49, v51] st (fun v52 st =>
  qb (q_bin .lss v52 (.int .i64 0)) fun v54 =>
  cb v54 fun b_2 => br b_2
   (callK prog n_spec_l04Run_fail [a0, (.int .i64 5), a3] st (fun v68 st =>
   retR R v68 st) (panR R))
   (qb (q_nil a0) fun v57 =>
   qb (q_fa 0 v57) fun v58 =>
   qb (q_load st false 1 v58) fun v59 =>
   qb (q_ia 6 v59 v52) fun v61 =>
   qb (q_fa 1 v61) fun v62 =>
   qb (q_load st false 1 v62) fun v63 =>
   qb (q_un .not v63) fun v64 =>
   cb v64 fun b_3 => br b_3
    (callK prog n_spec_l04Run_fail [a0, (.int .i64 5), a3] st (fun v68_1 st =>
    retR R v68_1 st) (panR R))
    (hJ (fun ls st =>
     qb (q_un .not (ls.getD 1 .junk)) fun v87 =>
     cb v87 fun b_4 => br b_4
      (retR R (.bool false) st)
      (qb (q_fa 0 (ls.getD 0 .junk)) fun v88 =>
      qb (q_load st false 1 v88) fun v89 =>
      qb (q_bin .neq v89 (.int .i64 1)) fun v90 =>
      cb v90 fun b_5 => br b_5
       (callK prog n_spec_l04Run_fail [a0, (.int .i64 8), a3] st (fun v93 st =>
       retR R v93 st) (panR R))
       (retR R (.bool true) st)))
     (fun k =>
    qb (q_nil a0) fun v73 =>
    qb (q_fa 0 v73) fun v74 =>
    qb (q_load st false 1 v74) fun v75 =>
    qb (q_ia 6 v75 v52) fun v77 =>
    qb (q_fa 2 v77) fun v78 =>
    qb (q_load st true 4 v78) fun v79 =>
    qb (q_fa 3 v6) fun v80 =>
    qb (q_load st false 1 v80) fun v81 =>
    (callK prog n_spec_l04Run_spine [a0, a1, v79, v81, a3] st (fun v83 st =>
    qb (q_ex v83 0) fun v84 =>
    qb (q_ex v83 1) fun v85 =>
    e_alloc st [.int .i64 0, .int .i64 0, .str [], .sl 0 true []] fun v10 st =>
    q_load st false 1 v80 = some v81 ∧ q_load st true 4 v78 = some v79 ∧ q_load st false 1 v74 = some v75 ∧ (e_store st 4 v10 v84 fun st =>
    k [v10, v85] st)) (panR R)) ∧
    (e_alloc st [.int .i64 0, .int .i64 0, .str [], .sl 0 true []] fun v10_1 st =>
    q_load st false 1 v80 = some v81 ∧ q_load st true 4 v78 = some v79 ∧ q_load st false 1 v74 = some v75 ∧ (callK prog n_spec_l04Run_spine [a0, a1, v79, v81, a3] st (fun v83_1 st =>
    qb (q_ex v83_1 0) fun v84_1 =>
    qb (q_ex v83_1 1) fun v85_1 =>
    e_store st 4 v10_1 v84_1 fun st =>
    k [v10_1, v85_1] st) (panR R))))))) (panR R))
theorem c_spec_l04Run_family {a0 a1 a2 a3 : PV} {st : St} {R : Res → St → Prop} (h : b_spec_l04Run_family a0 a1 a2 a3 st R) : HCalls prog n_spec_l04Run_family [a0, a1, a2, a3] st R :=
 hcalls_of_func tyOK mixed (fn := Go.Proofs.Tryz.f144) (by kernel_rfl) (by kernel_rfl) (by kernel_rfl) (ann := [(25, [10, 11])])
  (show hFunc prog TT [(25, [10, 11])] Go.Proofs.Tryz.f144 [a0, a1, a2, a3] st R from (show hFunc prog TT [(25, [10, 11])] Go.Proofs.Tryz.f144 [a0, a1, a2, a3] st R = b_spec_l04Run_family a0 a1 a2 a3 st R by kernel_rfl) ▸ h)
end Go.H.Tryz
