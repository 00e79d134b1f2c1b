/- Part of a proof that the program answers as the reference does: EFS0. -/
import Derived.Test.YtlhiejikjncgpaaGreatDoorHT
/- MADE BY PROGRAM (hgen.py): what the functions compute, over pure values. -/
set_option linter.unusedVariables false
set_option maxRecDepth 100000
namespace Go.H.Tryz
open Go Go.H
def b_laws_FnWeaken (a0 : PV) (st : St) (R : Res → St → Prop) : Prop :=
 qb (q_len a0) fun v18 =>
 qb (q_bin .gtr v18 (.int .i64 1048576)) fun v19 =>
 cb v19 fun b => br b
  (retR R (.bool true) st)
  (callK prog n_spec_JudgedOf [a0] st (fun v22 st =>
  qb (q_ex v22 0) fun v23 =>
  qb (q_ex v22 1) fun v24 =>
  qb (q_ex v22 2) fun v25 =>
  e_alloc st [.int .i64 0, .int .i64 0, .str [], .sl 0 true []] fun v4 st =>
  e_alloc st [.int .i64 0, .int .i64 0, .str [], .sl 0 true []] fun v5 st =>
  e_store st 4 v4 v24 fun st =>
  e_store st 4 v5 v25 fun st =>
  callK prog n_spec_Numbers [] st (fun v26 st =>
  qb (q_load st true 4 v4) fun v30 =>
  qb (q_load st true 4 v5) fun v31 =>
  callK prog n_impl_CheckTerm [v26, v23, v30, v31] st (fun v32 st =>
  qb (q_ex v32 0) fun v33 =>
  qb (q_ex v32 1) fun v34 =>
  qb (q_load st true 4 v4) fun v36 =>
  callK prog n_impl_Lift [v36, (.int .i64 0), (.int .i64 1)] st (fun v37 st =>
  qb (q_ex v37 0) fun v38 =>
  qb (q_ex v37 1) fun v39 =>
  e_alloc st [.int .i64 0, .int .i64 0, .str [], .sl 0 true []] fun v9 st =>
  e_store st 4 v9 v38 fun st =>
  qb (q_load st true 4 v5) fun v41 =>
  callK prog n_impl_Lift [v41, (.int .i64 0), (.int .i64 1)] st (fun v42 st =>
  qb (q_ex v42 0) fun v43 =>
  qb (q_ex v42 1) fun v44 =>
  e_alloc st [.int .i64 0, .int .i64 0, .str [], .sl 0 true []] fun v11 st =>
  e_store st 4 v11 v43 fun st =>
  qb (q_load st true 4 v4) fun v46 =>
  callK prog n_spec_Lift [v46, (.int .i64 0), (.int .i64 1)] st (fun v47 st =>
  qb (q_ex v47 0) fun v48 =>
  qb (q_ex v47 1) fun v49 =>
  e_alloc st [.int .i64 0, .int .i64 0, .str [], .sl 0 true []] fun v13 st =>
  e_store st 4 v13 v48 fun st =>
  qb (q_load st true 4 v9) fun v50 =>
  qb (q_load st true 4 v13) fun v51 =>
  callK prog n_laws_same [v50, v51] st (fun v52 st =>
  qb (q_un .not v52) fun v53 =>
  cb v53 fun b_1 => br b_1
   (retR R (.bool false) st)
   (qb (q_load st true 4 v4) fun v54 =>
   callK prog n_spec_TermOK [v54] st (fun v55 st =>
   qb (q_un .not v55) fun v56 =>
   cb v56 fun b_2 => br b_2
    (qb (q_bin .eql v33 (.int .i64 1)) fun v63 =>
    retR R v63 st)
    (qb (q_load st true 4 v5) fun v58 =>
    callK prog n_spec_FamilyOK [v58] st (fun v59 st =>
    qb (q_un .not v59) fun v60 =>
    cb v60 fun b_3 => br b_3
     (qb (q_bin .eql v33 (.int .i64 1)) fun v63_1 =>
     retR R v63_1 st)
     (qb (q_struct [.int .i64 0, .int .i64 0, .str [], .sl 0 true []] [(0, 1, (.int .i64 3)), (2, 1, (.str [110, 97, 116]))]) fun v67 =>
     qb (q_load st true 4 v9) fun v69 =>
     qb (q_load st true 4 v11) fun v70 =>
     callK prog n_laws_with [v23, v67] st (fun v68 st =>
     q_load st true 4 v11 = some v70 ∧ q_load st true 4 v9 = some v69 ∧ (callK prog n_impl_CheckTerm [v26, v68, v69, v70] st (fun v71 st =>
     qb (q_ex v71 0) fun v72 =>
     qb (q_ex v71 1) fun v73 =>
     qb (q_bin .eql v39 (.int .i64 0)) fun v75 =>
     cb v75 fun b_4 => br b_4
      (qb (q_bin .eql v44 (.int .i64 0)) fun v78 =>
      cb v78 fun b_5 => br b_5
       (qb (q_bin .eql v33 v72) fun v83 =>
       cb v83 fun b_6 => br b_6
        (qb (q_bin .eql v34 v73) fun v88 =>
        retR R v88 st)
        (retR R (.bool false) st))
       (retR R (.bool false) st))
      (retR R (.bool false) st)) (panR R))) (panR R))) (panR R))) (panR R))) (panR R)) (panR R)) (panR R)) (panR R)) (panR R)) (panR R)) (panR R))
theorem c_laws_FnWeaken {a0 : PV} {st : St} {R : Res → St → Prop} (h : b_laws_FnWeaken a0 st R) : HCalls prog n_laws_FnWeaken [a0] st R :=
 hcalls_of_func tyOK mixed (fn := Go.Proofs.Tryz.f4) (by kernel_rfl) (by kernel_rfl) (by kernel_rfl) (ann := [])
  (show hFunc prog TT [] Go.Proofs.Tryz.f4 [a0] st R from (show hFunc prog TT [] Go.Proofs.Tryz.f4 [a0] st R = b_laws_FnWeaken a0 st R by kernel_rfl) ▸ h)
def b_spec_JudgedOf (a0 : PV) (st : St) (R : Res → St → Prop) : Prop :=
 e_alloc st [.int .i64 0, .int .i64 0, .str [], .sl 0 true []] fun v3 st =>
 e_alloc st [.int .i64 0, .int .i64 0, .str [], .sl 0 true []] fun v4 st =>
 callK prog n_spec_l00Source [a0] st (fun v10 st =>
 callK prog n_spec_l00Src_natCtx [v10] st (fun v12 st =>
 qb (q_len v12) fun v16 =>
 callK prog n_spec_l00Src_judged [v10, v16] st (fun v17 st =>
 qb (q_ex v17 0) fun v18 =>
 qb (q_ex v17 1) fun v19 =>
 e_alloc st [.int .i64 0, .int .i64 0, .str [], .sl 0 true []] fun v7 st =>
 e_alloc st [.int .i64 0, .int .i64 0, .str [], .sl 0 true []] fun v8 st =>
 e_store st 4 v7 v18 fun st =>
 e_store st 4 v8 v19 fun st =>
 qb (q_load st true 4 v7) fun v21 =>
 qb (q_load st true 4 v8) fun v22 =>
 e_store st 4 v3 v21 fun st =>
 q_load st true 4 v8 = some v22 ∧ (e_store st 4 v4 v22 fun st =>
 qb (q_load st true 4 v3) fun r => qb (q_load st true 4 v4) fun r_1 => retR R (.tup [v12, r, r_1]) st)) (panR R)) (panR R)) (panR R)
theorem c_spec_JudgedOf {a0 : PV} {st : St} {R : Res → St → Prop} (h : b_spec_JudgedOf a0 st R) : HCalls prog n_spec_JudgedOf [a0] st R :=
 hcalls_of_func tyOK mixed (fn := Go.Proofs.Tryz.f9) (by kernel_rfl) (by kernel_rfl) (by kernel_rfl) (ann := [])
  (show hFunc prog TT [] Go.Proofs.Tryz.f9 [a0] st R from (show hFunc prog TT [] Go.Proofs.Tryz.f9 [a0] st R = b_spec_JudgedOf a0 st R by kernel_rfl) ▸ h)
def b_laws_same (a0 a1 : PV) (st : St) (R : Res → St → Prop) : Prop :=
 e_box st a0 fun v2 st =>
 e_box st a1 fun v3 st =>
 qb (q_fa 0 v2) fun v6 =>
 qb (q_load st false 1 v6) fun v7 =>
 qb (q_fa 0 v3) fun v8 =>
 qb (q_load st false 1 v8) fun v9 =>
 qb (q_bin .neq v7 v9) fun v10 =>
 cb v10 fun b => br b
  (retR R (.bool false) st)
  (qb (q_fa 1 v2) fun v12 =>
  qb (q_load st false 1 v12) fun v13 =>
  qb (q_fa 1 v3) fun v14 =>
  qb (q_load st false 1 v14) fun v15 =>
  qb (q_bin .neq v13 v15) fun v16 =>
  cb v16 fun b_1 => br b_1
   (retR R (.bool false) st)
   (qb (q_fa 2 v2) fun v19 =>
   qb (q_load st false 1 v19) fun v20 =>
   qb (q_fa 2 v3) fun v21 =>
   qb (q_load st false 1 v21) fun v22 =>
   qb (q_bin .neq v20 v22) fun v23 =>
   cb v23 fun b_2 => br b_2
    (retR R (.bool false) st)
    (qb (q_fa 3 v2) fun v26 =>
    qb (q_load st false 1 v26) fun v27 =>
    qb (q_len v27) fun v28 =>
    qb (q_fa 3 v3) fun v29 =>
    qb (q_load st false 1 v29) fun v30 =>
    qb (q_len v30) fun v31 =>
    qb (q_bin .neq v28 v31) fun v32 =>
    cb v32 fun b_3 => br b_3
     (retR R (.bool false) st)
     (hFix (fun ls st X =>
      qb (q_fa 3 v2) fun v35 =>
      qb (q_load st false 1 v35) fun v36 =>
      qb (q_len v36) fun v37 =>
      qb (q_bin .lss (ls.getD 0 .junk) v37) fun v38 =>
      cb v38 fun b_4 => br b_4
       (qb (q_fa 3 v2) fun v41 =>
       qb (q_load st false 1 v41) fun v42 =>
       qb (q_ia 4 v42 (ls.getD 0 .junk)) fun v44 =>
       qb (q_load st true 4 v44) fun v45 =>
       qb (q_fa 3 v3) fun v46 =>
       qb (q_load st false 1 v46) fun v47 =>
       qb (q_ia 4 v47 (ls.getD 0 .junk)) fun v49 =>
       qb (q_load st true 4 v49) fun v50 =>
       callK prog n_laws_same [v45, v50] st (fun v51 st =>
       qb (q_un .not v51) fun v52 =>
       cb v52 fun b_5 => br b_5
        (retR R (.bool false) st)
        (qb (q_bin .add (ls.getD 0 .junk) (.int .i64 1)) fun v40 =>
        X [v40] st)) (panR R))
       (retR R (.bool true) st))
      [(.int .i64 0)] st))))
theorem e_laws_same : Enters prog n_laws_same := ⟨Go.Proofs.Tryz.f13, by kernel_rfl, by kernel_rfl, by kernel_rfl⟩
theorem c_laws_same {a0 a1 : PV} {st : St} {R : Res → St → Prop} (h : b_laws_same a0 a1 st R) : HCalls prog n_laws_same [a0, a1] st R :=
 hcalls_of_func tyOK mixed (fn := Go.Proofs.Tryz.f13) (by kernel_rfl) (by kernel_rfl) (by kernel_rfl) (ann := [(16, [5])])
  (show hFunc prog TT [(16, [5])] Go.Proofs.Tryz.f13 [a0, a1] st R from (show hFunc prog TT [(16, [5])] Go.Proofs.Tryz.f13 [a0, a1] st R = b_laws_same a0 a1 st R by kernel_rfl) ▸ h)
def b_spec_Numbers (st : St) (R : Res → St → Prop) : Prop :=
 callK prog n_spec_l04Some [] st (fun v1 st =>
 retR R v1 st) (panR R)
theorem c_spec_Numbers {st : St} {R : Res → St → Prop} (h : b_spec_Numbers  st R) : HCalls prog n_spec_Numbers [] st R :=
 hcalls_of_func tyOK mixed (fn := Go.Proofs.Tryz.f16) (by kernel_rfl) (by kernel_rfl) (by kernel_rfl) (ann := [])
  (show hFunc prog TT [] Go.Proofs.Tryz.f16 [] st R from (show hFunc prog TT [] Go.Proofs.Tryz.f16 [] st R = b_spec_Numbers  st R by kernel_rfl) ▸ h)
def b_impl_CheckTerm (a0 a1 a2 a3 : PV) (st : St) (R : Res → St → Prop) : Prop :=
 e_box st a0 fun v4 st =>
 e_box st a1 fun v5 st =>
 e_box st a2 fun v6 st =>
 e_box st a3 fun v7 st =>
 qb (q_load st false 1 v4) fun v10 =>
 qb (q_load st false 1 v5) fun v11 =>
 callK prog n_impl_checked [v10, v11, (.fn (.func n_impl_CheckTerm_1) [] [v6, v4, v5, v7]), (.fn (.func n_impl_CheckTerm_2) [] [v5, v6, v7])] st (fun v14 st =>
 qb (q_ex v14 0) fun v15 =>
 qb (q_ex v14 1) fun v16 =>
 retR R (.tup [v15, v16]) st) (panR R)
theorem c_impl_CheckTerm {a0 a1 a2 a3 : PV} {st : St} {R : Res → St → Prop} (h : b_impl_CheckTerm a0 a1 a2 a3 st R) : HCalls prog n_impl_CheckTerm [a0, a1, a2, a3] st R :=
 hcalls_of_func tyOK mixed (fn := Go.Proofs.Tryz.f17) (by kernel_rfl) (by kernel_rfl) (by kernel_rfl) (ann := [])
  (show hFunc prog TT [] Go.Proofs.Tryz.f17 [a0, a1, a2, a3] st R from (show hFunc prog TT [] Go.Proofs.Tryz.f17 [a0, a1, a2, a3] st R = b_impl_CheckTerm a0 a1 a2 a3 st R by kernel_rfl) ▸ h)
def b_impl_Lift (a0 a1 a2 : PV) (st : St) (R : Res → St → Prop) : Prop :=
 e_box st a0 fun v3 st =>
 e_alloc st [.int .i64 0, .int .i64 0, .str [], .sl 0 true []] fun v6 st =>
 qb (q_load st true 4 v3) fun v10 =>
 qb (q_lit 1 2 0 [] [(0, a1), (1, a2)]) fun v13 =>
 callK prog n_impl_treeFault [v10, v13] st (fun v14 st =>
 qb (q_bin .neq v14 (.int .i64 0)) fun v16 =>
 cb v16 fun b => br b
  (qb (q_struct [.int .i64 0, .int .i64 0, .str [], .sl 0 true []] []) fun v17 =>
  e_store st 4 v6 v17 fun st =>
  qb (q_load st true 4 v6) fun r => retR R (.tup [r, v14]) st)
  (qb (q_load st true 4 v3) fun v19 =>
  callK prog n_impl_lift [v19, a1, a2] st (fun v22 st =>
  e_alloc st [.int .i64 0, .int .i64 0, .str [], .sl 0 true []] fun v9 st =>
  e_store st 4 v9 v22 fun st =>
  qb (q_load st true 4 v9) fun v23 =>
  callK prog n_impl_tooBig [v23] st (fun v24 st =>
  cb v24 fun b_1 => br b_1
   (qb (q_struct [.int .i64 0, .int .i64 0, .str [], .sl 0 true []] []) fun v25 =>
   e_store st 4 v6 v25 fun st =>
   qb (q_load st true 4 v6) fun r_1 => retR R (.tup [r_1, (.int .i64 11)]) st)
   (qb (q_load st true 4 v9) fun v26 =>
   e_store st 4 v6 v26 fun st =>
   qb (q_load st true 4 v6) fun r_2 => retR R (.tup [r_2, (.int .i64 0)]) st)) (panR R)) (panR R))) (panR R)
theorem c_impl_Lift {a0 a1 a2 : PV} {st : St} {R : Res → St → Prop} (h : b_impl_Lift a0 a1 a2 st R) : HCalls prog n_impl_Lift [a0, a1, a2] st R :=
 hcalls_of_func tyOK mixed (fn := Go.Proofs.Tryz.f18) (by kernel_rfl) (by kernel_rfl) (by kernel_rfl) (ann := [])
  (show hFunc prog TT [] Go.Proofs.Tryz.f18 [a0, a1, a2] st R from (show hFunc prog TT [] Go.Proofs.Tryz.f18 [a0, a1, a2] st R = b_impl_Lift a0 a1 a2 st R by kernel_rfl) ▸ h)
def b_spec_Lift (a0 a1 a2 : PV) (st : St) (R : Res → St → Prop) : Prop :=
 e_box st a0 fun v3 st =>
 e_alloc st [.int .i64 0, .int .i64 0, .str [], .sl 0 true []] fun v6 st =>
 qb (q_load st true 4 v3) fun v9 =>
 callK prog n_spec_l01Right [v9] st (fun v10 st =>
 qb (q_un .not v10) fun v11 =>
 cb v11 fun b => br b
  (qb (q_struct [.int .i64 0, .int .i64 0, .str [], .sl 0 true []] []) fun v12 =>
  e_store st 4 v6 v12 fun st =>
  qb (q_load st true 4 v6) fun r => retR R (.tup [r, (.int .i64 1)]) st)
  (hJ (fun ls st =>
   cb (ls.getD 0 .junk) fun b_1 => br b_1
    (qb (q_struct [.int .i64 0, .int .i64 0, .str [], .sl 0 true []] []) fun v27 =>
    e_store st 4 v6 v27 fun st =>
    qb (q_load st true 4 v6) fun r_1 => retR R (.tup [r_1, (.int .i64 16)]) st)
    (qb (q_load st true 4 v3) fun v28 =>
    callK prog n_spec_l01Lift [v28, a1, a2] st (fun v31 st =>
    e_alloc st [.int .i64 0, .int .i64 0, .str [], .sl 0 true []] fun v8 st =>
    e_store st 4 v8 v31 fun st =>
    qb (q_load st true 4 v8) fun v32 =>
    callK prog n_spec_l01High [v32] st (fun v33 st =>
    cb v33 fun b_2 => br b_2
     (qb (q_struct [.int .i64 0, .int .i64 0, .str [], .sl 0 true []] []) fun v34 =>
     e_store st 4 v6 v34 fun st =>
     qb (q_load st true 4 v6) fun r_2 => retR R (.tup [r_2, (.int .i64 11)]) st)
     (qb (q_load st true 4 v8) fun v35 =>
     e_store st 4 v6 v35 fun st =>
     qb (q_load st true 4 v6) fun r_3 => retR R (.tup [r_3, (.int .i64 0)]) st)) (panR R)) (panR R)))
   (fun k =>
  qb (q_bin .lss a1 (.int .i64 0)) fun v14 =>
  cb v14 fun b_3 => br b_3
   (k [(.bool true)] st)
   (qb (q_bin .gtr a1 (.int .i64 100)) fun v17 =>
   cb v17 fun b_4 => br b_4
    (k [(.bool true)] st)
    (qb (q_bin .lss a2 (.int .i64 0)) fun v21 =>
    cb v21 fun b_5 => br b_5
     (k [(.bool true)] st)
     (qb (q_bin .gtr a2 (.int .i64 100)) fun v25 =>
     k [v25] st)))))) (panR R)
theorem c_spec_Lift {a0 a1 a2 : PV} {st : St} {R : Res → St → Prop} (h : b_spec_Lift a0 a1 a2 st R) : HCalls prog n_spec_Lift [a0, a1, a2] st R :=
 hcalls_of_func tyOK mixed (fn := Go.Proofs.Tryz.f19) (by kernel_rfl) (by kernel_rfl) (by kernel_rfl) (ann := [(13, [26])])
  (show hFunc prog TT [(13, [26])] Go.Proofs.Tryz.f19 [a0, a1, a2] st R from (show hFunc prog TT [(13, [26])] Go.Proofs.Tryz.f19 [a0, a1, a2] st R = b_spec_Lift a0 a1 a2 st R by kernel_rfl) ▸ h)
def b_spec_TermOK (a0 : PV) (st : St) (R : Res → St → Prop) : Prop :=
 e_box st a0 fun v1 st =>
 qb (q_load st true 4 v1) fun v3 =>
 callK prog n_spec_l01Small [v3] st (fun v4 st =>
 cb v4 fun b => br b
  (qb (q_load st true 4 v1) fun v6 =>
  callK prog n_spec_l01Term [v6, (.bool false)] st (fun v7 st =>
  retR R v7 st) (panR R))
  (retR R (.bool false) st)) (panR R)
theorem c_spec_TermOK {a0 : PV} {st : St} {R : Res → St → Prop} (h : b_spec_TermOK a0 st R) : HCalls prog n_spec_TermOK [a0] st R :=
 hcalls_of_func tyOK mixed (fn := Go.Proofs.Tryz.f20) (by kernel_rfl) (by kernel_rfl) (by kernel_rfl) (ann := [])
  (show hFunc prog TT [] Go.Proofs.Tryz.f20 [a0] st R from (show hFunc prog TT [] Go.Proofs.Tryz.f20 [a0] st R = b_spec_TermOK a0 st R by kernel_rfl) ▸ h)
def b_spec_FamilyOK (a0 : PV) (st : St) (R : Res → St → Prop) : Prop :=
 e_box st a0 fun v1 st =>
 qb (q_load st true 4 v1) fun v3 =>
 callK prog n_spec_l01Small [v3] st (fun v4 st =>
 cb v4 fun b => br b
  (qb (q_load st true 4 v1) fun v6 =>
  callK prog n_spec_l01Family [v6] st (fun v7 st =>
  retR R v7 st) (panR R))
  (retR R (.bool false) st)) (panR R)
theorem c_spec_FamilyOK {a0 : PV} {st : St} {R : Res → St → Prop} (h : b_spec_FamilyOK a0 st R) : HCalls prog n_spec_FamilyOK [a0] st R :=
 hcalls_of_func tyOK mixed (fn := Go.Proofs.Tryz.f21) (by kernel_rfl) (by kernel_rfl) (by kernel_rfl) (ann := [])
  (show hFunc prog TT [] Go.Proofs.Tryz.f21 [a0] st R from (show hFunc prog TT [] Go.Proofs.Tryz.f21 [a0] st R = b_spec_FamilyOK a0 st R by kernel_rfl) ▸ h)
end Go.H.Tryz
