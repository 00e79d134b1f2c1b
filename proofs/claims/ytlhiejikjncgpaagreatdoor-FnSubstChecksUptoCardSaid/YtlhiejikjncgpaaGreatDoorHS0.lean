/- Part of a proof that the program answers as the reference does: EFS0. -/
import Derived.Test.YtlhiejikjncgpaaGreatDoorHT
/- MADE BY PROGRAM (hgen.py): what the functions compute, over pure values. -/
set_option linter.unusedVariables false
set_option maxRecDepth 100000
namespace Go.H.Tryz
open Go Go.H
def b_laws_FnSubstChecks (a0 a1 : PV) (st : St) (R : Res → St → Prop) : Prop :=
 qb (q_len a0) fun v22 =>
 qb (q_bin .gtr v22 (.int .i64 1048576)) fun v23 =>
 cb v23 fun b => br b
  (retR R (.bool true) st)
  (qb (q_len a1) fun v26 =>
  qb (q_bin .gtr v26 (.int .i64 1048576)) fun v27 =>
  cb v27 fun b_1 => br b_1
   (retR R (.bool true) st)
   (callK prog n_spec_JudgedOf [a0] st (fun v31 st =>
   qb (q_ex v31 0) fun v32 =>
   qb (q_ex v31 1) fun v33 =>
   qb (q_ex v31 2) fun v34 =>
   e_alloc st [.int .i64 0, .int .i64 0, .str [], .sl 0 true []] fun v6 st =>
   e_alloc st [.int .i64 0, .int .i64 0, .str [], .sl 0 true []] fun v7 st =>
   e_store st 4 v6 v33 fun st =>
   e_store st 4 v7 v34 fun st =>
   callK prog n_spec_Numbers [] st (fun v35 st =>
   qb (q_load st true 4 v6) fun v39 =>
   qb (q_load st true 4 v7) fun v40 =>
   callK prog n_spec_CheckTerm [v35, v32, v39, v40] st (fun v41 st =>
   qb (q_ex v41 0) fun v42 =>
   qb (q_ex v41 1) fun v43 =>
   qb (q_len v32) fun v45 =>
   qb (q_bin .eql v45 (.int .i64 0)) fun v46 =>
   cb v46 fun b_2 => br b_2
    (retR R (.bool true) st)
    (qb (q_bin .neq v42 (.int .i64 0)) fun v49 =>
    cb v49 fun b_3 => br b_3
     (retR R (.bool true) st)
     (qb (q_len v32) fun v53 =>
     qb (q_bin .sub v53 (.int .i64 1)) fun v54 =>
     callK prog n_spec_NumberOf [a1, v54] st (fun v55 st =>
     e_alloc st [.int .i64 0, .int .i64 0, .str [], .sl 0 true []] fun v11 st =>
     e_store st 4 v11 v55 fun st =>
     qb (q_struct [.int .i64 0, .int .i64 0, .str [], .sl 0 true []] [(0, 1, (.int .i64 9)), (2, 1, (.str [110, 97, 116]))]) fun v56 =>
     e_alloc st [.int .i64 0, .int .i64 0, .str [], .sl 0 true []] fun v12 st =>
     e_store st 4 v12 v56 fun st =>
     qb (q_load st true 4 v11) fun v58 =>
     qb (q_load st true 4 v12) fun v59 =>
     qb (q_load st true 4 v6) fun v60 =>
     callK prog n_impl_Subst [v58, v59, v60] st (fun v61 st =>
     qb (q_ex v61 0) fun v62 =>
     qb (q_ex v61 1) fun v63 =>
     e_alloc st [.int .i64 0, .int .i64 0, .str [], .sl 0 true []] fun v13 st =>
     e_store st 4 v13 v62 fun st =>
     qb (q_load st true 4 v11) fun v65 =>
     qb (q_load st true 4 v12) fun v66 =>
     qb (q_load st true 4 v7) fun v67 =>
     callK prog n_impl_Subst [v65, v66, v67] st (fun v68 st =>
     qb (q_ex v68 0) fun v69 =>
     qb (q_ex v68 1) fun v70 =>
     e_alloc st [.int .i64 0, .int .i64 0, .str [], .sl 0 true []] fun v15 st =>
     e_store st 4 v15 v69 fun st =>
     qb (q_load st true 4 v11) fun v72 =>
     qb (q_load st true 4 v12) fun v73 =>
     qb (q_load st true 4 v6) fun v74 =>
     callK prog n_spec_Subst [v72, v73, v74] st (fun v75 st =>
     qb (q_ex v75 0) fun v76 =>
     qb (q_ex v75 1) fun v77 =>
     e_alloc st [.int .i64 0, .int .i64 0, .str [], .sl 0 true []] fun v17 st =>
     e_store st 4 v17 v76 fun st =>
     qb (q_bin .neq v63 v77) fun v80 =>
     cb v80 fun b_4 => br b_4
      (retR R (.bool false) st)
      (qb (q_load st true 4 v13) fun v82 =>
      qb (q_load st true 4 v17) fun v83 =>
      callK prog n_laws_same [v82, v83] st (fun v84 st =>
      qb (q_un .not v84) fun v85 =>
      cb v85 fun b_5 => br b_5
       (retR R (.bool false) st)
       (callK prog n_laws_full [v63] st (fun v88 st =>
       cb v88 fun b_6 => br b_6
        (retR R (.bool true) st)
        (callK prog n_laws_full [v70] st (fun v91 st =>
        cb v91 fun b_7 => br b_7
         (retR R (.bool true) st)
         (qb (q_len v32) fun v97 =>
         qb (q_bin .sub v97 (.int .i64 1)) fun v98 =>
         qb (q_sliceE 4 v32 none (some v98) none) fun v99 =>
         qb (q_load st true 4 v13) fun v100 =>
         qb (q_load st true 4 v15) fun v101 =>
         callK prog n_impl_CheckTerm [v35, v99, v100, v101] st (fun v102 st =>
         qb (q_ex v102 0) fun v103 =>
         qb (q_ex v102 1) fun v104 =>
         qb (q_bin .eql v63 (.int .i64 0)) fun v106 =>
         cb v106 fun b_8 => br b_8
          (qb (q_bin .eql v70 (.int .i64 0)) fun v109 =>
          cb v109 fun b_9 => br b_9
           (qb (q_bin .eql v103 (.int .i64 0)) fun v113 =>
           cb v113 fun b_10 => br b_10
            (retR R (.bool true) st)
            (callK prog n_laws_full [v103] st (fun v116 st =>
            cb v116 fun b_11 => br b_11
             (retR R (.bool true) st)
             (qb (q_bin .eql v103 (.int .i64 1)) fun v120 =>
             cb v120 fun b_12 => br b_12
              (qb (q_load st true 4 v15) fun v122 =>
              callK prog n_spec_FamilyOK [v122] st (fun v123 st =>
              qb (q_un .not v123) fun v124 =>
              retR R v124 st) (panR R))
              (retR R (.bool false) st))) (panR R)))
           (retR R (.bool false) st))
          (retR R (.bool false) st)) (panR R))) (panR R))) (panR R))) (panR R))) (panR R)) (panR R)) (panR R)) (panR R)))) (panR R)) (panR R)) (panR R)))
theorem c_laws_FnSubstChecks {a0 a1 : PV} {st : St} {R : Res → St → Prop} (h : b_laws_FnSubstChecks a0 a1 st R) : HCalls prog n_laws_FnSubstChecks [a0, a1] st R :=
 hcalls_of_func tyOK mixed (fn := Go.Proofs.Tryz.f7) (by kernel_rfl) (by kernel_rfl) (by kernel_rfl) (ann := [])
  (show hFunc prog TT [] Go.Proofs.Tryz.f7 [a0, a1] st R from (show hFunc prog TT [] Go.Proofs.Tryz.f7 [a0, a1] st R = b_laws_FnSubstChecks a0 a1 st R by kernel_rfl) ▸ h)
def b_spec_JudgedOf (a0 : PV) (st : St) (R : Res → St → Prop) : Prop :=
 e_alloc st [.int .i64 0, .int .i64 0, .str [], .sl 0 true []] fun v3 st =>
 e_alloc st [.int .i64 0, .int .i64 0, .str [], .sl 0 true []] fun v4 st =>
 callK prog n_spec_l00Source [a0] st (fun v10 st =>
 callK prog n_spec_l00Src_natCtx [v10] st (fun v12 st =>
 qb (q_len v12) fun v16 =>
 callK prog n_spec_l00Src_judged [v10, v16] st (fun v17 st =>
 qb (q_ex v17 0) fun v18 =>
 qb (q_ex v17 1) fun v19 =>
 e_alloc st [.int .i64 0, .int .i64 0, .str [], .sl 0 true []] fun v7 st =>
 e_alloc st [.int .i64 0, .int .i64 0, .str [], .sl 0 true []] fun v8 st =>
 e_store st 4 v7 v18 fun st =>
 e_store st 4 v8 v19 fun st =>
 qb (q_load st true 4 v7) fun v21 =>
 qb (q_load st true 4 v8) fun v22 =>
 e_store st 4 v3 v21 fun st =>
 q_load st true 4 v8 = some v22 ∧ (e_store st 4 v4 v22 fun st =>
 qb (q_load st true 4 v3) fun r => qb (q_load st true 4 v4) fun r_1 => retR R (.tup [v12, r, r_1]) st)) (panR R)) (panR R)) (panR R)
theorem c_spec_JudgedOf {a0 : PV} {st : St} {R : Res → St → Prop} (h : b_spec_JudgedOf a0 st R) : HCalls prog n_spec_JudgedOf [a0] st R :=
 hcalls_of_func tyOK mixed (fn := Go.Proofs.Tryz.f9) (by kernel_rfl) (by kernel_rfl) (by kernel_rfl) (ann := [])
  (show hFunc prog TT [] Go.Proofs.Tryz.f9 [a0] st R from (show hFunc prog TT [] Go.Proofs.Tryz.f9 [a0] st R = b_spec_JudgedOf a0 st R by kernel_rfl) ▸ h)
def b_spec_NumberOf (a0 a1 : PV) (st : St) (R : Res → St → Prop) : Prop :=
 e_alloc st [.int .i64 0, .int .i64 0, .str [], .sl 0 true []] fun v4 st =>
 callK prog n_spec_l00Source [a0] st (fun v6 st =>
 callK prog n_spec_l00Src_nat [v6, a1, (.int .i64 2)] st (fun v8 st =>
 e_store st 4 v4 v8 fun st =>
 qb (q_load st true 4 v4) fun r => retR R r st) (panR R)) (panR R)
theorem c_spec_NumberOf {a0 a1 : PV} {st : St} {R : Res → St → Prop} (h : b_spec_NumberOf a0 a1 st R) : HCalls prog n_spec_NumberOf [a0, a1] st R :=
 hcalls_of_func tyOK mixed (fn := Go.Proofs.Tryz.f10) (by kernel_rfl) (by kernel_rfl) (by kernel_rfl) (ann := [])
  (show hFunc prog TT [] Go.Proofs.Tryz.f10 [a0, a1] st R from (show hFunc prog TT [] Go.Proofs.Tryz.f10 [a0, a1] st R = b_spec_NumberOf a0 a1 st R by kernel_rfl) ▸ h)
def b_impl_Subst (a0 a1 a2 : PV) (st : St) (R : Res → St → Prop) : Prop :=
 e_box st a0 fun v3 st =>
 e_box st a1 fun v4 st =>
 e_box st a2 fun v5 st =>
 e_alloc st [.int .i64 0, .int .i64 0, .str [], .sl 0 true []] fun v6 st =>
 hJ (fun ls st =>
  cb (ls.getD 0 .junk) fun b => br b
   (qb (q_struct [.int .i64 0, .int .i64 0, .str [], .sl 0 true []] []) fun v21 =>
   e_store st 4 v6 v21 fun st =>
   qb (q_load st true 4 v6) fun r => retR R (.tup [r, (.int .i64 1)]) st)
   (callK prog n_impl_result [(.fn (.func n_impl_Subst_1) [] [v3, v4, v5])] st (fun v23 st =>
   qb (q_ex v23 0) fun v24 =>
   qb (q_ex v23 1) fun v25 =>
   e_store st 4 v6 v24 fun st =>
   qb (q_load st true 4 v6) fun r_1 => retR R (.tup [r_1, v25]) st) (panR R)))
  (fun k =>
 qb (q_load st true 4 v3) fun v8 =>
 callK prog n_impl_TermOK [v8] st (fun v9 st =>
 qb (q_un .not v9) fun v10 =>
 cb v10 fun b_1 => br b_1
  (k [(.bool true)] st)
  (qb (q_load st true 4 v4) fun v12 =>
  callK prog n_impl_SimpleOK [v12] st (fun v13 st =>
  qb (q_un .not v13) fun v14 =>
  cb v14 fun b_2 => br b_2
   (k [(.bool true)] st)
   (qb (q_load st true 4 v5) fun v17 =>
   callK prog n_impl_treeOK [v17] st (fun v18 st =>
   qb (q_un .not v18) fun v19 =>
   k [v19] st) (panR R))) (panR R))) (panR R))
theorem c_impl_Subst {a0 a1 a2 : PV} {st : St} {R : Res → St → Prop} (h : b_impl_Subst a0 a1 a2 st R) : HCalls prog n_impl_Subst [a0, a1, a2] st R :=
 hcalls_of_func tyOK mixed (fn := Go.Proofs.Tryz.f11) (by kernel_rfl) (by kernel_rfl) (by kernel_rfl) (ann := [(5, [20])])
  (show hFunc prog TT [(5, [20])] Go.Proofs.Tryz.f11 [a0, a1, a2] st R from (show hFunc prog TT [(5, [20])] Go.Proofs.Tryz.f11 [a0, a1, a2] st R = b_impl_Subst a0 a1 a2 st R by kernel_rfl) ▸ h)
def b_spec_Subst (a0 a1 a2 : PV) (st : St) (R : Res → St → Prop) : Prop :=
 e_box st a0 fun v3 st =>
 e_box st a1 fun v4 st =>
 e_box st a2 fun v5 st =>
 e_alloc st [.int .i64 0, .int .i64 0, .str [], .sl 0 true []] fun v6 st =>
 hJ (fun ls st =>
  cb (ls.getD 0 .junk) fun b => br b
   (qb (q_struct [.int .i64 0, .int .i64 0, .str [], .sl 0 true []] []) fun v22 =>
   e_store st 4 v6 v22 fun st =>
   qb (q_load st true 4 v6) fun r => retR R (.tup [r, (.int .i64 1)]) st)
   (qb (q_struct [.int .i64 0] []) fun v23 =>
   e_box st v23 fun v24 st =>
   qb (q_load st true 4 v3) fun v26 =>
   qb (q_load st true 4 v4) fun v27 =>
   qb (q_load st true 4 v5) fun v28 =>
   callK prog n_spec_l03Run_sub [v24, v26, v27, v28, (.int .i64 0)] st (fun v29 st =>
   qb (q_ex v29 0) fun v30 =>
   qb (q_ex v29 1) fun v31 =>
   e_store st 4 v6 v30 fun st =>
   qb (q_load st true 4 v6) fun r_1 => retR R (.tup [r_1, v31]) st) (panR R)))
  (fun k =>
 qb (q_load st true 4 v3) fun v9 =>
 callK prog n_spec_TermOK [v9] st (fun v10 st =>
 qb (q_un .not v10) fun v11 =>
 cb v11 fun b_1 => br b_1
  (k [(.bool true)] st)
  (qb (q_load st true 4 v4) fun v13 =>
  callK prog n_spec_SimpleOK [v13] st (fun v14 st =>
  qb (q_un .not v14) fun v15 =>
  cb v15 fun b_2 => br b_2
   (k [(.bool true)] st)
   (qb (q_load st true 4 v5) fun v18 =>
   callK prog n_spec_l01Right [v18] st (fun v19 st =>
   qb (q_un .not v19) fun v20 =>
   k [v20] st) (panR R))) (panR R))) (panR R))
theorem c_spec_Subst {a0 a1 a2 : PV} {st : St} {R : Res → St → Prop} (h : b_spec_Subst a0 a1 a2 st R) : HCalls prog n_spec_Subst [a0, a1, a2] st R :=
 hcalls_of_func tyOK mixed (fn := Go.Proofs.Tryz.f12) (by kernel_rfl) (by kernel_rfl) (by kernel_rfl) (ann := [(5, [21])])
  (show hFunc prog TT [(5, [21])] Go.Proofs.Tryz.f12 [a0, a1, a2] st R from (show hFunc prog TT [(5, [21])] Go.Proofs.Tryz.f12 [a0, a1, a2] st R = b_spec_Subst a0 a1 a2 st R by kernel_rfl) ▸ h)
def b_laws_same (a0 a1 : PV) (st : St) (R : Res → St → Prop) : Prop :=
 e_box st a0 fun v2 st =>
 e_box st a1 fun v3 st =>
 qb (q_fa 0 v2) fun v6 =>
 qb (q_load st false 1 v6) fun v7 =>
 qb (q_fa 0 v3) fun v8 =>
 qb (q_load st false 1 v8) fun v9 =>
 qb (q_bin .neq v7 v9) fun v10 =>
 cb v10 fun b => br b
  (retR R (.bool false) st)
  (qb (q_fa 1 v2) fun v12 =>
  qb (q_load st false 1 v12) fun v13 =>
  qb (q_fa 1 v3) fun v14 =>
  qb (q_load st false 1 v14) fun v15 =>
  qb (q_bin .neq v13 v15) fun v16 =>
  cb v16 fun b_1 => br b_1
   (retR R (.bool false) st)
   (qb (q_fa 2 v2) fun v19 =>
   qb (q_load st false 1 v19) fun v20 =>
   qb (q_fa 2 v3) fun v21 =>
   qb (q_load st false 1 v21) fun v22 =>
   qb (q_bin .neq v20 v22) fun v23 =>
   cb v23 fun b_2 => br b_2
    (retR R (.bool false) st)
    (qb (q_fa 3 v2) fun v26 =>
    qb (q_load st false 1 v26) fun v27 =>
    qb (q_len v27) fun v28 =>
    qb (q_fa 3 v3) fun v29 =>
    qb (q_load st false 1 v29) fun v30 =>
    qb (q_len v30) fun v31 =>
    qb (q_bin .neq v28 v31) fun v32 =>
    cb v32 fun b_3 => br b_3
     (retR R (.bool false) st)
     (hFix (fun ls st X =>
      qb (q_fa 3 v2) fun v35 =>
      qb (q_load st false 1 v35) fun v36 =>
      qb (q_len v36) fun v37 =>
      qb (q_bin .lss (ls.getD 0 .junk) v37) fun v38 =>
      cb v38 fun b_4 => br b_4
       (qb (q_fa 3 v2) fun v41 =>
       qb (q_load st false 1 v41) fun v42 =>
       qb (q_ia 4 v42 (ls.getD 0 .junk)) fun v44 =>
       qb (q_load st true 4 v44) fun v45 =>
       qb (q_fa 3 v3) fun v46 =>
       qb (q_load st false 1 v46) fun v47 =>
       qb (q_ia 4 v47 (ls.getD 0 .junk)) fun v49 =>
       qb (q_load st true 4 v49) fun v50 =>
       callK prog n_laws_same [v45, v50] st (fun v51 st =>
       qb (q_un .not v51) fun v52 =>
       cb v52 fun b_5 => br b_5
        (retR R (.bool false) st)
        (qb (q_bin .add (ls.getD 0 .junk) (.int .i64 1)) fun v40 =>
        X [v40] st)) (panR R))
       (retR R (.bool true) st))
      [(.int .i64 0)] st))))
theorem e_laws_same : Enters prog n_laws_same := ⟨Go.Proofs.Tryz.f13, by kernel_rfl, by kernel_rfl, by kernel_rfl⟩
theorem c_laws_same {a0 a1 : PV} {st : St} {R : Res → St → Prop} (h : b_laws_same a0 a1 st R) : HCalls prog n_laws_same [a0, a1] st R :=
 hcalls_of_func tyOK mixed (fn := Go.Proofs.Tryz.f13) (by kernel_rfl) (by kernel_rfl) (by kernel_rfl) (ann := [(16, [5])])
  (show hFunc prog TT [(16, [5])] Go.Proofs.Tryz.f13 [a0, a1] st R from (show hFunc prog TT [(16, [5])] Go.Proofs.Tryz.f13 [a0, a1] st R = b_laws_same a0 a1 st R by kernel_rfl) ▸ h)
def b_laws_full (a0 : PV) (st : St) (R : Res → St → Prop) : Prop :=
 qb (q_bin .eql a0 (.int .i64 11)) fun v4 =>
 cb v4 fun b => br b
  (retR R (.bool true) st)
  (qb (q_bin .eql a0 (.int .i64 17)) fun v7 =>
  retR R v7 st)
theorem c_laws_full {a0 : PV} {st : St} {R : Res → St → Prop} (h : b_laws_full a0 st R) : HCalls prog n_laws_full [a0] st R :=
 hcalls_of_func tyOK mixed (fn := Go.Proofs.Tryz.f14) (by kernel_rfl) (by kernel_rfl) (by kernel_rfl) (ann := [])
  (show hFunc prog TT [] Go.Proofs.Tryz.f14 [a0] st R from (show hFunc prog TT [] Go.Proofs.Tryz.f14 [a0] st R = b_laws_full a0 st R by kernel_rfl) ▸ h)
def b_spec_Numbers (st : St) (R : Res → St → Prop) : Prop :=
 callK prog n_spec_l04Some [] st (fun v1 st =>
 retR R v1 st) (panR R)
theorem c_spec_Numbers {st : St} {R : Res → St → Prop} (h : b_spec_Numbers  st R) : HCalls prog n_spec_Numbers [] st R :=
 hcalls_of_func tyOK mixed (fn := Go.Proofs.Tryz.f16) (by kernel_rfl) (by kernel_rfl) (by kernel_rfl) (ann := [])
  (show hFunc prog TT [] Go.Proofs.Tryz.f16 [] st R from (show hFunc prog TT [] Go.Proofs.Tryz.f16 [] st R = b_spec_Numbers  st R by kernel_rfl) ▸ h)
def b_impl_CheckTerm (a0 a1 a2 a3 : PV) (st : St) (R : Res → St → Prop) : Prop :=
 e_box st a0 fun v4 st =>
 e_box st a1 fun v5 st =>
 e_box st a2 fun v6 st =>
 e_box st a3 fun v7 st =>
 qb (q_load st false 1 v4) fun v10 =>
 qb (q_load st false 1 v5) fun v11 =>
 callK prog n_impl_checked [v10, v11, (.fn (.func n_impl_CheckTerm_1) [] [v6, v4, v5, v7]), (.fn (.func n_impl_CheckTerm_2) [] [v5, v6, v7])] st (fun v14 st =>
 qb (q_ex v14 0) fun v15 =>
 qb (q_ex v14 1) fun v16 =>
 retR R (.tup [v15, v16]) st) (panR R)
theorem c_impl_CheckTerm {a0 a1 a2 a3 : PV} {st : St} {R : Res → St → Prop} (h : b_impl_CheckTerm a0 a1 a2 a3 st R) : HCalls prog n_impl_CheckTerm [a0, a1, a2, a3] st R :=
 hcalls_of_func tyOK mixed (fn := Go.Proofs.Tryz.f17) (by kernel_rfl) (by kernel_rfl) (by kernel_rfl) (ann := [])
  (show hFunc prog TT [] Go.Proofs.Tryz.f17 [a0, a1, a2, a3] st R from (show hFunc prog TT [] Go.Proofs.Tryz.f17 [a0, a1, a2, a3] st R = b_impl_CheckTerm a0 a1 a2 a3 st R by kernel_rfl) ▸ h)
def b_spec_TermOK (a0 : PV) (st : St) (R : Res → St → Prop) : Prop :=
 e_box st a0 fun v1 st =>
 qb (q_load st true 4 v1) fun v3 =>
 callK prog n_spec_l01Small [v3] st (fun v4 st =>
 cb v4 fun b => br b
  (qb (q_load st true 4 v1) fun v6 =>
  callK prog n_spec_l01Term [v6, (.bool false)] st (fun v7 st =>
  retR R v7 st) (panR R))
  (retR R (.bool false) st)) (panR R)
theorem c_spec_TermOK {a0 : PV} {st : St} {R : Res → St → Prop} (h : b_spec_TermOK a0 st R) : HCalls prog n_spec_TermOK [a0] st R :=
 hcalls_of_func tyOK mixed (fn := Go.Proofs.Tryz.f20) (by kernel_rfl) (by kernel_rfl) (by kernel_rfl) (ann := [])
  (show hFunc prog TT [] Go.Proofs.Tryz.f20 [a0] st R from (show hFunc prog TT [] Go.Proofs.Tryz.f20 [a0] st R = b_spec_TermOK a0 st R by kernel_rfl) ▸ h)
def b_spec_FamilyOK (a0 : PV) (st : St) (R : Res → St → Prop) : Prop :=
 e_box st a0 fun v1 st =>
 qb (q_load st true 4 v1) fun v3 =>
 callK prog n_spec_l01Small [v3] st (fun v4 st =>
 cb v4 fun b => br b
  (qb (q_load st true 4 v1) fun v6 =>
  callK prog n_spec_l01Family [v6] st (fun v7 st =>
  retR R v7 st) (panR R))
  (retR R (.bool false) st)) (panR R)
theorem c_spec_FamilyOK {a0 : PV} {st : St} {R : Res → St → Prop} (h : b_spec_FamilyOK a0 st R) : HCalls prog n_spec_FamilyOK [a0] st R :=
 hcalls_of_func tyOK mixed (fn := Go.Proofs.Tryz.f21) (by kernel_rfl) (by kernel_rfl) (by kernel_rfl) (ann := [])
  (show hFunc prog TT [] Go.Proofs.Tryz.f21 [a0] st R from (show hFunc prog TT [] Go.Proofs.Tryz.f21 [a0] st R = b_spec_FamilyOK a0 st R by kernel_rfl) ▸ h)
end Go.H.Tryz
