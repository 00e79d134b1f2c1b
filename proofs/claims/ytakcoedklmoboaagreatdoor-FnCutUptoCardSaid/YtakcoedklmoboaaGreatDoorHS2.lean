/- Part of a proof that the program answers as the reference does: ZFS2. -/
import Derived.Test.YtakcoedklmoboaaGreatDoorHT
/- MADE BY PROGRAM (hgen.py): what the functions compute, over pure values. -/
set_option linter.unusedVariables false
set_option maxRecDepth 100000
namespace Go.H.Tryz
open Go Go.H
def b_spec_l08Proof (a0 : PV) (st : St) (R : Res → St → Prop) : Prop :=
 e_box st a0 fun v1 st =>
 qb (q_fa 0 v1) fun v8 =>
 qb (q_load st false 1 v8) fun v9 =>
 callK prog n_spec_l08Shape [v9] st (fun v10 st =>
 qb (q_ex v10 0) fun v11 =>
 qb (q_ex v10 1) fun v12 =>
 qb (q_bin .lss v11 (.int .i64 0)) fun v14 =>
 cb v14 fun b => br b
  (retR R (.bool false) st)
  (qb (q_fa 2 v1) fun v16 =>
  qb (q_load st false 1 v16) fun v17 =>
  qb (q_len v17) fun v18 =>
  qb (q_bin .neq v18 v11) fun v20 =>
  cb v20 fun b_1 => br b_1
   (retR R (.bool false) st)
   (qb (q_fa 3 v1) fun v23 =>
   qb (q_load st false 1 v23) fun v24 =>
   qb (q_len v24) fun v25 =>
   qb (q_bin .neq v25 v12) fun v27 =>
   cb v27 fun b_2 => br b_2
    (retR R (.bool false) st)
    (qb (q_fa 1 v1) fun v30 =>
    qb (q_load st false 1 v30) fun v31 =>
    qb (q_bin .lss v31 (.int .i64 0)) fun v32 =>
    cb v32 fun b_3 => br b_3
     (retR R (.bool false) st)
     (qb (q_fa 1 v1) fun v35 =>
     qb (q_load st false 1 v35) fun v36 =>
     qb (q_bin .gtr v36 (.int .i64 100)) fun v37 =>
     cb v37 fun b_4 => br b_4
      (retR R (.bool false) st)
      (qb (q_fa 0 v1) fun v40 =>
      qb (q_load st false 1 v40) fun v41 =>
      qb (q_bin .neq v41 (.int .i64 1)) fun v42 =>
      cb v42 fun b_5 => br b_5
       (qb (q_fa 1 v1) fun v44 =>
       qb (q_load st false 1 v44) fun v45 =>
       qb (q_bin .neq v45 (.int .i64 0)) fun v46 =>
       cb v46 fun b_6 => br b_6
        (retR R (.bool false) st)
        (hFix (fun ls st X =>
         qb (q_bin .lss (ls.getD 0 .junk) v11) fun v51 =>
         cb v51 fun b_7 => br b_7
          (qb (q_fa 2 v1) fun v54 =>
          qb (q_load st false 1 v54) fun v55 =>
          qb (q_ia 3 v55 (ls.getD 0 .junk)) fun v57 =>
          qb (q_load st true 3 v57) fun v58 =>
          callK prog n_spec_l08Form [v58] st (fun v59 st =>
          qb (q_un .not v59) fun v60 =>
          cb v60 fun b_8 => br b_8
           (retR R (.bool false) st)
           (qb (q_bin .add (ls.getD 0 .junk) (.int .i64 1)) fun v53 =>
           X [v53] st)) (panR R))
          (hFix (fun ls_1 st X_1 =>
           qb (q_bin .lss (ls_1.getD 0 .junk) v12) fun v63 =>
           cb v63 fun b_9 => br b_9
            (qb (q_fa 3 v1) fun v66 =>
            qb (q_load st false 1 v66) fun v67 =>
            qb (q_ia 4 v67 (ls_1.getD 0 .junk)) fun v69 =>
            qb (q_load st true 4 v69) fun v70 =>
            callK prog n_spec_l08Proof [v70] st (fun v71 st =>
            qb (q_un .not v71) fun v72 =>
            cb v72 fun b_10 => br b_10
             (retR R (.bool false) st)
             (qb (q_bin .add (ls_1.getD 0 .junk) (.int .i64 1)) fun v65 =>
             X_1 [v65] st)) (panR R))
            (retR R (.bool true) st))
           [(.int .i64 0)] st))
         [(.int .i64 0)] st))
       (hFix (fun ls_2 st X_2 =>
        qb (q_bin .lss (ls_2.getD 0 .junk) v11) fun v51_1 =>
        cb v51_1 fun b_11 => br b_11
         (qb (q_fa 2 v1) fun v54_1 =>
         qb (q_load st false 1 v54_1) fun v55_1 =>
         qb (q_ia 3 v55_1 (ls_2.getD 0 .junk)) fun v57_1 =>
         qb (q_load st true 3 v57_1) fun v58_1 =>
         callK prog n_spec_l08Form [v58_1] st (fun v59_1 st =>
         qb (q_un .not v59_1) fun v60_1 =>
         cb v60_1 fun b_12 => br b_12
          (retR R (.bool false) st)
          (qb (q_bin .add (ls_2.getD 0 .junk) (.int .i64 1)) fun v53_1 =>
          X_2 [v53_1] st)) (panR R))
         (hFix (fun ls_3 st X_3 =>
          qb (q_bin .lss (ls_3.getD 0 .junk) v12) fun v63_1 =>
          cb v63_1 fun b_13 => br b_13
           (qb (q_fa 3 v1) fun v66_1 =>
           qb (q_load st false 1 v66_1) fun v67_1 =>
           qb (q_ia 4 v67_1 (ls_3.getD 0 .junk)) fun v69_1 =>
           qb (q_load st true 4 v69_1) fun v70_1 =>
           callK prog n_spec_l08Proof [v70_1] st (fun v71_1 st =>
           qb (q_un .not v71_1) fun v72_1 =>
           cb v72_1 fun b_14 => br b_14
            (retR R (.bool false) st)
            (qb (q_bin .add (ls_3.getD 0 .junk) (.int .i64 1)) fun v65_1 =>
            X_3 [v65_1] st)) (panR R))
           (retR R (.bool true) st))
          [(.int .i64 0)] st))
        [(.int .i64 0)] st))))))) (panR R)
theorem c_spec_l08Proof {a0 : PV} {st : St} {R : Res → St → Prop} (h : b_spec_l08Proof a0 st R) : HCalls prog n_spec_l08Proof [a0] st R :=
 hcalls_of_func tyOK mixed (fn := Go.Proofs.Tryz.f43) (by kernel_rfl) (by kernel_rfl) (by kernel_rfl) (ann := [(40, [6]), (20, [5])])
  (show hFunc prog TT [(40, [6]), (20, [5])] Go.Proofs.Tryz.f43 [a0] st R from (show hFunc prog TT [(40, [6]), (20, [5])] Go.Proofs.Tryz.f43 [a0] st R = b_spec_l08Proof a0 st R by kernel_rfl) ▸ h)
def b_impl_longLists (a0 : PV) (st : St) (R : Res → St → Prop) : Prop :=
 callK prog n_slices_Max_int_int [a0] st (fun v4 st =>
 qb (q_bin .gtr v4 (.int .i64 4096)) fun v5 =>
 retR R v5 st) (panR R)
theorem c_impl_longLists {a0 : PV} {st : St} {R : Res → St → Prop} (h : b_impl_longLists a0 st R) : HCalls prog n_impl_longLists [a0] st R :=
 hcalls_of_func tyOK mixed (fn := Go.Proofs.Tryz.f44) (by kernel_rfl) (by kernel_rfl) (by kernel_rfl) (ann := [])
  (show hFunc prog TT [] Go.Proofs.Tryz.f44 [a0] st R from (show hFunc prog TT [] Go.Proofs.Tryz.f44 [a0] st R = b_impl_longLists a0 st R by kernel_rfl) ▸ h)
def b_impl_hypsOK (a0 : PV) (st : St) (R : Res → St → Prop) : Prop :=
 qb (q_len a0) fun v4 =>
 qb (q_bin .leq v4 (.int .i64 12)) fun v5 =>
 cb v5 fun b => br b
  (callK prog n_slices_ContainsFunc_impl_Form_impl_Form [a0, (.fn (.func n_impl_badForm) [] [])] st (fun v8 st =>
  qb (q_un .not v8) fun v9 =>
  retR R v9 st) (panR R))
  (retR R (.bool false) st)
theorem c_impl_hypsOK {a0 : PV} {st : St} {R : Res → St → Prop} (h : b_impl_hypsOK a0 st R) : HCalls prog n_impl_hypsOK [a0] st R :=
 hcalls_of_func tyOK mixed (fn := Go.Proofs.Tryz.f45) (by kernel_rfl) (by kernel_rfl) (by kernel_rfl) (ann := [])
  (show hFunc prog TT [] Go.Proofs.Tryz.f45 [a0] st R from (show hFunc prog TT [] Go.Proofs.Tryz.f45 [a0] st R = b_impl_hypsOK a0 st R by kernel_rfl) ▸ h)
def b_impl_ProofOK (a0 : PV) (st : St) (R : Res → St → Prop) : Prop :=
 e_box st a0 fun v1 st =>
 qb (q_load st true 4 v1) fun v4 =>
 callK prog n_impl_fresh [] st (fun v3 st =>
 q_load st true 4 v1 = some v4 ∧ (callK prog n_impl_looker_proof [v3, v4] st (fun v5 st =>
 retR R v5 st) (panR R))) (panR R)
theorem c_impl_ProofOK {a0 : PV} {st : St} {R : Res → St → Prop} (h : b_impl_ProofOK a0 st R) : HCalls prog n_impl_ProofOK [a0] st R :=
 hcalls_of_func tyOK mixed (fn := Go.Proofs.Tryz.f46) (by kernel_rfl) (by kernel_rfl) (by kernel_rfl) (ann := [])
  (show hFunc prog TT [] Go.Proofs.Tryz.f46 [a0] st R from (show hFunc prog TT [] Go.Proofs.Tryz.f46 [a0] st R = b_impl_ProofOK a0 st R by kernel_rfl) ▸ h)
def b_impl_Proves_1 (a0 a1 a2 : PV) (st : St) (R : Res → St → Prop) : Prop :=
 qb (q_load st false 1 a0) fun v3 =>
 qb (q_load st true 4 a1) fun v4 =>
 callK prog n_impl_proves [v3, v4, (.int .i64 0)] st (fun v5 st =>
 e_store st 3 a2 v5 fun st =>
 retR R (.tup []) st) (panR R)
theorem c_impl_Proves_1 {a0 a1 a2 : PV} {st : St} {R : Res → St → Prop} (h : b_impl_Proves_1 a0 a1 a2 st R) : HCalls prog n_impl_Proves_1 [a0, a1, a2] st R :=
 hcalls_of_func tyOK mixed (fn := Go.Proofs.Tryz.f47) (by kernel_rfl) (by kernel_rfl) (by kernel_rfl) (ann := [])
  (show hFunc prog TT [] Go.Proofs.Tryz.f47 [a0, a1, a2] st R from (show hFunc prog TT [] Go.Proofs.Tryz.f47 [a0, a1, a2] st R = b_impl_Proves_1 a0 a1 a2 st R by kernel_rfl) ▸ h)
def b_impl_proves (a0 a1 a2 : PV) (st : St) (R : Res → St → Prop) : Prop :=
 e_box st a1 fun v4 st =>
 e_alloc st [.int .i64 0, .int .i64 0, .sl 0 true []] fun v6 st =>
 qb (q_fa 0 v4) fun v13 =>
 qb (q_load st false 1 v13) fun v14 =>
 qb (q_bin .eql v14 (.int .i64 1)) fun v15 =>
 cb v15 fun b => br b
  (qb (q_fa 1 v4) fun v16 =>
  qb (q_load st false 1 v16) fun v17 =>
  qb (q_len a0) fun v19 =>
  qb (q_bin .geq v17 v19) fun v20 =>
  hJ (fun ls st =>
   qb (q_len a0) fun v25 =>
   qb (q_bin .sub v25 (.int .i64 1)) fun v26 =>
   qb (q_fa 1 v4) fun v27 =>
   qb (q_load st false 1 v27) fun v28 =>
   qb (q_bin .sub v26 v28) fun v29 =>
   qb (q_ia 3 a0 v29) fun v30 =>
   qb (q_load st true 3 v30) fun v31 =>
   e_store st 3 v6 v31 fun st =>
   qb (q_load st true 3 v6) fun r => retR R r st)
   (fun k =>
  cb v20 fun b_1 => br b_1
   (callK prog n_impl_stop [(.int .i64 7), a2] st (fun v22 st =>
   k [] st) (panR R))
   (k [] st)))
  (qb (q_fa 0 v4) fun v33 =>
  qb (q_load st false 1 v33) fun v34 =>
  callK prog n_impl_ruleOf [v34] st (fun v35 st =>
  qb (q_ex v35 0) fun v36 =>
  qb (q_ex v35 1) fun v37 =>
  e_alloc st [.int .i64 0, .int .i64 0, .str [], .nilfn, .nilfn] fun v7 st =>
  e_store st 5 v7 v36 fun st =>
  qb (q_fa 3 v7) fun v38 =>
  qb (q_load st false 1 v38) fun v39 =>
  qb (q_fa 2 v4) fun v40 =>
  qb (q_load st false 1 v40) fun v41 =>
  e_call prog st v39 [v41] (fun v42 st =>
  qb (q_bin .add a2 (.int .i64 1)) fun v44 =>
  qb (q_fa 0 v4) fun v45 =>
  qb (q_load st false 1 v45) fun v46 =>
  qb (q_bin .eql v46 (.int .i64 5)) fun v47 =>
  hJ (fun ls_1 st =>
   qb (q_fa 3 v4) fun v56 =>
   qb (q_load st false 1 v56) fun v57 =>
   qb (q_len v57) fun v58 =>
   hJ (fun ls_2 st =>
    qb (q_fa 4 v7) fun v80 =>
    qb (q_load st false 1 v80) fun v81 =>
    qb (q_fa 2 v4) fun v82 =>
    qb (q_load st false 1 v82) fun v83 =>
    e_call prog st v81 [v83] (fun v84 st =>
    e_store st 3 v6 v84 fun st =>
    qb (q_load st true 3 v6) fun r_1 => retR R r_1 st) (panR R))
    (fun k_2 =>
   hFix (fun ls_3 st X =>
    qb (q_bin .lss (ls_3.getD 1 .junk) v58) fun v60 =>
    cb v60 fun b_3 => br b_3
     (qb (q_ia 4 v57 (ls_3.getD 1 .junk)) fun v62 =>
     qb (q_load st true 4 v62) fun v63 =>
     e_alloc st [.int .i64 0, .int .i64 0, .sl 0 true [], .sl 0 true []] fun v12 st =>
     e_store st 4 v12 v63 fun st =>
     qb (q_load st true 4 v12) fun v65 =>
     qb (q_ia 3 v42 (ls_3.getD 1 .junk)) fun v70 =>
     qb (q_load st true 3 v70) fun v71 =>
     callK prog n_impl_proves [(ls_1.getD 0 .junk), v65, (ls_3.getD 0 .junk)] st (fun v67 st =>
     q_load st true 3 v70 = some v71 ∧ (callK prog n_impl_sameForm [v67, v71] st (fun v72 st =>
     qb (q_un .not v72) fun v73 =>
     cb v73 fun b_4 => br b_4
      (callK prog n_impl_stop [(.int .i64 19), (ls_3.getD 0 .junk)] st (fun v75 st =>
      callK prog n_impl_Proof_size [v12] st (fun v77 st =>
      qb (q_bin .add (ls_3.getD 0 .junk) v77) fun v78 =>
      qb (q_bin .add (ls_3.getD 1 .junk) (.int .i64 1)) fun v79 =>
      X [v78, v79] st) (panR R)) (panR R))
      (callK prog n_impl_Proof_size [v12] st (fun v77_1 st =>
      qb (q_bin .add (ls_3.getD 0 .junk) v77_1) fun v78_1 =>
      qb (q_bin .add (ls_3.getD 1 .junk) (.int .i64 1)) fun v79_1 =>
      X [v78_1, v79_1] st) (panR R))) (panR R))) (panR R))
     (k_2 [] st))
    [v44, (.int .i64 0)] st))
   (fun k_1 =>
  cb v47 fun b_2 => br b_2
   (qb (q_fa 2 v4) fun v50 =>
   qb (q_load st false 1 v50) fun v51 =>
   qb (q_ia 3 v51 (.int .i64 0)) fun v52 =>
   qb (q_load st true 3 v52) fun v53 =>
   qb (q_lit 3 1 0 [] [(0, v53)]) fun v54 =>
   callK prog n_slices_Clip_impl_Form_impl_Form [a0] st (fun v49 st =>
   q_load st true 3 v52 = some v53 ∧ q_load st false 1 v50 = some v51 ∧ (e_append st 3 40 v49 v54 (fun v55 st =>
   k_1 [v55] st))) (panR R))
   (k_1 [a0] st))) (panR R)) (panR R))
theorem c_impl_proves {a0 a1 a2 : PV} {st : St} {R : Res → St → Prop} (h : b_impl_proves a0 a1 a2 st R) : HCalls prog n_impl_proves [a0, a1, a2] st R :=
 hcalls_of_func tyOK mixed (fn := Go.Proofs.Tryz.f48) (by kernel_rfl) (by kernel_rfl) (by kernel_rfl) (ann := [(40, [10, 59]), (3, []), (14, []), (34, [0])])
  (show hFunc prog TT [(40, [10, 59]), (3, []), (14, []), (34, [0])] Go.Proofs.Tryz.f48 [a0, a1, a2] st R from (show hFunc prog TT [(40, [10, 59]), (3, []), (14, []), (34, [0])] Go.Proofs.Tryz.f48 [a0, a1, a2] st R = b_impl_proves a0 a1 a2 st R by kernel_rfl) ▸ h)
def b_impl_cloneForm (a0 : PV) (st : St) (R : Res → St → Prop) : Prop :=
 e_box st a0 fun v1 st =>
 e_alloc st [.int .i64 0, .int .i64 0, .sl 0 true []] fun v2 st =>
 qb (q_fa 2 v1) fun v3 =>
 qb (q_load st false 1 v3) fun v4 =>
 callK prog n_impl_cloneForms [v4] st (fun v5 st =>
 qb (q_fa 2 v1) fun v6 =>
 e_store st 1 v6 v5 fun st =>
 qb (q_load st true 3 v1) fun v7 =>
 e_store st 3 v2 v7 fun st =>
 qb (q_load st true 3 v2) fun r => retR R r st) (panR R)
theorem c_impl_cloneForm {a0 : PV} {st : St} {R : Res → St → Prop} (h : b_impl_cloneForm a0 st R) : HCalls prog n_impl_cloneForm [a0] st R :=
 hcalls_of_func tyOK mixed (fn := Go.Proofs.Tryz.f49) (by kernel_rfl) (by kernel_rfl) (by kernel_rfl) (ann := [])
  (show hFunc prog TT [] Go.Proofs.Tryz.f49 [a0] st R from (show hFunc prog TT [] Go.Proofs.Tryz.f49 [a0] st R = b_impl_cloneForm a0 st R by kernel_rfl) ▸ h)
def b_impl_CutProof_1 (a0 a1 a2 : PV) (st : St) (R : Res → St → Prop) : Prop :=
 qb (q_load st false 1 a0) fun v3 =>
 qb (q_load st false 1 a0) fun v5 =>
 qb (q_load st true 4 a1) fun v6 =>
 qb (q_load st true 4 a2) fun v10 =>
 callK prog n_slices_Clip_impl_Form_impl_Form [v3] st (fun v4 st =>
 q_load st true 4 a2 = some v10 ∧ q_load st true 4 a1 = some v6 ∧ q_load st false 1 a0 = some v5 ∧ (callK prog n_impl_proves [v5, v6, (.int .i64 0)] st (fun v7 st =>
 q_load st true 4 a2 = some v10 ∧ (qb (q_lit 3 1 0 [] [(0, v7)]) fun v8 =>
 e_append st 3 40 v4 v8 (fun v9 st =>
 q_load st true 4 a2 = some v10 ∧ (callK prog n_impl_proves [v9, v10, (.int .i64 0)] st (fun v11 st =>
 retR R (.tup []) st) (panR R))))) (panR R))) (panR R)
theorem c_impl_CutProof_1 {a0 a1 a2 : PV} {st : St} {R : Res → St → Prop} (h : b_impl_CutProof_1 a0 a1 a2 st R) : HCalls prog n_impl_CutProof_1 [a0, a1, a2] st R :=
 hcalls_of_func tyOK mixed (fn := Go.Proofs.Tryz.f50) (by kernel_rfl) (by kernel_rfl) (by kernel_rfl) (ann := [])
  (show hFunc prog TT [] Go.Proofs.Tryz.f50 [a0, a1, a2] st R from (show hFunc prog TT [] Go.Proofs.Tryz.f50 [a0, a1, a2] st R = b_impl_CutProof_1 a0 a1 a2 st R by kernel_rfl) ▸ h)
def b_slices_Clip_impl_Form_impl_Form (a0 : PV) (st : St) (R : Res → St → Prop) : Prop :=
 qb (q_len a0) fun v5 =>
 qb (q_len a0) fun v7 =>
 qb (q_sliceE 3 a0 none (some v5) (some v7)) fun v8 =>
 retR R v8 st
theorem c_slices_Clip_impl_Form_impl_Form {a0 : PV} {st : St} {R : Res → St → Prop} (h : b_slices_Clip_impl_Form_impl_Form a0 st R) : HCalls prog n_slices_Clip_impl_Form_impl_Form [a0] st R :=
 hcalls_of_func tyOK mixed (fn := Go.Proofs.Tryz.f51) (by kernel_rfl) (by kernel_rfl) (by kernel_rfl) (ann := [])
  (show hFunc prog TT [] Go.Proofs.Tryz.f51 [a0] st R from (show hFunc prog TT [] Go.Proofs.Tryz.f51 [a0] st R = b_slices_Clip_impl_Form_impl_Form a0 st R by kernel_rfl) ▸ h)
def b_impl_Proof_moved (a0 a1 a2 : PV) (st : St) (R : Res → St → Prop) : Prop :=
 e_box st a0 fun v3 st =>
 e_alloc st [.int .i64 0, .int .i64 0, .sl 0 true [], .sl 0 true []] fun v6 st =>
 qb (q_fa 0 v3) fun v10 =>
 qb (q_load st false 1 v10) fun v11 =>
 qb (q_bin .eql v11 (.int .i64 1)) fun v12 =>
 cb v12 fun b => br b
  (qb (q_fa 1 v3) fun v14 =>
  qb (q_load st false 1 v14) fun v15 =>
  e_call prog st a2 [v15, a1] (fun v17 st =>
  e_store st 4 v6 v17 fun st =>
  qb (q_load st true 4 v6) fun r => retR R r st) (panR R))
  (hJ (fun ls st =>
   qb (q_fa 0 v3) fun v24 =>
   qb (q_load st false 1 v24) fun v25 =>
   qb (q_bin .eql v25 (.int .i64 5)) fun v26 =>
   hJ (fun ls_1 st =>
    qb (q_fa 3 v3) fun v29 =>
    qb (q_load st false 1 v29) fun v30 =>
    qb (q_len v30) fun v31 =>
    hFix (fun ls_2 st X =>
     qb (q_bin .lss (ls_2.getD 0 .junk) v31) fun v33 =>
     cb v33 fun b_2 => br b_2
      (qb (q_ia 4 v30 (ls_2.getD 0 .junk)) fun v34 =>
      qb (q_load st true 4 v34) fun v35 =>
      e_alloc st [.int .i64 0, .int .i64 0, .sl 0 true [], .sl 0 true []] fun v9 st =>
      e_store st 4 v9 v35 fun st =>
      qb (q_fa 3 (ls.getD 0 .junk)) fun v36 =>
      qb (q_load st false 1 v36) fun v37 =>
      qb (q_load st true 4 v9) fun v38 =>
      callK prog n_impl_Proof_moved [v38, (ls_1.getD 0 .junk), a2] st (fun v41 st =>
      q_load st false 1 v36 = some v37 ∧ (qb (q_lit 4 1 0 [] [(0, v41)]) fun v42 =>
      e_append st 4 64 v37 v42 (fun v43 st =>
      qb (q_fa 3 (ls.getD 0 .junk)) fun v44 =>
      e_store st 1 v44 v43 fun st =>
      qb (q_bin .add (ls_2.getD 0 .junk) (.int .i64 1)) fun v45 =>
      X [v45] st))) (panR R))
      (qb (q_load st true 4 (ls.getD 0 .junk)) fun v46 =>
      e_store st 4 v6 v46 fun st =>
      qb (q_load st true 4 v6) fun r_1 => retR R r_1 st))
     [(.int .i64 0)] st)
    (fun k_1 =>
   cb v26 fun b_1 => br b_1
    (qb (q_bin .add a1 (.int .i64 1)) fun v28 =>
    k_1 [v28] st)
    (k_1 [a1] st)))
   (fun k =>
  qb (q_fa 0 v3) fun v18 =>
  qb (q_load st false 1 v18) fun v19 =>
  qb (q_fa 2 v3) fun v20 =>
  qb (q_load st false 1 v20) fun v21 =>
  (callK prog n_impl_cloneForms [v21] st (fun v22 st =>
  q_load st false 1 v18 = some v19 ∧ (qb (q_struct [.int .i64 0, .int .i64 0, .sl 0 true [], .sl 0 true []] [(0, 1, v19), (2, 1, v22)]) fun v23 =>
  e_alloc st [.int .i64 0, .int .i64 0, .sl 0 true [], .sl 0 true []] fun v7 st =>
  q_load st false 1 v20 = some v21 ∧ q_load st false 1 v18 = some v19 ∧ (e_store st 4 v7 v23 fun st =>
  k [v7] st))) (panR R)) ∧
  (e_alloc st [.int .i64 0, .int .i64 0, .sl 0 true [], .sl 0 true []] fun v7_1 st =>
  q_load st false 1 v20 = some v21 ∧ q_load st false 1 v18 = some v19 ∧ (callK prog n_impl_cloneForms [v21] st (fun v22_1 st =>
  q_load st false 1 v18 = some v19 ∧ (qb (q_struct [.int .i64 0, .int .i64 0, .sl 0 true [], .sl 0 true []] [(0, 1, v19), (2, 1, v22_1)]) fun v23_1 =>
  e_store st 4 v7_1 v23_1 fun st =>
  k [v7_1] st)) (panR R)))))
theorem c_impl_Proof_moved {a0 a1 a2 : PV} {st : St} {R : Res → St → Prop} (h : b_impl_Proof_moved a0 a1 a2 st R) : HCalls prog n_impl_Proof_moved [a0, a1, a2] st R :=
 hcalls_of_func tyOK mixed (fn := Go.Proofs.Tryz.f52) (by kernel_rfl) (by kernel_rfl) (by kernel_rfl) (ann := [(28, [32]), (13, [7]), (22, [1])])
  (show hFunc prog TT [(28, [32]), (13, [7]), (22, [1])] Go.Proofs.Tryz.f52 [a0, a1, a2] st R from (show hFunc prog TT [(28, [32]), (13, [7]), (22, [1])] Go.Proofs.Tryz.f52 [a0, a1, a2] st R = b_impl_Proof_moved a0 a1 a2 st R by kernel_rfl) ▸ h)
def b_impl_CutProof_2 (a0 a1 a2 : PV) (st : St) (R : Res → St → Prop) : Prop :=
 e_alloc st [.int .i64 0, .int .i64 0, .sl 0 true [], .sl 0 true []] fun v5 st =>
 hJ (fun ls st =>
  qb (q_struct [.int .i64 0, .int .i64 0, .sl 0 true [], .sl 0 true []] [(0, 1, (.int .i64 1)), (1, 1, (ls.getD 0 .junk))]) fun v20 =>
  e_store st 4 v5 v20 fun st =>
  qb (q_load st true 4 v5) fun r => retR R r st)
  (fun k =>
 qb (q_bin .eql a0 a1) fun v9 =>
 cb v9 fun b => br b
  (qb (q_load st true 4 a2) fun v10 =>
  callK prog n_impl_Proof_lifted [v10, a1] st (fun v12 st =>
  e_store st 4 v5 v12 fun st =>
  qb (q_load st true 4 v5) fun r_1 => retR R r_1 st) (panR R))
  (qb (q_bin .gtr a0 a1) fun v16 =>
  cb v16 fun b_1 => br b_1
   (qb (q_bin .sub a0 (.int .i64 1)) fun v18 =>
   k [v18] st)
   (k [a0] st)))
theorem c_impl_CutProof_2 {a0 a1 a2 : PV} {st : St} {R : Res → St → Prop} (h : b_impl_CutProof_2 a0 a1 a2 st R) : HCalls prog n_impl_CutProof_2 [a0, a1, a2] st R :=
 hcalls_of_func tyOK mixed (fn := Go.Proofs.Tryz.f53) (by kernel_rfl) (by kernel_rfl) (by kernel_rfl) (ann := [(3, [0])])
  (show hFunc prog TT [(3, [0])] Go.Proofs.Tryz.f53 [a0, a1, a2] st R from (show hFunc prog TT [(3, [0])] Go.Proofs.Tryz.f53 [a0, a1, a2] st R = b_impl_CutProof_2 a0 a1 a2 st R by kernel_rfl) ▸ h)
def b_impl_Proof_lifted (a0 a1 : PV) (st : St) (R : Res → St → Prop) : Prop :=
 e_box st a0 fun v2 st =>
 e_box st a1 fun v3 st =>
 e_alloc st [.int .i64 0, .int .i64 0, .sl 0 true [], .sl 0 true []] fun v4 st =>
 qb (q_load st true 4 v2) fun v5 =>
 callK prog n_impl_Proof_moved [v5, (.int .i64 0), (.fn (.func n_impl_Proof_lifted_1) [] [v3])] st (fun v7 st =>
 e_store st 4 v4 v7 fun st =>
 qb (q_load st true 4 v4) fun r => retR R r st) (panR R)
theorem c_impl_Proof_lifted {a0 a1 : PV} {st : St} {R : Res → St → Prop} (h : b_impl_Proof_lifted a0 a1 st R) : HCalls prog n_impl_Proof_lifted [a0, a1] st R :=
 hcalls_of_func tyOK mixed (fn := Go.Proofs.Tryz.f54) (by kernel_rfl) (by kernel_rfl) (by kernel_rfl) (ann := [])
  (show hFunc prog TT [] Go.Proofs.Tryz.f54 [a0, a1] st R from (show hFunc prog TT [] Go.Proofs.Tryz.f54 [a0, a1] st R = b_impl_Proof_lifted a0 a1 st R by kernel_rfl) ▸ h)
def b_spec_l08Hyps (a0 : PV) (st : St) (R : Res → St → Prop) : Prop :=
 qb (q_len a0) fun v5 =>
 qb (q_bin .gtr v5 (.int .i64 12)) fun v6 =>
 cb v6 fun b => br b
  (retR R (.bool false) st)
  (hFix (fun ls st X =>
   qb (q_len a0) fun v9 =>
   qb (q_bin .lss (ls.getD 0 .junk) v9) fun v10 =>
   cb v10 fun b_1 => br b_1
    (qb (q_ia 3 a0 (ls.getD 0 .junk)) fun v15 =>
    qb (q_load st true 3 v15) fun v16 =>
    callK prog n_spec_FormOK [v16] st (fun v17 st =>
    qb (q_un .not v17) fun v18 =>
    cb v18 fun b_2 => br b_2
     (retR R (.bool false) st)
     (qb (q_bin .add (ls.getD 0 .junk) (.int .i64 1)) fun v12 =>
     X [v12] st)) (panR R))
    (retR R (.bool true) st))
   [(.int .i64 0)] st)
theorem c_spec_l08Hyps {a0 : PV} {st : St} {R : Res → St → Prop} (h : b_spec_l08Hyps a0 st R) : HCalls prog n_spec_l08Hyps [a0] st R :=
 hcalls_of_func tyOK mixed (fn := Go.Proofs.Tryz.f55) (by kernel_rfl) (by kernel_rfl) (by kernel_rfl) (ann := [(16, [3])])
  (show hFunc prog TT [(16, [3])] Go.Proofs.Tryz.f55 [a0] st R from (show hFunc prog TT [(16, [3])] Go.Proofs.Tryz.f55 [a0] st R = b_spec_l08Hyps a0 st R by kernel_rfl) ▸ h)
def b_spec_l08Proves (a0 a1 a2 : PV) (st : St) (R : Res → St → Prop) : Prop :=
 e_box st a1 fun v4 st =>
 e_alloc st [.int .i64 0, .int .i64 0, .sl 0 true []] fun v6 st =>
 qb (q_struct [.int .i64 0, .int .i64 0, .sl 0 true []] []) fun v19 =>
 e_alloc st [.int .i64 0, .int .i64 0, .sl 0 true []] fun v9 st =>
 e_store st 3 v9 v19 fun st =>
 qb (q_fa 0 v4) fun v20 =>
 qb (q_load st false 1 v20) fun v21 =>
 qb (q_bin .eql v21 (.int .i64 1)) fun v22 =>
 cb v22 fun b => br b
  (qb (q_fa 1 v4) fun v23 =>
  qb (q_load st false 1 v23) fun v24 =>
  qb (q_len a0) fun v26 =>
  qb (q_bin .geq v24 v26) fun v27 =>
  cb v27 fun b_1 => br b_1
   (qb (q_load st true 3 v9) fun v28 =>
   e_store st 3 v6 v28 fun st =>
   qb (q_load st true 3 v6) fun r => retR R (.tup [r, (.int .i64 7), a2]) st)
   (qb (q_len a0) fun v32 =>
   qb (q_bin .sub v32 (.int .i64 1)) fun v33 =>
   qb (q_fa 1 v4) fun v34 =>
   qb (q_load st false 1 v34) fun v35 =>
   qb (q_bin .sub v33 v35) fun v36 =>
   qb (q_ia 3 a0 v36) fun v37 =>
   qb (q_load st true 3 v37) fun v38 =>
   e_store st 3 v6 v38 fun st =>
   qb (q_load st true 3 v6) fun r_1 => retR R (.tup [r_1, (.int .i64 0), (.int .i64 0)]) st))
  (qb (q_fa 2 v4) fun v39 =>
  qb (q_load st false 1 v39) fun v40 =>
  qb (q_ia 3 v40 (.int .i64 0)) fun v41 =>
  qb (q_load st true 3 v41) fun v42 =>
  e_alloc st [.int .i64 0, .int .i64 0, .sl 0 true []] fun v10 st =>
  e_store st 3 v10 v42 fun st =>
  qb (q_struct [.int .i64 0, .int .i64 0, .sl 0 true []] [(0, 1, (.int .i64 4))]) fun v43 =>
  e_alloc st [.int .i64 0, .int .i64 0, .sl 0 true []] fun v11 st =>
  e_store st 3 v11 v43 fun st =>
  qb (q_fa 2 v4) fun v44 =>
  qb (q_load st false 1 v44) fun v45 =>
  qb (q_len v45) fun v46 =>
  qb (q_bin .gtr v46 (.int .i64 1)) fun v47 =>
  hJ (fun ls st =>
   qb (q_lit 3 0 0 [] []) fun v52 =>
   qb (q_struct [.int .i64 0, .int .i64 0, .sl 0 true []] []) fun v53 =>
   e_alloc st [.int .i64 0, .int .i64 0, .sl 0 true []] fun v13 st =>
   e_store st 3 v13 v53 fun st =>
   qb (q_fa 0 v4) fun v54 =>
   qb (q_load st false 1 v54) fun v55 =>
   hJ (fun ls_1 st =>
    qb (q_bin .add a2 (.int .i64 1)) fun v100 =>
    hJ (fun ls_2 st =>
     qb (q_load st true 3 v13) fun v142 =>
     e_store st 3 v6 v142 fun st =>
     qb (q_load st true 3 v6) fun r_2 => retR R (.tup [r_2, (.int .i64 0), (.int .i64 0)]) st)
     (fun k_2 =>
    hFix (fun ls_3 st X =>
     qb (q_fa 3 v4) fun v102 =>
     qb (q_load st false 1 v102) fun v103 =>
     qb (q_len v103) fun v104 =>
     qb (q_bin .lss (ls_3.getD 1 .junk) v104) fun v105 =>
     cb v105 fun b_3 => br b_3
      (qb (q_fa 3 v4) fun v110 =>
      qb (q_load st false 1 v110) fun v111 =>
      qb (q_ia 4 v111 (ls_3.getD 1 .junk)) fun v113 =>
      qb (q_load st true 4 v113) fun v114 =>
      callK prog n_spec_l08Proves [(ls_1.getD 0 .junk), v114, (ls_3.getD 0 .junk)] st (fun v116 st =>
      qb (q_ex v116 0) fun v117 =>
      qb (q_ex v116 1) fun v118 =>
      qb (q_ex v116 2) fun v119 =>
      e_alloc st [.int .i64 0, .int .i64 0, .sl 0 true []] fun v16 st =>
      e_store st 3 v16 v117 fun st =>
      qb (q_bin .neq v118 (.int .i64 0)) fun v121 =>
      cb v121 fun b_4 => br b_4
       (qb (q_load st true 3 v9) fun v122 =>
       e_store st 3 v6 v122 fun st =>
       qb (q_load st true 3 v6) fun r_3 => retR R (.tup [r_3, v118, v119]) st)
       (qb (q_load st true 3 v16) fun v125 =>
       qb (q_ia 3 (ls_1.getD 1 .junk) (ls_3.getD 1 .junk)) fun v128 =>
       qb (q_load st true 3 v128) fun v129 =>
       callK prog n_spec_l08Same [v125, v129] st (fun v130 st =>
       qb (q_un .not v130) fun v131 =>
       cb v131 fun b_5 => br b_5
        (qb (q_load st true 3 v9) fun v132 =>
        e_store st 3 v6 v132 fun st =>
        qb (q_load st true 3 v6) fun r_4 => retR R (.tup [r_4, (.int .i64 19), (ls_3.getD 0 .junk)]) st)
        (qb (q_fa 3 v4) fun v135 =>
        qb (q_load st false 1 v135) fun v136 =>
        qb (q_ia 4 v136 (ls_3.getD 1 .junk)) fun v138 =>
        qb (q_load st true 4 v138) fun v139 =>
        callK prog n_spec_l08Size [v139] st (fun v140 st =>
        qb (q_bin .add (ls_3.getD 0 .junk) v140) fun v141 =>
        qb (q_bin .add (ls_3.getD 1 .junk) (.int .i64 1)) fun v107 =>
        X [v141, v107] st) (panR R))) (panR R))) (panR R))
      (k_2 [] st))
     [v100, (.int .i64 0)] st))
    (fun k_1 =>
   qb (q_bin .eql v55 (.int .i64 2)) fun v60 =>
   cb v60 fun b_6 => br b_6
    (qb (q_load st true 3 v10) fun v61 =>
    qb (q_load st true 3 v11) fun v62 =>
    qb (q_lit 3 2 0 [] [(0, v61), (1, v62)]) fun v63 =>
    qb (q_load st true 3 v10) fun v64 =>
    qb (q_load st true 3 v11) fun v65 =>
    callK prog n_spec_l08Two [(.int .i64 2), v64, v65] st (fun v66 st =>
    e_store st 3 v13 v66 fun st =>
    k_1 [a0, v63] st) (panR R))
    (qb (q_bin .eql v55 (.int .i64 3)) fun v68 =>
    cb v68 fun b_7 => br b_7
     (qb (q_load st true 3 v10) fun v69 =>
     qb (q_load st true 3 v11) fun v70 =>
     callK prog n_spec_l08Two [(.int .i64 2), v69, v70] st (fun v71 st =>
     qb (q_lit 3 1 0 [] [(0, v71)]) fun v72 =>
     qb (q_load st true 3 v10) fun v73 =>
     e_store st 3 v13 v73 fun st =>
     k_1 [a0, v72] st) (panR R))
     (qb (q_bin .eql v55 (.int .i64 4)) fun v75 =>
     cb v75 fun b_8 => br b_8
      (qb (q_load st true 3 v10) fun v76 =>
      qb (q_load st true 3 v11) fun v77 =>
      callK prog n_spec_l08Two [(.int .i64 2), v76, v77] st (fun v78 st =>
      qb (q_lit 3 1 0 [] [(0, v78)]) fun v79 =>
      qb (q_load st true 3 v11) fun v80 =>
      e_store st 3 v13 v80 fun st =>
      k_1 [a0, v79] st) (panR R))
      (qb (q_bin .eql v55 (.int .i64 5)) fun v82 =>
      cb v82 fun b_9 => br b_9
       (qb (q_load st true 3 v11) fun v83 =>
       qb (q_lit 3 1 0 [] [(0, v83)]) fun v84 =>
       qb (q_load st true 3 v10) fun v86 =>
       callK prog n_spec_l08More [a0, v86] st (fun v87 st =>
       qb (q_load st true 3 v10) fun v88 =>
       qb (q_load st true 3 v11) fun v89 =>
       callK prog n_spec_l08Two [(.int .i64 3), v88, v89] st (fun v90 st =>
       e_store st 3 v13 v90 fun st =>
       k_1 [v87, v84] st) (panR R)) (panR R))
       (qb (q_bin .eql v55 (.int .i64 6)) fun v92 =>
       cb v92 fun b_10 => br b_10
        (qb (q_load st true 3 v10) fun v93 =>
        qb (q_load st true 3 v11) fun v94 =>
        qb (q_load st true 3 v10) fun v96 =>
        callK prog n_spec_l08Two [(.int .i64 3), v93, v94] st (fun v95 st =>
        q_load st true 3 v10 = some v96 ∧ (qb (q_lit 3 2 0 [] [(0, v95), (1, v96)]) fun v97 =>
        qb (q_load st true 3 v11) fun v98 =>
        e_store st 3 v13 v98 fun st =>
        k_1 [a0, v97] st)) (panR R))
        (qb (q_load st true 3 v11) fun v56 =>
        qb (q_lit 3 1 0 [] [(0, v56)]) fun v57 =>
        qb (q_load st true 3 v10) fun v58 =>
        e_store st 3 v13 v58 fun st =>
        k_1 [a0, v57] st)))))))
   (fun k =>
  cb v47 fun b_2 => br b_2
   (qb (q_fa 2 v4) fun v48 =>
   qb (q_load st false 1 v48) fun v49 =>
   qb (q_ia 3 v49 (.int .i64 1)) fun v50 =>
   qb (q_load st true 3 v50) fun v51 =>
   e_store st 3 v11 v51 fun st =>
   k [] st)
   (k [] st)))
theorem c_spec_l08Proves {a0 a1 a2 : PV} {st : St} {R : Res → St → Prop} (h : b_spec_l08Proves a0 a1 a2 st R) : HCalls prog n_spec_l08Proves [a0, a1, a2] st R :=
 hcalls_of_func tyOK mixed (fn := Go.Proofs.Tryz.f56) (by kernel_rfl) (by kernel_rfl) (by kernel_rfl) (ann := [(132, [14, 15]), (3, [0, 12]), (7, []), (38, [])])
  (show hFunc prog TT [(132, [14, 15]), (3, [0, 12]), (7, []), (38, [])] Go.Proofs.Tryz.f56 [a0, a1, a2] st R from (show hFunc prog TT [(132, [14, 15]), (3, [0, 12]), (7, []), (38, [])] Go.Proofs.Tryz.f56 [a0, a1, a2] st R = b_spec_l08Proves a0 a1 a2 st R by kernel_rfl) ▸ h)
def b_spec_l08Cut (a0 a1 a2 : PV) (st : St) (R : Res → St → Prop) : Prop :=
 e_box st a0 fun v3 st =>
 e_box st a1 fun v4 st =>
 e_alloc st [.int .i64 0, .int .i64 0, .sl 0 true [], .sl 0 true []] fun v6 st =>
 qb (q_fa 0 v4) fun v10 =>
 qb (q_load st false 1 v10) fun v11 =>
 qb (q_bin .eql v11 (.int .i64 1)) fun v12 =>
 cb v12 fun b => br b
  (qb (q_fa 1 v4) fun v14 =>
  qb (q_load st false 1 v14) fun v15 =>
  qb (q_bin .eql v15 a2) fun v17 =>
  cb v17 fun b_1 => br b_1
   (qb (q_load st true 4 v3) fun v18 =>
   callK prog n_spec_l08Move [v18, (.int .i64 0), a2] st (fun v20 st =>
   e_store st 4 v6 v20 fun st =>
   qb (q_load st true 4 v6) fun r => retR R r st) (panR R))
   (qb (q_fa 1 v4) fun v22 =>
   qb (q_load st false 1 v22) fun v23 =>
   qb (q_bin .gtr v23 a2) fun v25 =>
   cb v25 fun b_2 => br b_2
    (qb (q_fa 1 v4) fun v26 =>
    qb (q_load st false 1 v26) fun v27 =>
    qb (q_bin .sub v27 (.int .i64 1)) fun v28 =>
    qb (q_struct [.int .i64 0, .int .i64 0, .sl 0 true [], .sl 0 true []] [(0, 1, (.int .i64 1)), (1, 1, v28)]) fun v29 =>
    e_store st 4 v6 v29 fun st =>
    qb (q_load st true 4 v6) fun r_1 => retR R r_1 st)
    (qb (q_fa 1 v4) fun v30 =>
    qb (q_load st false 1 v30) fun v31 =>
    qb (q_struct [.int .i64 0, .int .i64 0, .sl 0 true [], .sl 0 true []] [(0, 1, (.int .i64 1)), (1, 1, v31)]) fun v32 =>
    e_store st 4 v6 v32 fun st =>
    qb (q_load st true 4 v6) fun r_2 => retR R r_2 st)))
  (qb (q_fa 0 v4) fun v33 =>
  qb (q_load st false 1 v33) fun v34 =>
  qb (q_struct [.int .i64 0, .int .i64 0, .sl 0 true [], .sl 0 true []] [(0, 1, v34)]) fun v35 =>
  e_alloc st [.int .i64 0, .int .i64 0, .sl 0 true [], .sl 0 true []] fun v7 st =>
  e_store st 4 v7 v35 fun st =>
  hFix (fun ls st X =>
   qb (q_fa 2 v4) fun v37 =>
   qb (q_load st false 1 v37) fun v38 =>
   qb (q_len v38) fun v39 =>
   qb (q_bin .lss (ls.getD 0 .junk) v39) fun v40 =>
   cb v40 fun b_3 => br b_3
    (qb (q_fa 2 v7) fun v43 =>
    qb (q_load st false 1 v43) fun v44 =>
    qb (q_fa 2 v4) fun v45 =>
    qb (q_load st false 1 v45) fun v46 =>
    qb (q_ia 3 v46 (ls.getD 0 .junk)) fun v48 =>
    qb (q_load st true 3 v48) fun v49 =>
    callK prog n_spec_l08Copy [v49] st (fun v50 st =>
    q_load st false 1 v43 = some v44 ∧ (qb (q_lit 3 1 0 [] [(0, v50)]) fun v51 =>
    e_append st 3 40 v44 v51 (fun v52 st =>
    qb (q_fa 2 v7) fun v53 =>
    e_store st 1 v53 v52 fun st =>
    qb (q_bin .add (ls.getD 0 .junk) (.int .i64 1)) fun v42 =>
    X [v42] st))) (panR R))
    (qb (q_fa 0 v4) fun v54 =>
    qb (q_load st false 1 v54) fun v55 =>
    qb (q_bin .eql v55 (.int .i64 5)) fun v56 =>
    hJ (fun ls_1 st =>
     hFix (fun ls_2 st X_1 =>
      qb (q_fa 3 v4) fun v60 =>
      qb (q_load st false 1 v60) fun v61 =>
      qb (q_len v61) fun v62 =>
      qb (q_bin .lss (ls_2.getD 0 .junk) v62) fun v63 =>
      cb v63 fun b_5 => br b_5
       (qb (q_fa 3 v7) fun v66 =>
       qb (q_load st false 1 v66) fun v67 =>
       qb (q_load st true 4 v3) fun v68 =>
       qb (q_fa 3 v4) fun v69 =>
       qb (q_load st false 1 v69) fun v70 =>
       qb (q_ia 4 v70 (ls_2.getD 0 .junk)) fun v72 =>
       qb (q_load st true 4 v72) fun v73 =>
       callK prog n_spec_l08Cut [v68, v73, (ls_1.getD 0 .junk)] st (fun v75 st =>
       q_load st false 1 v66 = some v67 ∧ (qb (q_lit 4 1 0 [] [(0, v75)]) fun v76 =>
       e_append st 4 64 v67 v76 (fun v77 st =>
       qb (q_fa 3 v7) fun v78 =>
       e_store st 1 v78 v77 fun st =>
       qb (q_bin .add (ls_2.getD 0 .junk) (.int .i64 1)) fun v65 =>
       X_1 [v65] st))) (panR R))
       (qb (q_load st true 4 v7) fun v79 =>
       e_store st 4 v6 v79 fun st =>
       qb (q_load st true 4 v6) fun r_3 => retR R r_3 st))
      [(.int .i64 0)] st)
     (fun k =>
    cb v56 fun b_4 => br b_4
     (qb (q_bin .add a2 (.int .i64 1)) fun v58 =>
     k [v58] st)
     (k [a2] st))))
   [(.int .i64 0)] st)
theorem c_spec_l08Cut {a0 a1 a2 : PV} {st : St} {R : Res → St → Prop} (h : b_spec_l08Cut a0 a1 a2 st R) : HCalls prog n_spec_l08Cut [a0, a1, a2] st R :=
 hcalls_of_func tyOK mixed (fn := Go.Proofs.Tryz.f57) (by kernel_rfl) (by kernel_rfl) (by kernel_rfl) (ann := [(60, [9]), (36, [8]), (54, [2])])
  (show hFunc prog TT [(60, [9]), (36, [8]), (54, [2])] Go.Proofs.Tryz.f57 [a0, a1, a2] st R from (show hFunc prog TT [(60, [9]), (36, [8]), (54, [2])] Go.Proofs.Tryz.f57 [a0, a1, a2] st R = b_spec_l08Cut a0 a1 a2 st R by kernel_rfl) ▸ h)
def b_impl_EncodeProof_1 (a0 : PV) (st : St) (R : Res → St → Prop) : Prop :=
 e_alloc st [.int .i64 0, .int .i64 0, .str [], .sl 0 true []] fun v1 st =>
 qb (q_load st true 4 a0) fun v2 =>
 callK prog n_impl_proofTerm [v2] st (fun v3 st =>
 e_store st 4 v1 v3 fun st =>
 qb (q_load st true 4 v1) fun r => retR R r st) (panR R)
theorem c_impl_EncodeProof_1 {a0 : PV} {st : St} {R : Res → St → Prop} (h : b_impl_EncodeProof_1 a0 st R) : HCalls prog n_impl_EncodeProof_1 [a0] st R :=
 hcalls_of_func tyOK mixed (fn := Go.Proofs.Tryz.f58) (by kernel_rfl) (by kernel_rfl) (by kernel_rfl) (ann := [])
  (show hFunc prog TT [] Go.Proofs.Tryz.f58 [a0] st R from (show hFunc prog TT [] Go.Proofs.Tryz.f58 [a0] st R = b_impl_EncodeProof_1 a0 st R by kernel_rfl) ▸ h)
def b_impl_proofTerm (a0 : PV) (st : St) (R : Res → St → Prop) : Prop :=
 e_box st a0 fun v1 st =>
 e_alloc st [.int .i64 0, .int .i64 0, .str [], .sl 0 true []] fun v2 st =>
 qb (q_fa 0 v1) fun v11 =>
 qb (q_load st false 1 v11) fun v12 =>
 qb (q_bin .eql v12 (.int .i64 1)) fun v13 =>
 cb v13 fun b => br b
  (qb (q_fa 1 v1) fun v14 =>
  qb (q_load st false 1 v14) fun v15 =>
  callK prog n_impl_variable [v15, (.sl 0 true [])] st (fun v16 st =>
  e_store st 4 v2 v16 fun st =>
  qb (q_load st true 4 v2) fun r => retR R r st) (panR R))
  (qb (q_fa 0 v1) fun v18 =>
  qb (q_load st false 1 v18) fun v19 =>
  callK prog n_impl_ruleOf [v19] st (fun v20 st =>
  qb (q_ex v20 0) fun v21 =>
  qb (q_ex v20 1) fun v22 =>
  e_alloc st [.int .i64 0, .int .i64 0, .str [], .nilfn, .nilfn] fun v3 st =>
  e_store st 5 v3 v21 fun st =>
  qb (q_fa 2 v3) fun v23 =>
  qb (q_load st false 1 v23) fun v24 =>
  callK prog n_impl_constant [v24, (.sl 0 true [])] st (fun v25 st =>
  e_alloc st [.int .i64 0, .int .i64 0, .str [], .sl 0 true []] fun v5 st =>
  e_store st 4 v5 v25 fun st =>
  qb (q_fa 2 v1) fun v26 =>
  qb (q_load st false 1 v26) fun v27 =>
  qb (q_len v27) fun v28 =>
  hFix (fun ls st X =>
   qb (q_bin .lss (ls.getD 0 .junk) v28) fun v30 =>
   cb v30 fun b_1 => br b_1
    (qb (q_ia 3 v27 (ls.getD 0 .junk)) fun v31 =>
    qb (q_load st true 3 v31) fun v32 =>
    e_alloc st [.int .i64 0, .int .i64 0, .sl 0 true []] fun v7 st =>
    e_store st 3 v7 v32 fun st =>
    qb (q_fa 3 v5) fun v33 =>
    qb (q_load st false 1 v33) fun v34 =>
    qb (q_load st true 3 v7) fun v35 =>
    callK prog n_impl_formTerm [v35] st (fun v36 st =>
    q_load st false 1 v33 = some v34 ∧ (qb (q_lit 4 1 0 [] [(0, v36)]) fun v37 =>
    e_append st 4 56 v34 v37 (fun v38 st =>
    qb (q_fa 3 v5) fun v39 =>
    e_store st 1 v39 v38 fun st =>
    qb (q_bin .add (ls.getD 0 .junk) (.int .i64 1)) fun v40 =>
    X [v40] st))) (panR R))
    (qb (q_fa 3 v1) fun v41 =>
    qb (q_load st false 1 v41) fun v42 =>
    qb (q_len v42) fun v43 =>
    hFix (fun ls_1 st X_1 =>
     qb (q_bin .lss (ls_1.getD 0 .junk) v43) fun v45 =>
     cb v45 fun b_2 => br b_2
      (qb (q_ia 4 v42 (ls_1.getD 0 .junk)) fun v46 =>
      qb (q_load st true 4 v46) fun v47 =>
      e_alloc st [.int .i64 0, .int .i64 0, .sl 0 true [], .sl 0 true []] fun v9 st =>
      e_store st 4 v9 v47 fun st =>
      qb (q_load st true 4 v9) fun v48 =>
      callK prog n_impl_proofTerm [v48] st (fun v49 st =>
      e_alloc st [.int .i64 0, .int .i64 0, .str [], .sl 0 true []] fun v10 st =>
      e_store st 4 v10 v49 fun st =>
      qb (q_fa 0 v1) fun v50 =>
      qb (q_load st false 1 v50) fun v51 =>
      qb (q_bin .eql v51 (.int .i64 5)) fun v52 =>
      hJ (fun ls_2 st =>
       qb (q_fa 3 v5) fun v55 =>
       qb (q_load st false 1 v55) fun v56 =>
       qb (q_load st true 4 v10) fun v57 =>
       qb (q_lit 4 1 0 [] [(0, v57)]) fun v58 =>
       e_append st 4 56 v56 v58 (fun v59 st =>
       qb (q_fa 3 v5) fun v60 =>
       e_store st 1 v60 v59 fun st =>
       qb (q_bin .add (ls_1.getD 0 .junk) (.int .i64 1)) fun v61 =>
       X_1 [v61] st))
       (fun k =>
      cb v52 fun b_3 => br b_3
       (qb (q_load st true 4 v10) fun v53 =>
       callK prog n_impl_lam [v53] st (fun v54 st =>
       e_store st 4 v10 v54 fun st =>
       k [] st) (panR R))
       (k [] st))) (panR R))
      (qb (q_load st true 4 v5) fun v62 =>
      e_store st 4 v2 v62 fun st =>
      qb (q_load st true 4 v2) fun r_1 => retR R r_1 st))
     [(.int .i64 0)] st))
   [(.int .i64 0)] st) (panR R)) (panR R))
theorem c_impl_proofTerm {a0 : PV} {st : St} {R : Res → St → Prop} (h : b_impl_proofTerm a0 st R) : HCalls prog n_impl_proofTerm [a0] st R :=
 hcalls_of_func tyOK mixed (fn := Go.Proofs.Tryz.f59) (by kernel_rfl) (by kernel_rfl) (by kernel_rfl) (ann := [(44, [44]), (24, [29]), (62, [])])
  (show hFunc prog TT [(44, [44]), (24, [29]), (62, [])] Go.Proofs.Tryz.f59 [a0] st R from (show hFunc prog TT [(44, [44]), (24, [29]), (62, [])] Go.Proofs.Tryz.f59 [a0] st R = b_impl_proofTerm a0 st R by kernel_rfl) ▸ h)
def b_impl_SimpleOK (a0 : PV) (st : St) (R : Res → St → Prop) : Prop :=
 e_box st a0 fun v1 st =>
 qb (q_load st true 4 v1) fun v4 =>
 callK prog n_impl_fresh [] st (fun v3 st =>
 q_load st true 4 v1 = some v4 ∧ (callK prog n_impl_looker_simple [v3, v4] st (fun v5 st =>
 retR R v5 st) (panR R))) (panR R)
theorem c_impl_SimpleOK {a0 : PV} {st : St} {R : Res → St → Prop} (h : b_impl_SimpleOK a0 st R) : HCalls prog n_impl_SimpleOK [a0] st R :=
 hcalls_of_func tyOK mixed (fn := Go.Proofs.Tryz.f60) (by kernel_rfl) (by kernel_rfl) (by kernel_rfl) (ann := [])
  (show hFunc prog TT [] Go.Proofs.Tryz.f60 [a0] st R from (show hFunc prog TT [] Go.Proofs.Tryz.f60 [a0] st R = b_impl_SimpleOK a0 st R by kernel_rfl) ▸ h)
def b_impl_treeOK (a0 : PV) (st : St) (R : Res → St → Prop) : Prop :=
 e_box st a0 fun v1 st =>
 qb (q_load st true 4 v1) fun v3 =>
 callK prog n_impl_TermOK [v3] st (fun v4 st =>
 cb v4 fun b => br b
  (retR R (.bool true) st)
  (qb (q_load st true 4 v1) fun v6 =>
  callK prog n_impl_FamilyOK [v6] st (fun v7 st =>
  cb v7 fun b_1 => br b_1
   (retR R (.bool true) st)
   (qb (q_load st true 4 v1) fun v10 =>
   callK prog n_impl_KindOK [v10] st (fun v11 st =>
   retR R v11 st) (panR R))) (panR R))) (panR R)
theorem c_impl_treeOK {a0 : PV} {st : St} {R : Res → St → Prop} (h : b_impl_treeOK a0 st R) : HCalls prog n_impl_treeOK [a0] st R :=
 hcalls_of_func tyOK mixed (fn := Go.Proofs.Tryz.f61) (by kernel_rfl) (by kernel_rfl) (by kernel_rfl) (ann := [])
  (show hFunc prog TT [] Go.Proofs.Tryz.f61 [a0] st R from (show hFunc prog TT [] Go.Proofs.Tryz.f61 [a0] st R = b_impl_treeOK a0 st R by kernel_rfl) ▸ h)
def b_impl_result (a0 : PV) (st : St) (R : Res → St → Prop) : Prop :=
 e_box st a0 fun v1 st =>
 e_alloc st [.int .i64 0, .int .i64 0, .str [], .sl 0 true []] fun v2 st =>
 qb (q_struct [.int .i64 0, .int .i64 0, .str [], .sl 0 true []] []) fun v6 =>
 e_alloc st [.int .i64 0, .int .i64 0, .str [], .sl 0 true []] fun v4 st =>
 e_store st 4 v4 v6 fun st =>
 callK prog n_impl_caught [(.fn (.func n_impl_result_1) [] [v1, v4])] st (fun v8 st =>
 e_alloc st [.int .i64 0, .int .i64 0] fun v5 st =>
 e_store st 2 v5 v8 fun st =>
 qb (q_fa 0 v5) fun v9 =>
 qb (q_load st false 1 v9) fun v10 =>
 qb (q_bin .neq v10 (.int .i64 0)) fun v11 =>
 cb v11 fun b => br b
  (qb (q_struct [.int .i64 0, .int .i64 0, .str [], .sl 0 true []] []) fun v12 =>
  qb (q_fa 0 v5) fun v13 =>
  qb (q_load st false 1 v13) fun v14 =>
  e_store st 4 v2 v12 fun st =>
  q_load st false 1 v13 = some v14 ∧ (qb (q_load st true 4 v2) fun r => retR R (.tup [r, v14]) st))
  (qb (q_load st true 4 v4) fun v15 =>
  callK prog n_impl_clone [v15] st (fun v16 st =>
  e_store st 4 v2 v16 fun st =>
  qb (q_load st true 4 v2) fun r_1 => retR R (.tup [r_1, (.int .i64 0)]) st) (panR R))) (panR R)
theorem c_impl_result {a0 : PV} {st : St} {R : Res → St → Prop} (h : b_impl_result a0 st R) : HCalls prog n_impl_result [a0] st R :=
 hcalls_of_func tyOK mixed (fn := Go.Proofs.Tryz.f62) (by kernel_rfl) (by kernel_rfl) (by kernel_rfl) (ann := [])
  (show hFunc prog TT [] Go.Proofs.Tryz.f62 [a0] st R from (show hFunc prog TT [] Go.Proofs.Tryz.f62 [a0] st R = b_impl_result a0 st R by kernel_rfl) ▸ h)
end Go.H.Tryz
