/- Part of a proof that the program answers as the reference does: ZFS0. -/
import Derived.Test.YtakcoedklmoboaaGreatDoorHT
/- MADE BY PROGRAM (hgen.py): what the functions compute, over pure values. -/
set_option linter.unusedVariables false
set_option maxRecDepth 100000
namespace Go.H.Tryz
open Go Go.H
def b_laws_FnCut (a0 : PV) (st : St) (R : Res → St → Prop) : Prop :=
 qb (q_len a0) fun v28 =>
 qb (q_bin .gtr v28 (.int .i64 1048576)) fun v29 =>
 cb v29 fun b => br b
  (retR R (.bool true) st)
  (callK prog n_spec_CutOf [a0] st (fun v32 st =>
  qb (q_ex v32 0) fun v33 =>
  qb (q_ex v32 1) fun v34 =>
  qb (q_ex v32 2) fun v35 =>
  e_alloc st [.int .i64 0, .int .i64 0, .sl 0 true [], .sl 0 true []] fun v4 st =>
  e_alloc st [.int .i64 0, .int .i64 0, .sl 0 true [], .sl 0 true []] fun v5 st =>
  e_store st 4 v4 v34 fun st =>
  e_store st 4 v5 v35 fun st =>
  qb (q_load st true 4 v4) fun v36 =>
  callK prog n_spec_ProofOK [v36] st (fun v37 st =>
  qb (q_un .not v37) fun v38 =>
  cb v38 fun b_1 => br b_1
   (retR R (.bool true) st)
   (qb (q_load st true 4 v5) fun v40 =>
   callK prog n_spec_ProofOK [v40] st (fun v41 st =>
   qb (q_un .not v41) fun v42 =>
   cb v42 fun b_2 => br b_2
    (retR R (.bool true) st)
    (qb (q_load st true 4 v4) fun v46 =>
    callK prog n_impl_Proves [v33, v46] st (fun v47 st =>
    qb (q_ex v47 0) fun v48 =>
    qb (q_ex v47 1) fun v49 =>
    qb (q_ex v47 2) fun v50 =>
    e_alloc st [.int .i64 0, .int .i64 0, .sl 0 true []] fun v6 st =>
    e_store st 3 v6 v48 fun st =>
    hJ (fun ls st =>
     qb (q_load st true 4 v4) fun v65 =>
     qb (q_load st true 4 v5) fun v66 =>
     callK prog n_impl_CutProof [v33, v65, v66] st (fun v67 st =>
     qb (q_ex v67 0) fun v68 =>
     qb (q_ex v67 1) fun v69 =>
     e_alloc st [.int .i64 0, .int .i64 0, .sl 0 true [], .sl 0 true []] fun v12 st =>
     e_store st 4 v12 v68 fun st =>
     qb (q_load st true 4 v4) fun v72 =>
     qb (q_load st true 4 v5) fun v73 =>
     callK prog n_spec_CutProof [v33, v72, v73] st (fun v74 st =>
     qb (q_ex v74 0) fun v75 =>
     qb (q_ex v74 1) fun v76 =>
     e_alloc st [.int .i64 0, .int .i64 0, .sl 0 true [], .sl 0 true []] fun v14 st =>
     e_store st 4 v14 v75 fun st =>
     qb (q_bin .neq v69 v76) fun v79 =>
     cb v79 fun b_3 => br b_3
      (retR R (.bool false) st)
      (qb (q_load st true 4 v12) fun v81 =>
      qb (q_load st true 4 v14) fun v82 =>
      callK prog n_laws_sameProof [v81, v82] st (fun v83 st =>
      qb (q_un .not v83) fun v84 =>
      cb v84 fun b_4 => br b_4
       (retR R (.bool false) st)
       (qb (q_bin .neq v49 (.int .i64 0)) fun v87 =>
       cb v87 fun b_5 => br b_5
        (retR R (.bool false) st)
        (qb (q_bin .neq (ls.getD 1 .junk) (.int .i64 0)) fun v90 =>
        cb v90 fun b_6 => br b_6
         (retR R (.bool false) st)
         (callK prog n_laws_full [v69] st (fun v93 st =>
         cb v93 fun b_7 => br b_7
          (retR R (.bool true) st)
          (qb (q_load st true 4 v12) fun v96 =>
          callK prog n_impl_Proves [v33, v96] st (fun v97 st =>
          qb (q_ex v97 0) fun v98 =>
          qb (q_ex v97 1) fun v99 =>
          qb (q_ex v97 2) fun v100 =>
          e_alloc st [.int .i64 0, .int .i64 0, .sl 0 true []] fun v16 st =>
          e_store st 3 v16 v98 fun st =>
          qb (q_bin .neq v69 (.int .i64 0)) fun v102 =>
          cb v102 fun b_8 => br b_8
           (retR R (.bool false) st)
           (qb (q_bin .neq v99 (.int .i64 0)) fun v105 =>
           cb v105 fun b_9 => br b_9
            (retR R (.bool false) st)
            (qb (q_load st true 3 (ls.getD 0 .junk)) fun v108 =>
            qb (q_load st true 3 v16) fun v109 =>
            callK prog n_laws_sameForm [v108, v109] st (fun v110 st =>
            qb (q_un .not v110) fun v111 =>
            cb v111 fun b_10 => br b_10
             (retR R (.bool false) st)
             (qb (q_load st true 4 v4) fun v114 =>
             callK prog n_impl_EncodeProof [v114] st (fun v115 st =>
             qb (q_ex v115 0) fun v116 =>
             qb (q_ex v115 1) fun v117 =>
             e_alloc st [.int .i64 0, .int .i64 0, .str [], .sl 0 true []] fun v19 st =>
             e_store st 4 v19 v116 fun st =>
             qb (q_load st true 4 v5) fun v119 =>
             callK prog n_impl_EncodeProof [v119] st (fun v120 st =>
             qb (q_ex v120 0) fun v121 =>
             qb (q_ex v120 1) fun v122 =>
             e_alloc st [.int .i64 0, .int .i64 0, .str [], .sl 0 true []] fun v21 st =>
             e_store st 4 v21 v121 fun st =>
             qb (q_load st true 4 v12) fun v124 =>
             callK prog n_impl_EncodeProof [v124] st (fun v125 st =>
             qb (q_ex v125 0) fun v126 =>
             qb (q_ex v125 1) fun v127 =>
             e_alloc st [.int .i64 0, .int .i64 0, .str [], .sl 0 true []] fun v23 st =>
             e_store st 4 v23 v126 fun st =>
             callK prog n_laws_full [v117] st (fun v129 st =>
             cb v129 fun b_11 => br b_11
              (retR R (.bool true) st)
              (callK prog n_laws_full [v122] st (fun v132 st =>
              cb v132 fun b_12 => br b_12
               (retR R (.bool true) st)
               (callK prog n_laws_full [v127] st (fun v136 st =>
               cb v136 fun b_13 => br b_13
                (retR R (.bool true) st)
                (qb (q_load st true 4 v19) fun v139 =>
                qb (q_struct [.int .i64 0, .int .i64 0, .str [], .sl 0 true []] [(0, 1, (.int .i64 9)), (2, 1, (.str [112, 102]))]) fun v140 =>
                qb (q_load st true 4 v21) fun v141 =>
                callK prog n_impl_Subst [v139, v140, v141] st (fun v142 st =>
                qb (q_ex v142 0) fun v143 =>
                qb (q_ex v142 1) fun v144 =>
                e_alloc st [.int .i64 0, .int .i64 0, .str [], .sl 0 true []] fun v25 st =>
                e_store st 4 v25 v143 fun st =>
                callK prog n_laws_full [v144] st (fun v146 st =>
                cb v146 fun b_14 => br b_14
                 (retR R (.bool true) st)
                 (qb (q_bin .eql v144 (.int .i64 0)) fun v149 =>
                 cb v149 fun b_15 => br b_15
                  (qb (q_load st true 4 v25) fun v151 =>
                  qb (q_load st true 4 v23) fun v152 =>
                  callK prog n_laws_same [v151, v152] st (fun v153 st =>
                  retR R v153 st) (panR R))
                  (retR R (.bool false) st))) (panR R)) (panR R))) (panR R))) (panR R))) (panR R)) (panR R)) (panR R)) (panR R))) (panR R)))) (panR R))) (panR R))))) (panR R))) (panR R)) (panR R))
     (fun k =>
    qb (q_lit 3 0 0 [] []) fun v52 =>
    qb (q_load st true 3 v6) fun v55 =>
    qb (q_lit 3 1 0 [] [(0, v55)]) fun v56 =>
    qb (q_load st true 4 v5) fun v58 =>
    (e_append st 3 40 v52 v33 (fun v54 st =>
    q_load st true 4 v5 = some v58 ∧ q_load st true 3 v6 = some v55 ∧ ((e_append st 3 40 v54 v56 (fun v57 st =>
    q_load st true 4 v5 = some v58 ∧ ((callK prog n_impl_Proves [v57, v58] st (fun v59 st =>
    qb (q_ex v59 0) fun v60 =>
    qb (q_ex v59 1) fun v61 =>
    qb (q_ex v59 2) fun v62 =>
    e_alloc st [.int .i64 0, .int .i64 0, .sl 0 true []] fun v9 st =>
    q_load st true 4 v5 = some v58 ∧ q_load st true 3 v6 = some v55 ∧ (e_store st 3 v9 v60 fun st =>
    k [v9, v61] st)) (panR R)) ∧
    (e_alloc st [.int .i64 0, .int .i64 0, .sl 0 true []] fun v9_1 st =>
    q_load st true 4 v5 = some v58 ∧ q_load st true 3 v6 = some v55 ∧ (callK prog n_impl_Proves [v57, v58] st (fun v59_1 st =>
    qb (q_ex v59_1 0) fun v60_1 =>
    qb (q_ex v59_1 1) fun v61_1 =>
    qb (q_ex v59_1 2) fun v62_1 =>
    e_store st 3 v9_1 v60_1 fun st =>
    k [v9_1, v61_1] st) (panR R)))))) ∧
    (e_alloc st [.int .i64 0, .int .i64 0, .sl 0 true []] fun v9_2 st =>
    q_load st true 4 v5 = some v58 ∧ q_load st true 3 v6 = some v55 ∧ (e_append st 3 40 v54 v56 (fun v57_1 st =>
    q_load st true 4 v5 = some v58 ∧ (callK prog n_impl_Proves [v57_1, v58] st (fun v59_2 st =>
    qb (q_ex v59_2 0) fun v60_2 =>
    qb (q_ex v59_2 1) fun v61_2 =>
    qb (q_ex v59_2 2) fun v62_2 =>
    e_store st 3 v9_2 v60_2 fun st =>
    k [v9_2, v61_2] st) (panR R)))))))) ∧
    (e_alloc st [.int .i64 0, .int .i64 0, .sl 0 true []] fun v9_3 st =>
    q_load st true 4 v5 = some v58 ∧ q_load st true 3 v6 = some v55 ∧ (e_append st 3 40 v52 v33 (fun v54_1 st =>
    q_load st true 4 v5 = some v58 ∧ q_load st true 3 v6 = some v55 ∧ (e_append st 3 40 v54_1 v56 (fun v57_2 st =>
    q_load st true 4 v5 = some v58 ∧ (callK prog n_impl_Proves [v57_2, v58] st (fun v59_3 st =>
    qb (q_ex v59_3 0) fun v60_3 =>
    qb (q_ex v59_3 1) fun v61_3 =>
    qb (q_ex v59_3 2) fun v62_3 =>
    e_store st 3 v9_3 v60_3 fun st =>
    k [v9_3, v61_3] st) (panR R))))))))) (panR R))) (panR R))) (panR R)) (panR R))
theorem c_laws_FnCut {a0 : PV} {st : St} {R : Res → St → Prop} (h : b_laws_FnCut a0 st R) : HCalls prog n_laws_FnCut [a0] st R :=
 hcalls_of_func tyOK mixed (fn := Go.Proofs.Tryz.f4) (by kernel_rfl) (by kernel_rfl) (by kernel_rfl) (ann := [(29, [9, 10])])
  (show hFunc prog TT [(29, [9, 10])] Go.Proofs.Tryz.f4 [a0] st R from (show hFunc prog TT [(29, [9, 10])] Go.Proofs.Tryz.f4 [a0] st R = b_laws_FnCut a0 st R by kernel_rfl) ▸ h)
def b_laws_sameForm (a0 a1 : PV) (st : St) (R : Res → St → Prop) : Prop :=
 e_box st a0 fun v2 st =>
 e_box st a1 fun v3 st =>
 qb (q_fa 0 v2) fun v6 =>
 qb (q_load st false 1 v6) fun v7 =>
 qb (q_fa 0 v3) fun v8 =>
 qb (q_load st false 1 v8) fun v9 =>
 qb (q_bin .neq v7 v9) fun v10 =>
 cb v10 fun b => br b
  (retR R (.bool false) st)
  (qb (q_fa 1 v2) fun v12 =>
  qb (q_load st false 1 v12) fun v13 =>
  qb (q_fa 1 v3) fun v14 =>
  qb (q_load st false 1 v14) fun v15 =>
  qb (q_bin .neq v13 v15) fun v16 =>
  cb v16 fun b_1 => br b_1
   (retR R (.bool false) st)
   (qb (q_fa 2 v2) fun v19 =>
   qb (q_load st false 1 v19) fun v20 =>
   qb (q_len v20) fun v21 =>
   qb (q_fa 2 v3) fun v22 =>
   qb (q_load st false 1 v22) fun v23 =>
   qb (q_len v23) fun v24 =>
   qb (q_bin .neq v21 v24) fun v25 =>
   cb v25 fun b_2 => br b_2
    (retR R (.bool false) st)
    (hFix (fun ls st X =>
     qb (q_fa 2 v2) fun v28 =>
     qb (q_load st false 1 v28) fun v29 =>
     qb (q_len v29) fun v30 =>
     qb (q_bin .lss (ls.getD 0 .junk) v30) fun v31 =>
     cb v31 fun b_3 => br b_3
      (qb (q_fa 2 v2) fun v34 =>
      qb (q_load st false 1 v34) fun v35 =>
      qb (q_ia 3 v35 (ls.getD 0 .junk)) fun v37 =>
      qb (q_load st true 3 v37) fun v38 =>
      qb (q_fa 2 v3) fun v39 =>
      qb (q_load st false 1 v39) fun v40 =>
      qb (q_ia 3 v40 (ls.getD 0 .junk)) fun v42 =>
      qb (q_load st true 3 v42) fun v43 =>
      callK prog n_laws_sameForm [v38, v43] st (fun v44 st =>
      qb (q_un .not v44) fun v45 =>
      cb v45 fun b_4 => br b_4
       (retR R (.bool false) st)
       (qb (q_bin .add (ls.getD 0 .junk) (.int .i64 1)) fun v33 =>
       X [v33] st)) (panR R))
      (retR R (.bool true) st))
     [(.int .i64 0)] st)))
theorem c_laws_sameForm {a0 a1 : PV} {st : St} {R : Res → St → Prop} (h : b_laws_sameForm a0 a1 st R) : HCalls prog n_laws_sameForm [a0, a1] st R :=
 hcalls_of_func tyOK mixed (fn := Go.Proofs.Tryz.f10) (by kernel_rfl) (by kernel_rfl) (by kernel_rfl) (ann := [(16, [5])])
  (show hFunc prog TT [(16, [5])] Go.Proofs.Tryz.f10 [a0, a1] st R from (show hFunc prog TT [(16, [5])] Go.Proofs.Tryz.f10 [a0, a1] st R = b_laws_sameForm a0 a1 st R by kernel_rfl) ▸ h)
def b_laws_full (a0 : PV) (st : St) (R : Res → St → Prop) : Prop :=
 qb (q_bin .eql a0 (.int .i64 11)) fun v4 =>
 cb v4 fun b => br b
  (retR R (.bool true) st)
  (qb (q_bin .eql a0 (.int .i64 17)) fun v7 =>
  retR R v7 st)
theorem c_laws_full {a0 : PV} {st : St} {R : Res → St → Prop} (h : b_laws_full a0 st R) : HCalls prog n_laws_full [a0] st R :=
 hcalls_of_func tyOK mixed (fn := Go.Proofs.Tryz.f11) (by kernel_rfl) (by kernel_rfl) (by kernel_rfl) (ann := [])
  (show hFunc prog TT [] Go.Proofs.Tryz.f11 [a0] st R from (show hFunc prog TT [] Go.Proofs.Tryz.f11 [a0] st R = b_laws_full a0 st R by kernel_rfl) ▸ h)
def b_spec_CutOf (a0 : PV) (st : St) (R : Res → St → Prop) : Prop :=
 e_alloc st [.int .i64 0, .int .i64 0, .sl 0 true [], .sl 0 true []] fun v3 st =>
 e_alloc st [.int .i64 0, .int .i64 0, .sl 0 true [], .sl 0 true []] fun v4 st =>
 callK prog n_spec_l00Source [a0] st (fun v12 st =>
 callK prog n_spec_l00Src_hyps [v12] st (fun v14 st =>
 callK prog n_spec_l00Src_next [v12, (.int .i64 4)] st (fun v19 st =>
 callK prog n_spec_l00Src_proof [v12, v14, v19] st (fun v20 st =>
 qb (q_ex v20 0) fun v21 =>
 qb (q_ex v20 1) fun v22 =>
 e_alloc st [.int .i64 0, .int .i64 0, .sl 0 true [], .sl 0 true []] fun v7 st =>
 e_alloc st [.int .i64 0, .int .i64 0, .sl 0 true []] fun v8 st =>
 e_store st 4 v7 v21 fun st =>
 e_store st 3 v8 v22 fun st =>
 qb (q_load st true 3 v8) fun v26 =>
 callK prog n_spec_l08More [v14, v26] st (fun v27 st =>
 callK prog n_spec_l00Src_next [v12, (.int .i64 4)] st (fun v29 st =>
 callK prog n_spec_l00Src_proof [v12, v27, v29] st (fun v30 st =>
 qb (q_ex v30 0) fun v31 =>
 qb (q_ex v30 1) fun v32 =>
 e_alloc st [.int .i64 0, .int .i64 0, .sl 0 true [], .sl 0 true []] fun v9 st =>
 e_alloc st [.int .i64 0, .int .i64 0, .sl 0 true []] fun v10 st =>
 e_store st 4 v9 v31 fun st =>
 e_store st 3 v10 v32 fun st =>
 qb (q_load st true 4 v7) fun v34 =>
 qb (q_load st true 4 v9) fun v35 =>
 e_store st 4 v3 v34 fun st =>
 q_load st true 4 v9 = some v35 ∧ (e_store st 4 v4 v35 fun st =>
 qb (q_load st true 4 v3) fun r => qb (q_load st true 4 v4) fun r_1 => retR R (.tup [v14, r, r_1]) st)) (panR R)) (panR R)) (panR R)) (panR R)) (panR R)) (panR R)) (panR R)
theorem c_spec_CutOf {a0 : PV} {st : St} {R : Res → St → Prop} (h : b_spec_CutOf a0 st R) : HCalls prog n_spec_CutOf [a0] st R :=
 hcalls_of_func tyOK mixed (fn := Go.Proofs.Tryz.f12) (by kernel_rfl) (by kernel_rfl) (by kernel_rfl) (ann := [])
  (show hFunc prog TT [] Go.Proofs.Tryz.f12 [a0] st R from (show hFunc prog TT [] Go.Proofs.Tryz.f12 [a0] st R = b_spec_CutOf a0 st R by kernel_rfl) ▸ h)
def b_spec_ProofOK (a0 : PV) (st : St) (R : Res → St → Prop) : Prop :=
 e_box st a0 fun v1 st =>
 qb (q_load st true 4 v1) fun v3 =>
 callK prog n_spec_l08Count [v3, (.int .i64 150)] st (fun v4 st =>
 qb (q_bin .geq v4 (.int .i64 0)) fun v5 =>
 cb v5 fun b => br b
  (qb (q_load st true 4 v1) fun v7 =>
  callK prog n_spec_l08Proof [v7] st (fun v8 st =>
  retR R v8 st) (panR R))
  (retR R (.bool false) st)) (panR R)
theorem c_spec_ProofOK {a0 : PV} {st : St} {R : Res → St → Prop} (h : b_spec_ProofOK a0 st R) : HCalls prog n_spec_ProofOK [a0] st R :=
 hcalls_of_func tyOK mixed (fn := Go.Proofs.Tryz.f13) (by kernel_rfl) (by kernel_rfl) (by kernel_rfl) (ann := [])
  (show hFunc prog TT [] Go.Proofs.Tryz.f13 [a0] st R from (show hFunc prog TT [] Go.Proofs.Tryz.f13 [a0] st R = b_spec_ProofOK a0 st R by kernel_rfl) ▸ h)
def b_impl_Proves (a0 a1 : PV) (st : St) (R : Res → St → Prop) : Prop :=
 e_box st a0 fun v2 st =>
 e_box st a1 fun v3 st =>
 e_alloc st [.int .i64 0, .int .i64 0, .sl 0 true []] fun v4 st =>
 qb (q_load st false 1 v2) fun v10 =>
 qb (q_len v10) fun v11 =>
 qb (q_lit 1 1 0 [] [(0, v11)]) fun v12 =>
 callK prog n_impl_longLists [v12] st (fun v13 st =>
 cb v13 fun b => br b
  (qb (q_struct [.int .i64 0, .int .i64 0, .sl 0 true []] []) fun v14 =>
  e_store st 3 v4 v14 fun st =>
  qb (q_load st true 3 v4) fun r => retR R (.tup [r, (.int .i64 2), (.int .i64 0)]) st)
  (hJ (fun ls st =>
   cb (ls.getD 0 .junk) fun b_1 => br b_1
    (qb (q_struct [.int .i64 0, .int .i64 0, .sl 0 true []] []) fun v24 =>
    e_store st 3 v4 v24 fun st =>
    qb (q_load st true 3 v4) fun r_1 => retR R (.tup [r_1, (.int .i64 1), (.int .i64 0)]) st)
    (qb (q_struct [.int .i64 0, .int .i64 0, .sl 0 true []] []) fun v25 =>
    e_alloc st [.int .i64 0, .int .i64 0, .sl 0 true []] fun v7 st =>
    e_store st 3 v7 v25 fun st =>
    callK prog n_impl_caught [(.fn (.func n_impl_Proves_1) [] [v2, v3, v7])] st (fun v27 st =>
    e_alloc st [.int .i64 0, .int .i64 0] fun v8 st =>
    e_store st 2 v8 v27 fun st =>
    qb (q_fa 0 v8) fun v28 =>
    qb (q_load st false 1 v28) fun v29 =>
    qb (q_bin .neq v29 (.int .i64 0)) fun v30 =>
    cb v30 fun b_2 => br b_2
     (qb (q_struct [.int .i64 0, .int .i64 0, .sl 0 true []] []) fun v31 =>
     qb (q_fa 0 v8) fun v32 =>
     qb (q_load st false 1 v32) fun v33 =>
     qb (q_fa 1 v8) fun v34 =>
     qb (q_load st false 1 v34) fun v35 =>
     e_store st 3 v4 v31 fun st =>
     q_load st false 1 v34 = some v35 ∧ q_load st false 1 v32 = some v33 ∧ (qb (q_load st true 3 v4) fun r_2 => retR R (.tup [r_2, v33, v35]) st))
     (qb (q_load st true 3 v7) fun v36 =>
     callK prog n_impl_cloneForm [v36] st (fun v37 st =>
     e_store st 3 v4 v37 fun st =>
     qb (q_load st true 3 v4) fun r_3 => retR R (.tup [r_3, (.int .i64 0), (.int .i64 0)]) st) (panR R))) (panR R)))
   (fun k =>
  qb (q_load st false 1 v2) fun v16 =>
  callK prog n_impl_hypsOK [v16] st (fun v17 st =>
  qb (q_un .not v17) fun v18 =>
  cb v18 fun b_3 => br b_3
   (k [(.bool true)] st)
   (qb (q_load st true 4 v3) fun v20 =>
   callK prog n_impl_ProofOK [v20] st (fun v21 st =>
   qb (q_un .not v21) fun v22 =>
   k [v22] st) (panR R))) (panR R)))) (panR R)
theorem c_impl_Proves {a0 a1 : PV} {st : St} {R : Res → St → Prop} (h : b_impl_Proves a0 a1 st R) : HCalls prog n_impl_Proves [a0, a1] st R :=
 hcalls_of_func tyOK mixed (fn := Go.Proofs.Tryz.f14) (by kernel_rfl) (by kernel_rfl) (by kernel_rfl) (ann := [(13, [15])])
  (show hFunc prog TT [(13, [15])] Go.Proofs.Tryz.f14 [a0, a1] st R from (show hFunc prog TT [(13, [15])] Go.Proofs.Tryz.f14 [a0, a1] st R = b_impl_Proves a0 a1 st R by kernel_rfl) ▸ h)
def b_impl_CutProof (a0 a1 a2 : PV) (st : St) (R : Res → St → Prop) : Prop :=
 e_box st a0 fun v3 st =>
 e_box st a1 fun v4 st =>
 e_box st a2 fun v5 st =>
 e_alloc st [.int .i64 0, .int .i64 0, .sl 0 true [], .sl 0 true []] fun v6 st =>
 qb (q_load st false 1 v3) fun v11 =>
 qb (q_len v11) fun v12 =>
 qb (q_lit 1 1 0 [] [(0, v12)]) fun v13 =>
 callK prog n_impl_longLists [v13] st (fun v14 st =>
 cb v14 fun b => br b
  (qb (q_struct [.int .i64 0, .int .i64 0, .sl 0 true [], .sl 0 true []] []) fun v15 =>
  e_store st 4 v6 v15 fun st =>
  qb (q_load st true 4 v6) fun r => retR R (.tup [r, (.int .i64 2)]) st)
  (hJ (fun ls st =>
   cb (ls.getD 0 .junk) fun b_1 => br b_1
    (qb (q_struct [.int .i64 0, .int .i64 0, .sl 0 true [], .sl 0 true []] []) fun v30 =>
    e_store st 4 v6 v30 fun st =>
    qb (q_load st true 4 v6) fun r_1 => retR R (.tup [r_1, (.int .i64 1)]) st)
    (callK prog n_impl_caught [(.fn (.func n_impl_CutProof_1) [] [v3, v4, v5])] st (fun v32 st =>
    e_alloc st [.int .i64 0, .int .i64 0] fun v8 st =>
    e_store st 2 v8 v32 fun st =>
    qb (q_fa 0 v8) fun v33 =>
    qb (q_load st false 1 v33) fun v34 =>
    qb (q_bin .neq v34 (.int .i64 0)) fun v35 =>
    cb v35 fun b_2 => br b_2
     (qb (q_struct [.int .i64 0, .int .i64 0, .sl 0 true [], .sl 0 true []] []) fun v36 =>
     qb (q_fa 0 v8) fun v37 =>
     qb (q_load st false 1 v37) fun v38 =>
     e_store st 4 v6 v36 fun st =>
     q_load st false 1 v37 = some v38 ∧ (qb (q_load st true 4 v6) fun r_2 => retR R (.tup [r_2, v38]) st))
     (qb (q_load st true 4 v5) fun v39 =>
     callK prog n_impl_Proof_moved [v39, (.int .i64 0), (.fn (.func n_impl_CutProof_2) [] [v4])] st (fun v41 st =>
     e_alloc st [.int .i64 0, .int .i64 0, .sl 0 true [], .sl 0 true []] fun v9 st =>
     e_store st 4 v9 v41 fun st =>
     qb (q_load st true 4 v9) fun v42 =>
     callK prog n_impl_ProofOK [v42] st (fun v43 st =>
     qb (q_un .not v43) fun v44 =>
     cb v44 fun b_3 => br b_3
      (qb (q_struct [.int .i64 0, .int .i64 0, .sl 0 true [], .sl 0 true []] []) fun v45 =>
      e_store st 4 v6 v45 fun st =>
      qb (q_load st true 4 v6) fun r_3 => retR R (.tup [r_3, (.int .i64 11)]) st)
      (qb (q_load st true 4 v9) fun v46 =>
      e_store st 4 v6 v46 fun st =>
      qb (q_load st true 4 v6) fun r_4 => retR R (.tup [r_4, (.int .i64 0)]) st)) (panR R)) (panR R))) (panR R)))
   (fun k =>
  qb (q_load st false 1 v3) fun v17 =>
  callK prog n_impl_hypsOK [v17] st (fun v18 st =>
  qb (q_un .not v18) fun v19 =>
  cb v19 fun b_4 => br b_4
   (k [(.bool true)] st)
   (qb (q_load st true 4 v4) fun v21 =>
   callK prog n_impl_ProofOK [v21] st (fun v22 st =>
   qb (q_un .not v22) fun v23 =>
   cb v23 fun b_5 => br b_5
    (k [(.bool true)] st)
    (qb (q_load st true 4 v5) fun v26 =>
    callK prog n_impl_ProofOK [v26] st (fun v27 st =>
    qb (q_un .not v27) fun v28 =>
    k [v28] st) (panR R))) (panR R))) (panR R)))) (panR R)
theorem c_impl_CutProof {a0 a1 a2 : PV} {st : St} {R : Res → St → Prop} (h : b_impl_CutProof a0 a1 a2 st R) : HCalls prog n_impl_CutProof [a0, a1, a2] st R :=
 hcalls_of_func tyOK mixed (fn := Go.Proofs.Tryz.f15) (by kernel_rfl) (by kernel_rfl) (by kernel_rfl) (ann := [(13, [16])])
  (show hFunc prog TT [(13, [16])] Go.Proofs.Tryz.f15 [a0, a1, a2] st R from (show hFunc prog TT [(13, [16])] Go.Proofs.Tryz.f15 [a0, a1, a2] st R = b_impl_CutProof a0 a1 a2 st R by kernel_rfl) ▸ h)
def b_spec_CutProof (a0 a1 a2 : PV) (st : St) (R : Res → St → Prop) : Prop :=
 e_box st a1 fun v4 st =>
 e_box st a2 fun v5 st =>
 e_alloc st [.int .i64 0, .int .i64 0, .sl 0 true [], .sl 0 true []] fun v6 st =>
 qb (q_len a0) fun v13 =>
 qb (q_bin .gtr v13 (.int .i64 4096)) fun v14 =>
 cb v14 fun b => br b
  (qb (q_struct [.int .i64 0, .int .i64 0, .sl 0 true [], .sl 0 true []] []) fun v15 =>
  e_store st 4 v6 v15 fun st =>
  qb (q_load st true 4 v6) fun r => retR R (.tup [r, (.int .i64 2)]) st)
  (hJ (fun ls st =>
   cb (ls.getD 0 .junk) fun b_1 => br b_1
    (qb (q_struct [.int .i64 0, .int .i64 0, .sl 0 true [], .sl 0 true []] []) fun v29 =>
    e_store st 4 v6 v29 fun st =>
    qb (q_load st true 4 v6) fun r_1 => retR R (.tup [r_1, (.int .i64 1)]) st)
    (qb (q_load st true 4 v4) fun v32 =>
    callK prog n_spec_l08Proves [a0, v32, (.int .i64 0)] st (fun v33 st =>
    qb (q_ex v33 0) fun v34 =>
    qb (q_ex v33 1) fun v35 =>
    qb (q_ex v33 2) fun v36 =>
    e_alloc st [.int .i64 0, .int .i64 0, .sl 0 true []] fun v8 st =>
    e_store st 3 v8 v34 fun st =>
    qb (q_bin .neq v35 (.int .i64 0)) fun v38 =>
    cb v38 fun b_2 => br b_2
     (qb (q_struct [.int .i64 0, .int .i64 0, .sl 0 true [], .sl 0 true []] []) fun v39 =>
     e_store st 4 v6 v39 fun st =>
     qb (q_load st true 4 v6) fun r_2 => retR R (.tup [r_2, v35]) st)
     (qb (q_load st true 3 v8) fun v43 =>
     qb (q_load st true 4 v5) fun v45 =>
     callK prog n_spec_l08More [a0, v43] st (fun v44 st =>
     q_load st true 4 v5 = some v45 ∧ (callK prog n_spec_l08Proves [v44, v45, (.int .i64 0)] st (fun v46 st =>
     qb (q_ex v46 0) fun v47 =>
     qb (q_ex v46 1) fun v48 =>
     qb (q_ex v46 2) fun v49 =>
     qb (q_bin .neq v48 (.int .i64 0)) fun v51 =>
     cb v51 fun b_3 => br b_3
      (qb (q_struct [.int .i64 0, .int .i64 0, .sl 0 true [], .sl 0 true []] []) fun v52 =>
      e_store st 4 v6 v52 fun st =>
      qb (q_load st true 4 v6) fun r_3 => retR R (.tup [r_3, v48]) st)
      (qb (q_load st true 4 v4) fun v54 =>
      qb (q_load st true 4 v5) fun v55 =>
      callK prog n_spec_l08Cut [v54, v55, (.int .i64 0)] st (fun v56 st =>
      e_alloc st [.int .i64 0, .int .i64 0, .sl 0 true [], .sl 0 true []] fun v11 st =>
      e_store st 4 v11 v56 fun st =>
      qb (q_load st true 4 v11) fun v57 =>
      callK prog n_spec_ProofOK [v57] st (fun v58 st =>
      qb (q_un .not v58) fun v59 =>
      cb v59 fun b_4 => br b_4
       (qb (q_struct [.int .i64 0, .int .i64 0, .sl 0 true [], .sl 0 true []] []) fun v60 =>
       e_store st 4 v6 v60 fun st =>
       qb (q_load st true 4 v6) fun r_4 => retR R (.tup [r_4, (.int .i64 11)]) st)
       (qb (q_load st true 4 v11) fun v61 =>
       e_store st 4 v6 v61 fun st =>
       qb (q_load st true 4 v6) fun r_5 => retR R (.tup [r_5, (.int .i64 0)]) st)) (panR R)) (panR R))) (panR R))) (panR R))) (panR R)))
   (fun k =>
  callK prog n_spec_l08Hyps [a0] st (fun v17 st =>
  qb (q_un .not v17) fun v18 =>
  cb v18 fun b_5 => br b_5
   (k [(.bool true)] st)
   (qb (q_load st true 4 v4) fun v20 =>
   callK prog n_spec_ProofOK [v20] st (fun v21 st =>
   qb (q_un .not v21) fun v22 =>
   cb v22 fun b_6 => br b_6
    (k [(.bool true)] st)
    (qb (q_load st true 4 v5) fun v25 =>
    callK prog n_spec_ProofOK [v25] st (fun v26 st =>
    qb (q_un .not v26) fun v27 =>
    k [v27] st) (panR R))) (panR R))) (panR R)))
theorem c_spec_CutProof {a0 a1 a2 : PV} {st : St} {R : Res → St → Prop} (h : b_spec_CutProof a0 a1 a2 st R) : HCalls prog n_spec_CutProof [a0, a1, a2] st R :=
 hcalls_of_func tyOK mixed (fn := Go.Proofs.Tryz.f16) (by kernel_rfl) (by kernel_rfl) (by kernel_rfl) (ann := [(13, [28])])
  (show hFunc prog TT [(13, [28])] Go.Proofs.Tryz.f16 [a0, a1, a2] st R from (show hFunc prog TT [(13, [28])] Go.Proofs.Tryz.f16 [a0, a1, a2] st R = b_spec_CutProof a0 a1 a2 st R by kernel_rfl) ▸ h)
def b_laws_sameProof (a0 a1 : PV) (st : St) (R : Res → St → Prop) : Prop :=
 e_box st a0 fun v2 st =>
 e_box st a1 fun v3 st =>
 qb (q_fa 0 v2) fun v7 =>
 qb (q_load st false 1 v7) fun v8 =>
 qb (q_fa 0 v3) fun v9 =>
 qb (q_load st false 1 v9) fun v10 =>
 qb (q_bin .neq v8 v10) fun v11 =>
 cb v11 fun b => br b
  (retR R (.bool false) st)
  (qb (q_fa 1 v2) fun v13 =>
  qb (q_load st false 1 v13) fun v14 =>
  qb (q_fa 1 v3) fun v15 =>
  qb (q_load st false 1 v15) fun v16 =>
  qb (q_bin .neq v14 v16) fun v17 =>
  cb v17 fun b_1 => br b_1
   (retR R (.bool false) st)
   (qb (q_fa 2 v2) fun v20 =>
   qb (q_load st false 1 v20) fun v21 =>
   qb (q_len v21) fun v22 =>
   qb (q_fa 2 v3) fun v23 =>
   qb (q_load st false 1 v23) fun v24 =>
   qb (q_len v24) fun v25 =>
   qb (q_bin .neq v22 v25) fun v26 =>
   cb v26 fun b_2 => br b_2
    (retR R (.bool false) st)
    (qb (q_fa 3 v2) fun v29 =>
    qb (q_load st false 1 v29) fun v30 =>
    qb (q_len v30) fun v31 =>
    qb (q_fa 3 v3) fun v32 =>
    qb (q_load st false 1 v32) fun v33 =>
    qb (q_len v33) fun v34 =>
    qb (q_bin .neq v31 v34) fun v35 =>
    cb v35 fun b_3 => br b_3
     (retR R (.bool false) st)
     (hFix (fun ls st X =>
      qb (q_fa 2 v2) fun v38 =>
      qb (q_load st false 1 v38) fun v39 =>
      qb (q_len v39) fun v40 =>
      qb (q_bin .lss (ls.getD 0 .junk) v40) fun v41 =>
      cb v41 fun b_4 => br b_4
       (qb (q_fa 2 v2) fun v44 =>
       qb (q_load st false 1 v44) fun v45 =>
       qb (q_ia 3 v45 (ls.getD 0 .junk)) fun v47 =>
       qb (q_load st true 3 v47) fun v48 =>
       qb (q_fa 2 v3) fun v49 =>
       qb (q_load st false 1 v49) fun v50 =>
       qb (q_ia 3 v50 (ls.getD 0 .junk)) fun v52 =>
       qb (q_load st true 3 v52) fun v53 =>
       callK prog n_laws_sameForm [v48, v53] st (fun v54 st =>
       qb (q_un .not v54) fun v55 =>
       cb v55 fun b_5 => br b_5
        (retR R (.bool false) st)
        (qb (q_bin .add (ls.getD 0 .junk) (.int .i64 1)) fun v43 =>
        X [v43] st)) (panR R))
       (hFix (fun ls_1 st X_1 =>
        qb (q_fa 3 v2) fun v57 =>
        qb (q_load st false 1 v57) fun v58 =>
        qb (q_len v58) fun v59 =>
        qb (q_bin .lss (ls_1.getD 0 .junk) v59) fun v60 =>
        cb v60 fun b_6 => br b_6
         (qb (q_fa 3 v2) fun v63 =>
         qb (q_load st false 1 v63) fun v64 =>
         qb (q_ia 4 v64 (ls_1.getD 0 .junk)) fun v66 =>
         qb (q_load st true 4 v66) fun v67 =>
         qb (q_fa 3 v3) fun v68 =>
         qb (q_load st false 1 v68) fun v69 =>
         qb (q_ia 4 v69 (ls_1.getD 0 .junk)) fun v71 =>
         qb (q_load st true 4 v71) fun v72 =>
         callK prog n_laws_sameProof [v67, v72] st (fun v73 st =>
         qb (q_un .not v73) fun v74 =>
         cb v74 fun b_7 => br b_7
          (retR R (.bool false) st)
          (qb (q_bin .add (ls_1.getD 0 .junk) (.int .i64 1)) fun v62 =>
          X_1 [v62] st)) (panR R))
         (retR R (.bool true) st))
        [(.int .i64 0)] st))
      [(.int .i64 0)] st))))
theorem c_laws_sameProof {a0 a1 : PV} {st : St} {R : Res → St → Prop} (h : b_laws_sameProof a0 a1 st R) : HCalls prog n_laws_sameProof [a0, a1] st R :=
 hcalls_of_func tyOK mixed (fn := Go.Proofs.Tryz.f17) (by kernel_rfl) (by kernel_rfl) (by kernel_rfl) (ann := [(36, [6]), (16, [5])])
  (show hFunc prog TT [(36, [6]), (16, [5])] Go.Proofs.Tryz.f17 [a0, a1] st R from (show hFunc prog TT [(36, [6]), (16, [5])] Go.Proofs.Tryz.f17 [a0, a1] st R = b_laws_sameProof a0 a1 st R by kernel_rfl) ▸ h)
def b_impl_EncodeProof (a0 : PV) (st : St) (R : Res → St → Prop) : Prop :=
 e_box st a0 fun v1 st =>
 e_alloc st [.int .i64 0, .int .i64 0, .str [], .sl 0 true []] fun v2 st =>
 qb (q_load st true 4 v1) fun v4 =>
 callK prog n_impl_ProofOK [v4] st (fun v5 st =>
 callK prog n_impl_encoded [v5, (.fn (.func n_impl_EncodeProof_1) [] [v1])] st (fun v7 st =>
 qb (q_ex v7 0) fun v8 =>
 qb (q_ex v7 1) fun v9 =>
 e_store st 4 v2 v8 fun st =>
 qb (q_load st true 4 v2) fun r => retR R (.tup [r, v9]) st) (panR R)) (panR R)
theorem c_impl_EncodeProof {a0 : PV} {st : St} {R : Res → St → Prop} (h : b_impl_EncodeProof a0 st R) : HCalls prog n_impl_EncodeProof [a0] st R :=
 hcalls_of_func tyOK mixed (fn := Go.Proofs.Tryz.f18) (by kernel_rfl) (by kernel_rfl) (by kernel_rfl) (ann := [])
  (show hFunc prog TT [] Go.Proofs.Tryz.f18 [a0] st R from (show hFunc prog TT [] Go.Proofs.Tryz.f18 [a0] st R = b_impl_EncodeProof a0 st R by kernel_rfl) ▸ h)
def b_impl_Subst (a0 a1 a2 : PV) (st : St) (R : Res → St → Prop) : Prop :=
 e_box st a0 fun v3 st =>
 e_box st a1 fun v4 st =>
 e_box st a2 fun v5 st =>
 e_alloc st [.int .i64 0, .int .i64 0, .str [], .sl 0 true []] fun v6 st =>
 hJ (fun ls st =>
  cb (ls.getD 0 .junk) fun b => br b
   (qb (q_struct [.int .i64 0, .int .i64 0, .str [], .sl 0 true []] []) fun v21 =>
   e_store st 4 v6 v21 fun st =>
   qb (q_load st true 4 v6) fun r => retR R (.tup [r, (.int .i64 1)]) st)
   (callK prog n_impl_result [(.fn (.func n_impl_Subst_1) [] [v3, v4, v5])] st (fun v23 st =>
   qb (q_ex v23 0) fun v24 =>
   qb (q_ex v23 1) fun v25 =>
   e_store st 4 v6 v24 fun st =>
   qb (q_load st true 4 v6) fun r_1 => retR R (.tup [r_1, v25]) st) (panR R)))
  (fun k =>
 qb (q_load st true 4 v3) fun v8 =>
 callK prog n_impl_TermOK [v8] st (fun v9 st =>
 qb (q_un .not v9) fun v10 =>
 cb v10 fun b_1 => br b_1
  (k [(.bool true)] st)
  (qb (q_load st true 4 v4) fun v12 =>
  callK prog n_impl_SimpleOK [v12] st (fun v13 st =>
  qb (q_un .not v13) fun v14 =>
  cb v14 fun b_2 => br b_2
   (k [(.bool true)] st)
   (qb (q_load st true 4 v5) fun v17 =>
   callK prog n_impl_treeOK [v17] st (fun v18 st =>
   qb (q_un .not v18) fun v19 =>
   k [v19] st) (panR R))) (panR R))) (panR R))
theorem c_impl_Subst {a0 a1 a2 : PV} {st : St} {R : Res → St → Prop} (h : b_impl_Subst a0 a1 a2 st R) : HCalls prog n_impl_Subst [a0, a1, a2] st R :=
 hcalls_of_func tyOK mixed (fn := Go.Proofs.Tryz.f19) (by kernel_rfl) (by kernel_rfl) (by kernel_rfl) (ann := [(5, [20])])
  (show hFunc prog TT [(5, [20])] Go.Proofs.Tryz.f19 [a0, a1, a2] st R from (show hFunc prog TT [(5, [20])] Go.Proofs.Tryz.f19 [a0, a1, a2] st R = b_impl_Subst a0 a1 a2 st R by kernel_rfl) ▸ h)
def b_laws_same (a0 a1 : PV) (st : St) (R : Res → St → Prop) : Prop :=
 e_box st a0 fun v2 st =>
 e_box st a1 fun v3 st =>
 qb (q_fa 0 v2) fun v6 =>
 qb (q_load st false 1 v6) fun v7 =>
 qb (q_fa 0 v3) fun v8 =>
 qb (q_load st false 1 v8) fun v9 =>
 qb (q_bin .neq v7 v9) fun v10 =>
 cb v10 fun b => br b
  (retR R (.bool false) st)
  (qb (q_fa 1 v2) fun v12 =>
  qb (q_load st false 1 v12) fun v13 =>
  qb (q_fa 1 v3) fun v14 =>
  qb (q_load st false 1 v14) fun v15 =>
  qb (q_bin .neq v13 v15) fun v16 =>
  cb v16 fun b_1 => br b_1
   (retR R (.bool false) st)
   (qb (q_fa 2 v2) fun v19 =>
   qb (q_load st false 1 v19) fun v20 =>
   qb (q_fa 2 v3) fun v21 =>
   qb (q_load st false 1 v21) fun v22 =>
   qb (q_bin .neq v20 v22) fun v23 =>
   cb v23 fun b_2 => br b_2
    (retR R (.bool false) st)
    (qb (q_fa 3 v2) fun v26 =>
    qb (q_load st false 1 v26) fun v27 =>
    qb (q_len v27) fun v28 =>
    qb (q_fa 3 v3) fun v29 =>
    qb (q_load st false 1 v29) fun v30 =>
    qb (q_len v30) fun v31 =>
    qb (q_bin .neq v28 v31) fun v32 =>
    cb v32 fun b_3 => br b_3
     (retR R (.bool false) st)
     (hFix (fun ls st X =>
      qb (q_fa 3 v2) fun v35 =>
      qb (q_load st false 1 v35) fun v36 =>
      qb (q_len v36) fun v37 =>
      qb (q_bin .lss (ls.getD 0 .junk) v37) fun v38 =>
      cb v38 fun b_4 => br b_4
       (qb (q_fa 3 v2) fun v41 =>
       qb (q_load st false 1 v41) fun v42 =>
       qb (q_ia 4 v42 (ls.getD 0 .junk)) fun v44 =>
       qb (q_load st true 4 v44) fun v45 =>
       qb (q_fa 3 v3) fun v46 =>
       qb (q_load st false 1 v46) fun v47 =>
       qb (q_ia 4 v47 (ls.getD 0 .junk)) fun v49 =>
       qb (q_load st true 4 v49) fun v50 =>
       callK prog n_laws_same [v45, v50] st (fun v51 st =>
       qb (q_un .not v51) fun v52 =>
       cb v52 fun b_5 => br b_5
        (retR R (.bool false) st)
        (qb (q_bin .add (ls.getD 0 .junk) (.int .i64 1)) fun v40 =>
        X [v40] st)) (panR R))
       (retR R (.bool true) st))
      [(.int .i64 0)] st))))
theorem e_laws_same : Enters prog n_laws_same := ⟨Go.Proofs.Tryz.f20, by kernel_rfl, by kernel_rfl, by kernel_rfl⟩
theorem c_laws_same {a0 a1 : PV} {st : St} {R : Res → St → Prop} (h : b_laws_same a0 a1 st R) : HCalls prog n_laws_same [a0, a1] st R :=
 hcalls_of_func tyOK mixed (fn := Go.Proofs.Tryz.f20) (by kernel_rfl) (by kernel_rfl) (by kernel_rfl) (ann := [(16, [5])])
  (show hFunc prog TT [(16, [5])] Go.Proofs.Tryz.f20 [a0, a1] st R from (show hFunc prog TT [(16, [5])] Go.Proofs.Tryz.f20 [a0, a1] st R = b_laws_same a0 a1 st R by kernel_rfl) ▸ h)
def b_spec_l00Source (a0 : PV) (st : St) (R : Res → St → Prop) : Prop :=
 qb (q_len a0) fun v5 =>
 qb (q_bin .rem v5 (.int .i64 1000)) fun v6 =>
 qb (q_struct [.sl 0 true [], .int .i64 0, .int .i64 0] [(0, 1, a0), (2, 1, v6)]) fun v7 =>
 e_box st v7 fun v8 st =>
 retR R v8 st
theorem c_spec_l00Source {a0 : PV} {st : St} {R : Res → St → Prop} (h : b_spec_l00Source a0 st R) : HCalls prog n_spec_l00Source [a0] st R :=
 hcalls_of_func tyOK mixed (fn := Go.Proofs.Tryz.f21) (by kernel_rfl) (by kernel_rfl) (by kernel_rfl) (ann := [])
  (show hFunc prog TT [] Go.Proofs.Tryz.f21 [a0] st R from (show hFunc prog TT [] Go.Proofs.Tryz.f21 [a0] st R = b_spec_l00Source a0 st R by kernel_rfl) ▸ h)
end Go.H.Tryz
