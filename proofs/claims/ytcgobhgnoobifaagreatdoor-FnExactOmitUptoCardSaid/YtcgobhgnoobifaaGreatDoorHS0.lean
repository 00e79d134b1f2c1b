/- Part of a proof that the program answers as the reference does: EDS0. -/
import Derived.Test.YtcgobhgnoobifaaGreatDoorHT
/- MADE BY PROGRAM (hgen.py): what the functions compute, over pure values. -/
set_option linter.unusedVariables false
set_option maxRecDepth 100000
namespace Go.H.Tryz
open Go Go.H
def b_laws_FnExactOmit (a0 a1 a2 : PV) (st : St) (R : Res → St → Prop) : Prop :=
 e_box st a1 fun v4 st =>
 qb (q_len a2) fun v21 =>
 qb (q_bin .gtr v21 (.int .i64 1048576)) fun v22 =>
 cb v22 fun b => br b
  (retR R (.bool true) st)
  (callK prog n_laws_szDeclS [a0, (.int .i64 1048576)] st (fun v25 st =>
  qb (q_bin .lss v25 (.int .i64 0)) fun v27 =>
  cb v27 fun b_1 => br b_1
   (retR R (.bool true) st)
   (qb (q_load st true 4 v4) fun v28 =>
   callK prog n_laws_szTree [v28, v25] st (fun v30 st =>
   qb (q_bin .lss v30 (.int .i64 0)) fun v32 =>
   cb v32 fun b_2 => br b_2
    (retR R (.bool true) st)
    (hJ (fun ls st =>
     callK prog n_laws_toDeclS [a0] st (fun v44 st =>
     qb (q_load st true 4 v4) fun v45 =>
     callK prog n_laws_toTree [v45] st (fun v46 st =>
     e_alloc st [.int .i64 0, .int .i64 0, .str [], .sl 0 true []] fun v11 st =>
     e_store st 4 v11 v46 fun st =>
     callK prog n_laws_toBoolS [a2] st (fun v48 st =>
     qb (q_load st true 4 v11) fun v51 =>
     callK prog n_impl_Omit [v44, v51, v48] st (fun v53 st =>
     qb (q_ex v53 0) fun v54 =>
     qb (q_ex v53 1) fun v55 =>
     e_alloc st [.int .i64 0, .int .i64 0, .str [], .sl 0 true []] fun v13 st =>
     e_store st 4 v13 v54 fun st =>
     qb (q_load st true 4 v13) fun v56 =>
     qb (q_load st true 4 (ls.getD 0 .junk)) fun v57 =>
     callK prog n_laws_eqTree [v56, v57] st (fun v58 st =>
     qb (q_un .not v58) fun v59 =>
     cb v59 fun b_3 => br b_3
      (retR R (.bool false) st)
      (qb (q_bin .neq v55 (ls.getD 1 .junk)) fun v63 =>
      cb v63 fun b_4 => br b_4
       (retR R (.bool false) st)
       (callK prog n_laws_toDeclS [a0] st (fun v67 st =>
       callK prog n_laws_eqDeclS [v44, v67] st (fun v68 st =>
       qb (q_un .not v68) fun v69 =>
       cb v69 fun b_5 => br b_5
        (retR R (.bool false) st)
        (qb (q_load st true 4 v11) fun v70 =>
        qb (q_load st true 4 v4) fun v71 =>
        callK prog n_laws_toTree [v71] st (fun v72 st =>
        q_load st true 4 v11 = some v70 ∧ (callK prog n_laws_eqTree [v70, v72] st (fun v73 st =>
        qb (q_un .not v73) fun v74 =>
        cb v74 fun b_6 => br b_6
         (retR R (.bool false) st)
         (callK prog n_laws_toBoolS [a2] st (fun v77 st =>
         callK prog n_laws_eqBoolS [v48, v77] st (fun v78 st =>
         qb (q_un .not v78) fun v79 =>
         cb v79 fun b_7 => br b_7
          (retR R (.bool false) st)
          (callK prog n_laws_markDeclS [v44, (.int .i64 1)] st (fun v82 st =>
          qb (q_load st true 4 v11) fun v83 =>
          callK prog n_laws_markTree [v83, v82] st (fun v85 st =>
          callK prog n_laws_markBoolS [v48, v85] st (fun v88 st =>
          qb (q_bin .lss v88 (.int .i64 0)) fun v90 =>
          cb v90 fun b_8 => br b_8
           (retR R (.bool false) st)
           (qb (q_load st true 4 v13) fun v92 =>
           qb (q_load st true 4 (ls.getD 0 .junk)) fun v93 =>
           callK prog n_laws_eqTree [v92, v93] st (fun v94 st =>
           qb (q_un .not v94) fun v95 =>
           cb v95 fun b_9 => br b_9
            (retR R (.bool false) st)
            (qb (q_bin .neq v55 (ls.getD 1 .junk)) fun v100 =>
            cb v100 fun b_10 => br b_10
             (retR R (.bool false) st)
             (qb (q_load st true 4 v13) fun v102 =>
             callK prog n_laws_markTree [v102, (.int .i64 1)] st (fun v104 st =>
             qb (q_load st true 4 v13) fun v105 =>
             callK prog n_laws_heldTree [v105, (.int .i64 1)] st (fun v107 st =>
             qb (q_bin .lss v107 (.int .i64 0)) fun v109 =>
             cb v109 fun b_11 => br b_11
              (retR R (.bool false) st)
              (qb (q_bin .neq v107 v104) fun v112 =>
              cb v112 fun b_12 => br b_12
               (retR R (.bool false) st)
               (hJ (fun ls_1 st =>
                qb (q_load st true 4 (ls_1.getD 0 .junk)) fun v123 =>
                qb (q_load st true 4 (ls.getD 0 .junk)) fun v124 =>
                callK prog n_laws_eqTree [v123, v124] st (fun v125 st =>
                qb (q_un .not v125) fun v126 =>
                cb v126 fun b_13 => br b_13
                 (retR R (.bool false) st)
                 (qb (q_bin .neq (ls_1.getD 1 .junk) (ls.getD 1 .junk)) fun v130 =>
                 cb v130 fun b_14 => br b_14
                  (retR R (.bool false) st)
                  (qb (q_load st true 4 v13) fun v132 =>
                  callK prog n_laws_heldTree [v132, (.int .i64 1)] st (fun v134 st =>
                  qb (q_bin .lss v134 (.int .i64 0)) fun v136 =>
                  cb v136 fun b_15 => br b_15
                   (retR R (.bool false) st)
                   (qb (q_bin .neq v134 v104) fun v139 =>
                   cb v139 fun b_16 => br b_16
                    (retR R (.bool false) st)
                    (retR R (.bool true) st))) (panR R)))) (panR R))
                (fun k_1 =>
               qb (q_load st true 4 v4) fun v116 =>
               (callK prog n_laws_toDeclS [a0] st (fun v115 st =>
               q_load st true 4 v4 = some v116 ∧ ((callK prog n_laws_toTree [v116] st (fun v117 st =>
               (callK prog n_laws_toBoolS [a2] st (fun v119 st =>
               (callK prog n_impl_Omit [v115, v117, v119] st (fun v120 st =>
               qb (q_ex v120 0) fun v121 =>
               qb (q_ex v120 1) fun v122 =>
               e_alloc st [.int .i64 0, .int .i64 0, .str [], .sl 0 true []] fun v18 st =>
               q_load st true 4 v4 = some v116 ∧ (e_store st 4 v18 v121 fun st =>
               k_1 [v18, v122] st)) (panR R)) ∧
               (e_alloc st [.int .i64 0, .int .i64 0, .str [], .sl 0 true []] fun v18_1 st =>
               q_load st true 4 v4 = some v116 ∧ (callK prog n_impl_Omit [v115, v117, v119] st (fun v120_1 st =>
               qb (q_ex v120_1 0) fun v121_1 =>
               qb (q_ex v120_1 1) fun v122_1 =>
               e_store st 4 v18_1 v121_1 fun st =>
               k_1 [v18_1, v122_1] st) (panR R)))) (panR R)) ∧
               (e_alloc st [.int .i64 0, .int .i64 0, .str [], .sl 0 true []] fun v18_2 st =>
               q_load st true 4 v4 = some v116 ∧ (callK prog n_laws_toBoolS [a2] st (fun v119_1 st =>
               callK prog n_impl_Omit [v115, v117, v119_1] st (fun v120_2 st =>
               qb (q_ex v120_2 0) fun v121_2 =>
               qb (q_ex v120_2 1) fun v122_2 =>
               e_store st 4 v18_2 v121_2 fun st =>
               k_1 [v18_2, v122_2] st) (panR R)) (panR R)))) (panR R)) ∧
               (e_alloc st [.int .i64 0, .int .i64 0, .str [], .sl 0 true []] fun v18_3 st =>
               q_load st true 4 v4 = some v116 ∧ (callK prog n_laws_toTree [v116] st (fun v117_1 st =>
               callK prog n_laws_toBoolS [a2] st (fun v119_2 st =>
               callK prog n_impl_Omit [v115, v117_1, v119_2] st (fun v120_3 st =>
               qb (q_ex v120_3 0) fun v121_3 =>
               qb (q_ex v120_3 1) fun v122_3 =>
               e_store st 4 v18_3 v121_3 fun st =>
               k_1 [v18_3, v122_3] st) (panR R)) (panR R)) (panR R))))) (panR R)) ∧
               (e_alloc st [.int .i64 0, .int .i64 0, .str [], .sl 0 true []] fun v18_4 st =>
               q_load st true 4 v4 = some v116 ∧ (callK prog n_laws_toDeclS [a0] st (fun v115_1 st =>
               q_load st true 4 v4 = some v116 ∧ (callK prog n_laws_toTree [v116] st (fun v117_2 st =>
               callK prog n_laws_toBoolS [a2] st (fun v119_3 st =>
               callK prog n_impl_Omit [v115_1, v117_2, v119_3] st (fun v120_4 st =>
               qb (q_ex v120_4 0) fun v121_4 =>
               qb (q_ex v120_4 1) fun v122_4 =>
               e_store st 4 v18_4 v121_4 fun st =>
               k_1 [v18_4, v122_4] st) (panR R)) (panR R)) (panR R))) (panR R))))))) (panR R)) (panR R)))) (panR R))) (panR R)) (panR R)) (panR R))) (panR R)) (panR R))) (panR R))) (panR R))) (panR R)) (panR R)))) (panR R)) (panR R)) (panR R)) (panR R)) (panR R))
     (fun k =>
    qb (q_load st true 4 v4) fun v36 =>
    (callK prog n_laws_toDeclS [a0] st (fun v35 st =>
    q_load st true 4 v4 = some v36 ∧ ((callK prog n_laws_toTree [v36] st (fun v37 st =>
    (callK prog n_laws_toBoolS [a2] st (fun v39 st =>
    (callK prog n_spec_Omit [v35, v37, v39] st (fun v40 st =>
    qb (q_ex v40 0) fun v41 =>
    qb (q_ex v40 1) fun v42 =>
    e_alloc st [.int .i64 0, .int .i64 0, .str [], .sl 0 true []] fun v8 st =>
    q_load st true 4 v4 = some v36 ∧ (e_store st 4 v8 v41 fun st =>
    k [v8, v42] st)) (panR R)) ∧
    (e_alloc st [.int .i64 0, .int .i64 0, .str [], .sl 0 true []] fun v8_1 st =>
    q_load st true 4 v4 = some v36 ∧ (callK prog n_spec_Omit [v35, v37, v39] st (fun v40_1 st =>
    qb (q_ex v40_1 0) fun v41_1 =>
    qb (q_ex v40_1 1) fun v42_1 =>
    e_store st 4 v8_1 v41_1 fun st =>
    k [v8_1, v42_1] st) (panR R)))) (panR R)) ∧
    (e_alloc st [.int .i64 0, .int .i64 0, .str [], .sl 0 true []] fun v8_2 st =>
    q_load st true 4 v4 = some v36 ∧ (callK prog n_laws_toBoolS [a2] st (fun v39_1 st =>
    callK prog n_spec_Omit [v35, v37, v39_1] st (fun v40_2 st =>
    qb (q_ex v40_2 0) fun v41_2 =>
    qb (q_ex v40_2 1) fun v42_2 =>
    e_store st 4 v8_2 v41_2 fun st =>
    k [v8_2, v42_2] st) (panR R)) (panR R)))) (panR R)) ∧
    (e_alloc st [.int .i64 0, .int .i64 0, .str [], .sl 0 true []] fun v8_3 st =>
    q_load st true 4 v4 = some v36 ∧ (callK prog n_laws_toTree [v36] st (fun v37_1 st =>
    callK prog n_laws_toBoolS [a2] st (fun v39_2 st =>
    callK prog n_spec_Omit [v35, v37_1, v39_2] st (fun v40_3 st =>
    qb (q_ex v40_3 0) fun v41_3 =>
    qb (q_ex v40_3 1) fun v42_3 =>
    e_store st 4 v8_3 v41_3 fun st =>
    k [v8_3, v42_3] st) (panR R)) (panR R)) (panR R))))) (panR R)) ∧
    (e_alloc st [.int .i64 0, .int .i64 0, .str [], .sl 0 true []] fun v8_4 st =>
    q_load st true 4 v4 = some v36 ∧ (callK prog n_laws_toDeclS [a0] st (fun v35_1 st =>
    q_load st true 4 v4 = some v36 ∧ (callK prog n_laws_toTree [v36] st (fun v37_2 st =>
    callK prog n_laws_toBoolS [a2] st (fun v39_3 st =>
    callK prog n_spec_Omit [v35_1, v37_2, v39_3] st (fun v40_4 st =>
    qb (q_ex v40_4 0) fun v41_4 =>
    qb (q_ex v40_4 1) fun v42_4 =>
    e_store st 4 v8_4 v41_4 fun st =>
    k [v8_4, v42_4] st) (panR R)) (panR R)) (panR R))) (panR R)))))) (panR R))) (panR R))
theorem c_laws_FnExactOmit {a0 a1 a2 : PV} {st : St} {R : Res → St → Prop} (h : b_laws_FnExactOmit a0 a1 a2 st R) : HCalls prog n_laws_FnExactOmit [a0, a1, a2] st R :=
 hcalls_of_func tyOK mixed (fn := Go.Proofs.Tryz.f14) (by kernel_rfl) (by kernel_rfl) (by kernel_rfl) (ann := [(41, [8, 9]), (149, [18, 19])])
  (show hFunc prog TT [(41, [8, 9]), (149, [18, 19])] Go.Proofs.Tryz.f14 [a0, a1, a2] st R from (show hFunc prog TT [(41, [8, 9]), (149, [18, 19])] Go.Proofs.Tryz.f14 [a0, a1, a2] st R = b_laws_FnExactOmit a0 a1 a2 st R by kernel_rfl) ▸ h)
def b_laws_szDeclS (a0 a1 : PV) (st : St) (R : Res → St → Prop) : Prop :=
 qb (q_len a0) fun v8 =>
 qb (q_bin .sub a1 v8) fun v9 =>
 qb (q_bin .lss v9 (.int .i64 0)) fun v11 =>
 cb v11 fun b => br b
  (retR R (.int .i64 (-1)) st)
  (hFix (fun ls st X =>
   qb (q_len a0) fun v14 =>
   qb (q_bin .lss (ls.getD 1 .junk) v14) fun v15 =>
   cb v15 fun b_1 => br b_1
    (qb (q_ia 6 a0 (ls.getD 1 .junk)) fun v20 =>
    qb (q_load st true 6 v20) fun v21 =>
    callK prog n_laws_szDecl [v21, (ls.getD 0 .junk)] st (fun v23 st =>
    qb (q_bin .lss v23 (.int .i64 0)) fun v25 =>
    cb v25 fun b_2 => br b_2
     (retR R (.int .i64 (-1)) st)
     (qb (q_bin .add (ls.getD 1 .junk) (.int .i64 1)) fun v17 =>
     X [v23, v17] st)) (panR R))
    (retR R (ls.getD 0 .junk) st))
   [v9, (.int .i64 0)] st)
theorem c_laws_szDeclS {a0 a1 : PV} {st : St} {R : Res → St → Prop} (h : b_laws_szDeclS a0 a1 st R) : HCalls prog n_laws_szDeclS [a0, a1] st R :=
 hcalls_of_func tyOK mixed (fn := Go.Proofs.Tryz.f15) (by kernel_rfl) (by kernel_rfl) (by kernel_rfl) (ann := [(20, [1, 5])])
  (show hFunc prog TT [(20, [1, 5])] Go.Proofs.Tryz.f15 [a0, a1] st R from (show hFunc prog TT [(20, [1, 5])] Go.Proofs.Tryz.f15 [a0, a1] st R = b_laws_szDeclS a0 a1 st R by kernel_rfl) ▸ h)
def b_spec_SigOK (a0 : PV) (st : St) (R : Res → St → Prop) : Prop :=
 qb (q_len a0) fun v7 =>
 qb (q_bin .gtr v7 (.int .i64 40)) fun v8 =>
 cb v8 fun b => br b
  (retR R (.bool false) st)
  (hFix (fun ls st X =>
   qb (q_len a0) fun v11 =>
   qb (q_bin .lss (ls.getD 0 .junk) v11) fun v12 =>
   cb v12 fun b_1 => br b_1
    (qb (q_sliceE 6 a0 none (some (ls.getD 0 .junk)) none) fun v18 =>
    qb (q_ia 6 a0 (ls.getD 0 .junk)) fun v21 =>
    qb (q_load st true 6 v21) fun v22 =>
    callK prog n_spec_l04Decl [v18, v22] st (fun v23 st =>
    qb (q_ex v23 0) fun v24 =>
    qb (q_ex v23 1) fun v25 =>
    qb (q_bin .neq v24 (.int .i64 0)) fun v27 =>
    cb v27 fun b_2 => br b_2
     (retR R (.bool false) st)
     (qb (q_bin .add (ls.getD 0 .junk) (.int .i64 1)) fun v14 =>
     X [v14] st)) (panR R))
    (retR R (.bool true) st))
   [(.int .i64 0)] st)
theorem c_spec_SigOK {a0 : PV} {st : St} {R : Res → St → Prop} (h : b_spec_SigOK a0 st R) : HCalls prog n_spec_SigOK [a0] st R :=
 hcalls_of_func tyOK mixed (fn := Go.Proofs.Tryz.f16) (by kernel_rfl) (by kernel_rfl) (by kernel_rfl) (ann := [(16, [3])])
  (show hFunc prog TT [(16, [3])] Go.Proofs.Tryz.f16 [a0] st R from (show hFunc prog TT [(16, [3])] Go.Proofs.Tryz.f16 [a0] st R = b_spec_SigOK a0 st R by kernel_rfl) ▸ h)
def b_laws_toDeclS (a0 : PV) (st : St) (R : Res → St → Prop) : Prop :=
 qb (q_len a0) fun v6 =>
 e_make st 6 80 (.agg [.str [], .bool false, .int .i64 0, .int .i64 0, .str [], .sl 0 true []]) v6 v6 fun v7 st =>
 hFix (fun ls st X =>
  qb (q_len a0) fun v10 =>
  qb (q_bin .lss (ls.getD 0 .junk) v10) fun v11 =>
  cb v11 fun b => br b
   (qb (q_ia 6 a0 (ls.getD 0 .junk)) fun v18 =>
   qb (q_load st true 6 v18) fun v19 =>
   callK prog n_laws_toDecl [v19] st (fun v20 st =>
   qb (q_ia 6 v7 (ls.getD 0 .junk)) fun v21 =>
   e_store st 6 v21 v20 fun st =>
   qb (q_bin .add (ls.getD 0 .junk) (.int .i64 1)) fun v13 =>
   X [v13] st) (panR R))
   (retR R v7 st))
  [(.int .i64 0)] st
theorem c_laws_toDeclS {a0 : PV} {st : St} {R : Res → St → Prop} (h : b_laws_toDeclS a0 st R) : HCalls prog n_laws_toDeclS [a0] st R :=
 hcalls_of_func tyOK mixed (fn := Go.Proofs.Tryz.f17) (by kernel_rfl) (by kernel_rfl) (by kernel_rfl) (ann := [(12, [4])])
  (show hFunc prog TT [(12, [4])] Go.Proofs.Tryz.f17 [a0] st R from (show hFunc prog TT [(12, [4])] Go.Proofs.Tryz.f17 [a0] st R = b_laws_toDeclS a0 st R by kernel_rfl) ▸ h)
def b_impl_SigOK (a0 : PV) (st : St) (R : Res → St → Prop) : Prop :=
 qb (q_len a0) fun v6 =>
 qb (q_bin .gtr v6 (.int .i64 40)) fun v7 =>
 cb v7 fun b => br b
  (retR R (.bool false) st)
  (qb (q_len a0) fun v9 =>
  hFix (fun ls st X =>
   qb (q_bin .lss (ls.getD 0 .junk) v9) fun v11 =>
   cb v11 fun b_1 => br b_1
    (qb (q_ia 6 a0 (ls.getD 0 .junk)) fun v13 =>
    qb (q_load st true 6 v13) fun v14 =>
    e_alloc st [.str [], .bool false, .int .i64 0, .int .i64 0, .str [], .sl 0 true []] fun v4 st =>
    e_store st 6 v4 v14 fun st =>
    qb (q_load st true 6 v4) fun v15 =>
    callK prog n_impl_declForm [v15] st (fun v16 st =>
    qb (q_un .not v16) fun v17 =>
    cb v17 fun b_2 => br b_2
     (retR R (.bool false) st)
     (qb (q_sliceE 6 a0 none (some (ls.getD 0 .junk)) none) fun v21 =>
     qb (q_fa 0 v4) fun v22 =>
     qb (q_load st false 1 v22) fun v23 =>
     callK prog n_impl_has [v21, v23] st (fun v24 st =>
     cb v24 fun b_3 => br b_3
      (retR R (.bool false) st)
      (qb (q_sliceE 6 a0 none (some (ls.getD 0 .junk)) none) fun v29 =>
      qb (q_load st true 6 v4) fun v30 =>
      callK prog n_impl_declFault [v29, v30] st (fun v31 st =>
      qb (q_field false 1 0 v31) fun v32 =>
      qb (q_bin .neq v32 (.int .i64 0)) fun v33 =>
      cb v33 fun b_4 => br b_4
       (retR R (.bool false) st)
       (qb (q_bin .add (ls.getD 0 .junk) (.int .i64 1)) fun v35 =>
       X [v35] st)) (panR R))) (panR R))) (panR R))
    (retR R (.bool true) st))
   [(.int .i64 0)] st)
theorem c_impl_SigOK {a0 : PV} {st : St} {R : Res → St → Prop} (h : b_impl_SigOK a0 st R) : HCalls prog n_impl_SigOK [a0] st R :=
 hcalls_of_func tyOK mixed (fn := Go.Proofs.Tryz.f18) (by kernel_rfl) (by kernel_rfl) (by kernel_rfl) (ann := [(16, [10])])
  (show hFunc prog TT [(16, [10])] Go.Proofs.Tryz.f18 [a0] st R from (show hFunc prog TT [(16, [10])] Go.Proofs.Tryz.f18 [a0] st R = b_impl_SigOK a0 st R by kernel_rfl) ▸ h)
def b_laws_eqDeclS (a0 a1 : PV) (st : St) (R : Res → St → Prop) : Prop :=
 qb (q_len a0) fun v7 =>
 qb (q_len a1) fun v9 =>
 qb (q_bin .neq v7 v9) fun v10 =>
 cb v10 fun b => br b
  (retR R (.bool false) st)
  (hFix (fun ls st X =>
   qb (q_len a0) fun v13 =>
   qb (q_bin .lss (ls.getD 0 .junk) v13) fun v14 =>
   cb v14 fun b_1 => br b_1
    (qb (q_ia 6 a0 (ls.getD 0 .junk)) fun v19 =>
    qb (q_load st true 6 v19) fun v20 =>
    qb (q_ia 6 a1 (ls.getD 0 .junk)) fun v23 =>
    qb (q_load st true 6 v23) fun v24 =>
    callK prog n_laws_eqDecl [v20, v24] st (fun v25 st =>
    qb (q_un .not v25) fun v26 =>
    cb v26 fun b_2 => br b_2
     (retR R (.bool false) st)
     (qb (q_bin .add (ls.getD 0 .junk) (.int .i64 1)) fun v16 =>
     X [v16] st)) (panR R))
    (retR R (.bool true) st))
   [(.int .i64 0)] st)
theorem e_laws_eqDeclS : Enters prog n_laws_eqDeclS := ⟨Go.Proofs.Tryz.f19, by kernel_rfl, by kernel_rfl, by kernel_rfl⟩
theorem c_laws_eqDeclS {a0 a1 : PV} {st : St} {R : Res → St → Prop} (h : b_laws_eqDeclS a0 a1 st R) : HCalls prog n_laws_eqDeclS [a0, a1] st R :=
 hcalls_of_func tyOK mixed (fn := Go.Proofs.Tryz.f19) (by kernel_rfl) (by kernel_rfl) (by kernel_rfl) (ann := [(16, [5])])
  (show hFunc prog TT [(16, [5])] Go.Proofs.Tryz.f19 [a0, a1] st R from (show hFunc prog TT [(16, [5])] Go.Proofs.Tryz.f19 [a0, a1] st R = b_laws_eqDeclS a0 a1 st R by kernel_rfl) ▸ h)
def b_laws_szTreeS (a0 a1 : PV) (st : St) (R : Res → St → Prop) : Prop :=
 qb (q_len a0) fun v8 =>
 qb (q_bin .sub a1 v8) fun v9 =>
 qb (q_bin .lss v9 (.int .i64 0)) fun v11 =>
 cb v11 fun b => br b
  (retR R (.int .i64 (-1)) st)
  (hFix (fun ls st X =>
   qb (q_len a0) fun v14 =>
   qb (q_bin .lss (ls.getD 1 .junk) v14) fun v15 =>
   cb v15 fun b_1 => br b_1
    (qb (q_ia 4 a0 (ls.getD 1 .junk)) fun v20 =>
    qb (q_load st true 4 v20) fun v21 =>
    callK prog n_laws_szTree [v21, (ls.getD 0 .junk)] st (fun v23 st =>
    qb (q_bin .lss v23 (.int .i64 0)) fun v25 =>
    cb v25 fun b_2 => br b_2
     (retR R (.int .i64 (-1)) st)
     (qb (q_bin .add (ls.getD 1 .junk) (.int .i64 1)) fun v17 =>
     X [v23, v17] st)) (panR R))
    (retR R (ls.getD 0 .junk) st))
   [v9, (.int .i64 0)] st)
theorem c_laws_szTreeS {a0 a1 : PV} {st : St} {R : Res → St → Prop} (h : b_laws_szTreeS a0 a1 st R) : HCalls prog n_laws_szTreeS [a0, a1] st R :=
 hcalls_of_func tyOK mixed (fn := Go.Proofs.Tryz.f20) (by kernel_rfl) (by kernel_rfl) (by kernel_rfl) (ann := [(20, [1, 5])])
  (show hFunc prog TT [(20, [1, 5])] Go.Proofs.Tryz.f20 [a0, a1] st R from (show hFunc prog TT [(20, [1, 5])] Go.Proofs.Tryz.f20 [a0, a1] st R = b_laws_szTreeS a0 a1 st R by kernel_rfl) ▸ h)
end Go.H.Tryz
