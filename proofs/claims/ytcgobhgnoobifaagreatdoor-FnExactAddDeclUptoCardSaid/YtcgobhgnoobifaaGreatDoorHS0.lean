/- Part of a proof that the program answers as the reference does: EDS0. -/
import Derived.Test.YtcgobhgnoobifaaGreatDoorHT
/- MADE BY PROGRAM (hgen.py): what the functions compute, over pure values. -/
set_option linter.unusedVariables false
set_option maxRecDepth 100000
namespace Go.H.Tryz
open Go Go.H
def b_gosem_cut_init (st : St) (R : Res → St → Prop) : Prop :=
 callK prog n_gosem_cut [] st (fun v0 st =>
 retR R (.tup []) st) (panR R)
theorem e_gosem_cut_init : Enters prog n_gosem_cut_init := ⟨Go.Proofs.Tryz.f2, by kernel_rfl, by kernel_rfl, by kernel_rfl⟩
theorem c_gosem_cut_init {st : St} {R : Res → St → Prop} (h : b_gosem_cut_init  st R) : HCalls prog n_gosem_cut_init [] st R :=
 hcalls_of_func tyOK mixed (fn := Go.Proofs.Tryz.f2) (by kernel_rfl) (by kernel_rfl) (by kernel_rfl) (ann := [])
  (show hFunc prog TT [] Go.Proofs.Tryz.f2 [] st R from (show hFunc prog TT [] Go.Proofs.Tryz.f2 [] st R = b_gosem_cut_init  st R by kernel_rfl) ▸ h)
def b_laws_FnExactBuildSig (a0 : PV) (st : St) (R : Res → St → Prop) : Prop :=
 callK prog n_laws_szDeclS [a0, (.int .i64 1048576)] st (fun v22 st =>
 qb (q_bin .lss v22 (.int .i64 0)) fun v24 =>
 cb v24 fun b => br b
  (retR R (.bool true) st)
  (callK prog n_laws_toDeclS [a0] st (fun v27 st =>
  callK prog n_spec_BuildSig [v27] st (fun v28 st =>
  qb (q_ex v28 0) fun v29 =>
  qb (q_ex v28 1) fun v30 =>
  qb (q_ex v28 2) fun v31 =>
  qb (q_ex v28 3) fun v32 =>
  callK prog n_laws_toDeclS [a0] st (fun v34 st =>
  callK prog n_impl_BuildSig [v34] st (fun v37 st =>
  qb (q_ex v37 0) fun v38 =>
  qb (q_ex v37 1) fun v39 =>
  qb (q_ex v37 2) fun v40 =>
  qb (q_ex v37 3) fun v41 =>
  callK prog n_laws_eqDeclS [v38, v29] st (fun v44 st =>
  qb (q_un .not v44) fun v45 =>
  cb v45 fun b_1 => br b_1
   (retR R (.bool false) st)
   (qb (q_bin .neq v39 v30) fun v49 =>
   cb v49 fun b_2 => br b_2
    (retR R (.bool false) st)
    (qb (q_bin .neq v40 v31) fun v54 =>
    cb v54 fun b_3 => br b_3
     (retR R (.bool false) st)
     (qb (q_bin .neq v41 v32) fun v59 =>
     cb v59 fun b_4 => br b_4
      (retR R (.bool false) st)
      (callK prog n_laws_toDeclS [a0] st (fun v63 st =>
      callK prog n_laws_eqDeclS [v34, v63] st (fun v64 st =>
      qb (q_un .not v64) fun v65 =>
      cb v65 fun b_5 => br b_5
       (retR R (.bool false) st)
       (callK prog n_laws_markDeclS [v34, (.int .i64 1)] st (fun v68 st =>
       qb (q_bin .lss v68 (.int .i64 0)) fun v70 =>
       cb v70 fun b_6 => br b_6
        (retR R (.bool false) st)
        (callK prog n_laws_eqDeclS [v38, v29] st (fun v74 st =>
        qb (q_un .not v74) fun v75 =>
        cb v75 fun b_7 => br b_7
         (retR R (.bool false) st)
         (qb (q_bin .neq v39 v30) fun v80 =>
         cb v80 fun b_8 => br b_8
          (retR R (.bool false) st)
          (qb (q_bin .neq v40 v31) fun v85 =>
          cb v85 fun b_9 => br b_9
           (retR R (.bool false) st)
           (qb (q_bin .neq v41 v32) fun v90 =>
           cb v90 fun b_10 => br b_10
            (retR R (.bool false) st)
            (callK prog n_laws_markDeclS [v38, (.int .i64 1)] st (fun v94 st =>
            callK prog n_laws_heldDeclS [v38, (.int .i64 1)] st (fun v97 st =>
            qb (q_bin .lss v97 (.int .i64 0)) fun v99 =>
            cb v99 fun b_11 => br b_11
             (retR R (.bool false) st)
             (qb (q_bin .neq v97 v94) fun v102 =>
             cb v102 fun b_12 => br b_12
              (retR R (.bool false) st)
              (callK prog n_laws_toDeclS [a0] st (fun v105 st =>
              callK prog n_impl_BuildSig [v105] st (fun v106 st =>
              qb (q_ex v106 0) fun v107 =>
              qb (q_ex v106 1) fun v108 =>
              qb (q_ex v106 2) fun v109 =>
              qb (q_ex v106 3) fun v110 =>
              callK prog n_laws_eqDeclS [v107, v29] st (fun v113 st =>
              qb (q_un .not v113) fun v114 =>
              cb v114 fun b_13 => br b_13
               (retR R (.bool false) st)
               (qb (q_bin .neq v108 v30) fun v118 =>
               cb v118 fun b_14 => br b_14
                (retR R (.bool false) st)
                (qb (q_bin .neq v109 v31) fun v123 =>
                cb v123 fun b_15 => br b_15
                 (retR R (.bool false) st)
                 (qb (q_bin .neq v110 v32) fun v128 =>
                 cb v128 fun b_16 => br b_16
                  (retR R (.bool false) st)
                  (callK prog n_laws_heldDeclS [v38, (.int .i64 1)] st (fun v132 st =>
                  qb (q_bin .lss v132 (.int .i64 0)) fun v134 =>
                  cb v134 fun b_17 => br b_17
                   (retR R (.bool false) st)
                   (qb (q_bin .neq v132 v94) fun v137 =>
                   cb v137 fun b_18 => br b_18
                    (retR R (.bool false) st)
                    (retR R (.bool true) st))) (panR R)))))) (panR R)) (panR R)) (panR R)))) (panR R)) (panR R)))))) (panR R))) (panR R))) (panR R)) (panR R)))))) (panR R)) (panR R)) (panR R)) (panR R)) (panR R))) (panR R)
theorem e_laws_FnExactBuildSig : Enters prog n_laws_FnExactBuildSig := ⟨Go.Proofs.Tryz.f8, by kernel_rfl, by kernel_rfl, by kernel_rfl⟩
theorem c_laws_FnExactBuildSig {a0 : PV} {st : St} {R : Res → St → Prop} (h : b_laws_FnExactBuildSig a0 st R) : HCalls prog n_laws_FnExactBuildSig [a0] st R :=
 hcalls_of_func tyOK mixed (fn := Go.Proofs.Tryz.f8) (by kernel_rfl) (by kernel_rfl) (by kernel_rfl) (ann := [])
  (show hFunc prog TT [] Go.Proofs.Tryz.f8 [a0] st R from (show hFunc prog TT [] Go.Proofs.Tryz.f8 [a0] st R = b_laws_FnExactBuildSig a0 st R by kernel_rfl) ▸ h)
def b_laws_FnExactAddDecl (a0 a1 : PV) (st : St) (R : Res → St → Prop) : Prop :=
 e_box st a1 fun v3 st =>
 callK prog n_laws_szDeclS [a0, (.int .i64 1048576)] st (fun v22 st =>
 qb (q_bin .lss v22 (.int .i64 0)) fun v24 =>
 cb v24 fun b => br b
  (retR R (.bool true) st)
  (qb (q_load st true 6 v3) fun v25 =>
  callK prog n_laws_szDecl [v25, v22] st (fun v27 st =>
  qb (q_bin .lss v27 (.int .i64 0)) fun v29 =>
  cb v29 fun b_1 => br b_1
   (retR R (.bool true) st)
   (qb (q_load st true 6 v3) fun v33 =>
   callK prog n_laws_toDeclS [a0] st (fun v32 st =>
   q_load st true 6 v3 = some v33 ∧ (callK prog n_laws_toDecl [v33] st (fun v34 st =>
   callK prog n_spec_AddDecl [v32, v34] st (fun v35 st =>
   qb (q_ex v35 0) fun v36 =>
   qb (q_ex v35 1) fun v37 =>
   qb (q_ex v35 2) fun v38 =>
   callK prog n_laws_toDeclS [a0] st (fun v40 st =>
   qb (q_load st true 6 v3) fun v41 =>
   callK prog n_laws_toDecl [v41] st (fun v42 st =>
   e_alloc st [.str [], .bool false, .int .i64 0, .int .i64 0, .str [], .sl 0 true []] fun v10 st =>
   e_store st 6 v10 v42 fun st =>
   qb (q_load st true 6 v10) fun v45 =>
   callK prog n_impl_AddDecl [v40, v45] st (fun v46 st =>
   qb (q_ex v46 0) fun v47 =>
   qb (q_ex v46 1) fun v48 =>
   qb (q_ex v46 2) fun v49 =>
   callK prog n_laws_eqDeclS [v47, v36] st (fun v52 st =>
   qb (q_un .not v52) fun v53 =>
   cb v53 fun b_2 => br b_2
    (retR R (.bool false) st)
    (qb (q_bin .neq v48 v37) fun v57 =>
    cb v57 fun b_3 => br b_3
     (retR R (.bool false) st)
     (qb (q_bin .neq v49 v38) fun v62 =>
     cb v62 fun b_4 => br b_4
      (retR R (.bool false) st)
      (callK prog n_laws_toDeclS [a0] st (fun v66 st =>
      callK prog n_laws_eqDeclS [v40, v66] st (fun v67 st =>
      qb (q_un .not v67) fun v68 =>
      cb v68 fun b_5 => br b_5
       (retR R (.bool false) st)
       (qb (q_load st true 6 v10) fun v69 =>
       qb (q_load st true 6 v3) fun v70 =>
       callK prog n_laws_toDecl [v70] st (fun v71 st =>
       q_load st true 6 v10 = some v69 ∧ (callK prog n_laws_eqDecl [v69, v71] st (fun v72 st =>
       qb (q_un .not v72) fun v73 =>
       cb v73 fun b_6 => br b_6
        (retR R (.bool false) st)
        (callK prog n_laws_markDeclS [v40, (.int .i64 1)] st (fun v76 st =>
        qb (q_load st true 6 v10) fun v77 =>
        callK prog n_laws_markDecl [v77, v76] st (fun v79 st =>
        qb (q_bin .lss v79 (.int .i64 0)) fun v81 =>
        cb v81 fun b_7 => br b_7
         (retR R (.bool false) st)
         (callK prog n_laws_eqDeclS [v47, v36] st (fun v85 st =>
         qb (q_un .not v85) fun v86 =>
         cb v86 fun b_8 => br b_8
          (retR R (.bool false) st)
          (qb (q_bin .neq v48 v37) fun v91 =>
          cb v91 fun b_9 => br b_9
           (retR R (.bool false) st)
           (qb (q_bin .neq v49 v38) fun v96 =>
           cb v96 fun b_10 => br b_10
            (retR R (.bool false) st)
            (callK prog n_laws_markDeclS [v47, (.int .i64 1)] st (fun v100 st =>
            callK prog n_laws_heldDeclS [v47, (.int .i64 1)] st (fun v103 st =>
            qb (q_bin .lss v103 (.int .i64 0)) fun v105 =>
            cb v105 fun b_11 => br b_11
             (retR R (.bool false) st)
             (qb (q_bin .neq v103 v100) fun v108 =>
             cb v108 fun b_12 => br b_12
              (retR R (.bool false) st)
              (qb (q_load st true 6 v3) fun v112 =>
              callK prog n_laws_toDeclS [a0] st (fun v111 st =>
              q_load st true 6 v3 = some v112 ∧ (callK prog n_laws_toDecl [v112] st (fun v113 st =>
              callK prog n_impl_AddDecl [v111, v113] st (fun v114 st =>
              qb (q_ex v114 0) fun v115 =>
              qb (q_ex v114 1) fun v116 =>
              qb (q_ex v114 2) fun v117 =>
              callK prog n_laws_eqDeclS [v115, v36] st (fun v120 st =>
              qb (q_un .not v120) fun v121 =>
              cb v121 fun b_13 => br b_13
               (retR R (.bool false) st)
               (qb (q_bin .neq v116 v37) fun v125 =>
               cb v125 fun b_14 => br b_14
                (retR R (.bool false) st)
                (qb (q_bin .neq v117 v38) fun v130 =>
                cb v130 fun b_15 => br b_15
                 (retR R (.bool false) st)
                 (callK prog n_laws_heldDeclS [v47, (.int .i64 1)] st (fun v134 st =>
                 qb (q_bin .lss v134 (.int .i64 0)) fun v136 =>
                 cb v136 fun b_16 => br b_16
                  (retR R (.bool false) st)
                  (qb (q_bin .neq v134 v100) fun v139 =>
                  cb v139 fun b_17 => br b_17
                   (retR R (.bool false) st)
                   (retR R (.bool true) st))) (panR R))))) (panR R)) (panR R)) (panR R))) (panR R)))) (panR R)) (panR R))))) (panR R))) (panR R)) (panR R))) (panR R))) (panR R))) (panR R)) (panR R))))) (panR R)) (panR R)) (panR R)) (panR R)) (panR R)) (panR R))) (panR R))) (panR R))) (panR R)
theorem e_laws_FnExactAddDecl : Enters prog n_laws_FnExactAddDecl := ⟨Go.Proofs.Tryz.f12, by kernel_rfl, by kernel_rfl, by kernel_rfl⟩
theorem c_laws_FnExactAddDecl {a0 a1 : PV} {st : St} {R : Res → St → Prop} (h : b_laws_FnExactAddDecl a0 a1 st R) : HCalls prog n_laws_FnExactAddDecl [a0, a1] st R :=
 hcalls_of_func tyOK mixed (fn := Go.Proofs.Tryz.f12) (by kernel_rfl) (by kernel_rfl) (by kernel_rfl) (ann := [])
  (show hFunc prog TT [] Go.Proofs.Tryz.f12 [a0, a1] st R from (show hFunc prog TT [] Go.Proofs.Tryz.f12 [a0, a1] st R = b_laws_FnExactAddDecl a0 a1 st R by kernel_rfl) ▸ h)
def b_laws_szDeclS (a0 a1 : PV) (st : St) (R : Res → St → Prop) : Prop :=
 qb (q_len a0) fun v8 =>
 qb (q_bin .sub a1 v8) fun v9 =>
 qb (q_bin .lss v9 (.int .i64 0)) fun v11 =>
 cb v11 fun b => br b
  (retR R (.int .i64 (-1)) st)
  (hFix (fun ls st X =>
   qb (q_len a0) fun v14 =>
   qb (q_bin .lss (ls.getD 1 .junk) v14) fun v15 =>
   cb v15 fun b_1 => br b_1
    (qb (q_ia 6 a0 (ls.getD 1 .junk)) fun v20 =>
    qb (q_load st true 6 v20) fun v21 =>
    callK prog n_laws_szDecl [v21, (ls.getD 0 .junk)] st (fun v23 st =>
    qb (q_bin .lss v23 (.int .i64 0)) fun v25 =>
    cb v25 fun b_2 => br b_2
     (retR R (.int .i64 (-1)) st)
     (qb (q_bin .add (ls.getD 1 .junk) (.int .i64 1)) fun v17 =>
     X [v23, v17] st)) (panR R))
    (retR R (ls.getD 0 .junk) st))
   [v9, (.int .i64 0)] st)
theorem e_laws_szDeclS : Enters prog n_laws_szDeclS := ⟨Go.Proofs.Tryz.f15, by kernel_rfl, by kernel_rfl, by kernel_rfl⟩
theorem c_laws_szDeclS {a0 a1 : PV} {st : St} {R : Res → St → Prop} (h : b_laws_szDeclS a0 a1 st R) : HCalls prog n_laws_szDeclS [a0, a1] st R :=
 hcalls_of_func tyOK mixed (fn := Go.Proofs.Tryz.f15) (by kernel_rfl) (by kernel_rfl) (by kernel_rfl) (ann := [(20, [1, 5])])
  (show hFunc prog TT [(20, [1, 5])] Go.Proofs.Tryz.f15 [a0, a1] st R from (show hFunc prog TT [(20, [1, 5])] Go.Proofs.Tryz.f15 [a0, a1] st R = b_laws_szDeclS a0 a1 st R by kernel_rfl) ▸ h)
def b_spec_SigOK (a0 : PV) (st : St) (R : Res → St → Prop) : Prop :=
 qb (q_len a0) fun v7 =>
 qb (q_bin .gtr v7 (.int .i64 40)) fun v8 =>
 cb v8 fun b => br b
  (retR R (.bool false) st)
  (hFix (fun ls st X =>
   qb (q_len a0) fun v11 =>
   qb (q_bin .lss (ls.getD 0 .junk) v11) fun v12 =>
   cb v12 fun b_1 => br b_1
    (qb (q_sliceE 6 a0 none (some (ls.getD 0 .junk)) none) fun v18 =>
    qb (q_ia 6 a0 (ls.getD 0 .junk)) fun v21 =>
    qb (q_load st true 6 v21) fun v22 =>
    callK prog n_spec_l04Decl [v18, v22] st (fun v23 st =>
    qb (q_ex v23 0) fun v24 =>
    qb (q_ex v23 1) fun v25 =>
    qb (q_bin .neq v24 (.int .i64 0)) fun v27 =>
    cb v27 fun b_2 => br b_2
     (retR R (.bool false) st)
     (qb (q_bin .add (ls.getD 0 .junk) (.int .i64 1)) fun v14 =>
     X [v14] st)) (panR R))
    (retR R (.bool true) st))
   [(.int .i64 0)] st)
theorem e_spec_SigOK : Enters prog n_spec_SigOK := ⟨Go.Proofs.Tryz.f16, by kernel_rfl, by kernel_rfl, by kernel_rfl⟩
theorem c_spec_SigOK {a0 : PV} {st : St} {R : Res → St → Prop} (h : b_spec_SigOK a0 st R) : HCalls prog n_spec_SigOK [a0] st R :=
 hcalls_of_func tyOK mixed (fn := Go.Proofs.Tryz.f16) (by kernel_rfl) (by kernel_rfl) (by kernel_rfl) (ann := [(16, [3])])
  (show hFunc prog TT [(16, [3])] Go.Proofs.Tryz.f16 [a0] st R from (show hFunc prog TT [(16, [3])] Go.Proofs.Tryz.f16 [a0] st R = b_spec_SigOK a0 st R by kernel_rfl) ▸ h)
def b_laws_toDeclS (a0 : PV) (st : St) (R : Res → St → Prop) : Prop :=
 qb (q_len a0) fun v6 =>
 e_make st 6 80 (.agg [.str [], .bool false, .int .i64 0, .int .i64 0, .str [], .sl 0 true []]) v6 v6 fun v7 st =>
 hFix (fun ls st X =>
  qb (q_len a0) fun v10 =>
  qb (q_bin .lss (ls.getD 0 .junk) v10) fun v11 =>
  cb v11 fun b => br b
   (qb (q_ia 6 a0 (ls.getD 0 .junk)) fun v18 =>
   qb (q_load st true 6 v18) fun v19 =>
   callK prog n_laws_toDecl [v19] st (fun v20 st =>
   qb (q_ia 6 v7 (ls.getD 0 .junk)) fun v21 =>
   e_store st 6 v21 v20 fun st =>
   qb (q_bin .add (ls.getD 0 .junk) (.int .i64 1)) fun v13 =>
   X [v13] st) (panR R))
   (retR R v7 st))
  [(.int .i64 0)] st
theorem e_laws_toDeclS : Enters prog n_laws_toDeclS := ⟨Go.Proofs.Tryz.f17, by kernel_rfl, by kernel_rfl, by kernel_rfl⟩
theorem c_laws_toDeclS {a0 : PV} {st : St} {R : Res → St → Prop} (h : b_laws_toDeclS a0 st R) : HCalls prog n_laws_toDeclS [a0] st R :=
 hcalls_of_func tyOK mixed (fn := Go.Proofs.Tryz.f17) (by kernel_rfl) (by kernel_rfl) (by kernel_rfl) (ann := [(12, [4])])
  (show hFunc prog TT [(12, [4])] Go.Proofs.Tryz.f17 [a0] st R from (show hFunc prog TT [(12, [4])] Go.Proofs.Tryz.f17 [a0] st R = b_laws_toDeclS a0 st R by kernel_rfl) ▸ h)
def b_impl_SigOK (a0 : PV) (st : St) (R : Res → St → Prop) : Prop :=
 qb (q_len a0) fun v6 =>
 qb (q_bin .gtr v6 (.int .i64 40)) fun v7 =>
 cb v7 fun b => br b
  (retR R (.bool false) st)
  (qb (q_len a0) fun v9 =>
  hFix (fun ls st X =>
   qb (q_bin .lss (ls.getD 0 .junk) v9) fun v11 =>
   cb v11 fun b_1 => br b_1
    (qb (q_ia 6 a0 (ls.getD 0 .junk)) fun v13 =>
    qb (q_load st true 6 v13) fun v14 =>
    e_alloc st [.str [], .bool false, .int .i64 0, .int .i64 0, .str [], .sl 0 true []] fun v4 st =>
    e_store st 6 v4 v14 fun st =>
    qb (q_load st true 6 v4) fun v15 =>
    callK prog n_impl_declForm [v15] st (fun v16 st =>
    qb (q_un .not v16) fun v17 =>
    cb v17 fun b_2 => br b_2
     (retR R (.bool false) st)
     (qb (q_sliceE 6 a0 none (some (ls.getD 0 .junk)) none) fun v21 =>
     qb (q_fa 0 v4) fun v22 =>
     qb (q_load st false 1 v22) fun v23 =>
     callK prog n_impl_has [v21, v23] st (fun v24 st =>
     cb v24 fun b_3 => br b_3
      (retR R (.bool false) st)
      (qb (q_sliceE 6 a0 none (some (ls.getD 0 .junk)) none) fun v29 =>
      qb (q_load st true 6 v4) fun v30 =>
      callK prog n_impl_declFault [v29, v30] st (fun v31 st =>
      qb (q_field false 1 0 v31) fun v32 =>
      qb (q_bin .neq v32 (.int .i64 0)) fun v33 =>
      cb v33 fun b_4 => br b_4
       (retR R (.bool false) st)
       (qb (q_bin .add (ls.getD 0 .junk) (.int .i64 1)) fun v35 =>
       X [v35] st)) (panR R))) (panR R))) (panR R))
    (retR R (.bool true) st))
   [(.int .i64 0)] st)
theorem e_impl_SigOK : Enters prog n_impl_SigOK := ⟨Go.Proofs.Tryz.f18, by kernel_rfl, by kernel_rfl, by kernel_rfl⟩
theorem c_impl_SigOK {a0 : PV} {st : St} {R : Res → St → Prop} (h : b_impl_SigOK a0 st R) : HCalls prog n_impl_SigOK [a0] st R :=
 hcalls_of_func tyOK mixed (fn := Go.Proofs.Tryz.f18) (by kernel_rfl) (by kernel_rfl) (by kernel_rfl) (ann := [(16, [10])])
  (show hFunc prog TT [(16, [10])] Go.Proofs.Tryz.f18 [a0] st R from (show hFunc prog TT [(16, [10])] Go.Proofs.Tryz.f18 [a0] st R = b_impl_SigOK a0 st R by kernel_rfl) ▸ h)
def b_laws_eqDeclS (a0 a1 : PV) (st : St) (R : Res → St → Prop) : Prop :=
 qb (q_len a0) fun v7 =>
 qb (q_len a1) fun v9 =>
 qb (q_bin .neq v7 v9) fun v10 =>
 cb v10 fun b => br b
  (retR R (.bool false) st)
  (hFix (fun ls st X =>
   qb (q_len a0) fun v13 =>
   qb (q_bin .lss (ls.getD 0 .junk) v13) fun v14 =>
   cb v14 fun b_1 => br b_1
    (qb (q_ia 6 a0 (ls.getD 0 .junk)) fun v19 =>
    qb (q_load st true 6 v19) fun v20 =>
    qb (q_ia 6 a1 (ls.getD 0 .junk)) fun v23 =>
    qb (q_load st true 6 v23) fun v24 =>
    callK prog n_laws_eqDecl [v20, v24] st (fun v25 st =>
    qb (q_un .not v25) fun v26 =>
    cb v26 fun b_2 => br b_2
     (retR R (.bool false) st)
     (qb (q_bin .add (ls.getD 0 .junk) (.int .i64 1)) fun v16 =>
     X [v16] st)) (panR R))
    (retR R (.bool true) st))
   [(.int .i64 0)] st)
theorem e_laws_eqDeclS : Enters prog n_laws_eqDeclS := ⟨Go.Proofs.Tryz.f19, by kernel_rfl, by kernel_rfl, by kernel_rfl⟩
theorem c_laws_eqDeclS {a0 a1 : PV} {st : St} {R : Res → St → Prop} (h : b_laws_eqDeclS a0 a1 st R) : HCalls prog n_laws_eqDeclS [a0, a1] st R :=
 hcalls_of_func tyOK mixed (fn := Go.Proofs.Tryz.f19) (by kernel_rfl) (by kernel_rfl) (by kernel_rfl) (ann := [(16, [5])])
  (show hFunc prog TT [(16, [5])] Go.Proofs.Tryz.f19 [a0, a1] st R from (show hFunc prog TT [(16, [5])] Go.Proofs.Tryz.f19 [a0, a1] st R = b_laws_eqDeclS a0 a1 st R by kernel_rfl) ▸ h)
def b_laws_szTreeS (a0 a1 : PV) (st : St) (R : Res → St → Prop) : Prop :=
 qb (q_len a0) fun v8 =>
 qb (q_bin .sub a1 v8) fun v9 =>
 qb (q_bin .lss v9 (.int .i64 0)) fun v11 =>
 cb v11 fun b => br b
  (retR R (.int .i64 (-1)) st)
  (hFix (fun ls st X =>
   qb (q_len a0) fun v14 =>
   qb (q_bin .lss (ls.getD 1 .junk) v14) fun v15 =>
   cb v15 fun b_1 => br b_1
    (qb (q_ia 4 a0 (ls.getD 1 .junk)) fun v20 =>
    qb (q_load st true 4 v20) fun v21 =>
    callK prog n_laws_szTree [v21, (ls.getD 0 .junk)] st (fun v23 st =>
    qb (q_bin .lss v23 (.int .i64 0)) fun v25 =>
    cb v25 fun b_2 => br b_2
     (retR R (.int .i64 (-1)) st)
     (qb (q_bin .add (ls.getD 1 .junk) (.int .i64 1)) fun v17 =>
     X [v23, v17] st)) (panR R))
    (retR R (ls.getD 0 .junk) st))
   [v9, (.int .i64 0)] st)
theorem e_laws_szTreeS : Enters prog n_laws_szTreeS := ⟨Go.Proofs.Tryz.f20, by kernel_rfl, by kernel_rfl, by kernel_rfl⟩
theorem c_laws_szTreeS {a0 a1 : PV} {st : St} {R : Res → St → Prop} (h : b_laws_szTreeS a0 a1 st R) : HCalls prog n_laws_szTreeS [a0, a1] st R :=
 hcalls_of_func tyOK mixed (fn := Go.Proofs.Tryz.f20) (by kernel_rfl) (by kernel_rfl) (by kernel_rfl) (ann := [(20, [1, 5])])
  (show hFunc prog TT [(20, [1, 5])] Go.Proofs.Tryz.f20 [a0, a1] st R from (show hFunc prog TT [(20, [1, 5])] Go.Proofs.Tryz.f20 [a0, a1] st R = b_laws_szTreeS a0 a1 st R by kernel_rfl) ▸ h)
def b_spec_CtxOK (a0 a1 : PV) (st : St) (R : Res → St → Prop) : Prop :=
 callK prog n_spec_SigOK [a0] st (fun v6 st =>
 cb v6 fun b => br b
  (callK prog n_spec_l04Ctx [a0, a1] st (fun v10 st =>
  retR R v10 st) (panR R))
  (retR R (.bool false) st)) (panR R)
theorem e_spec_CtxOK : Enters prog n_spec_CtxOK := ⟨Go.Proofs.Tryz.f21, by kernel_rfl, by kernel_rfl, by kernel_rfl⟩
theorem c_spec_CtxOK {a0 a1 : PV} {st : St} {R : Res → St → Prop} (h : b_spec_CtxOK a0 a1 st R) : HCalls prog n_spec_CtxOK [a0, a1] st R :=
 hcalls_of_func tyOK mixed (fn := Go.Proofs.Tryz.f21) (by kernel_rfl) (by kernel_rfl) (by kernel_rfl) (ann := [])
  (show hFunc prog TT [] Go.Proofs.Tryz.f21 [a0, a1] st R from (show hFunc prog TT [] Go.Proofs.Tryz.f21 [a0, a1] st R = b_spec_CtxOK a0 a1 st R by kernel_rfl) ▸ h)
end Go.H.Tryz
