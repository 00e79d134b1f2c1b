/- Part of a proof that the program answers as the reference does: EDS0. -/
import Derived.Test.YtcgobhgnoobifaaGreatDoorHT
/- MADE BY PROGRAM (hgen.py): what the functions compute, over pure values. -/
set_option linter.unusedVariables false
set_option maxRecDepth 100000
namespace Go.H.Tryz
open Go Go.H
def b_gosem_cut_init (st : St) (R : Res → St → Prop) : Prop :=
 callK prog n_gosem_cut [] st (fun v0 st =>
 retR R (.tup []) st) (panR R)
theorem e_gosem_cut_init : Enters prog n_gosem_cut_init := ⟨Go.Proofs.Tryz.f2, by kernel_rfl, by kernel_rfl, by kernel_rfl⟩
theorem c_gosem_cut_init {st : St} {R : Res → St → Prop} (h : b_gosem_cut_init  st R) : HCalls prog n_gosem_cut_init [] st R :=
 hcalls_of_func tyOK mixed (fn := Go.Proofs.Tryz.f2) (by kernel_rfl) (by kernel_rfl) (by kernel_rfl) (ann := [])
  (show hFunc prog TT [] Go.Proofs.Tryz.f2 [] st R from (show hFunc prog TT [] Go.Proofs.Tryz.f2 [] st R = b_gosem_cut_init  st R by kernel_rfl) ▸ h)
def b_laws_FnExactSigOK (a0 : PV) (st : St) (R : Res → St → Prop) : Prop :=
 callK prog n_laws_szDeclS [a0, (.int .i64 1048576)] st (fun v9 st =>
 qb (q_bin .lss v9 (.int .i64 0)) fun v11 =>
 cb v11 fun b => br b
  (retR R (.bool true) st)
  (callK prog n_laws_toDeclS [a0] st (fun v13 st =>
  callK prog n_spec_SigOK [v13] st (fun v14 st =>
  callK prog n_laws_toDeclS [a0] st (fun v16 st =>
  callK prog n_impl_SigOK [v16] st (fun v18 st =>
  qb (q_beq .neq v18 v14) fun v21 =>
  cb v21 fun b_1 => br b_1
   (retR R (.bool false) st)
   (callK prog n_laws_toDeclS [a0] st (fun v24 st =>
   callK prog n_laws_eqDeclS [v16, v24] st (fun v25 st =>
   qb (q_un .not v25) fun v26 =>
   cb v26 fun b_2 => br b_2
    (retR R (.bool false) st)
    (retR R (.bool true) st)) (panR R)) (panR R))) (panR R)) (panR R)) (panR R)) (panR R))) (panR R)
theorem e_laws_FnExactSigOK : Enters prog n_laws_FnExactSigOK := ⟨Go.Proofs.Tryz.f3, by kernel_rfl, by kernel_rfl, by kernel_rfl⟩
theorem c_laws_FnExactSigOK {a0 : PV} {st : St} {R : Res → St → Prop} (h : b_laws_FnExactSigOK a0 st R) : HCalls prog n_laws_FnExactSigOK [a0] st R :=
 hcalls_of_func tyOK mixed (fn := Go.Proofs.Tryz.f3) (by kernel_rfl) (by kernel_rfl) (by kernel_rfl) (ann := [])
  (show hFunc prog TT [] Go.Proofs.Tryz.f3 [a0] st R from (show hFunc prog TT [] Go.Proofs.Tryz.f3 [a0] st R = b_laws_FnExactSigOK a0 st R by kernel_rfl) ▸ h)
def b_laws_FnExactCtxOK (a0 a1 : PV) (st : St) (R : Res → St → Prop) : Prop :=
 callK prog n_laws_szDeclS [a0, (.int .i64 1048576)] st (fun v12 st =>
 qb (q_bin .lss v12 (.int .i64 0)) fun v14 =>
 cb v14 fun b => br b
  (retR R (.bool true) st)
  (callK prog n_laws_szTreeS [a1, v12] st (fun v17 st =>
  qb (q_bin .lss v17 (.int .i64 0)) fun v19 =>
  cb v19 fun b_1 => br b_1
   (retR R (.bool true) st)
   (callK prog n_laws_toDeclS [a0] st (fun v21 st =>
   callK prog n_laws_toTreeS [a1] st (fun v23 st =>
   callK prog n_spec_CtxOK [v21, v23] st (fun v24 st =>
   callK prog n_laws_toDeclS [a0] st (fun v26 st =>
   callK prog n_laws_toTreeS [a1] st (fun v28 st =>
   callK prog n_impl_CtxOK [v26, v28] st (fun v31 st =>
   qb (q_beq .neq v31 v24) fun v34 =>
   cb v34 fun b_2 => br b_2
    (retR R (.bool false) st)
    (callK prog n_laws_toDeclS [a0] st (fun v37 st =>
    callK prog n_laws_eqDeclS [v26, v37] st (fun v38 st =>
    qb (q_un .not v38) fun v39 =>
    cb v39 fun b_3 => br b_3
     (retR R (.bool false) st)
     (callK prog n_laws_toTreeS [a1] st (fun v42 st =>
     callK prog n_laws_eqTreeS [v28, v42] st (fun v43 st =>
     qb (q_un .not v43) fun v44 =>
     cb v44 fun b_4 => br b_4
      (retR R (.bool false) st)
      (retR R (.bool true) st)) (panR R)) (panR R))) (panR R)) (panR R))) (panR R)) (panR R)) (panR R)) (panR R)) (panR R)) (panR R))) (panR R))) (panR R)
theorem e_laws_FnExactCtxOK : Enters prog n_laws_FnExactCtxOK := ⟨Go.Proofs.Tryz.f4, by kernel_rfl, by kernel_rfl, by kernel_rfl⟩
theorem c_laws_FnExactCtxOK {a0 a1 : PV} {st : St} {R : Res → St → Prop} (h : b_laws_FnExactCtxOK a0 a1 st R) : HCalls prog n_laws_FnExactCtxOK [a0, a1] st R :=
 hcalls_of_func tyOK mixed (fn := Go.Proofs.Tryz.f4) (by kernel_rfl) (by kernel_rfl) (by kernel_rfl) (ann := [])
  (show hFunc prog TT [] Go.Proofs.Tryz.f4 [a0, a1] st R from (show hFunc prog TT [] Go.Proofs.Tryz.f4 [a0, a1] st R = b_laws_FnExactCtxOK a0 a1 st R by kernel_rfl) ▸ h)
def b_laws_FnExactCheckFamily (a0 a1 a2 : PV) (st : St) (R : Res → St → Prop) : Prop :=
 e_box st a2 fun v5 st =>
 callK prog n_laws_szDeclS [a0, (.int .i64 1048576)] st (fun v17 st =>
 qb (q_bin .lss v17 (.int .i64 0)) fun v19 =>
 cb v19 fun b => br b
  (retR R (.bool true) st)
  (callK prog n_laws_szTreeS [a1, v17] st (fun v22 st =>
  qb (q_bin .lss v22 (.int .i64 0)) fun v24 =>
  cb v24 fun b_1 => br b_1
   (retR R (.bool true) st)
   (qb (q_load st true 4 v5) fun v25 =>
   callK prog n_laws_szTree [v25, v22] st (fun v27 st =>
   qb (q_bin .lss v27 (.int .i64 0)) fun v29 =>
   cb v29 fun b_2 => br b_2
    (retR R (.bool true) st)
    (qb (q_load st true 4 v5) fun v35 =>
    callK prog n_laws_toDeclS [a0] st (fun v32 st =>
    q_load st true 4 v5 = some v35 ∧ (callK prog n_laws_toTreeS [a1] st (fun v34 st =>
    q_load st true 4 v5 = some v35 ∧ (callK prog n_laws_toTree [v35] st (fun v36 st =>
    callK prog n_spec_CheckFamily [v32, v34, v36] st (fun v37 st =>
    qb (q_ex v37 0) fun v38 =>
    qb (q_ex v37 1) fun v39 =>
    callK prog n_laws_toDeclS [a0] st (fun v41 st =>
    callK prog n_laws_toTreeS [a1] st (fun v43 st =>
    qb (q_load st true 4 v5) fun v44 =>
    callK prog n_laws_toTree [v44] st (fun v45 st =>
    e_alloc st [.int .i64 0, .int .i64 0, .str [], .sl 0 true []] fun v12 st =>
    e_store st 4 v12 v45 fun st =>
    qb (q_load st true 4 v12) fun v49 =>
    callK prog n_impl_CheckFamily [v41, v43, v49] st (fun v50 st =>
    qb (q_ex v50 0) fun v51 =>
    qb (q_ex v50 1) fun v52 =>
    qb (q_bin .neq v51 v38) fun v55 =>
    cb v55 fun b_3 => br b_3
     (retR R (.bool false) st)
     (qb (q_bin .neq v52 v39) fun v59 =>
     cb v59 fun b_4 => br b_4
      (retR R (.bool false) st)
      (callK prog n_laws_toDeclS [a0] st (fun v63 st =>
      callK prog n_laws_eqDeclS [v41, v63] st (fun v64 st =>
      qb (q_un .not v64) fun v65 =>
      cb v65 fun b_5 => br b_5
       (retR R (.bool false) st)
       (callK prog n_laws_toTreeS [a1] st (fun v68 st =>
       callK prog n_laws_eqTreeS [v43, v68] st (fun v69 st =>
       qb (q_un .not v69) fun v70 =>
       cb v70 fun b_6 => br b_6
        (retR R (.bool false) st)
        (qb (q_load st true 4 v12) fun v71 =>
        qb (q_load st true 4 v5) fun v72 =>
        callK prog n_laws_toTree [v72] st (fun v73 st =>
        q_load st true 4 v12 = some v71 ∧ (callK prog n_laws_eqTree [v71, v73] st (fun v74 st =>
        qb (q_un .not v74) fun v75 =>
        cb v75 fun b_7 => br b_7
         (retR R (.bool false) st)
         (retR R (.bool true) st)) (panR R))) (panR R))) (panR R)) (panR R))) (panR R)) (panR R)))) (panR R)) (panR R)) (panR R)) (panR R)) (panR R)) (panR R))) (panR R))) (panR R))) (panR R))) (panR R))) (panR R)
theorem e_laws_FnExactCheckFamily : Enters prog n_laws_FnExactCheckFamily := ⟨Go.Proofs.Tryz.f5, by kernel_rfl, by kernel_rfl, by kernel_rfl⟩
theorem c_laws_FnExactCheckFamily {a0 a1 a2 : PV} {st : St} {R : Res → St → Prop} (h : b_laws_FnExactCheckFamily a0 a1 a2 st R) : HCalls prog n_laws_FnExactCheckFamily [a0, a1, a2] st R :=
 hcalls_of_func tyOK mixed (fn := Go.Proofs.Tryz.f5) (by kernel_rfl) (by kernel_rfl) (by kernel_rfl) (ann := [])
  (show hFunc prog TT [] Go.Proofs.Tryz.f5 [a0, a1, a2] st R from (show hFunc prog TT [] Go.Proofs.Tryz.f5 [a0, a1, a2] st R = b_laws_FnExactCheckFamily a0 a1 a2 st R by kernel_rfl) ▸ h)
def b_laws_FnExactCheckKind (a0 a1 a2 : PV) (st : St) (R : Res → St → Prop) : Prop :=
 e_box st a2 fun v5 st =>
 callK prog n_laws_szDeclS [a0, (.int .i64 1048576)] st (fun v17 st =>
 qb (q_bin .lss v17 (.int .i64 0)) fun v19 =>
 cb v19 fun b => br b
  (retR R (.bool true) st)
  (callK prog n_laws_szTreeS [a1, v17] st (fun v22 st =>
  qb (q_bin .lss v22 (.int .i64 0)) fun v24 =>
  cb v24 fun b_1 => br b_1
   (retR R (.bool true) st)
   (qb (q_load st true 4 v5) fun v25 =>
   callK prog n_laws_szTree [v25, v22] st (fun v27 st =>
   qb (q_bin .lss v27 (.int .i64 0)) fun v29 =>
   cb v29 fun b_2 => br b_2
    (retR R (.bool true) st)
    (qb (q_load st true 4 v5) fun v35 =>
    callK prog n_laws_toDeclS [a0] st (fun v32 st =>
    q_load st true 4 v5 = some v35 ∧ (callK prog n_laws_toTreeS [a1] st (fun v34 st =>
    q_load st true 4 v5 = some v35 ∧ (callK prog n_laws_toTree [v35] st (fun v36 st =>
    callK prog n_spec_CheckKind [v32, v34, v36] st (fun v37 st =>
    qb (q_ex v37 0) fun v38 =>
    qb (q_ex v37 1) fun v39 =>
    callK prog n_laws_toDeclS [a0] st (fun v41 st =>
    callK prog n_laws_toTreeS [a1] st (fun v43 st =>
    qb (q_load st true 4 v5) fun v44 =>
    callK prog n_laws_toTree [v44] st (fun v45 st =>
    e_alloc st [.int .i64 0, .int .i64 0, .str [], .sl 0 true []] fun v12 st =>
    e_store st 4 v12 v45 fun st =>
    qb (q_load st true 4 v12) fun v49 =>
    callK prog n_impl_CheckKind [v41, v43, v49] st (fun v50 st =>
    qb (q_ex v50 0) fun v51 =>
    qb (q_ex v50 1) fun v52 =>
    qb (q_bin .neq v51 v38) fun v55 =>
    cb v55 fun b_3 => br b_3
     (retR R (.bool false) st)
     (qb (q_bin .neq v52 v39) fun v59 =>
     cb v59 fun b_4 => br b_4
      (retR R (.bool false) st)
      (callK prog n_laws_toDeclS [a0] st (fun v63 st =>
      callK prog n_laws_eqDeclS [v41, v63] st (fun v64 st =>
      qb (q_un .not v64) fun v65 =>
      cb v65 fun b_5 => br b_5
       (retR R (.bool false) st)
       (callK prog n_laws_toTreeS [a1] st (fun v68 st =>
       callK prog n_laws_eqTreeS [v43, v68] st (fun v69 st =>
       qb (q_un .not v69) fun v70 =>
       cb v70 fun b_6 => br b_6
        (retR R (.bool false) st)
        (qb (q_load st true 4 v12) fun v71 =>
        qb (q_load st true 4 v5) fun v72 =>
        callK prog n_laws_toTree [v72] st (fun v73 st =>
        q_load st true 4 v12 = some v71 ∧ (callK prog n_laws_eqTree [v71, v73] st (fun v74 st =>
        qb (q_un .not v74) fun v75 =>
        cb v75 fun b_7 => br b_7
         (retR R (.bool false) st)
         (retR R (.bool true) st)) (panR R))) (panR R))) (panR R)) (panR R))) (panR R)) (panR R)))) (panR R)) (panR R)) (panR R)) (panR R)) (panR R)) (panR R))) (panR R))) (panR R))) (panR R))) (panR R))) (panR R)
theorem e_laws_FnExactCheckKind : Enters prog n_laws_FnExactCheckKind := ⟨Go.Proofs.Tryz.f6, by kernel_rfl, by kernel_rfl, by kernel_rfl⟩
theorem c_laws_FnExactCheckKind {a0 a1 a2 : PV} {st : St} {R : Res → St → Prop} (h : b_laws_FnExactCheckKind a0 a1 a2 st R) : HCalls prog n_laws_FnExactCheckKind [a0, a1, a2] st R :=
 hcalls_of_func tyOK mixed (fn := Go.Proofs.Tryz.f6) (by kernel_rfl) (by kernel_rfl) (by kernel_rfl) (ann := [])
  (show hFunc prog TT [] Go.Proofs.Tryz.f6 [a0, a1, a2] st R from (show hFunc prog TT [] Go.Proofs.Tryz.f6 [a0, a1, a2] st R = b_laws_FnExactCheckKind a0 a1 a2 st R by kernel_rfl) ▸ h)
def b_laws_FnExactCheckTerm (a0 a1 a2 a3 : PV) (st : St) (R : Res → St → Prop) : Prop :=
 e_box st a2 fun v6 st =>
 e_box st a3 fun v7 st =>
 callK prog n_laws_szDeclS [a0, (.int .i64 1048576)] st (fun v20 st =>
 qb (q_bin .lss v20 (.int .i64 0)) fun v22 =>
 cb v22 fun b => br b
  (retR R (.bool true) st)
  (callK prog n_laws_szTreeS [a1, v20] st (fun v25 st =>
  qb (q_bin .lss v25 (.int .i64 0)) fun v27 =>
  cb v27 fun b_1 => br b_1
   (retR R (.bool true) st)
   (qb (q_load st true 4 v6) fun v28 =>
   callK prog n_laws_szTree [v28, v25] st (fun v30 st =>
   qb (q_bin .lss v30 (.int .i64 0)) fun v32 =>
   cb v32 fun b_2 => br b_2
    (retR R (.bool true) st)
    (qb (q_load st true 4 v7) fun v33 =>
    callK prog n_laws_szTree [v33, v30] st (fun v35 st =>
    qb (q_bin .lss v35 (.int .i64 0)) fun v37 =>
    cb v37 fun b_3 => br b_3
     (retR R (.bool true) st)
     (qb (q_load st true 4 v6) fun v43 =>
     qb (q_load st true 4 v7) fun v45 =>
     callK prog n_laws_toDeclS [a0] st (fun v40 st =>
     q_load st true 4 v7 = some v45 ∧ q_load st true 4 v6 = some v43 ∧ (callK prog n_laws_toTreeS [a1] st (fun v42 st =>
     q_load st true 4 v7 = some v45 ∧ q_load st true 4 v6 = some v43 ∧ (callK prog n_laws_toTree [v43] st (fun v44 st =>
     q_load st true 4 v7 = some v45 ∧ (callK prog n_laws_toTree [v45] st (fun v46 st =>
     callK prog n_spec_CheckTerm [v40, v42, v44, v46] st (fun v47 st =>
     qb (q_ex v47 0) fun v48 =>
     qb (q_ex v47 1) fun v49 =>
     callK prog n_laws_toDeclS [a0] st (fun v51 st =>
     callK prog n_laws_toTreeS [a1] st (fun v53 st =>
     qb (q_load st true 4 v6) fun v54 =>
     callK prog n_laws_toTree [v54] st (fun v55 st =>
     e_alloc st [.int .i64 0, .int .i64 0, .str [], .sl 0 true []] fun v14 st =>
     e_store st 4 v14 v55 fun st =>
     qb (q_load st true 4 v7) fun v56 =>
     callK prog n_laws_toTree [v56] st (fun v57 st =>
     e_alloc st [.int .i64 0, .int .i64 0, .str [], .sl 0 true []] fun v15 st =>
     e_store st 4 v15 v57 fun st =>
     qb (q_load st true 4 v14) fun v61 =>
     qb (q_load st true 4 v15) fun v62 =>
     callK prog n_impl_CheckTerm [v51, v53, v61, v62] st (fun v63 st =>
     qb (q_ex v63 0) fun v64 =>
     qb (q_ex v63 1) fun v65 =>
     qb (q_bin .neq v64 v48) fun v68 =>
     cb v68 fun b_4 => br b_4
      (retR R (.bool false) st)
      (qb (q_bin .neq v65 v49) fun v72 =>
      cb v72 fun b_5 => br b_5
       (retR R (.bool false) st)
       (callK prog n_laws_toDeclS [a0] st (fun v76 st =>
       callK prog n_laws_eqDeclS [v51, v76] st (fun v77 st =>
       qb (q_un .not v77) fun v78 =>
       cb v78 fun b_6 => br b_6
        (retR R (.bool false) st)
        (callK prog n_laws_toTreeS [a1] st (fun v81 st =>
        callK prog n_laws_eqTreeS [v53, v81] st (fun v82 st =>
        qb (q_un .not v82) fun v83 =>
        cb v83 fun b_7 => br b_7
         (retR R (.bool false) st)
         (qb (q_load st true 4 v14) fun v84 =>
         qb (q_load st true 4 v6) fun v85 =>
         callK prog n_laws_toTree [v85] st (fun v86 st =>
         q_load st true 4 v14 = some v84 ∧ (callK prog n_laws_eqTree [v84, v86] st (fun v87 st =>
         qb (q_un .not v87) fun v88 =>
         cb v88 fun b_8 => br b_8
          (retR R (.bool false) st)
          (qb (q_load st true 4 v15) fun v89 =>
          qb (q_load st true 4 v7) fun v90 =>
          callK prog n_laws_toTree [v90] st (fun v91 st =>
          q_load st true 4 v15 = some v89 ∧ (callK prog n_laws_eqTree [v89, v91] st (fun v92 st =>
          qb (q_un .not v92) fun v93 =>
          cb v93 fun b_9 => br b_9
           (retR R (.bool false) st)
           (retR R (.bool true) st)) (panR R))) (panR R))) (panR R))) (panR R))) (panR R)) (panR R))) (panR R)) (panR R)))) (panR R)) (panR R)) (panR R)) (panR R)) (panR R)) (panR R)) (panR R))) (panR R))) (panR R))) (panR R))) (panR R))) (panR R))) (panR R))) (panR R)
theorem e_laws_FnExactCheckTerm : Enters prog n_laws_FnExactCheckTerm := ⟨Go.Proofs.Tryz.f7, by kernel_rfl, by kernel_rfl, by kernel_rfl⟩
theorem c_laws_FnExactCheckTerm {a0 a1 a2 a3 : PV} {st : St} {R : Res → St → Prop} (h : b_laws_FnExactCheckTerm a0 a1 a2 a3 st R) : HCalls prog n_laws_FnExactCheckTerm [a0, a1, a2, a3] st R :=
 hcalls_of_func tyOK mixed (fn := Go.Proofs.Tryz.f7) (by kernel_rfl) (by kernel_rfl) (by kernel_rfl) (ann := [])
  (show hFunc prog TT [] Go.Proofs.Tryz.f7 [a0, a1, a2, a3] st R from (show hFunc prog TT [] Go.Proofs.Tryz.f7 [a0, a1, a2, a3] st R = b_laws_FnExactCheckTerm a0 a1 a2 a3 st R by kernel_rfl) ▸ h)
def b_laws_FnExactBuildSig (a0 : PV) (st : St) (R : Res → St → Prop) : Prop :=
 callK prog n_laws_szDeclS [a0, (.int .i64 1048576)] st (fun v22 st =>
 qb (q_bin .lss v22 (.int .i64 0)) fun v24 =>
 cb v24 fun b => br b
  (retR R (.bool true) st)
  (callK prog n_laws_toDeclS [a0] st (fun v27 st =>
  callK prog n_spec_BuildSig [v27] st (fun v28 st =>
  qb (q_ex v28 0) fun v29 =>
  qb (q_ex v28 1) fun v30 =>
  qb (q_ex v28 2) fun v31 =>
  qb (q_ex v28 3) fun v32 =>
  callK prog n_laws_toDeclS [a0] st (fun v34 st =>
  callK prog n_impl_BuildSig [v34] st (fun v37 st =>
  qb (q_ex v37 0) fun v38 =>
  qb (q_ex v37 1) fun v39 =>
  qb (q_ex v37 2) fun v40 =>
  qb (q_ex v37 3) fun v41 =>
  callK prog n_laws_eqDeclS [v38, v29] st (fun v44 st =>
  qb (q_un .not v44) fun v45 =>
  cb v45 fun b_1 => br b_1
   (retR R (.bool false) st)
   (qb (q_bin .neq v39 v30) fun v49 =>
   cb v49 fun b_2 => br b_2
    (retR R (.bool false) st)
    (qb (q_bin .neq v40 v31) fun v54 =>
    cb v54 fun b_3 => br b_3
     (retR R (.bool false) st)
     (qb (q_bin .neq v41 v32) fun v59 =>
     cb v59 fun b_4 => br b_4
      (retR R (.bool false) st)
      (callK prog n_laws_toDeclS [a0] st (fun v63 st =>
      callK prog n_laws_eqDeclS [v34, v63] st (fun v64 st =>
      qb (q_un .not v64) fun v65 =>
      cb v65 fun b_5 => br b_5
       (retR R (.bool false) st)
       (callK prog n_laws_markDeclS [v34, (.int .i64 1)] st (fun v68 st =>
       qb (q_bin .lss v68 (.int .i64 0)) fun v70 =>
       cb v70 fun b_6 => br b_6
        (retR R (.bool false) st)
        (callK prog n_laws_eqDeclS [v38, v29] st (fun v74 st =>
        qb (q_un .not v74) fun v75 =>
        cb v75 fun b_7 => br b_7
         (retR R (.bool false) st)
         (qb (q_bin .neq v39 v30) fun v80 =>
         cb v80 fun b_8 => br b_8
          (retR R (.bool false) st)
          (qb (q_bin .neq v40 v31) fun v85 =>
          cb v85 fun b_9 => br b_9
           (retR R (.bool false) st)
           (qb (q_bin .neq v41 v32) fun v90 =>
           cb v90 fun b_10 => br b_10
            (retR R (.bool false) st)
            (callK prog n_laws_markDeclS [v38, (.int .i64 1)] st (fun v94 st =>
            callK prog n_laws_heldDeclS [v38, (.int .i64 1)] st (fun v97 st =>
            qb (q_bin .lss v97 (.int .i64 0)) fun v99 =>
            cb v99 fun b_11 => br b_11
             (retR R (.bool false) st)
             (qb (q_bin .neq v97 v94) fun v102 =>
             cb v102 fun b_12 => br b_12
              (retR R (.bool false) st)
              (callK prog n_laws_toDeclS [a0] st (fun v105 st =>
              callK prog n_impl_BuildSig [v105] st (fun v106 st =>
              qb (q_ex v106 0) fun v107 =>
              qb (q_ex v106 1) fun v108 =>
              qb (q_ex v106 2) fun v109 =>
              qb (q_ex v106 3) fun v110 =>
              callK prog n_laws_eqDeclS [v107, v29] st (fun v113 st =>
              qb (q_un .not v113) fun v114 =>
              cb v114 fun b_13 => br b_13
               (retR R (.bool false) st)
               (qb (q_bin .neq v108 v30) fun v118 =>
               cb v118 fun b_14 => br b_14
                (retR R (.bool false) st)
                (qb (q_bin .neq v109 v31) fun v123 =>
                cb v123 fun b_15 => br b_15
                 (retR R (.bool false) st)
                 (qb (q_bin .neq v110 v32) fun v128 =>
                 cb v128 fun b_16 => br b_16
                  (retR R (.bool false) st)
                  (callK prog n_laws_heldDeclS [v38, (.int .i64 1)] st (fun v132 st =>
                  qb (q_bin .lss v132 (.int .i64 0)) fun v134 =>
                  cb v134 fun b_17 => br b_17
                   (retR R (.bool false) st)
                   (qb (q_bin .neq v132 v94) fun v137 =>
                   cb v137 fun b_18 => br b_18
                    (retR R (.bool false) st)
                    (retR R (.bool true) st))) (panR R)))))) (panR R)) (panR R)) (panR R)))) (panR R)) (panR R)))))) (panR R))) (panR R))) (panR R)) (panR R)))))) (panR R)) (panR R)) (panR R)) (panR R)) (panR R))) (panR R)
theorem e_laws_FnExactBuildSig : Enters prog n_laws_FnExactBuildSig := ⟨Go.Proofs.Tryz.f8, by kernel_rfl, by kernel_rfl, by kernel_rfl⟩
theorem c_laws_FnExactBuildSig {a0 : PV} {st : St} {R : Res → St → Prop} (h : b_laws_FnExactBuildSig a0 st R) : HCalls prog n_laws_FnExactBuildSig [a0] st R :=
 hcalls_of_func tyOK mixed (fn := Go.Proofs.Tryz.f8) (by kernel_rfl) (by kernel_rfl) (by kernel_rfl) (ann := [])
  (show hFunc prog TT [] Go.Proofs.Tryz.f8 [a0] st R from (show hFunc prog TT [] Go.Proofs.Tryz.f8 [a0] st R = b_laws_FnExactBuildSig a0 st R by kernel_rfl) ▸ h)
def b_laws_FnExactSimpleSig (a0 : PV) (st : St) (R : Res → St → Prop) : Prop :=
 callK prog n_laws_szDeclS [a0, (.int .i64 1048576)] st (fun v16 st =>
 qb (q_bin .lss v16 (.int .i64 0)) fun v18 =>
 cb v18 fun b => br b
  (retR R (.bool true) st)
  (callK prog n_laws_toDeclS [a0] st (fun v21 st =>
  callK prog n_spec_SimpleSig [v21] st (fun v22 st =>
  qb (q_ex v22 0) fun v23 =>
  qb (q_ex v22 1) fun v24 =>
  callK prog n_laws_toDeclS [a0] st (fun v26 st =>
  callK prog n_impl_SimpleSig [v26] st (fun v29 st =>
  qb (q_ex v29 0) fun v30 =>
  qb (q_ex v29 1) fun v31 =>
  callK prog n_laws_eqTypedS [v30, v23] st (fun v34 st =>
  qb (q_un .not v34) fun v35 =>
  cb v35 fun b_1 => br b_1
   (retR R (.bool false) st)
   (qb (q_bin .neq v31 v24) fun v39 =>
   cb v39 fun b_2 => br b_2
    (retR R (.bool false) st)
    (callK prog n_laws_toDeclS [a0] st (fun v43 st =>
    callK prog n_laws_eqDeclS [v26, v43] st (fun v44 st =>
    qb (q_un .not v44) fun v45 =>
    cb v45 fun b_3 => br b_3
     (retR R (.bool false) st)
     (callK prog n_laws_markDeclS [v26, (.int .i64 1)] st (fun v48 st =>
     qb (q_bin .lss v48 (.int .i64 0)) fun v50 =>
     cb v50 fun b_4 => br b_4
      (retR R (.bool false) st)
      (callK prog n_laws_eqTypedS [v30, v23] st (fun v54 st =>
      qb (q_un .not v54) fun v55 =>
      cb v55 fun b_5 => br b_5
       (retR R (.bool false) st)
       (qb (q_bin .neq v31 v24) fun v60 =>
       cb v60 fun b_6 => br b_6
        (retR R (.bool false) st)
        (callK prog n_laws_markTypedS [v30, (.int .i64 1)] st (fun v64 st =>
        callK prog n_laws_heldTypedS [v30, (.int .i64 1)] st (fun v67 st =>
        qb (q_bin .lss v67 (.int .i64 0)) fun v69 =>
        cb v69 fun b_7 => br b_7
         (retR R (.bool false) st)
         (qb (q_bin .neq v67 v64) fun v72 =>
         cb v72 fun b_8 => br b_8
          (retR R (.bool false) st)
          (callK prog n_laws_toDeclS [a0] st (fun v75 st =>
          callK prog n_impl_SimpleSig [v75] st (fun v76 st =>
          qb (q_ex v76 0) fun v77 =>
          qb (q_ex v76 1) fun v78 =>
          callK prog n_laws_eqTypedS [v77, v23] st (fun v81 st =>
          qb (q_un .not v81) fun v82 =>
          cb v82 fun b_9 => br b_9
           (retR R (.bool false) st)
           (qb (q_bin .neq v78 v24) fun v86 =>
           cb v86 fun b_10 => br b_10
            (retR R (.bool false) st)
            (callK prog n_laws_heldTypedS [v30, (.int .i64 1)] st (fun v90 st =>
            qb (q_bin .lss v90 (.int .i64 0)) fun v92 =>
            cb v92 fun b_11 => br b_11
             (retR R (.bool false) st)
             (qb (q_bin .neq v90 v64) fun v95 =>
             cb v95 fun b_12 => br b_12
              (retR R (.bool false) st)
              (retR R (.bool true) st))) (panR R)))) (panR R)) (panR R)) (panR R)))) (panR R)) (panR R)))) (panR R))) (panR R))) (panR R)) (panR R)))) (panR R)) (panR R)) (panR R)) (panR R)) (panR R))) (panR R)
theorem e_laws_FnExactSimpleSig : Enters prog n_laws_FnExactSimpleSig := ⟨Go.Proofs.Tryz.f9, by kernel_rfl, by kernel_rfl, by kernel_rfl⟩
theorem c_laws_FnExactSimpleSig {a0 : PV} {st : St} {R : Res → St → Prop} (h : b_laws_FnExactSimpleSig a0 st R) : HCalls prog n_laws_FnExactSimpleSig [a0] st R :=
 hcalls_of_func tyOK mixed (fn := Go.Proofs.Tryz.f9) (by kernel_rfl) (by kernel_rfl) (by kernel_rfl) (ann := [])
  (show hFunc prog TT [] Go.Proofs.Tryz.f9 [a0] st R from (show hFunc prog TT [] Go.Proofs.Tryz.f9 [a0] st R = b_laws_FnExactSimpleSig a0 st R by kernel_rfl) ▸ h)
def b_laws_FnExactNeeds (a0 a1 : PV) (st : St) (R : Res → St → Prop) : Prop :=
 qb (q_lenS a1) fun v17 =>
 qb (q_bin .gtr v17 (.int .i64 1048576)) fun v18 =>
 cb v18 fun b => br b
  (retR R (.bool true) st)
  (callK prog n_laws_szDeclS [a0, (.int .i64 1048576)] st (fun v21 st =>
  qb (q_bin .lss v21 (.int .i64 0)) fun v23 =>
  cb v23 fun b_1 => br b_1
   (retR R (.bool true) st)
   (callK prog n_laws_toDeclS [a0] st (fun v26 st =>
   callK prog n_spec_Needs [v26, a1] st (fun v28 st =>
   qb (q_ex v28 0) fun v29 =>
   qb (q_ex v28 1) fun v30 =>
   callK prog n_laws_toDeclS [a0] st (fun v32 st =>
   callK prog n_impl_Needs [v32, a1] st (fun v36 st =>
   qb (q_ex v36 0) fun v37 =>
   qb (q_ex v36 1) fun v38 =>
   callK prog n_laws_eqStringS [v37, v29] st (fun v41 st =>
   qb (q_un .not v41) fun v42 =>
   cb v42 fun b_2 => br b_2
    (retR R (.bool false) st)
    (qb (q_bin .neq v38 v30) fun v46 =>
    cb v46 fun b_3 => br b_3
     (retR R (.bool false) st)
     (callK prog n_laws_toDeclS [a0] st (fun v50 st =>
     callK prog n_laws_eqDeclS [v32, v50] st (fun v51 st =>
     qb (q_un .not v51) fun v52 =>
     cb v52 fun b_4 => br b_4
      (retR R (.bool false) st)
      (callK prog n_laws_markDeclS [v32, (.int .i64 1)] st (fun v55 st =>
      qb (q_bin .lss v55 (.int .i64 0)) fun v57 =>
      cb v57 fun b_5 => br b_5
       (retR R (.bool false) st)
       (callK prog n_laws_eqStringS [v37, v29] st (fun v61 st =>
       qb (q_un .not v61) fun v62 =>
       cb v62 fun b_6 => br b_6
        (retR R (.bool false) st)
        (qb (q_bin .neq v38 v30) fun v67 =>
        cb v67 fun b_7 => br b_7
         (retR R (.bool false) st)
         (callK prog n_laws_markStringS [v37, (.int .i64 1)] st (fun v71 st =>
         callK prog n_laws_heldStringS [v37, (.int .i64 1)] st (fun v74 st =>
         qb (q_bin .lss v74 (.int .i64 0)) fun v76 =>
         cb v76 fun b_8 => br b_8
          (retR R (.bool false) st)
          (qb (q_bin .neq v74 v71) fun v79 =>
          cb v79 fun b_9 => br b_9
           (retR R (.bool false) st)
           (callK prog n_laws_toDeclS [a0] st (fun v82 st =>
           callK prog n_impl_Needs [v82, a1] st (fun v84 st =>
           qb (q_ex v84 0) fun v85 =>
           qb (q_ex v84 1) fun v86 =>
           callK prog n_laws_eqStringS [v85, v29] st (fun v89 st =>
           qb (q_un .not v89) fun v90 =>
           cb v90 fun b_10 => br b_10
            (retR R (.bool false) st)
            (qb (q_bin .neq v86 v30) fun v94 =>
            cb v94 fun b_11 => br b_11
             (retR R (.bool false) st)
             (callK prog n_laws_heldStringS [v37, (.int .i64 1)] st (fun v98 st =>
             qb (q_bin .lss v98 (.int .i64 0)) fun v100 =>
             cb v100 fun b_12 => br b_12
              (retR R (.bool false) st)
              (qb (q_bin .neq v98 v71) fun v103 =>
              cb v103 fun b_13 => br b_13
               (retR R (.bool false) st)
               (retR R (.bool true) st))) (panR R)))) (panR R)) (panR R)) (panR R)))) (panR R)) (panR R)))) (panR R))) (panR R))) (panR R)) (panR R)))) (panR R)) (panR R)) (panR R)) (panR R)) (panR R))) (panR R))
theorem e_laws_FnExactNeeds : Enters prog n_laws_FnExactNeeds := ⟨Go.Proofs.Tryz.f10, by kernel_rfl, by kernel_rfl, by kernel_rfl⟩
theorem c_laws_FnExactNeeds {a0 a1 : PV} {st : St} {R : Res → St → Prop} (h : b_laws_FnExactNeeds a0 a1 st R) : HCalls prog n_laws_FnExactNeeds [a0, a1] st R :=
 hcalls_of_func tyOK mixed (fn := Go.Proofs.Tryz.f10) (by kernel_rfl) (by kernel_rfl) (by kernel_rfl) (ann := [])
  (show hFunc prog TT [] Go.Proofs.Tryz.f10 [a0, a1] st R from (show hFunc prog TT [] Go.Proofs.Tryz.f10 [a0, a1] st R = b_laws_FnExactNeeds a0 a1 st R by kernel_rfl) ▸ h)
def b_laws_FnExactSynth (a0 a1 a2 : PV) (st : St) (R : Res → St → Prop) : Prop :=
 e_box st a2 fun v5 st =>
 callK prog n_laws_szDeclS [a0, (.int .i64 1048576)] st (fun v25 st =>
 qb (q_bin .lss v25 (.int .i64 0)) fun v27 =>
 cb v27 fun b => br b
  (retR R (.bool true) st)
  (callK prog n_laws_szTreeS [a1, v25] st (fun v30 st =>
  qb (q_bin .lss v30 (.int .i64 0)) fun v32 =>
  cb v32 fun b_1 => br b_1
   (retR R (.bool true) st)
   (qb (q_load st true 4 v5) fun v33 =>
   callK prog n_laws_szTree [v33, v30] st (fun v35 st =>
   qb (q_bin .lss v35 (.int .i64 0)) fun v37 =>
   cb v37 fun b_2 => br b_2
    (retR R (.bool true) st)
    (hJ (fun ls st =>
     callK prog n_laws_toDeclS [a0] st (fun v50 st =>
     callK prog n_laws_toTreeS [a1] st (fun v52 st =>
     qb (q_load st true 4 v5) fun v53 =>
     callK prog n_laws_toTree [v53] st (fun v54 st =>
     e_alloc st [.int .i64 0, .int .i64 0, .str [], .sl 0 true []] fun v13 st =>
     e_store st 4 v13 v54 fun st =>
     qb (q_load st true 4 v13) fun v58 =>
     callK prog n_impl_Synth [v50, v52, v58] st (fun v59 st =>
     qb (q_ex v59 0) fun v60 =>
     qb (q_ex v59 1) fun v61 =>
     qb (q_ex v59 2) fun v62 =>
     e_alloc st [.int .i64 0, .int .i64 0, .str [], .sl 0 true []] fun v14 st =>
     e_store st 4 v14 v60 fun st =>
     qb (q_load st true 4 v14) fun v63 =>
     qb (q_load st true 4 (ls.getD 0 .junk)) fun v64 =>
     callK prog n_laws_eqTree [v63, v64] st (fun v65 st =>
     qb (q_un .not v65) fun v66 =>
     cb v66 fun b_3 => br b_3
      (retR R (.bool false) st)
      (qb (q_bin .neq v61 (ls.getD 1 .junk)) fun v70 =>
      cb v70 fun b_4 => br b_4
       (retR R (.bool false) st)
       (qb (q_bin .neq v62 (ls.getD 2 .junk)) fun v75 =>
       cb v75 fun b_5 => br b_5
        (retR R (.bool false) st)
        (callK prog n_laws_toDeclS [a0] st (fun v79 st =>
        callK prog n_laws_eqDeclS [v50, v79] st (fun v80 st =>
        qb (q_un .not v80) fun v81 =>
        cb v81 fun b_6 => br b_6
         (retR R (.bool false) st)
         (callK prog n_laws_toTreeS [a1] st (fun v84 st =>
         callK prog n_laws_eqTreeS [v52, v84] st (fun v85 st =>
         qb (q_un .not v85) fun v86 =>
         cb v86 fun b_7 => br b_7
          (retR R (.bool false) st)
          (qb (q_load st true 4 v13) fun v87 =>
          qb (q_load st true 4 v5) fun v88 =>
          callK prog n_laws_toTree [v88] st (fun v89 st =>
          q_load st true 4 v13 = some v87 ∧ (callK prog n_laws_eqTree [v87, v89] st (fun v90 st =>
          qb (q_un .not v90) fun v91 =>
          cb v91 fun b_8 => br b_8
           (retR R (.bool false) st)
           (callK prog n_laws_markDeclS [v50, (.int .i64 1)] st (fun v94 st =>
           callK prog n_laws_markTreeS [v52, v94] st (fun v97 st =>
           qb (q_load st true 4 v13) fun v98 =>
           callK prog n_laws_markTree [v98, v97] st (fun v100 st =>
           qb (q_bin .lss v100 (.int .i64 0)) fun v102 =>
           cb v102 fun b_9 => br b_9
            (retR R (.bool false) st)
            (qb (q_load st true 4 v14) fun v104 =>
            qb (q_load st true 4 (ls.getD 0 .junk)) fun v105 =>
            callK prog n_laws_eqTree [v104, v105] st (fun v106 st =>
            qb (q_un .not v106) fun v107 =>
            cb v107 fun b_10 => br b_10
             (retR R (.bool false) st)
             (qb (q_bin .neq v61 (ls.getD 1 .junk)) fun v112 =>
             cb v112 fun b_11 => br b_11
              (retR R (.bool false) st)
              (qb (q_bin .neq v62 (ls.getD 2 .junk)) fun v117 =>
              cb v117 fun b_12 => br b_12
               (retR R (.bool false) st)
               (qb (q_load st true 4 v14) fun v119 =>
               callK prog n_laws_markTree [v119, (.int .i64 1)] st (fun v121 st =>
               qb (q_load st true 4 v14) fun v122 =>
               callK prog n_laws_heldTree [v122, (.int .i64 1)] st (fun v124 st =>
               qb (q_bin .lss v124 (.int .i64 0)) fun v126 =>
               cb v126 fun b_13 => br b_13
                (retR R (.bool false) st)
                (qb (q_bin .neq v124 v121) fun v129 =>
                cb v129 fun b_14 => br b_14
                 (retR R (.bool false) st)
                 (hJ (fun ls_1 st =>
                  qb (q_load st true 4 (ls_1.getD 0 .junk)) fun v141 =>
                  qb (q_load st true 4 (ls.getD 0 .junk)) fun v142 =>
                  callK prog n_laws_eqTree [v141, v142] st (fun v143 st =>
                  qb (q_un .not v143) fun v144 =>
                  cb v144 fun b_15 => br b_15
                   (retR R (.bool false) st)
                   (qb (q_bin .neq (ls_1.getD 1 .junk) (ls.getD 1 .junk)) fun v148 =>
                   cb v148 fun b_16 => br b_16
                    (retR R (.bool false) st)
                    (qb (q_bin .neq (ls_1.getD 2 .junk) (ls.getD 2 .junk)) fun v153 =>
                    cb v153 fun b_17 => br b_17
                     (retR R (.bool false) st)
                     (qb (q_load st true 4 v14) fun v155 =>
                     callK prog n_laws_heldTree [v155, (.int .i64 1)] st (fun v157 st =>
                     qb (q_bin .lss v157 (.int .i64 0)) fun v159 =>
                     cb v159 fun b_18 => br b_18
                      (retR R (.bool false) st)
                      (qb (q_bin .neq v157 v121) fun v162 =>
                      cb v162 fun b_19 => br b_19
                       (retR R (.bool false) st)
                       (retR R (.bool true) st))) (panR R))))) (panR R))
                  (fun k_1 =>
                 qb (q_load st true 4 v5) fun v135 =>
                 (callK prog n_laws_toDeclS [a0] st (fun v132 st =>
                 q_load st true 4 v5 = some v135 ∧ ((callK prog n_laws_toTreeS [a1] st (fun v134 st =>
                 q_load st true 4 v5 = some v135 ∧ ((callK prog n_laws_toTree [v135] st (fun v136 st =>
                 (callK prog n_impl_Synth [v132, v134, v136] st (fun v137 st =>
                 qb (q_ex v137 0) fun v138 =>
                 qb (q_ex v137 1) fun v139 =>
                 qb (q_ex v137 2) fun v140 =>
                 e_alloc st [.int .i64 0, .int .i64 0, .str [], .sl 0 true []] fun v20 st =>
                 q_load st true 4 v5 = some v135 ∧ (e_store st 4 v20 v138 fun st =>
                 k_1 [v20, v139, v140] st)) (panR R)) ∧
                 (e_alloc st [.int .i64 0, .int .i64 0, .str [], .sl 0 true []] fun v20_1 st =>
                 q_load st true 4 v5 = some v135 ∧ (callK prog n_impl_Synth [v132, v134, v136] st (fun v137_1 st =>
                 qb (q_ex v137_1 0) fun v138_1 =>
                 qb (q_ex v137_1 1) fun v139_1 =>
                 qb (q_ex v137_1 2) fun v140_1 =>
                 e_store st 4 v20_1 v138_1 fun st =>
                 k_1 [v20_1, v139_1, v140_1] st) (panR R)))) (panR R)) ∧
                 (e_alloc st [.int .i64 0, .int .i64 0, .str [], .sl 0 true []] fun v20_2 st =>
                 q_load st true 4 v5 = some v135 ∧ (callK prog n_laws_toTree [v135] st (fun v136_1 st =>
                 callK prog n_impl_Synth [v132, v134, v136_1] st (fun v137_2 st =>
                 qb (q_ex v137_2 0) fun v138_2 =>
                 qb (q_ex v137_2 1) fun v139_2 =>
                 qb (q_ex v137_2 2) fun v140_2 =>
                 e_store st 4 v20_2 v138_2 fun st =>
                 k_1 [v20_2, v139_2, v140_2] st) (panR R)) (panR R))))) (panR R)) ∧
                 (e_alloc st [.int .i64 0, .int .i64 0, .str [], .sl 0 true []] fun v20_3 st =>
                 q_load st true 4 v5 = some v135 ∧ (callK prog n_laws_toTreeS [a1] st (fun v134_1 st =>
                 q_load st true 4 v5 = some v135 ∧ (callK prog n_laws_toTree [v135] st (fun v136_2 st =>
                 callK prog n_impl_Synth [v132, v134_1, v136_2] st (fun v137_3 st =>
                 qb (q_ex v137_3 0) fun v138_3 =>
                 qb (q_ex v137_3 1) fun v139_3 =>
                 qb (q_ex v137_3 2) fun v140_3 =>
                 e_store st 4 v20_3 v138_3 fun st =>
                 k_1 [v20_3, v139_3, v140_3] st) (panR R)) (panR R))) (panR R))))) (panR R)) ∧
                 (e_alloc st [.int .i64 0, .int .i64 0, .str [], .sl 0 true []] fun v20_4 st =>
                 q_load st true 4 v5 = some v135 ∧ (callK prog n_laws_toDeclS [a0] st (fun v132_1 st =>
                 q_load st true 4 v5 = some v135 ∧ (callK prog n_laws_toTreeS [a1] st (fun v134_2 st =>
                 q_load st true 4 v5 = some v135 ∧ (callK prog n_laws_toTree [v135] st (fun v136_3 st =>
                 callK prog n_impl_Synth [v132_1, v134_2, v136_3] st (fun v137_4 st =>
                 qb (q_ex v137_4 0) fun v138_4 =>
                 qb (q_ex v137_4 1) fun v139_4 =>
                 qb (q_ex v137_4 2) fun v140_4 =>
                 e_store st 4 v20_4 v138_4 fun st =>
                 k_1 [v20_4, v139_4, v140_4] st) (panR R)) (panR R))) (panR R))) (panR R))))))) (panR R)) (panR R))))) (panR R))) (panR R)) (panR R)) (panR R))) (panR R))) (panR R))) (panR R)) (panR R))) (panR R)) (panR R))))) (panR R)) (panR R)) (panR R)) (panR R)) (panR R))
     (fun k =>
    qb (q_load st true 4 v5) fun v43 =>
    (callK prog n_laws_toDeclS [a0] st (fun v40 st =>
    q_load st true 4 v5 = some v43 ∧ ((callK prog n_laws_toTreeS [a1] st (fun v42 st =>
    q_load st true 4 v5 = some v43 ∧ ((callK prog n_laws_toTree [v43] st (fun v44 st =>
    (callK prog n_spec_Synth [v40, v42, v44] st (fun v45 st =>
    qb (q_ex v45 0) fun v46 =>
    qb (q_ex v45 1) fun v47 =>
    qb (q_ex v45 2) fun v48 =>
    e_alloc st [.int .i64 0, .int .i64 0, .str [], .sl 0 true []] fun v8 st =>
    q_load st true 4 v5 = some v43 ∧ (e_store st 4 v8 v46 fun st =>
    k [v8, v47, v48] st)) (panR R)) ∧
    (e_alloc st [.int .i64 0, .int .i64 0, .str [], .sl 0 true []] fun v8_1 st =>
    q_load st true 4 v5 = some v43 ∧ (callK prog n_spec_Synth [v40, v42, v44] st (fun v45_1 st =>
    qb (q_ex v45_1 0) fun v46_1 =>
    qb (q_ex v45_1 1) fun v47_1 =>
    qb (q_ex v45_1 2) fun v48_1 =>
    e_store st 4 v8_1 v46_1 fun st =>
    k [v8_1, v47_1, v48_1] st) (panR R)))) (panR R)) ∧
    (e_alloc st [.int .i64 0, .int .i64 0, .str [], .sl 0 true []] fun v8_2 st =>
    q_load st true 4 v5 = some v43 ∧ (callK prog n_laws_toTree [v43] st (fun v44_1 st =>
    callK prog n_spec_Synth [v40, v42, v44_1] st (fun v45_2 st =>
    qb (q_ex v45_2 0) fun v46_2 =>
    qb (q_ex v45_2 1) fun v47_2 =>
    qb (q_ex v45_2 2) fun v48_2 =>
    e_store st 4 v8_2 v46_2 fun st =>
    k [v8_2, v47_2, v48_2] st) (panR R)) (panR R))))) (panR R)) ∧
    (e_alloc st [.int .i64 0, .int .i64 0, .str [], .sl 0 true []] fun v8_3 st =>
    q_load st true 4 v5 = some v43 ∧ (callK prog n_laws_toTreeS [a1] st (fun v42_1 st =>
    q_load st true 4 v5 = some v43 ∧ (callK prog n_laws_toTree [v43] st (fun v44_2 st =>
    callK prog n_spec_Synth [v40, v42_1, v44_2] st (fun v45_3 st =>
    qb (q_ex v45_3 0) fun v46_3 =>
    qb (q_ex v45_3 1) fun v47_3 =>
    qb (q_ex v45_3 2) fun v48_3 =>
    e_store st 4 v8_3 v46_3 fun st =>
    k [v8_3, v47_3, v48_3] st) (panR R)) (panR R))) (panR R))))) (panR R)) ∧
    (e_alloc st [.int .i64 0, .int .i64 0, .str [], .sl 0 true []] fun v8_4 st =>
    q_load st true 4 v5 = some v43 ∧ (callK prog n_laws_toDeclS [a0] st (fun v40_1 st =>
    q_load st true 4 v5 = some v43 ∧ (callK prog n_laws_toTreeS [a1] st (fun v42_2 st =>
    q_load st true 4 v5 = some v43 ∧ (callK prog n_laws_toTree [v43] st (fun v44_3 st =>
    callK prog n_spec_Synth [v40_1, v42_2, v44_3] st (fun v45_4 st =>
    qb (q_ex v45_4 0) fun v46_4 =>
    qb (q_ex v45_4 1) fun v47_4 =>
    qb (q_ex v45_4 2) fun v48_4 =>
    e_store st 4 v8_4 v46_4 fun st =>
    k [v8_4, v47_4, v48_4] st) (panR R)) (panR R))) (panR R))) (panR R)))))) (panR R))) (panR R))) (panR R)
theorem e_laws_FnExactSynth : Enters prog n_laws_FnExactSynth := ⟨Go.Proofs.Tryz.f11, by kernel_rfl, by kernel_rfl, by kernel_rfl⟩
theorem c_laws_FnExactSynth {a0 a1 a2 : PV} {st : St} {R : Res → St → Prop} (h : b_laws_FnExactSynth a0 a1 a2 st R) : HCalls prog n_laws_FnExactSynth [a0, a1, a2] st R :=
 hcalls_of_func tyOK mixed (fn := Go.Proofs.Tryz.f11) (by kernel_rfl) (by kernel_rfl) (by kernel_rfl) (ann := [(45, [8, 9, 10]), (153, [20, 21, 22])])
  (show hFunc prog TT [(45, [8, 9, 10]), (153, [20, 21, 22])] Go.Proofs.Tryz.f11 [a0, a1, a2] st R from (show hFunc prog TT [(45, [8, 9, 10]), (153, [20, 21, 22])] Go.Proofs.Tryz.f11 [a0, a1, a2] st R = b_laws_FnExactSynth a0 a1 a2 st R by kernel_rfl) ▸ h)
def b_laws_FnExactAddDecl (a0 a1 : PV) (st : St) (R : Res → St → Prop) : Prop :=
 e_box st a1 fun v3 st =>
 callK prog n_laws_szDeclS [a0, (.int .i64 1048576)] st (fun v22 st =>
 qb (q_bin .lss v22 (.int .i64 0)) fun v24 =>
 cb v24 fun b => br b
  (retR R (.bool true) st)
  (qb (q_load st true 6 v3) fun v25 =>
  callK prog n_laws_szDecl [v25, v22] st (fun v27 st =>
  qb (q_bin .lss v27 (.int .i64 0)) fun v29 =>
  cb v29 fun b_1 => br b_1
   (retR R (.bool true) st)
   (qb (q_load st true 6 v3) fun v33 =>
   callK prog n_laws_toDeclS [a0] st (fun v32 st =>
   q_load st true 6 v3 = some v33 ∧ (callK prog n_laws_toDecl [v33] st (fun v34 st =>
   callK prog n_spec_AddDecl [v32, v34] st (fun v35 st =>
   qb (q_ex v35 0) fun v36 =>
   qb (q_ex v35 1) fun v37 =>
   qb (q_ex v35 2) fun v38 =>
   callK prog n_laws_toDeclS [a0] st (fun v40 st =>
   qb (q_load st true 6 v3) fun v41 =>
   callK prog n_laws_toDecl [v41] st (fun v42 st =>
   e_alloc st [.str [], .bool false, .int .i64 0, .int .i64 0, .str [], .sl 0 true []] fun v10 st =>
   e_store st 6 v10 v42 fun st =>
   qb (q_load st true 6 v10) fun v45 =>
   callK prog n_impl_AddDecl [v40, v45] st (fun v46 st =>
   qb (q_ex v46 0) fun v47 =>
   qb (q_ex v46 1) fun v48 =>
   qb (q_ex v46 2) fun v49 =>
   callK prog n_laws_eqDeclS [v47, v36] st (fun v52 st =>
   qb (q_un .not v52) fun v53 =>
   cb v53 fun b_2 => br b_2
    (retR R (.bool false) st)
    (qb (q_bin .neq v48 v37) fun v57 =>
    cb v57 fun b_3 => br b_3
     (retR R (.bool false) st)
     (qb (q_bin .neq v49 v38) fun v62 =>
     cb v62 fun b_4 => br b_4
      (retR R (.bool false) st)
      (callK prog n_laws_toDeclS [a0] st (fun v66 st =>
      callK prog n_laws_eqDeclS [v40, v66] st (fun v67 st =>
      qb (q_un .not v67) fun v68 =>
      cb v68 fun b_5 => br b_5
       (retR R (.bool false) st)
       (qb (q_load st true 6 v10) fun v69 =>
       qb (q_load st true 6 v3) fun v70 =>
       callK prog n_laws_toDecl [v70] st (fun v71 st =>
       q_load st true 6 v10 = some v69 ∧ (callK prog n_laws_eqDecl [v69, v71] st (fun v72 st =>
       qb (q_un .not v72) fun v73 =>
       cb v73 fun b_6 => br b_6
        (retR R (.bool false) st)
        (callK prog n_laws_markDeclS [v40, (.int .i64 1)] st (fun v76 st =>
        qb (q_load st true 6 v10) fun v77 =>
        callK prog n_laws_markDecl [v77, v76] st (fun v79 st =>
        qb (q_bin .lss v79 (.int .i64 0)) fun v81 =>
        cb v81 fun b_7 => br b_7
         (retR R (.bool false) st)
         (callK prog n_laws_eqDeclS [v47, v36] st (fun v85 st =>
         qb (q_un .not v85) fun v86 =>
         cb v86 fun b_8 => br b_8
          (retR R (.bool false) st)
          (qb (q_bin .neq v48 v37) fun v91 =>
          cb v91 fun b_9 => br b_9
           (retR R (.bool false) st)
           (qb (q_bin .neq v49 v38) fun v96 =>
           cb v96 fun b_10 => br b_10
            (retR R (.bool false) st)
            (callK prog n_laws_markDeclS [v47, (.int .i64 1)] st (fun v100 st =>
            callK prog n_laws_heldDeclS [v47, (.int .i64 1)] st (fun v103 st =>
            qb (q_bin .lss v103 (.int .i64 0)) fun v105 =>
            cb v105 fun b_11 => br b_11
             (retR R (.bool false) st)
             (qb (q_bin .neq v103 v100) fun v108 =>
             cb v108 fun b_12 => br b_12
              (retR R (.bool false) st)
              (qb (q_load st true 6 v3) fun v112 =>
              callK prog n_laws_toDeclS [a0] st (fun v111 st =>
              q_load st true 6 v3 = some v112 ∧ (callK prog n_laws_toDecl [v112] st (fun v113 st =>
              callK prog n_impl_AddDecl [v111, v113] st (fun v114 st =>
              qb (q_ex v114 0) fun v115 =>
              qb (q_ex v114 1) fun v116 =>
              qb (q_ex v114 2) fun v117 =>
              callK prog n_laws_eqDeclS [v115, v36] st (fun v120 st =>
              qb (q_un .not v120) fun v121 =>
              cb v121 fun b_13 => br b_13
               (retR R (.bool false) st)
               (qb (q_bin .neq v116 v37) fun v125 =>
               cb v125 fun b_14 => br b_14
                (retR R (.bool false) st)
                (qb (q_bin .neq v117 v38) fun v130 =>
                cb v130 fun b_15 => br b_15
                 (retR R (.bool false) st)
                 (callK prog n_laws_heldDeclS [v47, (.int .i64 1)] st (fun v134 st =>
                 qb (q_bin .lss v134 (.int .i64 0)) fun v136 =>
                 cb v136 fun b_16 => br b_16
                  (retR R (.bool false) st)
                  (qb (q_bin .neq v134 v100) fun v139 =>
                  cb v139 fun b_17 => br b_17
                   (retR R (.bool false) st)
                   (retR R (.bool true) st))) (panR R))))) (panR R)) (panR R)) (panR R))) (panR R)))) (panR R)) (panR R))))) (panR R))) (panR R)) (panR R))) (panR R))) (panR R))) (panR R)) (panR R))))) (panR R)) (panR R)) (panR R)) (panR R)) (panR R)) (panR R))) (panR R))) (panR R))) (panR R)
theorem e_laws_FnExactAddDecl : Enters prog n_laws_FnExactAddDecl := ⟨Go.Proofs.Tryz.f12, by kernel_rfl, by kernel_rfl, by kernel_rfl⟩
theorem c_laws_FnExactAddDecl {a0 a1 : PV} {st : St} {R : Res → St → Prop} (h : b_laws_FnExactAddDecl a0 a1 st R) : HCalls prog n_laws_FnExactAddDecl [a0, a1] st R :=
 hcalls_of_func tyOK mixed (fn := Go.Proofs.Tryz.f12) (by kernel_rfl) (by kernel_rfl) (by kernel_rfl) (ann := [])
  (show hFunc prog TT [] Go.Proofs.Tryz.f12 [a0, a1] st R from (show hFunc prog TT [] Go.Proofs.Tryz.f12 [a0, a1] st R = b_laws_FnExactAddDecl a0 a1 st R by kernel_rfl) ▸ h)
def b_laws_FnExactOmittable (a0 a1 : PV) (st : St) (R : Res → St → Prop) : Prop :=
 qb (q_lenS a1) fun v17 =>
 qb (q_bin .gtr v17 (.int .i64 1048576)) fun v18 =>
 cb v18 fun b => br b
  (retR R (.bool true) st)
  (callK prog n_laws_szDeclS [a0, (.int .i64 1048576)] st (fun v21 st =>
  qb (q_bin .lss v21 (.int .i64 0)) fun v23 =>
  cb v23 fun b_1 => br b_1
   (retR R (.bool true) st)
   (callK prog n_laws_toDeclS [a0] st (fun v26 st =>
   callK prog n_spec_Omittable [v26, a1] st (fun v28 st =>
   qb (q_ex v28 0) fun v29 =>
   qb (q_ex v28 1) fun v30 =>
   callK prog n_laws_toDeclS [a0] st (fun v32 st =>
   callK prog n_impl_Omittable [v32, a1] st (fun v36 st =>
   qb (q_ex v36 0) fun v37 =>
   qb (q_ex v36 1) fun v38 =>
   callK prog n_laws_eqBoolS [v37, v29] st (fun v41 st =>
   qb (q_un .not v41) fun v42 =>
   cb v42 fun b_2 => br b_2
    (retR R (.bool false) st)
    (qb (q_bin .neq v38 v30) fun v46 =>
    cb v46 fun b_3 => br b_3
     (retR R (.bool false) st)
     (callK prog n_laws_toDeclS [a0] st (fun v50 st =>
     callK prog n_laws_eqDeclS [v32, v50] st (fun v51 st =>
     qb (q_un .not v51) fun v52 =>
     cb v52 fun b_4 => br b_4
      (retR R (.bool false) st)
      (callK prog n_laws_markDeclS [v32, (.int .i64 1)] st (fun v55 st =>
      qb (q_bin .lss v55 (.int .i64 0)) fun v57 =>
      cb v57 fun b_5 => br b_5
       (retR R (.bool false) st)
       (callK prog n_laws_eqBoolS [v37, v29] st (fun v61 st =>
       qb (q_un .not v61) fun v62 =>
       cb v62 fun b_6 => br b_6
        (retR R (.bool false) st)
        (qb (q_bin .neq v38 v30) fun v67 =>
        cb v67 fun b_7 => br b_7
         (retR R (.bool false) st)
         (callK prog n_laws_markBoolS [v37, (.int .i64 1)] st (fun v71 st =>
         callK prog n_laws_heldBoolS [v37, (.int .i64 1)] st (fun v74 st =>
         qb (q_bin .lss v74 (.int .i64 0)) fun v76 =>
         cb v76 fun b_8 => br b_8
          (retR R (.bool false) st)
          (qb (q_bin .neq v74 v71) fun v79 =>
          cb v79 fun b_9 => br b_9
           (retR R (.bool false) st)
           (callK prog n_laws_toDeclS [a0] st (fun v82 st =>
           callK prog n_impl_Omittable [v82, a1] st (fun v84 st =>
           qb (q_ex v84 0) fun v85 =>
           qb (q_ex v84 1) fun v86 =>
           callK prog n_laws_eqBoolS [v85, v29] st (fun v89 st =>
           qb (q_un .not v89) fun v90 =>
           cb v90 fun b_10 => br b_10
            (retR R (.bool false) st)
            (qb (q_bin .neq v86 v30) fun v94 =>
            cb v94 fun b_11 => br b_11
             (retR R (.bool false) st)
             (callK prog n_laws_heldBoolS [v37, (.int .i64 1)] st (fun v98 st =>
             qb (q_bin .lss v98 (.int .i64 0)) fun v100 =>
             cb v100 fun b_12 => br b_12
              (retR R (.bool false) st)
              (qb (q_bin .neq v98 v71) fun v103 =>
              cb v103 fun b_13 => br b_13
               (retR R (.bool false) st)
               (retR R (.bool true) st))) (panR R)))) (panR R)) (panR R)) (panR R)))) (panR R)) (panR R)))) (panR R))) (panR R))) (panR R)) (panR R)))) (panR R)) (panR R)) (panR R)) (panR R)) (panR R))) (panR R))
theorem e_laws_FnExactOmittable : Enters prog n_laws_FnExactOmittable := ⟨Go.Proofs.Tryz.f13, by kernel_rfl, by kernel_rfl, by kernel_rfl⟩
theorem c_laws_FnExactOmittable {a0 a1 : PV} {st : St} {R : Res → St → Prop} (h : b_laws_FnExactOmittable a0 a1 st R) : HCalls prog n_laws_FnExactOmittable [a0, a1] st R :=
 hcalls_of_func tyOK mixed (fn := Go.Proofs.Tryz.f13) (by kernel_rfl) (by kernel_rfl) (by kernel_rfl) (ann := [])
  (show hFunc prog TT [] Go.Proofs.Tryz.f13 [a0, a1] st R from (show hFunc prog TT [] Go.Proofs.Tryz.f13 [a0, a1] st R = b_laws_FnExactOmittable a0 a1 st R by kernel_rfl) ▸ h)
def b_laws_FnExactOmit (a0 a1 a2 : PV) (st : St) (R : Res → St → Prop) : Prop :=
 e_box st a1 fun v4 st =>
 qb (q_len a2) fun v21 =>
 qb (q_bin .gtr v21 (.int .i64 1048576)) fun v22 =>
 cb v22 fun b => br b
  (retR R (.bool true) st)
  (callK prog n_laws_szDeclS [a0, (.int .i64 1048576)] st (fun v25 st =>
  qb (q_bin .lss v25 (.int .i64 0)) fun v27 =>
  cb v27 fun b_1 => br b_1
   (retR R (.bool true) st)
   (qb (q_load st true 4 v4) fun v28 =>
   callK prog n_laws_szTree [v28, v25] st (fun v30 st =>
   qb (q_bin .lss v30 (.int .i64 0)) fun v32 =>
   cb v32 fun b_2 => br b_2
    (retR R (.bool true) st)
    (hJ (fun ls st =>
     callK prog n_laws_toDeclS [a0] st (fun v44 st =>
     qb (q_load st true 4 v4) fun v45 =>
     callK prog n_laws_toTree [v45] st (fun v46 st =>
     e_alloc st [.int .i64 0, .int .i64 0, .str [], .sl 0 true []] fun v11 st =>
     e_store st 4 v11 v46 fun st =>
     callK prog n_laws_toBoolS [a2] st (fun v48 st =>
     qb (q_load st true 4 v11) fun v51 =>
     callK prog n_impl_Omit [v44, v51, v48] st (fun v53 st =>
     qb (q_ex v53 0) fun v54 =>
     qb (q_ex v53 1) fun v55 =>
     e_alloc st [.int .i64 0, .int .i64 0, .str [], .sl 0 true []] fun v13 st =>
     e_store st 4 v13 v54 fun st =>
     qb (q_load st true 4 v13) fun v56 =>
     qb (q_load st true 4 (ls.getD 0 .junk)) fun v57 =>
     callK prog n_laws_eqTree [v56, v57] st (fun v58 st =>
     qb (q_un .not v58) fun v59 =>
     cb v59 fun b_3 => br b_3
      (retR R (.bool false) st)
      (qb (q_bin .neq v55 (ls.getD 1 .junk)) fun v63 =>
      cb v63 fun b_4 => br b_4
       (retR R (.bool false) st)
       (callK prog n_laws_toDeclS [a0] st (fun v67 st =>
       callK prog n_laws_eqDeclS [v44, v67] st (fun v68 st =>
       qb (q_un .not v68) fun v69 =>
       cb v69 fun b_5 => br b_5
        (retR R (.bool false) st)
        (qb (q_load st true 4 v11) fun v70 =>
        qb (q_load st true 4 v4) fun v71 =>
        callK prog n_laws_toTree [v71] st (fun v72 st =>
        q_load st true 4 v11 = some v70 ∧ (callK prog n_laws_eqTree [v70, v72] st (fun v73 st =>
        qb (q_un .not v73) fun v74 =>
        cb v74 fun b_6 => br b_6
         (retR R (.bool false) st)
         (callK prog n_laws_toBoolS [a2] st (fun v77 st =>
         callK prog n_laws_eqBoolS [v48, v77] st (fun v78 st =>
         qb (q_un .not v78) fun v79 =>
         cb v79 fun b_7 => br b_7
          (retR R (.bool false) st)
          (callK prog n_laws_markDeclS [v44, (.int .i64 1)] st (fun v82 st =>
          qb (q_load st true 4 v11) fun v83 =>
          callK prog n_laws_markTree [v83, v82] st (fun v85 st =>
          callK prog n_laws_markBoolS [v48, v85] st (fun v88 st =>
          qb (q_bin .lss v88 (.int .i64 0)) fun v90 =>
          cb v90 fun b_8 => br b_8
           (retR R (.bool false) st)
           (qb (q_load st true 4 v13) fun v92 =>
           qb (q_load st true 4 (ls.getD 0 .junk)) fun v93 =>
           callK prog n_laws_eqTree [v92, v93] st (fun v94 st =>
           qb (q_un .not v94) fun v95 =>
           cb v95 fun b_9 => br b_9
            (retR R (.bool false) st)
            (qb (q_bin .neq v55 (ls.getD 1 .junk)) fun v100 =>
            cb v100 fun b_10 => br b_10
             (retR R (.bool false) st)
             (qb (q_load st true 4 v13) fun v102 =>
             callK prog n_laws_markTree [v102, (.int .i64 1)] st (fun v104 st =>
             qb (q_load st true 4 v13) fun v105 =>
             callK prog n_laws_heldTree [v105, (.int .i64 1)] st (fun v107 st =>
             qb (q_bin .lss v107 (.int .i64 0)) fun v109 =>
             cb v109 fun b_11 => br b_11
              (retR R (.bool false) st)
              (qb (q_bin .neq v107 v104) fun v112 =>
              cb v112 fun b_12 => br b_12
               (retR R (.bool false) st)
               (hJ (fun ls_1 st =>
                qb (q_load st true 4 (ls_1.getD 0 .junk)) fun v123 =>
                qb (q_load st true 4 (ls.getD 0 .junk)) fun v124 =>
                callK prog n_laws_eqTree [v123, v124] st (fun v125 st =>
                qb (q_un .not v125) fun v126 =>
                cb v126 fun b_13 => br b_13
                 (retR R (.bool false) st)
                 (qb (q_bin .neq (ls_1.getD 1 .junk) (ls.getD 1 .junk)) fun v130 =>
                 cb v130 fun b_14 => br b_14
                  (retR R (.bool false) st)
                  (qb (q_load st true 4 v13) fun v132 =>
                  callK prog n_laws_heldTree [v132, (.int .i64 1)] st (fun v134 st =>
                  qb (q_bin .lss v134 (.int .i64 0)) fun v136 =>
                  cb v136 fun b_15 => br b_15
                   (retR R (.bool false) st)
                   (qb (q_bin .neq v134 v104) fun v139 =>
                   cb v139 fun b_16 => br b_16
                    (retR R (.bool false) st)
                    (retR R (.bool true) st))) (panR R)))) (panR R))
                (fun k_1 =>
               qb (q_load st true 4 v4) fun v116 =>
               (callK prog n_laws_toDeclS [a0] st (fun v115 st =>
               q_load st true 4 v4 = some v116 ∧ ((callK prog n_laws_toTree [v116] st (fun v117 st =>
               (callK prog n_laws_toBoolS [a2] st (fun v119 st =>
               (callK prog n_impl_Omit [v115, v117, v119] st (fun v120 st =>
               qb (q_ex v120 0) fun v121 =>
               qb (q_ex v120 1) fun v122 =>
               e_alloc st [.int .i64 0, .int .i64 0, .str [], .sl 0 true []] fun v18 st =>
               q_load st true 4 v4 = some v116 ∧ (e_store st 4 v18 v121 fun st =>
               k_1 [v18, v122] st)) (panR R)) ∧
               (e_alloc st [.int .i64 0, .int .i64 0, .str [], .sl 0 true []] fun v18_1 st =>
               q_load st true 4 v4 = some v116 ∧ (callK prog n_impl_Omit [v115, v117, v119] st (fun v120_1 st =>
               qb (q_ex v120_1 0) fun v121_1 =>
               qb (q_ex v120_1 1) fun v122_1 =>
               e_store st 4 v18_1 v121_1 fun st =>
               k_1 [v18_1, v122_1] st) (panR R)))) (panR R)) ∧
               (e_alloc st [.int .i64 0, .int .i64 0, .str [], .sl 0 true []] fun v18_2 st =>
               q_load st true 4 v4 = some v116 ∧ (callK prog n_laws_toBoolS [a2] st (fun v119_1 st =>
               callK prog n_impl_Omit [v115, v117, v119_1] st (fun v120_2 st =>
               qb (q_ex v120_2 0) fun v121_2 =>
               qb (q_ex v120_2 1) fun v122_2 =>
               e_store st 4 v18_2 v121_2 fun st =>
               k_1 [v18_2, v122_2] st) (panR R)) (panR R)))) (panR R)) ∧
               (e_alloc st [.int .i64 0, .int .i64 0, .str [], .sl 0 true []] fun v18_3 st =>
               q_load st true 4 v4 = some v116 ∧ (callK prog n_laws_toTree [v116] st (fun v117_1 st =>
               callK prog n_laws_toBoolS [a2] st (fun v119_2 st =>
               callK prog n_impl_Omit [v115, v117_1, v119_2] st (fun v120_3 st =>
               qb (q_ex v120_3 0) fun v121_3 =>
               qb (q_ex v120_3 1) fun v122_3 =>
               e_store st 4 v18_3 v121_3 fun st =>
               k_1 [v18_3, v122_3] st) (panR R)) (panR R)) (panR R))))) (panR R)) ∧
               (e_alloc st [.int .i64 0, .int .i64 0, .str [], .sl 0 true []] fun v18_4 st =>
               q_load st true 4 v4 = some v116 ∧ (callK prog n_laws_toDeclS [a0] st (fun v115_1 st =>
               q_load st true 4 v4 = some v116 ∧ (callK prog n_laws_toTree [v116] st (fun v117_2 st =>
               callK prog n_laws_toBoolS [a2] st (fun v119_3 st =>
               callK prog n_impl_Omit [v115_1, v117_2, v119_3] st (fun v120_4 st =>
               qb (q_ex v120_4 0) fun v121_4 =>
               qb (q_ex v120_4 1) fun v122_4 =>
               e_store st 4 v18_4 v121_4 fun st =>
               k_1 [v18_4, v122_4] st) (panR R)) (panR R)) (panR R))) (panR R))))))) (panR R)) (panR R)))) (panR R))) (panR R)) (panR R)) (panR R))) (panR R)) (panR R))) (panR R))) (panR R))) (panR R)) (panR R)))) (panR R)) (panR R)) (panR R)) (panR R)) (panR R))
     (fun k =>
    qb (q_load st true 4 v4) fun v36 =>
    (callK prog n_laws_toDeclS [a0] st (fun v35 st =>
    q_load st true 4 v4 = some v36 ∧ ((callK prog n_laws_toTree [v36] st (fun v37 st =>
    (callK prog n_laws_toBoolS [a2] st (fun v39 st =>
    (callK prog n_spec_Omit [v35, v37, v39] st (fun v40 st =>
    qb (q_ex v40 0) fun v41 =>
    qb (q_ex v40 1) fun v42 =>
    e_alloc st [.int .i64 0, .int .i64 0, .str [], .sl 0 true []] fun v8 st =>
    q_load st true 4 v4 = some v36 ∧ (e_store st 4 v8 v41 fun st =>
    k [v8, v42] st)) (panR R)) ∧
    (e_alloc st [.int .i64 0, .int .i64 0, .str [], .sl 0 true []] fun v8_1 st =>
    q_load st true 4 v4 = some v36 ∧ (callK prog n_spec_Omit [v35, v37, v39] st (fun v40_1 st =>
    qb (q_ex v40_1 0) fun v41_1 =>
    qb (q_ex v40_1 1) fun v42_1 =>
    e_store st 4 v8_1 v41_1 fun st =>
    k [v8_1, v42_1] st) (panR R)))) (panR R)) ∧
    (e_alloc st [.int .i64 0, .int .i64 0, .str [], .sl 0 true []] fun v8_2 st =>
    q_load st true 4 v4 = some v36 ∧ (callK prog n_laws_toBoolS [a2] st (fun v39_1 st =>
    callK prog n_spec_Omit [v35, v37, v39_1] st (fun v40_2 st =>
    qb (q_ex v40_2 0) fun v41_2 =>
    qb (q_ex v40_2 1) fun v42_2 =>
    e_store st 4 v8_2 v41_2 fun st =>
    k [v8_2, v42_2] st) (panR R)) (panR R)))) (panR R)) ∧
    (e_alloc st [.int .i64 0, .int .i64 0, .str [], .sl 0 true []] fun v8_3 st =>
    q_load st true 4 v4 = some v36 ∧ (callK prog n_laws_toTree [v36] st (fun v37_1 st =>
    callK prog n_laws_toBoolS [a2] st (fun v39_2 st =>
    callK prog n_spec_Omit [v35, v37_1, v39_2] st (fun v40_3 st =>
    qb (q_ex v40_3 0) fun v41_3 =>
    qb (q_ex v40_3 1) fun v42_3 =>
    e_store st 4 v8_3 v41_3 fun st =>
    k [v8_3, v42_3] st) (panR R)) (panR R)) (panR R))))) (panR R)) ∧
    (e_alloc st [.int .i64 0, .int .i64 0, .str [], .sl 0 true []] fun v8_4 st =>
    q_load st true 4 v4 = some v36 ∧ (callK prog n_laws_toDeclS [a0] st (fun v35_1 st =>
    q_load st true 4 v4 = some v36 ∧ (callK prog n_laws_toTree [v36] st (fun v37_2 st =>
    callK prog n_laws_toBoolS [a2] st (fun v39_3 st =>
    callK prog n_spec_Omit [v35_1, v37_2, v39_3] st (fun v40_4 st =>
    qb (q_ex v40_4 0) fun v41_4 =>
    qb (q_ex v40_4 1) fun v42_4 =>
    e_store st 4 v8_4 v41_4 fun st =>
    k [v8_4, v42_4] st) (panR R)) (panR R)) (panR R))) (panR R)))))) (panR R))) (panR R))
theorem e_laws_FnExactOmit : Enters prog n_laws_FnExactOmit := ⟨Go.Proofs.Tryz.f14, by kernel_rfl, by kernel_rfl, by kernel_rfl⟩
theorem c_laws_FnExactOmit {a0 a1 a2 : PV} {st : St} {R : Res → St → Prop} (h : b_laws_FnExactOmit a0 a1 a2 st R) : HCalls prog n_laws_FnExactOmit [a0, a1, a2] st R :=
 hcalls_of_func tyOK mixed (fn := Go.Proofs.Tryz.f14) (by kernel_rfl) (by kernel_rfl) (by kernel_rfl) (ann := [(41, [8, 9]), (149, [18, 19])])
  (show hFunc prog TT [(41, [8, 9]), (149, [18, 19])] Go.Proofs.Tryz.f14 [a0, a1, a2] st R from (show hFunc prog TT [(41, [8, 9]), (149, [18, 19])] Go.Proofs.Tryz.f14 [a0, a1, a2] st R = b_laws_FnExactOmit a0 a1 a2 st R by kernel_rfl) ▸ h)
def b_laws_szDeclS (a0 a1 : PV) (st : St) (R : Res → St → Prop) : Prop :=
 qb (q_len a0) fun v8 =>
 qb (q_bin .sub a1 v8) fun v9 =>
 qb (q_bin .lss v9 (.int .i64 0)) fun v11 =>
 cb v11 fun b => br b
  (retR R (.int .i64 (-1)) st)
  (hFix (fun ls st X =>
   qb (q_len a0) fun v14 =>
   qb (q_bin .lss (ls.getD 1 .junk) v14) fun v15 =>
   cb v15 fun b_1 => br b_1
    (qb (q_ia 6 a0 (ls.getD 1 .junk)) fun v20 =>
    qb (q_load st true 6 v20) fun v21 =>
    callK prog n_laws_szDecl [v21, (ls.getD 0 .junk)] st (fun v23 st =>
    qb (q_bin .lss v23 (.int .i64 0)) fun v25 =>
    cb v25 fun b_2 => br b_2
     (retR R (.int .i64 (-1)) st)
     (qb (q_bin .add (ls.getD 1 .junk) (.int .i64 1)) fun v17 =>
     X [v23, v17] st)) (panR R))
    (retR R (ls.getD 0 .junk) st))
   [v9, (.int .i64 0)] st)
theorem e_laws_szDeclS : Enters prog n_laws_szDeclS := ⟨Go.Proofs.Tryz.f15, by kernel_rfl, by kernel_rfl, by kernel_rfl⟩
theorem c_laws_szDeclS {a0 a1 : PV} {st : St} {R : Res → St → Prop} (h : b_laws_szDeclS a0 a1 st R) : HCalls prog n_laws_szDeclS [a0, a1] st R :=
 hcalls_of_func tyOK mixed (fn := Go.Proofs.Tryz.f15) (by kernel_rfl) (by kernel_rfl) (by kernel_rfl) (ann := [(20, [1, 5])])
  (show hFunc prog TT [(20, [1, 5])] Go.Proofs.Tryz.f15 [a0, a1] st R from (show hFunc prog TT [(20, [1, 5])] Go.Proofs.Tryz.f15 [a0, a1] st R = b_laws_szDeclS a0 a1 st R by kernel_rfl) ▸ h)
def b_spec_SigOK (a0 : PV) (st : St) (R : Res → St → Prop) : Prop :=
 qb (q_len a0) fun v7 =>
 qb (q_bin .gtr v7 (.int .i64 40)) fun v8 =>
 cb v8 fun b => br b
  (retR R (.bool false) st)
  (hFix (fun ls st X =>
   qb (q_len a0) fun v11 =>
   qb (q_bin .lss (ls.getD 0 .junk) v11) fun v12 =>
   cb v12 fun b_1 => br b_1
    (qb (q_sliceE 6 a0 none (some (ls.getD 0 .junk)) none) fun v18 =>
    qb (q_ia 6 a0 (ls.getD 0 .junk)) fun v21 =>
    qb (q_load st true 6 v21) fun v22 =>
    callK prog n_spec_l04Decl [v18, v22] st (fun v23 st =>
    qb (q_ex v23 0) fun v24 =>
    qb (q_ex v23 1) fun v25 =>
    qb (q_bin .neq v24 (.int .i64 0)) fun v27 =>
    cb v27 fun b_2 => br b_2
     (retR R (.bool false) st)
     (qb (q_bin .add (ls.getD 0 .junk) (.int .i64 1)) fun v14 =>
     X [v14] st)) (panR R))
    (retR R (.bool true) st))
   [(.int .i64 0)] st)
theorem e_spec_SigOK : Enters prog n_spec_SigOK := ⟨Go.Proofs.Tryz.f16, by kernel_rfl, by kernel_rfl, by kernel_rfl⟩
theorem c_spec_SigOK {a0 : PV} {st : St} {R : Res → St → Prop} (h : b_spec_SigOK a0 st R) : HCalls prog n_spec_SigOK [a0] st R :=
 hcalls_of_func tyOK mixed (fn := Go.Proofs.Tryz.f16) (by kernel_rfl) (by kernel_rfl) (by kernel_rfl) (ann := [(16, [3])])
  (show hFunc prog TT [(16, [3])] Go.Proofs.Tryz.f16 [a0] st R from (show hFunc prog TT [(16, [3])] Go.Proofs.Tryz.f16 [a0] st R = b_spec_SigOK a0 st R by kernel_rfl) ▸ h)
def b_laws_toDeclS (a0 : PV) (st : St) (R : Res → St → Prop) : Prop :=
 qb (q_len a0) fun v6 =>
 e_make st 6 80 (.agg [.str [], .bool false, .int .i64 0, .int .i64 0, .str [], .sl 0 true []]) v6 v6 fun v7 st =>
 hFix (fun ls st X =>
  qb (q_len a0) fun v10 =>
  qb (q_bin .lss (ls.getD 0 .junk) v10) fun v11 =>
  cb v11 fun b => br b
   (qb (q_ia 6 a0 (ls.getD 0 .junk)) fun v18 =>
   qb (q_load st true 6 v18) fun v19 =>
   callK prog n_laws_toDecl [v19] st (fun v20 st =>
   qb (q_ia 6 v7 (ls.getD 0 .junk)) fun v21 =>
   e_store st 6 v21 v20 fun st =>
   qb (q_bin .add (ls.getD 0 .junk) (.int .i64 1)) fun v13 =>
   X [v13] st) (panR R))
   (retR R v7 st))
  [(.int .i64 0)] st
theorem e_laws_toDeclS : Enters prog n_laws_toDeclS := ⟨Go.Proofs.Tryz.f17, by kernel_rfl, by kernel_rfl, by kernel_rfl⟩
theorem c_laws_toDeclS {a0 : PV} {st : St} {R : Res → St → Prop} (h : b_laws_toDeclS a0 st R) : HCalls prog n_laws_toDeclS [a0] st R :=
 hcalls_of_func tyOK mixed (fn := Go.Proofs.Tryz.f17) (by kernel_rfl) (by kernel_rfl) (by kernel_rfl) (ann := [(12, [4])])
  (show hFunc prog TT [(12, [4])] Go.Proofs.Tryz.f17 [a0] st R from (show hFunc prog TT [(12, [4])] Go.Proofs.Tryz.f17 [a0] st R = b_laws_toDeclS a0 st R by kernel_rfl) ▸ h)
def b_impl_SigOK (a0 : PV) (st : St) (R : Res → St → Prop) : Prop :=
 qb (q_len a0) fun v6 =>
 qb (q_bin .gtr v6 (.int .i64 40)) fun v7 =>
 cb v7 fun b => br b
  (retR R (.bool false) st)
  (qb (q_len a0) fun v9 =>
  hFix (fun ls st X =>
   qb (q_bin .lss (ls.getD 0 .junk) v9) fun v11 =>
   cb v11 fun b_1 => br b_1
    (qb (q_ia 6 a0 (ls.getD 0 .junk)) fun v13 =>
    qb (q_load st true 6 v13) fun v14 =>
    e_alloc st [.str [], .bool false, .int .i64 0, .int .i64 0, .str [], .sl 0 true []] fun v4 st =>
    e_store st 6 v4 v14 fun st =>
    qb (q_load st true 6 v4) fun v15 =>
    callK prog n_impl_declForm [v15] st (fun v16 st =>
    qb (q_un .not v16) fun v17 =>
    cb v17 fun b_2 => br b_2
     (retR R (.bool false) st)
     (qb (q_sliceE 6 a0 none (some (ls.getD 0 .junk)) none) fun v21 =>
     qb (q_fa 0 v4) fun v22 =>
     qb (q_load st false 1 v22) fun v23 =>
     callK prog n_impl_has [v21, v23] st (fun v24 st =>
     cb v24 fun b_3 => br b_3
      (retR R (.bool false) st)
      (qb (q_sliceE 6 a0 none (some (ls.getD 0 .junk)) none) fun v29 =>
      qb (q_load st true 6 v4) fun v30 =>
      callK prog n_impl_declFault [v29, v30] st (fun v31 st =>
      qb (q_field false 1 0 v31) fun v32 =>
      qb (q_bin .neq v32 (.int .i64 0)) fun v33 =>
      cb v33 fun b_4 => br b_4
       (retR R (.bool false) st)
       (qb (q_bin .add (ls.getD 0 .junk) (.int .i64 1)) fun v35 =>
       X [v35] st)) (panR R))) (panR R))) (panR R))
    (retR R (.bool true) st))
   [(.int .i64 0)] st)
theorem e_impl_SigOK : Enters prog n_impl_SigOK := ⟨Go.Proofs.Tryz.f18, by kernel_rfl, by kernel_rfl, by kernel_rfl⟩
theorem c_impl_SigOK {a0 : PV} {st : St} {R : Res → St → Prop} (h : b_impl_SigOK a0 st R) : HCalls prog n_impl_SigOK [a0] st R :=
 hcalls_of_func tyOK mixed (fn := Go.Proofs.Tryz.f18) (by kernel_rfl) (by kernel_rfl) (by kernel_rfl) (ann := [(16, [10])])
  (show hFunc prog TT [(16, [10])] Go.Proofs.Tryz.f18 [a0] st R from (show hFunc prog TT [(16, [10])] Go.Proofs.Tryz.f18 [a0] st R = b_impl_SigOK a0 st R by kernel_rfl) ▸ h)
def b_laws_eqDeclS (a0 a1 : PV) (st : St) (R : Res → St → Prop) : Prop :=
 qb (q_len a0) fun v7 =>
 qb (q_len a1) fun v9 =>
 qb (q_bin .neq v7 v9) fun v10 =>
 cb v10 fun b => br b
  (retR R (.bool false) st)
  (hFix (fun ls st X =>
   qb (q_len a0) fun v13 =>
   qb (q_bin .lss (ls.getD 0 .junk) v13) fun v14 =>
   cb v14 fun b_1 => br b_1
    (qb (q_ia 6 a0 (ls.getD 0 .junk)) fun v19 =>
    qb (q_load st true 6 v19) fun v20 =>
    qb (q_ia 6 a1 (ls.getD 0 .junk)) fun v23 =>
    qb (q_load st true 6 v23) fun v24 =>
    callK prog n_laws_eqDecl [v20, v24] st (fun v25 st =>
    qb (q_un .not v25) fun v26 =>
    cb v26 fun b_2 => br b_2
     (retR R (.bool false) st)
     (qb (q_bin .add (ls.getD 0 .junk) (.int .i64 1)) fun v16 =>
     X [v16] st)) (panR R))
    (retR R (.bool true) st))
   [(.int .i64 0)] st)
theorem e_laws_eqDeclS : Enters prog n_laws_eqDeclS := ⟨Go.Proofs.Tryz.f19, by kernel_rfl, by kernel_rfl, by kernel_rfl⟩
theorem c_laws_eqDeclS {a0 a1 : PV} {st : St} {R : Res → St → Prop} (h : b_laws_eqDeclS a0 a1 st R) : HCalls prog n_laws_eqDeclS [a0, a1] st R :=
 hcalls_of_func tyOK mixed (fn := Go.Proofs.Tryz.f19) (by kernel_rfl) (by kernel_rfl) (by kernel_rfl) (ann := [(16, [5])])
  (show hFunc prog TT [(16, [5])] Go.Proofs.Tryz.f19 [a0, a1] st R from (show hFunc prog TT [(16, [5])] Go.Proofs.Tryz.f19 [a0, a1] st R = b_laws_eqDeclS a0 a1 st R by kernel_rfl) ▸ h)
def b_laws_szTreeS (a0 a1 : PV) (st : St) (R : Res → St → Prop) : Prop :=
 qb (q_len a0) fun v8 =>
 qb (q_bin .sub a1 v8) fun v9 =>
 qb (q_bin .lss v9 (.int .i64 0)) fun v11 =>
 cb v11 fun b => br b
  (retR R (.int .i64 (-1)) st)
  (hFix (fun ls st X =>
   qb (q_len a0) fun v14 =>
   qb (q_bin .lss (ls.getD 1 .junk) v14) fun v15 =>
   cb v15 fun b_1 => br b_1
    (qb (q_ia 4 a0 (ls.getD 1 .junk)) fun v20 =>
    qb (q_load st true 4 v20) fun v21 =>
    callK prog n_laws_szTree [v21, (ls.getD 0 .junk)] st (fun v23 st =>
    qb (q_bin .lss v23 (.int .i64 0)) fun v25 =>
    cb v25 fun b_2 => br b_2
     (retR R (.int .i64 (-1)) st)
     (qb (q_bin .add (ls.getD 1 .junk) (.int .i64 1)) fun v17 =>
     X [v23, v17] st)) (panR R))
    (retR R (ls.getD 0 .junk) st))
   [v9, (.int .i64 0)] st)
theorem e_laws_szTreeS : Enters prog n_laws_szTreeS := ⟨Go.Proofs.Tryz.f20, by kernel_rfl, by kernel_rfl, by kernel_rfl⟩
theorem c_laws_szTreeS {a0 a1 : PV} {st : St} {R : Res → St → Prop} (h : b_laws_szTreeS a0 a1 st R) : HCalls prog n_laws_szTreeS [a0, a1] st R :=
 hcalls_of_func tyOK mixed (fn := Go.Proofs.Tryz.f20) (by kernel_rfl) (by kernel_rfl) (by kernel_rfl) (ann := [(20, [1, 5])])
  (show hFunc prog TT [(20, [1, 5])] Go.Proofs.Tryz.f20 [a0, a1] st R from (show hFunc prog TT [(20, [1, 5])] Go.Proofs.Tryz.f20 [a0, a1] st R = b_laws_szTreeS a0 a1 st R by kernel_rfl) ▸ h)
def b_spec_CtxOK (a0 a1 : PV) (st : St) (R : Res → St → Prop) : Prop :=
 callK prog n_spec_SigOK [a0] st (fun v6 st =>
 cb v6 fun b => br b
  (callK prog n_spec_l04Ctx [a0, a1] st (fun v10 st =>
  retR R v10 st) (panR R))
  (retR R (.bool false) st)) (panR R)
theorem e_spec_CtxOK : Enters prog n_spec_CtxOK := ⟨Go.Proofs.Tryz.f21, by kernel_rfl, by kernel_rfl, by kernel_rfl⟩
theorem c_spec_CtxOK {a0 a1 : PV} {st : St} {R : Res → St → Prop} (h : b_spec_CtxOK a0 a1 st R) : HCalls prog n_spec_CtxOK [a0, a1] st R :=
 hcalls_of_func tyOK mixed (fn := Go.Proofs.Tryz.f21) (by kernel_rfl) (by kernel_rfl) (by kernel_rfl) (ann := [])
  (show hFunc prog TT [] Go.Proofs.Tryz.f21 [a0, a1] st R from (show hFunc prog TT [] Go.Proofs.Tryz.f21 [a0, a1] st R = b_spec_CtxOK a0 a1 st R by kernel_rfl) ▸ h)
end Go.H.Tryz
