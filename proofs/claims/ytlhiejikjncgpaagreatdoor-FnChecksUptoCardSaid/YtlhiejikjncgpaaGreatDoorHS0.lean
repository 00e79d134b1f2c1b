/- Part of a proof that the program answers as the reference does: EFS0. -/
import Derived.Test.YtlhiejikjncgpaaGreatDoorHT
/- MADE BY PROGRAM (hgen.py): what the functions compute, over pure values. -/
set_option linter.unusedVariables false
set_option maxRecDepth 100000
namespace Go.H.Tryz
open Go Go.H
def b_laws_FnChecks (a0 a1 : PV) (st : St) (R : Res → St → Prop) : Prop :=
 qb (q_len a0) fun v22 =>
 qb (q_bin .gtr v22 (.int .i64 1048576)) fun v23 =>
 cb v23 fun b => br b
  (retR R (.bool true) st)
  (qb (q_len a1) fun v26 =>
  qb (q_bin .gtr v26 (.int .i64 1048576)) fun v27 =>
  cb v27 fun b_1 => br b_1
   (retR R (.bool true) st)
   (callK prog n_spec_JudgedOf [a0] st (fun v31 st =>
   qb (q_ex v31 0) fun v32 =>
   qb (q_ex v31 1) fun v33 =>
   qb (q_ex v31 2) fun v34 =>
   e_alloc st [.int .i64 0, .int .i64 0, .str [], .sl 0 true []] fun v6 st =>
   e_alloc st [.int .i64 0, .int .i64 0, .str [], .sl 0 true []] fun v7 st =>
   e_store st 4 v6 v33 fun st =>
   e_store st 4 v7 v34 fun st =>
   callK prog n_spec_Numbers [] st (fun v35 st =>
   qb (q_load st true 4 v6) fun v39 =>
   qb (q_load st true 4 v7) fun v40 =>
   callK prog n_impl_CheckTerm [v35, v32, v39, v40] st (fun v41 st =>
   qb (q_ex v41 0) fun v42 =>
   qb (q_ex v41 1) fun v43 =>
   qb (q_load st true 4 v6) fun v47 =>
   qb (q_load st true 4 v7) fun v48 =>
   callK prog n_spec_CheckTerm [v35, v32, v47, v48] st (fun v49 st =>
   qb (q_ex v49 0) fun v50 =>
   qb (q_ex v49 1) fun v51 =>
   qb (q_bin .neq v42 v50) fun v54 =>
   cb v54 fun b_2 => br b_2
    (retR R (.bool false) st)
    (qb (q_bin .neq v42 (.int .i64 0)) fun v57 =>
    cb v57 fun b_3 => br b_3
     (callK prog n_laws_full [v42] st (fun v60 st =>
     qb (q_un .not v60) fun v61 =>
     cb v61 fun b_4 => br b_4
      (qb (q_bin .neq v42 (.int .i64 1)) fun v65 =>
      cb v65 fun b_5 => br b_5
       (retR R (.bool false) st)
       (qb (q_bin .neq v42 (.int .i64 0)) fun v69 =>
       cb v69 fun b_6 => br b_6
        (retR R (.bool true) st)
        (qb (q_fa 0 v6) fun v70 =>
        qb (q_load st false 1 v70) fun v71 =>
        qb (q_bin .neq v71 (.int .i64 4)) fun v72 =>
        hJ (fun ls st =>
         callK prog n_spec_JudgedOf [a1] st (fun v91 st =>
         qb (q_ex v91 0) fun v92 =>
         qb (q_ex v91 1) fun v93 =>
         qb (q_ex v91 2) fun v94 =>
         e_alloc st [.int .i64 0, .int .i64 0, .str [], .sl 0 true []] fun v17 st =>
         e_alloc st [.int .i64 0, .int .i64 0, .str [], .sl 0 true []] fun v18 st =>
         e_store st 4 v17 v93 fun st =>
         e_store st 4 v18 v94 fun st =>
         qb (q_load st true 4 v6) fun v98 =>
         qb (q_load st true 4 v18) fun v99 =>
         callK prog n_impl_CheckTerm [v35, v32, v98, v99] st (fun v100 st =>
         qb (q_ex v100 0) fun v101 =>
         qb (q_ex v100 1) fun v102 =>
         qb (q_bin .neq v101 (.int .i64 0)) fun v104 =>
         cb v104 fun b_8 => br b_8
          (retR R (.bool true) st)
          (qb (q_load st true 4 v7) fun v106 =>
          qb (q_load st true 4 v18) fun v107 =>
          callK prog n_laws_same [v106, v107] st (fun v108 st =>
          retR R v108 st) (panR R))) (panR R)) (panR R))
         (fun k =>
        cb v72 fun b_7 => br b_7
         (qb (q_load st true 4 v6) fun v76 =>
         callK prog n_impl_Synth [v35, v32, v76] st (fun v77 st =>
         qb (q_ex v77 0) fun v78 =>
         qb (q_ex v77 1) fun v79 =>
         qb (q_ex v77 2) fun v80 =>
         e_alloc st [.int .i64 0, .int .i64 0, .str [], .sl 0 true []] fun v13 st =>
         e_store st 4 v13 v78 fun st =>
         qb (q_bin .neq v79 (.int .i64 0)) fun v82 =>
         cb v82 fun b_9 => br b_9
          (retR R (.bool false) st)
          (qb (q_load st true 4 v7) fun v84 =>
          qb (q_load st true 4 v13) fun v85 =>
          callK prog n_laws_same [v84, v85] st (fun v86 st =>
          qb (q_un .not v86) fun v87 =>
          cb v87 fun b_10 => br b_10
           (retR R (.bool false) st)
           (k [] st)) (panR R))) (panR R))
         (k [] st)))))
      (qb (q_bin .neq v42 (.int .i64 0)) fun v69_1 =>
      cb v69_1 fun b_11 => br b_11
       (retR R (.bool true) st)
       (qb (q_fa 0 v6) fun v70_1 =>
       qb (q_load st false 1 v70_1) fun v71_1 =>
       qb (q_bin .neq v71_1 (.int .i64 4)) fun v72_1 =>
       hJ (fun ls_1 st =>
        callK prog n_spec_JudgedOf [a1] st (fun v91_1 st =>
        qb (q_ex v91_1 0) fun v92_1 =>
        qb (q_ex v91_1 1) fun v93_1 =>
        qb (q_ex v91_1 2) fun v94_1 =>
        e_alloc st [.int .i64 0, .int .i64 0, .str [], .sl 0 true []] fun v17_1 st =>
        e_alloc st [.int .i64 0, .int .i64 0, .str [], .sl 0 true []] fun v18_1 st =>
        e_store st 4 v17_1 v93_1 fun st =>
        e_store st 4 v18_1 v94_1 fun st =>
        qb (q_load st true 4 v6) fun v98_1 =>
        qb (q_load st true 4 v18_1) fun v99_1 =>
        callK prog n_impl_CheckTerm [v35, v32, v98_1, v99_1] st (fun v100_1 st =>
        qb (q_ex v100_1 0) fun v101_1 =>
        qb (q_ex v100_1 1) fun v102_1 =>
        qb (q_bin .neq v101_1 (.int .i64 0)) fun v104_1 =>
        cb v104_1 fun b_13 => br b_13
         (retR R (.bool true) st)
         (qb (q_load st true 4 v7) fun v106_1 =>
         qb (q_load st true 4 v18_1) fun v107_1 =>
         callK prog n_laws_same [v106_1, v107_1] st (fun v108_1 st =>
         retR R v108_1 st) (panR R))) (panR R)) (panR R))
        (fun k_1 =>
       cb v72_1 fun b_12 => br b_12
        (qb (q_load st true 4 v6) fun v76_1 =>
        callK prog n_impl_Synth [v35, v32, v76_1] st (fun v77_1 st =>
        qb (q_ex v77_1 0) fun v78_1 =>
        qb (q_ex v77_1 1) fun v79_1 =>
        qb (q_ex v77_1 2) fun v80_1 =>
        e_alloc st [.int .i64 0, .int .i64 0, .str [], .sl 0 true []] fun v13_1 st =>
        e_store st 4 v13_1 v78_1 fun st =>
        qb (q_bin .neq v79_1 (.int .i64 0)) fun v82_1 =>
        cb v82_1 fun b_14 => br b_14
         (retR R (.bool false) st)
         (qb (q_load st true 4 v7) fun v84_1 =>
         qb (q_load st true 4 v13_1) fun v85_1 =>
         callK prog n_laws_same [v84_1, v85_1] st (fun v86_1 st =>
         qb (q_un .not v86_1) fun v87_1 =>
         cb v87_1 fun b_15 => br b_15
          (retR R (.bool false) st)
          (k_1 [] st)) (panR R))) (panR R))
        (k_1 [] st))))) (panR R))
     (qb (q_bin .neq v42 (.int .i64 0)) fun v69_2 =>
     cb v69_2 fun b_16 => br b_16
      (retR R (.bool true) st)
      (qb (q_fa 0 v6) fun v70_2 =>
      qb (q_load st false 1 v70_2) fun v71_2 =>
      qb (q_bin .neq v71_2 (.int .i64 4)) fun v72_2 =>
      hJ (fun ls_2 st =>
       callK prog n_spec_JudgedOf [a1] st (fun v91_2 st =>
       qb (q_ex v91_2 0) fun v92_2 =>
       qb (q_ex v91_2 1) fun v93_2 =>
       qb (q_ex v91_2 2) fun v94_2 =>
       e_alloc st [.int .i64 0, .int .i64 0, .str [], .sl 0 true []] fun v17_2 st =>
       e_alloc st [.int .i64 0, .int .i64 0, .str [], .sl 0 true []] fun v18_2 st =>
       e_store st 4 v17_2 v93_2 fun st =>
       e_store st 4 v18_2 v94_2 fun st =>
       qb (q_load st true 4 v6) fun v98_2 =>
       qb (q_load st true 4 v18_2) fun v99_2 =>
       callK prog n_impl_CheckTerm [v35, v32, v98_2, v99_2] st (fun v100_2 st =>
       qb (q_ex v100_2 0) fun v101_2 =>
       qb (q_ex v100_2 1) fun v102_2 =>
       qb (q_bin .neq v101_2 (.int .i64 0)) fun v104_2 =>
       cb v104_2 fun b_18 => br b_18
        (retR R (.bool true) st)
        (qb (q_load st true 4 v7) fun v106_2 =>
        qb (q_load st true 4 v18_2) fun v107_2 =>
        callK prog n_laws_same [v106_2, v107_2] st (fun v108_2 st =>
        retR R v108_2 st) (panR R))) (panR R)) (panR R))
       (fun k_2 =>
      cb v72_2 fun b_17 => br b_17
       (qb (q_load st true 4 v6) fun v76_2 =>
       callK prog n_impl_Synth [v35, v32, v76_2] st (fun v77_2 st =>
       qb (q_ex v77_2 0) fun v78_2 =>
       qb (q_ex v77_2 1) fun v79_2 =>
       qb (q_ex v77_2 2) fun v80_2 =>
       e_alloc st [.int .i64 0, .int .i64 0, .str [], .sl 0 true []] fun v13_2 st =>
       e_store st 4 v13_2 v78_2 fun st =>
       qb (q_bin .neq v79_2 (.int .i64 0)) fun v82_2 =>
       cb v82_2 fun b_19 => br b_19
        (retR R (.bool false) st)
        (qb (q_load st true 4 v7) fun v84_2 =>
        qb (q_load st true 4 v13_2) fun v85_2 =>
        callK prog n_laws_same [v84_2, v85_2] st (fun v86_2 st =>
        qb (q_un .not v86_2) fun v87_2 =>
        cb v87_2 fun b_20 => br b_20
         (retR R (.bool false) st)
         (k_2 [] st)) (panR R))) (panR R))
       (k_2 [] st)))))) (panR R)) (panR R)) (panR R)) (panR R)))
theorem c_laws_FnChecks {a0 a1 : PV} {st : St} {R : Res → St → Prop} (h : b_laws_FnChecks a0 a1 st R) : HCalls prog n_laws_FnChecks [a0, a1] st R :=
 hcalls_of_func tyOK mixed (fn := Go.Proofs.Tryz.f6) (by kernel_rfl) (by kernel_rfl) (by kernel_rfl) (ann := [(50, [])])
  (show hFunc prog TT [(50, [])] Go.Proofs.Tryz.f6 [a0, a1] st R from (show hFunc prog TT [(50, [])] Go.Proofs.Tryz.f6 [a0, a1] st R = b_laws_FnChecks a0 a1 st R by kernel_rfl) ▸ h)
def b_spec_JudgedOf (a0 : PV) (st : St) (R : Res → St → Prop) : Prop :=
 e_alloc st [.int .i64 0, .int .i64 0, .str [], .sl 0 true []] fun v3 st =>
 e_alloc st [.int .i64 0, .int .i64 0, .str [], .sl 0 true []] fun v4 st =>
 callK prog n_spec_l00Source [a0] st (fun v10 st =>
 callK prog n_spec_l00Src_natCtx [v10] st (fun v12 st =>
 qb (q_len v12) fun v16 =>
 callK prog n_spec_l00Src_judged [v10, v16] st (fun v17 st =>
 qb (q_ex v17 0) fun v18 =>
 qb (q_ex v17 1) fun v19 =>
 e_alloc st [.int .i64 0, .int .i64 0, .str [], .sl 0 true []] fun v7 st =>
 e_alloc st [.int .i64 0, .int .i64 0, .str [], .sl 0 true []] fun v8 st =>
 e_store st 4 v7 v18 fun st =>
 e_store st 4 v8 v19 fun st =>
 qb (q_load st true 4 v7) fun v21 =>
 qb (q_load st true 4 v8) fun v22 =>
 e_store st 4 v3 v21 fun st =>
 q_load st true 4 v8 = some v22 ∧ (e_store st 4 v4 v22 fun st =>
 qb (q_load st true 4 v3) fun r => qb (q_load st true 4 v4) fun r_1 => retR R (.tup [v12, r, r_1]) st)) (panR R)) (panR R)) (panR R)
theorem c_spec_JudgedOf {a0 : PV} {st : St} {R : Res → St → Prop} (h : b_spec_JudgedOf a0 st R) : HCalls prog n_spec_JudgedOf [a0] st R :=
 hcalls_of_func tyOK mixed (fn := Go.Proofs.Tryz.f9) (by kernel_rfl) (by kernel_rfl) (by kernel_rfl) (ann := [])
  (show hFunc prog TT [] Go.Proofs.Tryz.f9 [a0] st R from (show hFunc prog TT [] Go.Proofs.Tryz.f9 [a0] st R = b_spec_JudgedOf a0 st R by kernel_rfl) ▸ h)
def b_laws_same (a0 a1 : PV) (st : St) (R : Res → St → Prop) : Prop :=
 e_box st a0 fun v2 st =>
 e_box st a1 fun v3 st =>
 qb (q_fa 0 v2) fun v6 =>
 qb (q_load st false 1 v6) fun v7 =>
 qb (q_fa 0 v3) fun v8 =>
 qb (q_load st false 1 v8) fun v9 =>
 qb (q_bin .neq v7 v9) fun v10 =>
 cb v10 fun b => br b
  (retR R (.bool false) st)
  (qb (q_fa 1 v2) fun v12 =>
  qb (q_load st false 1 v12) fun v13 =>
  qb (q_fa 1 v3) fun v14 =>
  qb (q_load st false 1 v14) fun v15 =>
  qb (q_bin .neq v13 v15) fun v16 =>
  cb v16 fun b_1 => br b_1
   (retR R (.bool false) st)
   (qb (q_fa 2 v2) fun v19 =>
   qb (q_load st false 1 v19) fun v20 =>
   qb (q_fa 2 v3) fun v21 =>
   qb (q_load st false 1 v21) fun v22 =>
   qb (q_bin .neq v20 v22) fun v23 =>
   cb v23 fun b_2 => br b_2
    (retR R (.bool false) st)
    (qb (q_fa 3 v2) fun v26 =>
    qb (q_load st false 1 v26) fun v27 =>
    qb (q_len v27) fun v28 =>
    qb (q_fa 3 v3) fun v29 =>
    qb (q_load st false 1 v29) fun v30 =>
    qb (q_len v30) fun v31 =>
    qb (q_bin .neq v28 v31) fun v32 =>
    cb v32 fun b_3 => br b_3
     (retR R (.bool false) st)
     (hFix (fun ls st X =>
      qb (q_fa 3 v2) fun v35 =>
      qb (q_load st false 1 v35) fun v36 =>
      qb (q_len v36) fun v37 =>
      qb (q_bin .lss (ls.getD 0 .junk) v37) fun v38 =>
      cb v38 fun b_4 => br b_4
       (qb (q_fa 3 v2) fun v41 =>
       qb (q_load st false 1 v41) fun v42 =>
       qb (q_ia 4 v42 (ls.getD 0 .junk)) fun v44 =>
       qb (q_load st true 4 v44) fun v45 =>
       qb (q_fa 3 v3) fun v46 =>
       qb (q_load st false 1 v46) fun v47 =>
       qb (q_ia 4 v47 (ls.getD 0 .junk)) fun v49 =>
       qb (q_load st true 4 v49) fun v50 =>
       callK prog n_laws_same [v45, v50] st (fun v51 st =>
       qb (q_un .not v51) fun v52 =>
       cb v52 fun b_5 => br b_5
        (retR R (.bool false) st)
        (qb (q_bin .add (ls.getD 0 .junk) (.int .i64 1)) fun v40 =>
        X [v40] st)) (panR R))
       (retR R (.bool true) st))
      [(.int .i64 0)] st))))
theorem e_laws_same : Enters prog n_laws_same := ⟨Go.Proofs.Tryz.f13, by kernel_rfl, by kernel_rfl, by kernel_rfl⟩
theorem c_laws_same {a0 a1 : PV} {st : St} {R : Res → St → Prop} (h : b_laws_same a0 a1 st R) : HCalls prog n_laws_same [a0, a1] st R :=
 hcalls_of_func tyOK mixed (fn := Go.Proofs.Tryz.f13) (by kernel_rfl) (by kernel_rfl) (by kernel_rfl) (ann := [(16, [5])])
  (show hFunc prog TT [(16, [5])] Go.Proofs.Tryz.f13 [a0, a1] st R from (show hFunc prog TT [(16, [5])] Go.Proofs.Tryz.f13 [a0, a1] st R = b_laws_same a0 a1 st R by kernel_rfl) ▸ h)
def b_laws_full (a0 : PV) (st : St) (R : Res → St → Prop) : Prop :=
 qb (q_bin .eql a0 (.int .i64 11)) fun v4 =>
 cb v4 fun b => br b
  (retR R (.bool true) st)
  (qb (q_bin .eql a0 (.int .i64 17)) fun v7 =>
  retR R v7 st)
theorem c_laws_full {a0 : PV} {st : St} {R : Res → St → Prop} (h : b_laws_full a0 st R) : HCalls prog n_laws_full [a0] st R :=
 hcalls_of_func tyOK mixed (fn := Go.Proofs.Tryz.f14) (by kernel_rfl) (by kernel_rfl) (by kernel_rfl) (ann := [])
  (show hFunc prog TT [] Go.Proofs.Tryz.f14 [a0] st R from (show hFunc prog TT [] Go.Proofs.Tryz.f14 [a0] st R = b_laws_full a0 st R by kernel_rfl) ▸ h)
def b_spec_Numbers (st : St) (R : Res → St → Prop) : Prop :=
 callK prog n_spec_l04Some [] st (fun v1 st =>
 retR R v1 st) (panR R)
theorem c_spec_Numbers {st : St} {R : Res → St → Prop} (h : b_spec_Numbers  st R) : HCalls prog n_spec_Numbers [] st R :=
 hcalls_of_func tyOK mixed (fn := Go.Proofs.Tryz.f16) (by kernel_rfl) (by kernel_rfl) (by kernel_rfl) (ann := [])
  (show hFunc prog TT [] Go.Proofs.Tryz.f16 [] st R from (show hFunc prog TT [] Go.Proofs.Tryz.f16 [] st R = b_spec_Numbers  st R by kernel_rfl) ▸ h)
def b_impl_CheckTerm (a0 a1 a2 a3 : PV) (st : St) (R : Res → St → Prop) : Prop :=
 e_box st a0 fun v4 st =>
 e_box st a1 fun v5 st =>
 e_box st a2 fun v6 st =>
 e_box st a3 fun v7 st =>
 qb (q_load st false 1 v4) fun v10 =>
 qb (q_load st false 1 v5) fun v11 =>
 callK prog n_impl_checked [v10, v11, (.fn (.func n_impl_CheckTerm_1) [] [v6, v4, v5, v7]), (.fn (.func n_impl_CheckTerm_2) [] [v5, v6, v7])] st (fun v14 st =>
 qb (q_ex v14 0) fun v15 =>
 qb (q_ex v14 1) fun v16 =>
 retR R (.tup [v15, v16]) st) (panR R)
theorem c_impl_CheckTerm {a0 a1 a2 a3 : PV} {st : St} {R : Res → St → Prop} (h : b_impl_CheckTerm a0 a1 a2 a3 st R) : HCalls prog n_impl_CheckTerm [a0, a1, a2, a3] st R :=
 hcalls_of_func tyOK mixed (fn := Go.Proofs.Tryz.f17) (by kernel_rfl) (by kernel_rfl) (by kernel_rfl) (ann := [])
  (show hFunc prog TT [] Go.Proofs.Tryz.f17 [a0, a1, a2, a3] st R from (show hFunc prog TT [] Go.Proofs.Tryz.f17 [a0, a1, a2, a3] st R = b_impl_CheckTerm a0 a1 a2 a3 st R by kernel_rfl) ▸ h)
def b_spec_TermOK (a0 : PV) (st : St) (R : Res → St → Prop) : Prop :=
 e_box st a0 fun v1 st =>
 qb (q_load st true 4 v1) fun v3 =>
 callK prog n_spec_l01Small [v3] st (fun v4 st =>
 cb v4 fun b => br b
  (qb (q_load st true 4 v1) fun v6 =>
  callK prog n_spec_l01Term [v6, (.bool false)] st (fun v7 st =>
  retR R v7 st) (panR R))
  (retR R (.bool false) st)) (panR R)
theorem c_spec_TermOK {a0 : PV} {st : St} {R : Res → St → Prop} (h : b_spec_TermOK a0 st R) : HCalls prog n_spec_TermOK [a0] st R :=
 hcalls_of_func tyOK mixed (fn := Go.Proofs.Tryz.f20) (by kernel_rfl) (by kernel_rfl) (by kernel_rfl) (ann := [])
  (show hFunc prog TT [] Go.Proofs.Tryz.f20 [a0] st R from (show hFunc prog TT [] Go.Proofs.Tryz.f20 [a0] st R = b_spec_TermOK a0 st R by kernel_rfl) ▸ h)
def b_spec_FamilyOK (a0 : PV) (st : St) (R : Res → St → Prop) : Prop :=
 e_box st a0 fun v1 st =>
 qb (q_load st true 4 v1) fun v3 =>
 callK prog n_spec_l01Small [v3] st (fun v4 st =>
 cb v4 fun b => br b
  (qb (q_load st true 4 v1) fun v6 =>
  callK prog n_spec_l01Family [v6] st (fun v7 st =>
  retR R v7 st) (panR R))
  (retR R (.bool false) st)) (panR R)
theorem c_spec_FamilyOK {a0 : PV} {st : St} {R : Res → St → Prop} (h : b_spec_FamilyOK a0 st R) : HCalls prog n_spec_FamilyOK [a0] st R :=
 hcalls_of_func tyOK mixed (fn := Go.Proofs.Tryz.f21) (by kernel_rfl) (by kernel_rfl) (by kernel_rfl) (ann := [])
  (show hFunc prog TT [] Go.Proofs.Tryz.f21 [a0] st R from (show hFunc prog TT [] Go.Proofs.Tryz.f21 [a0] st R = b_spec_FamilyOK a0 st R by kernel_rfl) ▸ h)
end Go.H.Tryz
