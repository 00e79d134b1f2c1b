/- Part of a proof that the program answers as the reference does: EFS0. -/
import Derived.Test.YtlhiejikjncgpaaGreatDoorHT
/- MADE BY PROGRAM (hgen.py): what the functions compute, over pure values. -/
set_option linter.unusedVariables false
set_option maxRecDepth 100000
namespace Go.H.Tryz
open Go Go.H
def b_laws_FnOmits (a0 : PV) (st : St) (R : Res → St → Prop) : Prop :=
 qb (q_len a0) fun v21 =>
 qb (q_bin .gtr v21 (.int .i64 1048576)) fun v22 =>
 cb v22 fun b => br b
  (retR R (.bool true) st)
  (callK prog n_spec_JudgedOf [a0] st (fun v25 st =>
  qb (q_ex v25 0) fun v26 =>
  qb (q_ex v25 1) fun v27 =>
  qb (q_ex v25 2) fun v28 =>
  e_alloc st [.int .i64 0, .int .i64 0, .str [], .sl 0 true []] fun v4 st =>
  e_alloc st [.int .i64 0, .int .i64 0, .str [], .sl 0 true []] fun v5 st =>
  e_store st 4 v4 v27 fun st =>
  e_store st 4 v5 v28 fun st =>
  callK prog n_spec_Numbers [] st (fun v29 st =>
  qb (q_load st true 4 v4) fun v30 =>
  callK prog n_spec_TermOK [v30] st (fun v31 st =>
  qb (q_un .not v31) fun v32 =>
  cb v32 fun b_1 => br b_1
   (retR R (.bool true) st)
   (qb (q_load st true 4 v4) fun v35 =>
   callK prog n_impl_Omit [v29, v35, (.sl 0 true [])] st (fun v36 st =>
   qb (q_ex v36 0) fun v37 =>
   qb (q_ex v36 1) fun v38 =>
   e_alloc st [.int .i64 0, .int .i64 0, .str [], .sl 0 true []] fun v7 st =>
   e_store st 4 v7 v37 fun st =>
   e_make st 1 1 (.bool false) (.int .i64 200) (.int .i64 200) fun v39 st =>
   hJ (fun ls st =>
    qb (q_load st true 4 v4) fun v51 =>
    callK prog n_impl_Omit [v29, v51, (ls.getD 0 .junk)] st (fun v53 st =>
    qb (q_ex v53 0) fun v54 =>
    qb (q_ex v53 1) fun v55 =>
    e_alloc st [.int .i64 0, .int .i64 0, .str [], .sl 0 true []] fun v11 st =>
    e_store st 4 v11 v54 fun st =>
    qb (q_load st true 4 v4) fun v58 =>
    callK prog n_spec_Omit [v29, v58, (ls.getD 0 .junk)] st (fun v60 st =>
    qb (q_ex v60 0) fun v61 =>
    qb (q_ex v60 1) fun v62 =>
    e_alloc st [.int .i64 0, .int .i64 0, .str [], .sl 0 true []] fun v13 st =>
    e_store st 4 v13 v61 fun st =>
    qb (q_bin .neq v38 (.int .i64 0)) fun v64 =>
    cb v64 fun b_2 => br b_2
     (retR R (.bool false) st)
     (qb (q_bin .neq v55 (.int .i64 0)) fun v67 =>
     cb v67 fun b_3 => br b_3
      (retR R (.bool false) st)
      (qb (q_load st true 4 v7) fun v70 =>
      qb (q_load st true 4 v4) fun v71 =>
      callK prog n_laws_same [v70, v71] st (fun v72 st =>
      qb (q_un .not v72) fun v73 =>
      cb v73 fun b_4 => br b_4
       (retR R (.bool false) st)
       (qb (q_load st true 4 v11) fun v76 =>
       qb (q_load st true 4 v13) fun v77 =>
       callK prog n_laws_same [v76, v77] st (fun v78 st =>
       qb (q_un .not v78) fun v79 =>
       cb v79 fun b_5 => br b_5
        (retR R (.bool false) st)
        (qb (q_load st true 4 v11) fun v82 =>
        callK prog n_impl_SourceOK [v82] st (fun v83 st =>
        qb (q_un .not v83) fun v84 =>
        cb v84 fun b_6 => br b_6
         (retR R (.bool false) st)
         (qb (q_load st true 4 v11) fun v87 =>
         qb (q_load st true 4 v4) fun v89 =>
         callK prog n_impl_Size [v87] st (fun v88 st =>
         q_load st true 4 v4 = some v89 ∧ (callK prog n_impl_Size [v89] st (fun v90 st =>
         qb (q_bin .gtr v88 v90) fun v91 =>
         cb v91 fun b_7 => br b_7
          (retR R (.bool false) st)
          (hFix (fun ls_1 st X =>
           qb (q_len v29) fun v95 =>
           qb (q_bin .lss (ls_1.getD 0 .junk) v95) fun v96 =>
           cb v96 fun b_8 => br b_8
            (qb (q_ia 6 v29 (ls_1.getD 0 .junk)) fun v101 =>
            qb (q_fa 1 v101) fun v102 =>
            qb (q_load st false 1 v102) fun v103 =>
            cb v103 fun b_9 => br b_9
             (qb (q_bin .add (ls_1.getD 0 .junk) (.int .i64 1)) fun v98 =>
             X [v98] st)
             (qb (q_ia 6 v29 (ls_1.getD 0 .junk)) fun v106 =>
             qb (q_fa 2 v106) fun v107 =>
             qb (q_load st true 4 v107) fun v108 =>
             e_alloc st [.int .i64 0, .int .i64 0, .str [], .sl 0 true []] fun v17 st =>
             e_store st 4 v17 v108 fun st =>
             hFix (fun ls_2 st X_1 =>
              qb (q_fa 0 (ls_2.getD 1 .junk)) fun v109 =>
              qb (q_load st false 1 v109) fun v110 =>
              qb (q_bin .eql v110 (.int .i64 2)) fun v111 =>
              cb v111 fun b_10 => br b_10
               (qb (q_bin .add (ls_2.getD 0 .junk) (.int .i64 1)) fun v117 =>
               qb (q_load st true 4 (ls_2.getD 1 .junk)) fun v118 =>
               e_alloc st [.int .i64 0, .int .i64 0, .str [], .sl 0 true []] fun v17_1 st =>
               e_store st 4 v17_1 v118 fun st =>
               qb (q_fa 3 v17_1) fun v112 =>
               qb (q_load st false 1 v112) fun v113 =>
               qb (q_ia 4 v113 (.int .i64 1)) fun v114 =>
               qb (q_load st true 4 v114) fun v115 =>
               e_store st 4 v17_1 v115 fun st =>
               X_1 [v117, v17_1] st)
               (qb (q_ia 6 v29 (ls_1.getD 0 .junk)) fun v123 =>
               qb (q_fa 0 v123) fun v124 =>
               qb (q_load st false 1 v124) fun v125 =>
               callK prog n_impl_Omittable [v29, v125] st (fun v126 st =>
               qb (q_ex v126 0) fun v127 =>
               qb (q_ex v126 1) fun v128 =>
               qb (q_bin .neq v128 (.int .i64 0)) fun v130 =>
               cb v130 fun b_11 => br b_11
                (retR R (.bool false) st)
                (qb (q_len v127) fun v133 =>
                qb (q_bin .neq v133 (ls_2.getD 0 .junk)) fun v135 =>
                cb v135 fun b_12 => br b_12
                 (retR R (.bool false) st)
                 (qb (q_bin .add (ls_1.getD 0 .junk) (.int .i64 1)) fun v98_1 =>
                 X [v98_1] st))) (panR R)))
              [(.int .i64 0), v17] st))
            (retR R (.bool true) st))
           [(.int .i64 0)] st)) (panR R))) (panR R))) (panR R))) (panR R))) (panR R)))) (panR R)) (panR R))
    (fun k =>
   hFix (fun ls_3 st X_2 =>
    qb (q_len v39) fun v42 =>
    qb (q_bin .lss (ls_3.getD 0 .junk) v42) fun v43 =>
    cb v43 fun b_13 => br b_13
     (qb (q_ia 1 v39 (ls_3.getD 0 .junk)) fun v48 =>
     e_store st 1 v48 (.bool true) fun st =>
     qb (q_bin .add (ls_3.getD 0 .junk) (.int .i64 1)) fun v45 =>
     X_2 [v45] st)
     (k [v39] st))
    [(.int .i64 0)] st)) (panR R))) (panR R)) (panR R)) (panR R))
theorem c_laws_FnOmits {a0 : PV} {st : St} {R : Res → St → Prop} (h : b_laws_FnOmits a0 st R) : HCalls prog n_laws_FnOmits [a0] st R :=
 hcalls_of_func tyOK mixed (fn := Go.Proofs.Tryz.f8) (by kernel_rfl) (by kernel_rfl) (by kernel_rfl) (ann := [(92, [16, 17]), (72, [15]), (40, [10]), (3, [9])])
  (show hFunc prog TT [(92, [16, 17]), (72, [15]), (40, [10]), (3, [9])] Go.Proofs.Tryz.f8 [a0] st R from (show hFunc prog TT [(92, [16, 17]), (72, [15]), (40, [10]), (3, [9])] Go.Proofs.Tryz.f8 [a0] st R = b_laws_FnOmits a0 st R by kernel_rfl) ▸ h)
def b_spec_JudgedOf (a0 : PV) (st : St) (R : Res → St → Prop) : Prop :=
 e_alloc st [.int .i64 0, .int .i64 0, .str [], .sl 0 true []] fun v3 st =>
 e_alloc st [.int .i64 0, .int .i64 0, .str [], .sl 0 true []] fun v4 st =>
 callK prog n_spec_l00Source [a0] st (fun v10 st =>
 callK prog n_spec_l00Src_natCtx [v10] st (fun v12 st =>
 qb (q_len v12) fun v16 =>
 callK prog n_spec_l00Src_judged [v10, v16] st (fun v17 st =>
 qb (q_ex v17 0) fun v18 =>
 qb (q_ex v17 1) fun v19 =>
 e_alloc st [.int .i64 0, .int .i64 0, .str [], .sl 0 true []] fun v7 st =>
 e_alloc st [.int .i64 0, .int .i64 0, .str [], .sl 0 true []] fun v8 st =>
 e_store st 4 v7 v18 fun st =>
 e_store st 4 v8 v19 fun st =>
 qb (q_load st true 4 v7) fun v21 =>
 qb (q_load st true 4 v8) fun v22 =>
 e_store st 4 v3 v21 fun st =>
 q_load st true 4 v8 = some v22 ∧ (e_store st 4 v4 v22 fun st =>
 qb (q_load st true 4 v3) fun r => qb (q_load st true 4 v4) fun r_1 => retR R (.tup [v12, r, r_1]) st)) (panR R)) (panR R)) (panR R)
theorem c_spec_JudgedOf {a0 : PV} {st : St} {R : Res → St → Prop} (h : b_spec_JudgedOf a0 st R) : HCalls prog n_spec_JudgedOf [a0] st R :=
 hcalls_of_func tyOK mixed (fn := Go.Proofs.Tryz.f9) (by kernel_rfl) (by kernel_rfl) (by kernel_rfl) (ann := [])
  (show hFunc prog TT [] Go.Proofs.Tryz.f9 [a0] st R from (show hFunc prog TT [] Go.Proofs.Tryz.f9 [a0] st R = b_spec_JudgedOf a0 st R by kernel_rfl) ▸ h)
def b_laws_same (a0 a1 : PV) (st : St) (R : Res → St → Prop) : Prop :=
 e_box st a0 fun v2 st =>
 e_box st a1 fun v3 st =>
 qb (q_fa 0 v2) fun v6 =>
 qb (q_load st false 1 v6) fun v7 =>
 qb (q_fa 0 v3) fun v8 =>
 qb (q_load st false 1 v8) fun v9 =>
 qb (q_bin .neq v7 v9) fun v10 =>
 cb v10 fun b => br b
  (retR R (.bool false) st)
  (qb (q_fa 1 v2) fun v12 =>
  qb (q_load st false 1 v12) fun v13 =>
  qb (q_fa 1 v3) fun v14 =>
  qb (q_load st false 1 v14) fun v15 =>
  qb (q_bin .neq v13 v15) fun v16 =>
  cb v16 fun b_1 => br b_1
   (retR R (.bool false) st)
   (qb (q_fa 2 v2) fun v19 =>
   qb (q_load st false 1 v19) fun v20 =>
   qb (q_fa 2 v3) fun v21 =>
   qb (q_load st false 1 v21) fun v22 =>
   qb (q_bin .neq v20 v22) fun v23 =>
   cb v23 fun b_2 => br b_2
    (retR R (.bool false) st)
    (qb (q_fa 3 v2) fun v26 =>
    qb (q_load st false 1 v26) fun v27 =>
    qb (q_len v27) fun v28 =>
    qb (q_fa 3 v3) fun v29 =>
    qb (q_load st false 1 v29) fun v30 =>
    qb (q_len v30) fun v31 =>
    qb (q_bin .neq v28 v31) fun v32 =>
    cb v32 fun b_3 => br b_3
     (retR R (.bool false) st)
     (hFix (fun ls st X =>
      qb (q_fa 3 v2) fun v35 =>
      qb (q_load st false 1 v35) fun v36 =>
      qb (q_len v36) fun v37 =>
      qb (q_bin .lss (ls.getD 0 .junk) v37) fun v38 =>
      cb v38 fun b_4 => br b_4
       (qb (q_fa 3 v2) fun v41 =>
       qb (q_load st false 1 v41) fun v42 =>
       qb (q_ia 4 v42 (ls.getD 0 .junk)) fun v44 =>
       qb (q_load st true 4 v44) fun v45 =>
       qb (q_fa 3 v3) fun v46 =>
       qb (q_load st false 1 v46) fun v47 =>
       qb (q_ia 4 v47 (ls.getD 0 .junk)) fun v49 =>
       qb (q_load st true 4 v49) fun v50 =>
       callK prog n_laws_same [v45, v50] st (fun v51 st =>
       qb (q_un .not v51) fun v52 =>
       cb v52 fun b_5 => br b_5
        (retR R (.bool false) st)
        (qb (q_bin .add (ls.getD 0 .junk) (.int .i64 1)) fun v40 =>
        X [v40] st)) (panR R))
       (retR R (.bool true) st))
      [(.int .i64 0)] st))))
theorem e_laws_same : Enters prog n_laws_same := ⟨Go.Proofs.Tryz.f13, by kernel_rfl, by kernel_rfl, by kernel_rfl⟩
theorem c_laws_same {a0 a1 : PV} {st : St} {R : Res → St → Prop} (h : b_laws_same a0 a1 st R) : HCalls prog n_laws_same [a0, a1] st R :=
 hcalls_of_func tyOK mixed (fn := Go.Proofs.Tryz.f13) (by kernel_rfl) (by kernel_rfl) (by kernel_rfl) (ann := [(16, [5])])
  (show hFunc prog TT [(16, [5])] Go.Proofs.Tryz.f13 [a0, a1] st R from (show hFunc prog TT [(16, [5])] Go.Proofs.Tryz.f13 [a0, a1] st R = b_laws_same a0 a1 st R by kernel_rfl) ▸ h)
def b_spec_Numbers (st : St) (R : Res → St → Prop) : Prop :=
 callK prog n_spec_l04Some [] st (fun v1 st =>
 retR R v1 st) (panR R)
theorem c_spec_Numbers {st : St} {R : Res → St → Prop} (h : b_spec_Numbers  st R) : HCalls prog n_spec_Numbers [] st R :=
 hcalls_of_func tyOK mixed (fn := Go.Proofs.Tryz.f16) (by kernel_rfl) (by kernel_rfl) (by kernel_rfl) (ann := [])
  (show hFunc prog TT [] Go.Proofs.Tryz.f16 [] st R from (show hFunc prog TT [] Go.Proofs.Tryz.f16 [] st R = b_spec_Numbers  st R by kernel_rfl) ▸ h)
def b_spec_TermOK (a0 : PV) (st : St) (R : Res → St → Prop) : Prop :=
 e_box st a0 fun v1 st =>
 qb (q_load st true 4 v1) fun v3 =>
 callK prog n_spec_l01Small [v3] st (fun v4 st =>
 cb v4 fun b => br b
  (qb (q_load st true 4 v1) fun v6 =>
  callK prog n_spec_l01Term [v6, (.bool false)] st (fun v7 st =>
  retR R v7 st) (panR R))
  (retR R (.bool false) st)) (panR R)
theorem c_spec_TermOK {a0 : PV} {st : St} {R : Res → St → Prop} (h : b_spec_TermOK a0 st R) : HCalls prog n_spec_TermOK [a0] st R :=
 hcalls_of_func tyOK mixed (fn := Go.Proofs.Tryz.f20) (by kernel_rfl) (by kernel_rfl) (by kernel_rfl) (ann := [])
  (show hFunc prog TT [] Go.Proofs.Tryz.f20 [a0] st R from (show hFunc prog TT [] Go.Proofs.Tryz.f20 [a0] st R = b_spec_TermOK a0 st R by kernel_rfl) ▸ h)
def b_spec_FamilyOK (a0 : PV) (st : St) (R : Res → St → Prop) : Prop :=
 e_box st a0 fun v1 st =>
 qb (q_load st true 4 v1) fun v3 =>
 callK prog n_spec_l01Small [v3] st (fun v4 st =>
 cb v4 fun b => br b
  (qb (q_load st true 4 v1) fun v6 =>
  callK prog n_spec_l01Family [v6] st (fun v7 st =>
  retR R v7 st) (panR R))
  (retR R (.bool false) st)) (panR R)
theorem c_spec_FamilyOK {a0 : PV} {st : St} {R : Res → St → Prop} (h : b_spec_FamilyOK a0 st R) : HCalls prog n_spec_FamilyOK [a0] st R :=
 hcalls_of_func tyOK mixed (fn := Go.Proofs.Tryz.f21) (by kernel_rfl) (by kernel_rfl) (by kernel_rfl) (ann := [])
  (show hFunc prog TT [] Go.Proofs.Tryz.f21 [a0] st R from (show hFunc prog TT [] Go.Proofs.Tryz.f21 [a0] st R = b_spec_FamilyOK a0 st R by kernel_rfl) ▸ h)
end Go.H.Tryz
