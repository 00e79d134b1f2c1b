/- Part of a proof that the program answers as the reference does: ZGS3. -/
import Derived.Test.YtipmjpjaklmpfaaGreatDoorHT
set_option linter.unusedVariables false
set_option maxRecDepth 100000
namespace Go.H.Tryz
open Go Go.H
def b_spec_l00Src_byte (a0 : PV) (st : St) (R : Res → St → Prop) : Prop :=
 qb (q_nil a0) fun v4 =>
 qb (q_fa 1 v4) fun v5 =>
 qb (q_load st false 1 v5) fun v6 =>
 qb (q_bin .add v6 (.int .i64 1)) fun v7 =>
 qb (q_nil a0) fun v8 =>
 qb (q_fa 1 v8) fun v9 =>
 e_store st 1 v9 v7 fun st =>
 qb (q_nil a0) fun v11 =>
 qb (q_fa 1 v11) fun v12 =>
 qb (q_load st false 1 v12) fun v13 =>
 qb (q_nil a0) fun v15 =>
 qb (q_fa 0 v15) fun v16 =>
 qb (q_load st false 1 v16) fun v17 =>
 qb (q_len v17) fun v18 =>
 qb (q_bin .leq v13 v18) fun v19 =>
 cb v19 fun b => br b
  (qb (q_nil a0) fun v22 =>
  qb (q_fa 2 v22) fun v23 =>
  qb (q_load st false 1 v23) fun v24 =>
  qb (q_bin .mul v24 (.int .i64 31)) fun v25 =>
  qb (q_nil a0) fun v27 =>
  qb (q_fa 0 v27) fun v28 =>
  qb (q_load st false 1 v28) fun v29 =>
  qb (q_nil a0) fun v31 =>
  qb (q_fa 1 v31) fun v32 =>
  qb (q_load st false 1 v32) fun v33 =>
  qb (q_bin .sub v33 (.int .i64 1)) fun v34 =>
  qb (q_ia 1 v29 v34) fun v35 =>
  qb (q_load st false 1 v35) fun v36 =>
  qb (q_conv .i64 v36) fun v37 =>
  qb (q_bin .add v25 v37) fun v38 =>
  qb (q_bin .add v38 (.int .i64 7)) fun v39 =>
  qb (q_bin .rem v39 (.int .i64 2147483648)) fun v40 =>
  qb (q_nil a0) fun v41 =>
  qb (q_fa 2 v41) fun v42 =>
  e_store st 1 v42 v40 fun st =>
  qb (q_nil a0) fun v44 =>
  qb (q_fa 0 v44) fun v45 =>
  qb (q_load st false 1 v45) fun v46 =>
  qb (q_nil a0) fun v48 =>
  qb (q_fa 1 v48) fun v49 =>
  qb (q_load st false 1 v49) fun v50 =>
  qb (q_bin .sub v50 (.int .i64 1)) fun v51 =>
  qb (q_ia 1 v46 v51) fun v52 =>
  qb (q_load st false 1 v52) fun v53 =>
  qb (q_conv .i64 v53) fun v54 =>
  retR R v54 st)
  (qb (q_nil a0) fun v56 =>
  qb (q_fa 1 v56) fun v57 =>
  qb (q_load st false 1 v57) fun v58 =>
  qb (q_bin .gtr v58 (.int .i64 3000)) fun v59 =>
  cb v59 fun b_1 => br b_1
   (retR R (.int .i64 0) st)
   (qb (q_nil a0) fun v62 =>
   qb (q_fa 2 v62) fun v63 =>
   qb (q_load st false 1 v63) fun v64 =>
   qb (q_bin .mul v64 (.int .i64 1103515245)) fun v65 =>
   qb (q_bin .add v65 (.int .i64 12345)) fun v66 =>
   qb (q_bin .rem v66 (.int .i64 2147483648)) fun v67 =>
   qb (q_nil a0) fun v68 =>
   qb (q_fa 2 v68) fun v69 =>
   e_store st 1 v69 v67 fun st =>
   qb (q_nil a0) fun v71 =>
   qb (q_fa 2 v71) fun v72 =>
   qb (q_load st false 1 v72) fun v73 =>
   qb (q_bin .quo v73 (.int .i64 65536)) fun v74 =>
   qb (q_bin .rem v74 (.int .i64 256)) fun v75 =>
   retR R v75 st))
theorem c_spec_l00Src_byte {a0 : PV} {st : St} {R : Res → St → Prop} (h : b_spec_l00Src_byte a0 st R) : HCalls prog n_spec_l00Src_byte [a0] st R :=
 hcalls_of_func tyOK mixed (fn := Go.Proofs.Tryz.f63) (by kernel_rfl) (by kernel_rfl) (by kernel_rfl) (ann := [])
  (show hFunc prog TT [] Go.Proofs.Tryz.f63 [a0] st R from (show hFunc prog TT [] Go.Proofs.Tryz.f63 [a0] st R = b_spec_l00Src_byte a0 st R by kernel_rfl) ▸ h)
def b_spec_l01Count (a0 a1 : PV) (st : St) (R : Res → St → Prop) : Prop :=
 e_box st a0 fun v2 st =>
 qb (q_bin .sub a1 (.int .i64 1)) fun v7 =>
 hFix (fun ls st X =>
  hJ (fun ls_1 st =>
   cb (ls_1.getD 0 .junk) fun b => br b
    (qb (q_fa 3 v2) fun v19 =>
    qb (q_load st false 1 v19) fun v20 =>
    qb (q_ia 4 v20 (ls.getD 1 .junk)) fun v22 =>
    qb (q_load st true 4 v22) fun v23 =>
    callK prog n_spec_l01Count [v23, (ls.getD 0 .junk)] st (fun v25 st =>
    qb (q_bin .add (ls.getD 1 .junk) (.int .i64 1)) fun v18 =>
    X [v25, v18] st) (panR R))
    (retR R (ls.getD 0 .junk) st))
   (fun k =>
  qb (q_fa 3 v2) fun v9 =>
  qb (q_load st false 1 v9) fun v10 =>
  qb (q_len v10) fun v11 =>
  qb (q_bin .lss (ls.getD 1 .junk) v11) fun v12 =>
  cb v12 fun b_1 => br b_1
   (qb (q_bin .geq (ls.getD 0 .junk) (.int .i64 0)) fun v15 =>
   k [v15] st)
   (k [(.bool false)] st)))
  [v7, (.int .i64 0)] st
theorem e_spec_l01Count : Enters prog n_spec_l01Count := ⟨Go.Proofs.Tryz.f64, by kernel_rfl, by kernel_rfl, by kernel_rfl⟩
theorem c_spec_l01Count {a0 a1 : PV} {st : St} {R : Res → St → Prop} (h : b_spec_l01Count a0 a1 st R) : HCalls prog n_spec_l01Count [a0, a1] st R :=
 hcalls_of_func tyOK mixed (fn := Go.Proofs.Tryz.f64) (by kernel_rfl) (by kernel_rfl) (by kernel_rfl) (ann := [(12, [1, 5]), (13, [16])])
  (show hFunc prog TT [(12, [1, 5]), (13, [16])] Go.Proofs.Tryz.f64 [a0, a1] st R from (show hFunc prog TT [(12, [1, 5]), (13, [16])] Go.Proofs.Tryz.f64 [a0, a1] st R = b_spec_l01Count a0 a1 st R by kernel_rfl) ▸ h)
def b_impl_fresh (st : St) (R : Res → St → Prop) : Prop :=
 qb (q_struct [.int .i64 0, .bool false] [(0, 1, (.int .i64 150))]) fun v1 =>
 e_box st v1 fun v2 st =>
 retR R v2 st
theorem c_impl_fresh {st : St} {R : Res → St → Prop} (h : b_impl_fresh  st R) : HCalls prog n_impl_fresh [] st R :=
 hcalls_of_func tyOK mixed (fn := Go.Proofs.Tryz.f65) (by kernel_rfl) (by kernel_rfl) (by kernel_rfl) (ann := [])
  (show hFunc prog TT [] Go.Proofs.Tryz.f65 [] st R from (show hFunc prog TT [] Go.Proofs.Tryz.f65 [] st R = b_impl_fresh  st R by kernel_rfl) ▸ h)
def b_impl_looker_term (a0 a1 : PV) (st : St) (R : Res → St → Prop) : Prop :=
 e_box st a1 fun v3 st =>
 callK prog n_impl_looker_node [a0] st (fun v6 st =>
 qb (q_un .not v6) fun v7 =>
 cb v7 fun b => br b
  (retR R (.bool false) st)
  (qb (q_fa 0 v3) fun v8 =>
  qb (q_load st false 1 v8) fun v9 =>
  qb (q_bin .eql v9 (.int .i64 4)) fun v11 =>
  cb v11 fun b_1 => br b_1
   (callK prog n_impl_Tree_bare [v3, (.int .i64 1)] st (fun v12 st =>
   cb v12 fun b_2 => br b_2
    (qb (q_fa 3 v3) fun v15 =>
    qb (q_load st false 1 v15) fun v16 =>
    qb (q_ia 4 v16 (.int .i64 0)) fun v17 =>
    qb (q_load st true 4 v17) fun v18 =>
    callK prog n_impl_looker_term [a0, v18] st (fun v19 st =>
    retR R v19 st) (panR R))
    (retR R (.bool false) st)) (panR R))
   (qb (q_bin .eql v9 (.int .i64 5)) fun v22 =>
   hJ (fun ls st =>
    cb (ls.getD 0 .junk) fun b_4 => br b_4
     (qb (q_fa 1 v3) fun v24 =>
     qb (q_load st false 1 v24) fun v25 =>
     callK prog n_impl_in [v25, (.int .i64 0), (.int .i64 100)] st (fun v26 st =>
     cb v26 fun b_5 => br b_5
      (qb (q_fa 2 v3) fun v28 =>
      qb (q_load st false 1 v28) fun v29 =>
      qb (q_bin .eql v29 (.str [])) fun v30 =>
      cb v30 fun b_6 => br b_6
       (qb (q_fa 3 v3) fun v34 =>
       qb (q_load st false 1 v34) fun v35 =>
       callK prog n_impl_looker_args [a0, v35] st (fun v36 st =>
       retR R v36 st) (panR R))
       (retR R (.bool false) st))
      (retR R (.bool false) st)) (panR R))
     (qb (q_bin .eql v9 (.int .i64 6)) fun v39 =>
     cb v39 fun b_7 => br b_7
      (qb (q_fa 1 v3) fun v40 =>
      qb (q_load st false 1 v40) fun v41 =>
      qb (q_bin .eql v41 (.int .i64 0)) fun v42 =>
      cb v42 fun b_8 => br b_8
       (qb (q_fa 2 v3) fun v44 =>
       qb (q_load st false 1 v44) fun v45 =>
       callK prog n_impl_NameOK [v45] st (fun v46 st =>
       cb v46 fun b_9 => br b_9
        (qb (q_fa 3 v3) fun v50 =>
        qb (q_load st false 1 v50) fun v51 =>
        callK prog n_impl_looker_args [a0, v51] st (fun v52 st =>
        retR R v52 st) (panR R))
        (retR R (.bool false) st)) (panR R))
       (retR R (.bool false) st))
      (retR R (.bool false) st)))
    (fun k =>
   cb v22 fun b_3 => br b_3
    (k [v22] st)
    (qb (q_bin .eql v9 (.int .i64 7)) fun v23 =>
    k [v23] st))))) (panR R)
theorem e_impl_looker_term : Enters prog n_impl_looker_term := ⟨Go.Proofs.Tryz.f66, by kernel_rfl, by kernel_rfl, by kernel_rfl⟩
theorem c_impl_looker_term {a0 a1 : PV} {st : St} {R : Res → St → Prop} (h : b_impl_looker_term a0 a1 st R) : HCalls prog n_impl_looker_term [a0, a1] st R :=
 hcalls_of_func tyOK mixed (fn := Go.Proofs.Tryz.f66) (by kernel_rfl) (by kernel_rfl) (by kernel_rfl) (ann := [(30, [21])])
  (show hFunc prog TT [(30, [21])] Go.Proofs.Tryz.f66 [a0, a1] st R from (show hFunc prog TT [(30, [21])] Go.Proofs.Tryz.f66 [a0, a1] st R = b_impl_looker_term a0 a1 st R by kernel_rfl) ▸ h)
def b_impl_looker_simple (a0 a1 : PV) (st : St) (R : Res → St → Prop) : Prop :=
 e_box st a1 fun v3 st =>
 callK prog n_impl_looker_node [a0] st (fun v6 st =>
 qb (q_un .not v6) fun v7 =>
 cb v7 fun b => br b
  (retR R (.bool false) st)
  (qb (q_fa 0 v3) fun v8 =>
  qb (q_load st false 1 v8) fun v9 =>
  qb (q_bin .eql v9 (.int .i64 9)) fun v11 =>
  cb v11 fun b_1 => br b_1
   (qb (q_fa 1 v3) fun v12 =>
   qb (q_load st false 1 v12) fun v13 =>
   qb (q_bin .eql v13 (.int .i64 0)) fun v14 =>
   cb v14 fun b_2 => br b_2
    (qb (q_fa 2 v3) fun v16 =>
    qb (q_load st false 1 v16) fun v17 =>
    callK prog n_impl_NameOK [v17] st (fun v18 st =>
    cb v18 fun b_3 => br b_3
     (qb (q_fa 3 v3) fun v21 =>
     qb (q_load st false 1 v21) fun v22 =>
     qb (q_len v22) fun v23 =>
     qb (q_bin .eql v23 (.int .i64 0)) fun v24 =>
     retR R v24 st)
     (retR R (.bool false) st)) (panR R))
    (retR R (.bool false) st))
   (qb (q_bin .eql v9 (.int .i64 10)) fun v27 =>
   cb v27 fun b_4 => br b_4
    (callK prog n_impl_Tree_bare [v3, (.int .i64 2)] st (fun v28 st =>
    cb v28 fun b_5 => br b_5
     (qb (q_fa 3 v3) fun v31 =>
     qb (q_load st false 1 v31) fun v32 =>
     qb (q_ia 4 v32 (.int .i64 0)) fun v33 =>
     qb (q_load st true 4 v33) fun v34 =>
     callK prog n_impl_looker_simple [a0, v34] st (fun v35 st =>
     cb v35 fun b_6 => br b_6
      (qb (q_fa 3 v3) fun v39 =>
      qb (q_load st false 1 v39) fun v40 =>
      qb (q_ia 4 v40 (.int .i64 1)) fun v41 =>
      qb (q_load st true 4 v41) fun v42 =>
      callK prog n_impl_looker_simple [a0, v42] st (fun v43 st =>
      retR R v43 st) (panR R))
      (retR R (.bool false) st)) (panR R))
     (retR R (.bool false) st)) (panR R))
    (retR R (.bool false) st)))) (panR R)
theorem c_impl_looker_simple {a0 a1 : PV} {st : St} {R : Res → St → Prop} (h : b_impl_looker_simple a0 a1 st R) : HCalls prog n_impl_looker_simple [a0, a1] st R :=
 hcalls_of_func tyOK mixed (fn := Go.Proofs.Tryz.f67) (by kernel_rfl) (by kernel_rfl) (by kernel_rfl) (ann := [])
  (show hFunc prog TT [] Go.Proofs.Tryz.f67 [a0, a1] st R from (show hFunc prog TT [] Go.Proofs.Tryz.f67 [a0, a1] st R = b_impl_looker_simple a0 a1 st R by kernel_rfl) ▸ h)
def b_impl_result_1 (a0 a1 : PV) (st : St) (R : Res → St → Prop) : Prop :=
 qb (q_load st false 1 a0) fun v2 =>
 e_call prog st v2 [] (fun v3 st =>
 e_store st 4 a1 v3 fun st =>
 retR R (.tup []) st) (panR R)
theorem c_impl_result_1 {a0 a1 : PV} {st : St} {R : Res → St → Prop} (h : b_impl_result_1 a0 a1 st R) : HCalls prog n_impl_result_1 [a0, a1] st R :=
 hcalls_of_func tyOK mixed (fn := Go.Proofs.Tryz.f70) (by kernel_rfl) (by kernel_rfl) (by kernel_rfl) (ann := [])
  (show hFunc prog TT [] Go.Proofs.Tryz.f70 [a0, a1] st R from (show hFunc prog TT [] Go.Proofs.Tryz.f70 [a0, a1] st R = b_impl_result_1 a0 a1 st R by kernel_rfl) ▸ h)
def b_impl_clone (a0 : PV) (st : St) (R : Res → St → Prop) : Prop :=
 e_box st a0 fun v1 st =>
 e_alloc st [.int .i64 0, .int .i64 0, .str [], .sl 0 true []] fun v2 st =>
 qb (q_fa 3 v1) fun v3 =>
 qb (q_load st false 1 v3) fun v4 =>
 callK prog n_impl_cloneAll [v4] st (fun v5 st =>
 qb (q_fa 3 v1) fun v6 =>
 e_store st 1 v6 v5 fun st =>
 qb (q_load st true 4 v1) fun v7 =>
 e_store st 4 v2 v7 fun st =>
 qb (q_load st true 4 v2) fun r => retR R r st) (panR R)
theorem c_impl_clone {a0 : PV} {st : St} {R : Res → St → Prop} (h : b_impl_clone a0 st R) : HCalls prog n_impl_clone [a0] st R :=
 hcalls_of_func tyOK mixed (fn := Go.Proofs.Tryz.f71) (by kernel_rfl) (by kernel_rfl) (by kernel_rfl) (ann := [])
  (show hFunc prog TT [] Go.Proofs.Tryz.f71 [a0] st R from (show hFunc prog TT [] Go.Proofs.Tryz.f71 [a0] st R = b_impl_clone a0 st R by kernel_rfl) ▸ h)
def b_impl_Tree_under (a0 a1 : PV) (st : St) (R : Res → St → Prop) : Prop :=
 callK prog n_impl_Tree_binds [a0, a1] st (fun v7 st =>
 cb v7 fun b => br b
  (retR R (.int .i64 1) st)
  (retR R (.int .i64 0) st)) (panR R)
theorem c_impl_Tree_under {a0 a1 : PV} {st : St} {R : Res → St → Prop} (h : b_impl_Tree_under a0 a1 st R) : HCalls prog n_impl_Tree_under [a0, a1] st R :=
 hcalls_of_func tyOK mixed (fn := Go.Proofs.Tryz.f72) (by kernel_rfl) (by kernel_rfl) (by kernel_rfl) (ann := [])
  (show hFunc prog TT [] Go.Proofs.Tryz.f72 [a0, a1] st R from (show hFunc prog TT [] Go.Proofs.Tryz.f72 [a0, a1] st R = b_impl_Tree_under a0 a1 st R by kernel_rfl) ▸ h)
def b_impl_work_apply (a0 a1 a2 a3 : PV) (st : St) (R : Res → St → Prop) : Prop :=
 e_box st a1 fun v5 st =>
 e_box st a2 fun v6 st =>
 e_alloc st [.int .i64 0, .int .i64 0, .str [], .sl 0 true []] fun v8 st =>
 qb (q_len a3) fun v12 =>
 hFix (fun ls st X =>
  qb (q_bin .lss (ls.getD 0 .junk) v12) fun v14 =>
  cb v14 fun b => br b
   (qb (q_ia 4 a3 (ls.getD 0 .junk)) fun v15 =>
   qb (q_load st true 4 v15) fun v16 =>
   e_alloc st [.int .i64 0, .int .i64 0, .str [], .sl 0 true []] fun v10 st =>
   e_store st 4 v10 v16 fun st =>
   hJ (fun ls_1 st =>
    cb (ls_1.getD 0 .junk) fun b_1 => br b_1
     (callK prog n_impl_stop [(.int .i64 12), (.int .i64 0)] st (fun v25 st =>
     qb (q_nil a0) fun v27 =>
     qb (q_fa 0 v27) fun v28 =>
     qb (q_load st false 1 v28) fun v29 =>
     qb (q_bin .add v29 (.int .i64 1)) fun v30 =>
     qb (q_nil a0) fun v31 =>
     qb (q_fa 0 v31) fun v32 =>
     e_store st 1 v32 v30 fun st =>
     qb (q_nil a0) fun v34 =>
     qb (q_fa 0 v34) fun v35 =>
     qb (q_load st false 1 v35) fun v36 =>
     qb (q_bin .gtr v36 (.int .i64 20000)) fun v37 =>
     hJ (fun ls_2 st =>
      qb (q_load st true 4 v10) fun v40 =>
      qb (q_fa 3 v6) fun v41 =>
      qb (q_load st false 1 v41) fun v42 =>
      qb (q_ia 4 v42 (.int .i64 0)) fun v43 =>
      qb (q_load st true 4 v43) fun v44 =>
      qb (q_fa 3 v5) fun v45 =>
      qb (q_load st false 1 v45) fun v46 =>
      qb (q_ia 4 v46 (.int .i64 0)) fun v47 =>
      qb (q_load st true 4 v47) fun v48 =>
      callK prog n_impl_work_put [a0, v40, v44, (.int .i64 0), v48] st (fun v49 st =>
      e_store st 4 v5 v49 fun st =>
      qb (q_fa 3 v6) fun v50 =>
      qb (q_load st false 1 v50) fun v51 =>
      qb (q_ia 4 v51 (.int .i64 1)) fun v52 =>
      qb (q_load st true 4 v52) fun v53 =>
      e_store st 4 v6 v53 fun st =>
      qb (q_bin .add (ls.getD 0 .junk) (.int .i64 1)) fun v54 =>
      X [v54] st) (panR R))
      (fun k_1 =>
     cb v37 fun b_2 => br b_2
      (callK prog n_impl_stop [(.int .i64 17), (.int .i64 0)] st (fun v38 st =>
      k_1 [] st) (panR R))
      (k_1 [] st))) (panR R))
     (qb (q_nil a0) fun v27_1 =>
     qb (q_fa 0 v27_1) fun v28_1 =>
     qb (q_load st false 1 v28_1) fun v29_1 =>
     qb (q_bin .add v29_1 (.int .i64 1)) fun v30_1 =>
     qb (q_nil a0) fun v31_1 =>
     qb (q_fa 0 v31_1) fun v32_1 =>
     e_store st 1 v32_1 v30_1 fun st =>
     qb (q_nil a0) fun v34_1 =>
     qb (q_fa 0 v34_1) fun v35_1 =>
     qb (q_load st false 1 v35_1) fun v36_1 =>
     qb (q_bin .gtr v36_1 (.int .i64 20000)) fun v37_1 =>
     hJ (fun ls_3 st =>
      qb (q_load st true 4 v10) fun v40_1 =>
      qb (q_fa 3 v6) fun v41_1 =>
      qb (q_load st false 1 v41_1) fun v42_1 =>
      qb (q_ia 4 v42_1 (.int .i64 0)) fun v43_1 =>
      qb (q_load st true 4 v43_1) fun v44_1 =>
      qb (q_fa 3 v5) fun v45_1 =>
      qb (q_load st false 1 v45_1) fun v46_1 =>
      qb (q_ia 4 v46_1 (.int .i64 0)) fun v47_1 =>
      qb (q_load st true 4 v47_1) fun v48_1 =>
      callK prog n_impl_work_put [a0, v40_1, v44_1, (.int .i64 0), v48_1] st (fun v49_1 st =>
      e_store st 4 v5 v49_1 fun st =>
      qb (q_fa 3 v6) fun v50_1 =>
      qb (q_load st false 1 v50_1) fun v51_1 =>
      qb (q_ia 4 v51_1 (.int .i64 1)) fun v52_1 =>
      qb (q_load st true 4 v52_1) fun v53_1 =>
      e_store st 4 v6 v53_1 fun st =>
      qb (q_bin .add (ls.getD 0 .junk) (.int .i64 1)) fun v54_1 =>
      X [v54_1] st) (panR R))
      (fun k_2 =>
     cb v37_1 fun b_3 => br b_3
      (callK prog n_impl_stop [(.int .i64 17), (.int .i64 0)] st (fun v38_1 st =>
      k_2 [] st) (panR R))
      (k_2 [] st))))
    (fun k =>
   qb (q_fa 0 v6) fun v17 =>
   qb (q_load st false 1 v17) fun v18 =>
   qb (q_bin .neq v18 (.int .i64 10)) fun v19 =>
   cb v19 fun b_4 => br b_4
    (k [(.bool true)] st)
    (qb (q_fa 0 v5) fun v21 =>
    qb (q_load st false 1 v21) fun v22 =>
    qb (q_bin .neq v22 (.int .i64 4)) fun v23 =>
    k [v23] st)))
   (qb (q_load st true 4 v5) fun v55 =>
   e_store st 4 v8 v55 fun st =>
   qb (q_load st true 4 v8) fun r => retR R r st))
  [(.int .i64 0)] st
theorem c_impl_work_apply {a0 a1 a2 a3 : PV} {st : St} {R : Res → St → Prop} (h : b_impl_work_apply a0 a1 a2 a3 st R) : HCalls prog n_impl_work_apply [a0, a1, a2, a3] st R :=
 hcalls_of_func tyOK mixed (fn := Go.Proofs.Tryz.f73) (by kernel_rfl) (by kernel_rfl) (by kernel_rfl) (ann := [(8, [13]), (17, [24]), (34, [])])
  (show hFunc prog TT [(8, [13]), (17, [24]), (34, [])] Go.Proofs.Tryz.f73 [a0, a1, a2, a3] st R from (show hFunc prog TT [(8, [13]), (17, [24]), (34, [])] Go.Proofs.Tryz.f73 [a0, a1, a2, a3] st R = b_impl_work_apply a0 a1 a2 a3 st R by kernel_rfl) ▸ h)
def b_impl_formed (a0 : PV) (st : St) (R : Res → St → Prop) : Prop :=
 e_box st a0 fun v1 st =>
 e_alloc st [.int .i64 0, .int .i64 0, .str [], .sl 0 true []] fun v2 st =>
 qb (q_load st true 4 v1) fun v3 =>
 callK prog n_impl_tooBig [v3] st (fun v4 st =>
 cb v4 fun b => br b
  (callK prog n_impl_stop [(.int .i64 11), (.int .i64 0)] st (fun v5 st =>
  qb (q_load st true 4 v1) fun v6 =>
  e_store st 4 v2 v6 fun st =>
  qb (q_load st true 4 v2) fun r => retR R r st) (panR R))
  (qb (q_load st true 4 v1) fun v6_1 =>
  e_store st 4 v2 v6_1 fun st =>
  qb (q_load st true 4 v2) fun r_1 => retR R r_1 st)) (panR R)
theorem c_impl_formed {a0 : PV} {st : St} {R : Res → St → Prop} (h : b_impl_formed a0 st R) : HCalls prog n_impl_formed [a0] st R :=
 hcalls_of_func tyOK mixed (fn := Go.Proofs.Tryz.f74) (by kernel_rfl) (by kernel_rfl) (by kernel_rfl) (ann := [])
  (show hFunc prog TT [] Go.Proofs.Tryz.f74 [a0] st R from (show hFunc prog TT [] Go.Proofs.Tryz.f74 [a0] st R = b_impl_formed a0 st R by kernel_rfl) ▸ h)
def b_impl_lift (a0 a1 a2 : PV) (st : St) (R : Res → St → Prop) : Prop :=
 e_box st a0 fun v3 st =>
 e_box st a1 fun v4 st =>
 e_box st a2 fun v5 st =>
 e_alloc st [.int .i64 0, .int .i64 0, .str [], .sl 0 true []] fun v6 st =>
 qb (q_load st true 4 v3) fun v7 =>
 callK prog n_impl_turned [v7, (.int .i64 0), (.fn (.func n_impl_lift_1) [] [v4, v5])] st (fun v9 st =>
 e_store st 4 v6 v9 fun st =>
 qb (q_load st true 4 v6) fun r => retR R r st) (panR R)
theorem c_impl_lift {a0 a1 a2 : PV} {st : St} {R : Res → St → Prop} (h : b_impl_lift a0 a1 a2 st R) : HCalls prog n_impl_lift [a0, a1, a2] st R :=
 hcalls_of_func tyOK mixed (fn := Go.Proofs.Tryz.f75) (by kernel_rfl) (by kernel_rfl) (by kernel_rfl) (ann := [])
  (show hFunc prog TT [] Go.Proofs.Tryz.f75 [a0, a1, a2] st R from (show hFunc prog TT [] Go.Proofs.Tryz.f75 [a0, a1, a2] st R = b_impl_lift a0 a1 a2 st R by kernel_rfl) ▸ h)
def b_spec_l01Simple (a0 : PV) (st : St) (R : Res → St → Prop) : Prop :=
 e_box st a0 fun v1 st =>
 qb (q_fa 0 v1) fun v3 =>
 qb (q_load st false 1 v3) fun v4 =>
 qb (q_bin .eql v4 (.int .i64 10)) fun v6 =>
 cb v6 fun b => br b
  (qb (q_fa 1 v1) fun v7 =>
  qb (q_load st false 1 v7) fun v8 =>
  qb (q_bin .eql v8 (.int .i64 0)) fun v9 =>
  cb v9 fun b_1 => br b_1
   (qb (q_fa 2 v1) fun v11 =>
   qb (q_load st false 1 v11) fun v12 =>
   qb (q_bin .eql v12 (.str [])) fun v13 =>
   cb v13 fun b_2 => br b_2
    (qb (q_fa 3 v1) fun v16 =>
    qb (q_load st false 1 v16) fun v17 =>
    qb (q_len v17) fun v18 =>
    qb (q_bin .eql v18 (.int .i64 2)) fun v19 =>
    cb v19 fun b_3 => br b_3
     (qb (q_fa 3 v1) fun v22 =>
     qb (q_load st false 1 v22) fun v23 =>
     qb (q_ia 4 v23 (.int .i64 0)) fun v24 =>
     qb (q_load st true 4 v24) fun v25 =>
     callK prog n_spec_l01Simple [v25] st (fun v26 st =>
     cb v26 fun b_4 => br b_4
      (qb (q_fa 3 v1) fun v29 =>
      qb (q_load st false 1 v29) fun v30 =>
      qb (q_ia 4 v30 (.int .i64 1)) fun v31 =>
      qb (q_load st true 4 v31) fun v32 =>
      callK prog n_spec_l01Simple [v32] st (fun v33 st =>
      retR R v33 st) (panR R))
      (retR R (.bool false) st)) (panR R))
     (retR R (.bool false) st))
    (retR R (.bool false) st))
   (retR R (.bool false) st))
  (qb (q_bin .eql v4 (.int .i64 9)) fun v36 =>
  cb v36 fun b_5 => br b_5
   (qb (q_fa 1 v1) fun v37 =>
   qb (q_load st false 1 v37) fun v38 =>
   qb (q_bin .eql v38 (.int .i64 0)) fun v39 =>
   cb v39 fun b_6 => br b_6
    (qb (q_fa 2 v1) fun v41 =>
    qb (q_load st false 1 v41) fun v42 =>
    callK prog n_spec_NameOK [v42] st (fun v43 st =>
    cb v43 fun b_7 => br b_7
     (qb (q_fa 3 v1) fun v46 =>
     qb (q_load st false 1 v46) fun v47 =>
     qb (q_len v47) fun v48 =>
     qb (q_bin .eql v48 (.int .i64 0)) fun v49 =>
     retR R v49 st)
     (retR R (.bool false) st)) (panR R))
    (retR R (.bool false) st))
   (retR R (.bool false) st))
theorem c_spec_l01Simple {a0 : PV} {st : St} {R : Res → St → Prop} (h : b_spec_l01Simple a0 st R) : HCalls prog n_spec_l01Simple [a0] st R :=
 hcalls_of_func tyOK mixed (fn := Go.Proofs.Tryz.f76) (by kernel_rfl) (by kernel_rfl) (by kernel_rfl) (ann := [])
  (show hFunc prog TT [] Go.Proofs.Tryz.f76 [a0] st R from (show hFunc prog TT [] Go.Proofs.Tryz.f76 [a0] st R = b_spec_l01Simple a0 st R by kernel_rfl) ▸ h)
def b_spec_l01Under (a0 a1 : PV) (st : St) (R : Res → St → Prop) : Prop :=
 e_box st a0 fun v2 st =>
 qb (q_load st true 4 v2) fun v5 =>
 callK prog n_spec_l01Binds [v5, a1] st (fun v7 st =>
 cb v7 fun b => br b
  (retR R (.int .i64 1) st)
  (retR R (.int .i64 0) st)) (panR R)
theorem c_spec_l01Under {a0 a1 : PV} {st : St} {R : Res → St → Prop} (h : b_spec_l01Under a0 a1 st R) : HCalls prog n_spec_l01Under [a0, a1] st R :=
 hcalls_of_func tyOK mixed (fn := Go.Proofs.Tryz.f79) (by kernel_rfl) (by kernel_rfl) (by kernel_rfl) (ann := [])
  (show hFunc prog TT [] Go.Proofs.Tryz.f79 [a0, a1] st R from (show hFunc prog TT [] Go.Proofs.Tryz.f79 [a0, a1] st R = b_spec_l01Under a0 a1 st R by kernel_rfl) ▸ h)
def b_spec_l01Lift (a0 a1 a2 : PV) (st : St) (R : Res → St → Prop) : Prop :=
 e_box st a0 fun v3 st =>
 e_alloc st [.int .i64 0, .int .i64 0, .str [], .sl 0 true []] fun v6 st =>
 qb (q_lit 4 0 0 [] []) fun v10 =>
 hJ (fun ls st =>
  qb (q_load st true 4 v3) fun v33 =>
  callK prog n_spec_l01With [v33, (ls.getD 0 .junk)] st (fun v35 st =>
  e_alloc st [.int .i64 0, .int .i64 0, .str [], .sl 0 true []] fun v9 st =>
  e_store st 4 v9 v35 fun st =>
  hJ (fun ls_1 st =>
   cb (ls_1.getD 0 .junk) fun b => br b
    (qb (q_fa 1 v9) fun v45 =>
    qb (q_load st false 1 v45) fun v46 =>
    qb (q_bin .add v46 a2) fun v48 =>
    qb (q_fa 1 v9) fun v49 =>
    e_store st 1 v49 v48 fun st =>
    qb (q_load st true 4 v9) fun v50 =>
    e_store st 4 v6 v50 fun st =>
    qb (q_load st true 4 v6) fun r => retR R r st)
    (qb (q_load st true 4 v9) fun v50_1 =>
    e_store st 4 v6 v50_1 fun st =>
    qb (q_load st true 4 v6) fun r_1 => retR R r_1 st))
   (fun k_1 =>
  qb (q_fa 0 v3) fun v36 =>
  qb (q_load st false 1 v36) fun v37 =>
  qb (q_bin .eql v37 (.int .i64 5)) fun v38 =>
  cb v38 fun b_1 => br b_1
   (qb (q_fa 1 v3) fun v40 =>
   qb (q_load st false 1 v40) fun v41 =>
   qb (q_bin .geq v41 a1) fun v43 =>
   k_1 [v43] st)
   (k_1 [(.bool false)] st))) (panR R))
  (fun k =>
 hFix (fun ls_2 st X =>
  qb (q_fa 3 v3) fun v12 =>
  qb (q_load st false 1 v12) fun v13 =>
  qb (q_len v13) fun v14 =>
  qb (q_bin .lss (ls_2.getD 1 .junk) v14) fun v15 =>
  cb v15 fun b_2 => br b_2
   (qb (q_fa 3 v3) fun v19 =>
   qb (q_load st false 1 v19) fun v20 =>
   qb (q_ia 4 v20 (ls_2.getD 1 .junk)) fun v22 =>
   qb (q_load st true 4 v22) fun v23 =>
   qb (q_load st true 4 v3) fun v25 =>
   callK prog n_spec_l01Under [v25, (ls_2.getD 1 .junk)] st (fun v27 st =>
   q_load st true 4 v22 = some v23 ∧ q_load st false 1 v19 = some v20 ∧ (qb (q_bin .add a1 v27) fun v28 =>
   callK prog n_spec_l01Lift [v23, v28, a2] st (fun v30 st =>
   qb (q_lit 4 1 0 [] [(0, v30)]) fun v31 =>
   e_append st 4 56 (ls_2.getD 0 .junk) v31 (fun v32 st =>
   qb (q_bin .add (ls_2.getD 1 .junk) (.int .i64 1)) fun v17 =>
   X [v32, v17] st)) (panR R))) (panR R))
   (k [(ls_2.getD 0 .junk)] st))
  [v10, (.int .i64 0)] st)
theorem e_spec_l01Lift : Enters prog n_spec_l01Lift := ⟨Go.Proofs.Tryz.f80, by kernel_rfl, by kernel_rfl, by kernel_rfl⟩
theorem c_spec_l01Lift {a0 a1 a2 : PV} {st : St} {R : Res → St → Prop} (h : b_spec_l01Lift a0 a1 a2 st R) : HCalls prog n_spec_l01Lift [a0, a1, a2] st R :=
 hcalls_of_func tyOK mixed (fn := Go.Proofs.Tryz.f80) (by kernel_rfl) (by kernel_rfl) (by kernel_rfl) (ann := [(12, [7, 8]), (3, [7]), (29, [44])])
  (show hFunc prog TT [(12, [7, 8]), (3, [7]), (29, [44])] Go.Proofs.Tryz.f80 [a0, a1, a2] st R from (show hFunc prog TT [(12, [7, 8]), (3, [7]), (29, [44])] Go.Proofs.Tryz.f80 [a0, a1, a2] st R = b_spec_l01Lift a0 a1 a2 st R by kernel_rfl) ▸ h)
def b_spec_l03Big (a0 : PV) (st : St) (R : Res → St → Prop) : Prop :=
 e_box st a0 fun v1 st =>
 qb (q_load st true 4 v1) fun v3 =>
 callK prog n_spec_l01Small [v3] st (fun v4 st =>
 qb (q_un .not v4) fun v5 =>
 cb v5 fun b => br b
  (retR R (.bool true) st)
  (qb (q_load st true 4 v1) fun v7 =>
  callK prog n_spec_l01High [v7] st (fun v8 st =>
  retR R v8 st) (panR R))) (panR R)
theorem c_spec_l03Big {a0 : PV} {st : St} {R : Res → St → Prop} (h : b_spec_l03Big a0 st R) : HCalls prog n_spec_l03Big [a0] st R :=
 hcalls_of_func tyOK mixed (fn := Go.Proofs.Tryz.f81) (by kernel_rfl) (by kernel_rfl) (by kernel_rfl) (ann := [])
  (show hFunc prog TT [] Go.Proofs.Tryz.f81 [a0] st R from (show hFunc prog TT [] Go.Proofs.Tryz.f81 [a0] st R = b_spec_l03Big a0 st R by kernel_rfl) ▸ h)
def b_spec_l03Run_reduce (a0 a1 a2 a3 : PV) (st : St) (R : Res → St → Prop) : Prop :=
 e_box st a1 fun v5 st =>
 e_box st a2 fun v6 st =>
 e_alloc st [.int .i64 0, .int .i64 0, .str [], .sl 0 true []] fun v8 st =>
 hJ (fun ls st =>
  qb (q_load st true 4 v5) fun v67 =>
  callK prog n_spec_l01Copy [v67] st (fun v68 st =>
  e_store st 4 v8 v68 fun st =>
  qb (q_load st true 4 v8) fun r => retR R (.tup [r, (.int .i64 0)]) st) (panR R))
  (fun k =>
 hFix (fun ls_1 st X =>
  qb (q_len a3) fun v15 =>
  qb (q_bin .lss (ls_1.getD 0 .junk) v15) fun v16 =>
  cb v16 fun b => br b
   (hJ (fun ls_2 st =>
    cb (ls_2.getD 0 .junk) fun b_1 => br b_1
     (qb (q_struct [.int .i64 0, .int .i64 0, .str [], .sl 0 true []] []) fun v27 =>
     e_store st 4 v8 v27 fun st =>
     qb (q_load st true 4 v8) fun r_1 => retR R (.tup [r_1, (.int .i64 12)]) st)
     (qb (q_nil a0) fun v29 =>
     qb (q_fa 0 v29) fun v30 =>
     qb (q_load st false 1 v30) fun v31 =>
     qb (q_bin .add v31 (.int .i64 1)) fun v32 =>
     qb (q_nil a0) fun v33 =>
     qb (q_fa 0 v33) fun v34 =>
     e_store st 1 v34 v32 fun st =>
     qb (q_nil a0) fun v36 =>
     qb (q_fa 0 v36) fun v37 =>
     qb (q_load st false 1 v37) fun v38 =>
     qb (q_bin .gtr v38 (.int .i64 20000)) fun v39 =>
     cb v39 fun b_2 => br b_2
      (qb (q_struct [.int .i64 0, .int .i64 0, .str [], .sl 0 true []] []) fun v40 =>
      e_store st 4 v8 v40 fun st =>
      qb (q_load st true 4 v8) fun r_2 => retR R (.tup [r_2, (.int .i64 17)]) st)
      (hJ (fun ls_3 st =>
       qb (q_bin .neq (ls_3.getD 1 .junk) (.int .i64 0)) fun v59 =>
       cb v59 fun b_3 => br b_3
        (qb (q_struct [.int .i64 0, .int .i64 0, .str [], .sl 0 true []] []) fun v60 =>
        e_store st 4 v8 v60 fun st =>
        qb (q_load st true 4 v8) fun r_3 => retR R (.tup [r_3, (ls_3.getD 1 .junk)]) st)
        (qb (q_load st true 4 (ls_3.getD 0 .junk)) fun v62 =>
        e_store st 4 v5 v62 fun st =>
        qb (q_fa 3 v6) fun v63 =>
        qb (q_load st false 1 v63) fun v64 =>
        qb (q_ia 4 v64 (.int .i64 1)) fun v65 =>
        qb (q_load st true 4 v65) fun v66 =>
        e_store st 4 v6 v66 fun st =>
        qb (q_bin .add (ls_1.getD 0 .junk) (.int .i64 1)) fun v18 =>
        X [v18] st))
       (fun k_2 =>
      qb (q_ia 4 a3 (ls_1.getD 0 .junk)) fun v45 =>
      qb (q_load st true 4 v45) fun v46 =>
      qb (q_fa 3 v6) fun v47 =>
      qb (q_load st false 1 v47) fun v48 =>
      qb (q_ia 4 v48 (.int .i64 0)) fun v49 =>
      qb (q_load st true 4 v49) fun v50 =>
      qb (q_fa 3 v5) fun v51 =>
      qb (q_load st false 1 v51) fun v52 =>
      qb (q_ia 4 v52 (.int .i64 0)) fun v53 =>
      qb (q_load st true 4 v53) fun v54 =>
      (callK prog n_spec_l03Run_sub [a0, v46, v50, v54, (.int .i64 0)] st (fun v55 st =>
      qb (q_ex v55 0) fun v56 =>
      qb (q_ex v55 1) fun v57 =>
      e_alloc st [.int .i64 0, .int .i64 0, .str [], .sl 0 true []] fun v11 st =>
      q_load st true 4 v53 = some v54 ∧ q_load st false 1 v51 = some v52 ∧ q_load st true 4 v49 = some v50 ∧ q_load st false 1 v47 = some v48 ∧ q_load st true 4 v45 = some v46 ∧ (e_store st 4 v11 v56 fun st =>
      k_2 [v11, v57] st)) (panR R)) ∧
      (e_alloc st [.int .i64 0, .int .i64 0, .str [], .sl 0 true []] fun v11_1 st =>
      q_load st true 4 v53 = some v54 ∧ q_load st false 1 v51 = some v52 ∧ q_load st true 4 v49 = some v50 ∧ q_load st false 1 v47 = some v48 ∧ q_load st true 4 v45 = some v46 ∧ (callK prog n_spec_l03Run_sub [a0, v46, v50, v54, (.int .i64 0)] st (fun v55_1 st =>
      qb (q_ex v55_1 0) fun v56_1 =>
      qb (q_ex v55_1 1) fun v57_1 =>
      e_store st 4 v11_1 v56_1 fun st =>
      k_2 [v11_1, v57_1] st) (panR R)))))))
    (fun k_1 =>
   qb (q_fa 0 v6) fun v19 =>
   qb (q_load st false 1 v19) fun v20 =>
   qb (q_bin .neq v20 (.int .i64 10)) fun v21 =>
   cb v21 fun b_4 => br b_4
    (k_1 [(.bool true)] st)
    (qb (q_fa 0 v5) fun v23 =>
    qb (q_load st false 1 v23) fun v24 =>
    qb (q_bin .neq v24 (.int .i64 4)) fun v25 =>
    k_1 [v25] st)))
   (k [] st))
  [(.int .i64 0)] st)
theorem c_spec_l03Run_reduce {a0 a1 a2 a3 : PV} {st : St} {R : Res → St → Prop} (h : b_spec_l03Run_reduce a0 a1 a2 a3 st R) : HCalls prog n_spec_l03Run_reduce [a0, a1, a2, a3] st R :=
 hcalls_of_func tyOK mixed (fn := Go.Proofs.Tryz.f82) (by kernel_rfl) (by kernel_rfl) (by kernel_rfl) (ann := [(8, [10]), (3, []), (17, [26]), (37, [11, 12])])
  (show hFunc prog TT [(8, [10]), (3, []), (17, [26]), (37, [11, 12])] Go.Proofs.Tryz.f82 [a0, a1, a2, a3] st R from (show hFunc prog TT [(8, [10]), (3, []), (17, [26]), (37, [11, 12])] Go.Proofs.Tryz.f82 [a0, a1, a2, a3] st R = b_spec_l03Run_reduce a0 a1 a2 a3 st R by kernel_rfl) ▸ h)
end Go.H.Tryz
