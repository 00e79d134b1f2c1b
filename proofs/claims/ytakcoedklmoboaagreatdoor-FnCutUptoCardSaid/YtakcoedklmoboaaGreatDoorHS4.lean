/- Part of a proof that the program answers as the reference does: ZFS4. -/
import Derived.Test.YtakcoedklmoboaaGreatDoorHT
/- MADE BY PROGRAM (hgen.py): what the functions compute, over pure values. -/
set_option linter.unusedVariables false
set_option maxRecDepth 100000
namespace Go.H.Tryz
open Go Go.H
def b_spec_l08Same (a0 a1 : PV) (st : St) (R : Res → St → Prop) : Prop :=
 e_box st a0 fun v2 st =>
 e_box st a1 fun v3 st =>
 qb (q_fa 0 v2) fun v6 =>
 qb (q_load st false 1 v6) fun v7 =>
 qb (q_fa 0 v3) fun v8 =>
 qb (q_load st false 1 v8) fun v9 =>
 qb (q_bin .neq v7 v9) fun v10 =>
 cb v10 fun b => br b
  (retR R (.bool false) st)
  (qb (q_fa 1 v2) fun v12 =>
  qb (q_load st false 1 v12) fun v13 =>
  qb (q_fa 1 v3) fun v14 =>
  qb (q_load st false 1 v14) fun v15 =>
  qb (q_bin .neq v13 v15) fun v16 =>
  cb v16 fun b_1 => br b_1
   (retR R (.bool false) st)
   (qb (q_fa 2 v2) fun v19 =>
   qb (q_load st false 1 v19) fun v20 =>
   qb (q_len v20) fun v21 =>
   qb (q_fa 2 v3) fun v22 =>
   qb (q_load st false 1 v22) fun v23 =>
   qb (q_len v23) fun v24 =>
   qb (q_bin .neq v21 v24) fun v25 =>
   cb v25 fun b_2 => br b_2
    (retR R (.bool false) st)
    (hFix (fun ls st X =>
     qb (q_fa 2 v2) fun v28 =>
     qb (q_load st false 1 v28) fun v29 =>
     qb (q_len v29) fun v30 =>
     qb (q_bin .lss (ls.getD 0 .junk) v30) fun v31 =>
     cb v31 fun b_3 => br b_3
      (qb (q_fa 2 v2) fun v34 =>
      qb (q_load st false 1 v34) fun v35 =>
      qb (q_ia 3 v35 (ls.getD 0 .junk)) fun v37 =>
      qb (q_load st true 3 v37) fun v38 =>
      qb (q_fa 2 v3) fun v39 =>
      qb (q_load st false 1 v39) fun v40 =>
      qb (q_ia 3 v40 (ls.getD 0 .junk)) fun v42 =>
      qb (q_load st true 3 v42) fun v43 =>
      callK prog n_spec_l08Same [v38, v43] st (fun v44 st =>
      qb (q_un .not v44) fun v45 =>
      cb v45 fun b_4 => br b_4
       (retR R (.bool false) st)
       (qb (q_bin .add (ls.getD 0 .junk) (.int .i64 1)) fun v33 =>
       X [v33] st)) (panR R))
      (retR R (.bool true) st))
     [(.int .i64 0)] st)))
theorem c_spec_l08Same {a0 a1 : PV} {st : St} {R : Res → St → Prop} (h : b_spec_l08Same a0 a1 st R) : HCalls prog n_spec_l08Same [a0, a1] st R :=
 hcalls_of_func tyOK mixed (fn := Go.Proofs.Tryz.f86) (by kernel_rfl) (by kernel_rfl) (by kernel_rfl) (ann := [(16, [5])])
  (show hFunc prog TT [(16, [5])] Go.Proofs.Tryz.f86 [a0, a1] st R from (show hFunc prog TT [(16, [5])] Go.Proofs.Tryz.f86 [a0, a1] st R = b_spec_l08Same a0 a1 st R by kernel_rfl) ▸ h)
def b_spec_l08FormCount (a0 a1 : PV) (st : St) (R : Res → St → Prop) : Prop :=
 e_box st a0 fun v2 st =>
 qb (q_bin .sub a1 (.int .i64 1)) fun v7 =>
 hFix (fun ls st X =>
  hJ (fun ls_1 st =>
   cb (ls_1.getD 0 .junk) fun b => br b
    (qb (q_fa 2 v2) fun v19 =>
    qb (q_load st false 1 v19) fun v20 =>
    qb (q_ia 3 v20 (ls.getD 1 .junk)) fun v22 =>
    qb (q_load st true 3 v22) fun v23 =>
    callK prog n_spec_l08FormCount [v23, (ls.getD 0 .junk)] st (fun v25 st =>
    qb (q_bin .add (ls.getD 1 .junk) (.int .i64 1)) fun v18 =>
    X [v25, v18] st) (panR R))
    (retR R (ls.getD 0 .junk) st))
   (fun k =>
  qb (q_fa 2 v2) fun v9 =>
  qb (q_load st false 1 v9) fun v10 =>
  qb (q_len v10) fun v11 =>
  qb (q_bin .lss (ls.getD 1 .junk) v11) fun v12 =>
  cb v12 fun b_1 => br b_1
   (qb (q_bin .geq (ls.getD 0 .junk) (.int .i64 0)) fun v15 =>
   k [v15] st)
   (k [(.bool false)] st)))
  [v7, (.int .i64 0)] st
theorem c_spec_l08FormCount {a0 a1 : PV} {st : St} {R : Res → St → Prop} (h : b_spec_l08FormCount a0 a1 st R) : HCalls prog n_spec_l08FormCount [a0, a1] st R :=
 hcalls_of_func tyOK mixed (fn := Go.Proofs.Tryz.f87) (by kernel_rfl) (by kernel_rfl) (by kernel_rfl) (ann := [(12, [1, 5]), (13, [16])])
  (show hFunc prog TT [(12, [1, 5]), (13, [16])] Go.Proofs.Tryz.f87 [a0, a1] st R from (show hFunc prog TT [(12, [1, 5]), (13, [16])] Go.Proofs.Tryz.f87 [a0, a1] st R = b_spec_l08FormCount a0 a1 st R by kernel_rfl) ▸ h)
def b_spec_l08Shape (a0 : PV) (st : St) (R : Res → St → Prop) : Prop :=
 qb (q_bin .eql a0 (.int .i64 1)) fun v6 =>
 cb v6 fun b => br b
  (retR R (.tup [(.int .i64 0), (.int .i64 0)]) st)
  (qb (q_bin .eql a0 (.int .i64 2)) fun v8 =>
  hJ (fun ls st =>
   cb (ls.getD 0 .junk) fun b_2 => br b_2
    (retR R (.tup [(.int .i64 2), (.int .i64 2)]) st)
    (qb (q_bin .eql a0 (.int .i64 3)) fun v11 =>
    hJ (fun ls_1 st =>
     cb (ls_1.getD 0 .junk) fun b_4 => br b_4
      (retR R (.tup [(.int .i64 2), (.int .i64 1)]) st)
      (qb (q_bin .eql a0 (.int .i64 7)) fun v15 =>
      cb v15 fun b_5 => br b_5
       (retR R (.tup [(.int .i64 1), (.int .i64 1)]) st)
       (retR R (.tup [(.int .i64 (-1)), (.int .i64 (-1))]) st)))
     (fun k_1 =>
    cb v11 fun b_3 => br b_3
     (k_1 [v11] st)
     (qb (q_bin .eql a0 (.int .i64 4)) fun v12 =>
     cb v12 fun b_6 => br b_6
      (k_1 [v12] st)
      (qb (q_bin .eql a0 (.int .i64 5)) fun v13 =>
      k_1 [v13] st)))))
   (fun k =>
  cb v8 fun b_1 => br b_1
   (k [v8] st)
   (qb (q_bin .eql a0 (.int .i64 6)) fun v9 =>
   k [v9] st)))
theorem c_spec_l08Shape {a0 : PV} {st : St} {R : Res → St → Prop} (h : b_spec_l08Shape a0 st R) : HCalls prog n_spec_l08Shape [a0] st R :=
 hcalls_of_func tyOK mixed (fn := Go.Proofs.Tryz.f88) (by kernel_rfl) (by kernel_rfl) (by kernel_rfl) (ann := [(22, [7]), (34, [10])])
  (show hFunc prog TT [(22, [7]), (34, [10])] Go.Proofs.Tryz.f88 [a0] st R from (show hFunc prog TT [(22, [7]), (34, [10])] Go.Proofs.Tryz.f88 [a0] st R = b_spec_l08Shape a0 st R by kernel_rfl) ▸ h)
def b_spec_l08Form (a0 : PV) (st : St) (R : Res → St → Prop) : Prop :=
 e_box st a0 fun v1 st =>
 qb (q_fa 0 v1) fun v5 =>
 qb (q_load st false 1 v5) fun v6 =>
 hJ (fun ls st =>
  qb (q_fa 2 v1) fun v22 =>
  qb (q_load st false 1 v22) fun v23 =>
  qb (q_len v23) fun v24 =>
  qb (q_bin .neq v24 (ls.getD 0 .junk)) fun v26 =>
  cb v26 fun b => br b
   (retR R (.bool false) st)
   (qb (q_fa 0 v1) fun v28 =>
   qb (q_load st false 1 v28) fun v29 =>
   qb (q_bin .neq v29 (.int .i64 1)) fun v30 =>
   cb v30 fun b_1 => br b_1
    (qb (q_fa 1 v1) fun v32 =>
    qb (q_load st false 1 v32) fun v33 =>
    qb (q_bin .neq v33 (.int .i64 0)) fun v34 =>
    cb v34 fun b_2 => br b_2
     (retR R (.bool false) st)
     (hFix (fun ls_1 st X =>
      qb (q_bin .lss (ls_1.getD 0 .junk) (ls.getD 0 .junk)) fun v39 =>
      cb v39 fun b_3 => br b_3
       (qb (q_fa 2 v1) fun v42 =>
       qb (q_load st false 1 v42) fun v43 =>
       qb (q_ia 3 v43 (ls_1.getD 0 .junk)) fun v45 =>
       qb (q_load st true 3 v45) fun v46 =>
       callK prog n_spec_l08Form [v46] st (fun v47 st =>
       qb (q_un .not v47) fun v48 =>
       cb v48 fun b_4 => br b_4
        (retR R (.bool false) st)
        (qb (q_bin .add (ls_1.getD 0 .junk) (.int .i64 1)) fun v41 =>
        X [v41] st)) (panR R))
       (retR R (.bool true) st))
      [(.int .i64 0)] st))
    (hFix (fun ls_2 st X_1 =>
     qb (q_bin .lss (ls_2.getD 0 .junk) (ls.getD 0 .junk)) fun v39_1 =>
     cb v39_1 fun b_5 => br b_5
      (qb (q_fa 2 v1) fun v42_1 =>
      qb (q_load st false 1 v42_1) fun v43_1 =>
      qb (q_ia 3 v43_1 (ls_2.getD 0 .junk)) fun v45_1 =>
      qb (q_load st true 3 v45_1) fun v46_1 =>
      callK prog n_spec_l08Form [v46_1] st (fun v47_1 st =>
      qb (q_un .not v47_1) fun v48_1 =>
      cb v48_1 fun b_6 => br b_6
       (retR R (.bool false) st)
       (qb (q_bin .add (ls_2.getD 0 .junk) (.int .i64 1)) fun v41_1 =>
       X_1 [v41_1] st)) (panR R))
      (retR R (.bool true) st))
     [(.int .i64 0)] st)))
  (fun k =>
 qb (q_bin .eql v6 (.int .i64 1)) fun v8 =>
 cb v8 fun b_7 => br b_7
  (qb (q_fa 1 v1) fun v9 =>
  qb (q_load st false 1 v9) fun v10 =>
  qb (q_bin .lss v10 (.int .i64 0)) fun v11 =>
  cb v11 fun b_8 => br b_8
   (retR R (.bool false) st)
   (qb (q_fa 1 v1) fun v13 =>
   qb (q_load st false 1 v13) fun v14 =>
   qb (q_bin .geq v14 (.int .i64 6)) fun v15 =>
   cb v15 fun b_9 => br b_9
    (retR R (.bool false) st)
    (k [(.int .i64 0)] st)))
  (qb (q_bin .eql v6 (.int .i64 2)) fun v18 =>
  cb v18 fun b_10 => br b_10
   (cb v18 fun b_11 => br b_11
    (k [(.int .i64 2)] st)
    (qb (q_bin .eql v6 (.int .i64 4)) fun v21 =>
    cb v21 fun b_12 => br b_12
     (k [(.int .i64 0)] st)
     (retR R (.bool false) st)))
   (qb (q_bin .eql v6 (.int .i64 3)) fun v19 =>
   cb v19 fun b_13 => br b_13
    (k [(.int .i64 2)] st)
    (qb (q_bin .eql v6 (.int .i64 4)) fun v21_1 =>
    cb v21_1 fun b_14 => br b_14
     (k [(.int .i64 0)] st)
     (retR R (.bool false) st)))))
theorem c_spec_l08Form {a0 : PV} {st : St} {R : Res → St → Prop} (h : b_spec_l08Form a0 st R) : HCalls prog n_spec_l08Form [a0] st R :=
 hcalls_of_func tyOK mixed (fn := Go.Proofs.Tryz.f89) (by kernel_rfl) (by kernel_rfl) (by kernel_rfl) (ann := [(56, [4]), (3, [3])])
  (show hFunc prog TT [(56, [4]), (3, [3])] Go.Proofs.Tryz.f89 [a0] st R from (show hFunc prog TT [(56, [4]), (3, [3])] Go.Proofs.Tryz.f89 [a0] st R = b_spec_l08Form a0 st R by kernel_rfl) ▸ h)
def b_slices_Max_int_int (a0 : PV) (st : St) (R : Res → St → Prop) : Prop :=
 qb (q_len a0) fun v6 =>
 qb (q_bin .lss v6 (.int .i64 1)) fun v7 =>
 cb v7 fun b => br b
  (qb (q_iface ty_string (.str [115, 108, 105, 99, 101, 115, 46, 77, 97, 120, 58, 32, 101, 109, 112, 116, 121, 32, 108, 105, 115, 116])) fun v8 =>
  e_panic v8 st (panR R))
  (qb (q_ia 1 a0 (.int .i64 0)) fun v10 =>
  qb (q_load st false 1 v10) fun v11 =>
  hFix (fun ls st X =>
   qb (q_len a0) fun v14 =>
   qb (q_bin .lss (ls.getD 1 .junk) v14) fun v15 =>
   cb v15 fun b_1 => br b_1
    (qb (q_ia 1 a0 (ls.getD 1 .junk)) fun v21 =>
    qb (q_load st false 1 v21) fun v22 =>
    qb (q_max (ls.getD 0 .junk) v22) fun v23 =>
    qb (q_bin .add (ls.getD 1 .junk) (.int .i64 1)) fun v17 =>
    X [v23, v17] st)
    (retR R (ls.getD 0 .junk) st))
   [v11, (.int .i64 1)] st)
theorem c_slices_Max_int_int {a0 : PV} {st : St} {R : Res → St → Prop} (h : b_slices_Max_int_int a0 st R) : HCalls prog n_slices_Max_int_int [a0] st R :=
 hcalls_of_func tyOK mixed (fn := Go.Proofs.Tryz.f90) (by kernel_rfl) (by kernel_rfl) (by kernel_rfl) (ann := [(20, [3, 4])])
  (show hFunc prog TT [(20, [3, 4])] Go.Proofs.Tryz.f90 [a0] st R from (show hFunc prog TT [(20, [3, 4])] Go.Proofs.Tryz.f90 [a0] st R = b_slices_Max_int_int a0 st R by kernel_rfl) ▸ h)
def b_slices_ContainsFunc_impl_Form_impl_Form (a0 a1 : PV) (st : St) (R : Res → St → Prop) : Prop :=
 callK prog n_slices_IndexFunc_impl_Form_impl_Form [a0, a1] st (fun v7 st =>
 qb (q_bin .geq v7 (.int .i64 0)) fun v8 =>
 retR R v8 st) (panR R)
theorem c_slices_ContainsFunc_impl_Form_impl_Form {a0 a1 : PV} {st : St} {R : Res → St → Prop} (h : b_slices_ContainsFunc_impl_Form_impl_Form a0 a1 st R) : HCalls prog n_slices_ContainsFunc_impl_Form_impl_Form [a0, a1] st R :=
 hcalls_of_func tyOK mixed (fn := Go.Proofs.Tryz.f91) (by kernel_rfl) (by kernel_rfl) (by kernel_rfl) (ann := [])
  (show hFunc prog TT [] Go.Proofs.Tryz.f91 [a0, a1] st R from (show hFunc prog TT [] Go.Proofs.Tryz.f91 [a0, a1] st R = b_slices_ContainsFunc_impl_Form_impl_Form a0 a1 st R by kernel_rfl) ▸ h)
def b_impl_badForm (a0 : PV) (st : St) (R : Res → St → Prop) : Prop :=
 e_box st a0 fun v1 st =>
 qb (q_load st true 3 v1) fun v3 =>
 callK prog n_impl_FormOK [v3] st (fun v4 st =>
 qb (q_un .not v4) fun v5 =>
 retR R v5 st) (panR R)
theorem c_impl_badForm {a0 : PV} {st : St} {R : Res → St → Prop} (h : b_impl_badForm a0 st R) : HCalls prog n_impl_badForm [a0] st R :=
 hcalls_of_func tyOK mixed (fn := Go.Proofs.Tryz.f92) (by kernel_rfl) (by kernel_rfl) (by kernel_rfl) (ann := [])
  (show hFunc prog TT [] Go.Proofs.Tryz.f92 [a0] st R from (show hFunc prog TT [] Go.Proofs.Tryz.f92 [a0] st R = b_impl_badForm a0 st R by kernel_rfl) ▸ h)
def b_impl_looker_proof (a0 a1 : PV) (st : St) (R : Res → St → Prop) : Prop :=
 e_box st a1 fun v3 st =>
 callK prog n_impl_looker_node [a0] st (fun v12 st =>
 qb (q_un .not v12) fun v13 =>
 cb v13 fun b => br b
  (retR R (.bool false) st)
  (qb (q_fa 0 v3) fun v14 =>
  qb (q_load st false 1 v14) fun v15 =>
  qb (q_bin .eql v15 (.int .i64 1)) fun v16 =>
  cb v16 fun b_1 => br b_1
   (qb (q_fa 1 v3) fun v17 =>
   qb (q_load st false 1 v17) fun v18 =>
   callK prog n_impl_in [v18, (.int .i64 0), (.int .i64 100)] st (fun v19 st =>
   cb v19 fun b_2 => br b_2
    (qb (q_fa 2 v3) fun v21 =>
    qb (q_load st false 1 v21) fun v22 =>
    qb (q_len v22) fun v23 =>
    qb (q_bin .eql v23 (.int .i64 0)) fun v24 =>
    cb v24 fun b_3 => br b_3
     (qb (q_fa 3 v3) fun v27 =>
     qb (q_load st false 1 v27) fun v28 =>
     qb (q_len v28) fun v29 =>
     qb (q_bin .eql v29 (.int .i64 0)) fun v30 =>
     retR R v30 st)
     (retR R (.bool false) st))
    (retR R (.bool false) st)) (panR R))
   (qb (q_fa 0 v3) fun v33 =>
   qb (q_load st false 1 v33) fun v34 =>
   callK prog n_impl_ruleOf [v34] st (fun v35 st =>
   qb (q_ex v35 0) fun v36 =>
   qb (q_ex v35 1) fun v37 =>
   e_alloc st [.int .i64 0, .int .i64 0, .str [], .nilfn, .nilfn] fun v5 st =>
   e_store st 5 v5 v36 fun st =>
   qb (q_un .not v37) fun v39 =>
   cb v39 fun b_4 => br b_4
    (retR R (.bool false) st)
    (qb (q_fa 1 v3) fun v41 =>
    qb (q_load st false 1 v41) fun v42 =>
    qb (q_bin .neq v42 (.int .i64 0)) fun v43 =>
    cb v43 fun b_5 => br b_5
     (retR R (.bool false) st)
     (qb (q_fa 2 v3) fun v46 =>
     qb (q_load st false 1 v46) fun v47 =>
     qb (q_len v47) fun v48 =>
     qb (q_fa 0 v5) fun v49 =>
     qb (q_load st false 1 v49) fun v50 =>
     qb (q_bin .neq v48 v50) fun v51 =>
     cb v51 fun b_6 => br b_6
      (retR R (.bool false) st)
      (qb (q_fa 3 v3) fun v54 =>
      qb (q_load st false 1 v54) fun v55 =>
      qb (q_len v55) fun v56 =>
      qb (q_fa 1 v5) fun v57 =>
      qb (q_load st false 1 v57) fun v58 =>
      qb (q_bin .neq v56 v58) fun v59 =>
      cb v59 fun b_7 => br b_7
       (retR R (.bool false) st)
       (qb (q_fa 2 v3) fun v61 =>
       qb (q_load st false 1 v61) fun v62 =>
       qb (q_len v62) fun v63 =>
       hFix (fun ls st X =>
        qb (q_bin .lss (ls.getD 0 .junk) v63) fun v65 =>
        cb v65 fun b_8 => br b_8
         (qb (q_ia 3 v62 (ls.getD 0 .junk)) fun v66 =>
         qb (q_load st true 3 v66) fun v67 =>
         e_alloc st [.int .i64 0, .int .i64 0, .sl 0 true []] fun v8 st =>
         e_store st 3 v8 v67 fun st =>
         qb (q_load st true 3 v8) fun v69 =>
         callK prog n_impl_looker_form [a0, v69] st (fun v70 st =>
         qb (q_un .not v70) fun v71 =>
         cb v71 fun b_9 => br b_9
          (retR R (.bool false) st)
          (qb (q_bin .add (ls.getD 0 .junk) (.int .i64 1)) fun v72 =>
          X [v72] st)) (panR R))
         (qb (q_fa 3 v3) fun v73 =>
         qb (q_load st false 1 v73) fun v74 =>
         qb (q_len v74) fun v75 =>
         hFix (fun ls_1 st X_1 =>
          qb (q_bin .lss (ls_1.getD 0 .junk) v75) fun v77 =>
          cb v77 fun b_10 => br b_10
           (qb (q_ia 4 v74 (ls_1.getD 0 .junk)) fun v78 =>
           qb (q_load st true 4 v78) fun v79 =>
           e_alloc st [.int .i64 0, .int .i64 0, .sl 0 true [], .sl 0 true []] fun v10 st =>
           e_store st 4 v10 v79 fun st =>
           qb (q_load st true 4 v10) fun v81 =>
           callK prog n_impl_looker_proof [a0, v81] st (fun v82 st =>
           qb (q_un .not v82) fun v83 =>
           cb v83 fun b_11 => br b_11
            (retR R (.bool false) st)
            (qb (q_bin .add (ls_1.getD 0 .junk) (.int .i64 1)) fun v84 =>
            X_1 [v84] st)) (panR R))
           (retR R (.bool true) st))
          [(.int .i64 0)] st))
        [(.int .i64 0)] st))))) (panR R)))) (panR R)
theorem c_impl_looker_proof {a0 a1 : PV} {st : St} {R : Res → St → Prop} (h : b_impl_looker_proof a0 a1 st R) : HCalls prog n_impl_looker_proof [a0, a1] st R :=
 hcalls_of_func tyOK mixed (fn := Go.Proofs.Tryz.f93) (by kernel_rfl) (by kernel_rfl) (by kernel_rfl) (ann := [(60, [76]), (36, [64])])
  (show hFunc prog TT [(60, [76]), (36, [64])] Go.Proofs.Tryz.f93 [a0, a1] st R from (show hFunc prog TT [(60, [76]), (36, [64])] Go.Proofs.Tryz.f93 [a0, a1] st R = b_impl_looker_proof a0 a1 st R by kernel_rfl) ▸ h)
def b_impl_ruleOf (a0 : PV) (st : St) (R : Res → St → Prop) : Prop :=
 e_alloc st [.int .i64 0, .int .i64 0, .str [], .nilfn, .nilfn] fun v2 st =>
 qb (q_bin .eql a0 (.int .i64 2)) fun v9 =>
 cb v9 fun b => br b
  (qb (q_struct [.int .i64 0, .int .i64 0, .str [], .nilfn, .nilfn] [(0, 1, (.int .i64 2)), (1, 1, (.int .i64 2)), (2, 1, (.str [97, 110, 100, 73])), (3, 1, (.fn (.func n_impl_ruleOf_4) [] [])), (4, 1, (.fn (.func n_impl_ruleOf_5) [] []))]) fun v10 =>
  e_store st 5 v2 v10 fun st =>
  qb (q_load st true 5 v2) fun r => retR R (.tup [r, (.bool true)]) st)
  (qb (q_bin .eql a0 (.int .i64 3)) fun v12 =>
  cb v12 fun b_1 => br b_1
   (qb (q_struct [.int .i64 0, .int .i64 0, .str [], .nilfn, .nilfn] [(0, 1, (.int .i64 2)), (1, 1, (.int .i64 1)), (2, 1, (.str [102, 115, 116])), (3, 1, (.fn (.func n_impl_ruleOf_1) [] [])), (4, 1, (.fn (.func n_impl_ruleOf_2) [] []))]) fun v15 =>
   e_store st 5 v2 v15 fun st =>
   qb (q_load st true 5 v2) fun r_1 => retR R (.tup [r_1, (.bool true)]) st)
   (qb (q_bin .eql a0 (.int .i64 4)) fun v17 =>
   cb v17 fun b_2 => br b_2
    (qb (q_struct [.int .i64 0, .int .i64 0, .str [], .nilfn, .nilfn] [(0, 1, (.int .i64 2)), (1, 1, (.int .i64 1)), (2, 1, (.str [115, 110, 100])), (3, 1, (.fn (.func n_impl_ruleOf_1) [] [])), (4, 1, (.fn (.func n_impl_ruleOf_3) [] []))]) fun v20 =>
    e_store st 5 v2 v20 fun st =>
    qb (q_load st true 5 v2) fun r_2 => retR R (.tup [r_2, (.bool true)]) st)
    (qb (q_bin .eql a0 (.int .i64 5)) fun v22 =>
    cb v22 fun b_3 => br b_3
     (qb (q_struct [.int .i64 0, .int .i64 0, .str [], .nilfn, .nilfn] [(0, 1, (.int .i64 2)), (1, 1, (.int .i64 1)), (2, 1, (.str [102, 117, 110, 73])), (3, 1, (.fn (.func n_impl_ruleOf_6) [] [])), (4, 1, (.fn (.func n_impl_ruleOf_7) [] []))]) fun v23 =>
     e_store st 5 v2 v23 fun st =>
     qb (q_load st true 5 v2) fun r_3 => retR R (.tup [r_3, (.bool true)]) st)
     (qb (q_bin .eql a0 (.int .i64 6)) fun v25 =>
     cb v25 fun b_4 => br b_4
      (qb (q_struct [.int .i64 0, .int .i64 0, .str [], .nilfn, .nilfn] [(0, 1, (.int .i64 2)), (1, 1, (.int .i64 2)), (2, 1, (.str [117, 115, 101])), (3, 1, (.fn (.func n_impl_ruleOf_8) [] [])), (4, 1, (.fn (.func n_impl_ruleOf_3) [] []))]) fun v27 =>
      e_store st 5 v2 v27 fun st =>
      qb (q_load st true 5 v2) fun r_4 => retR R (.tup [r_4, (.bool true)]) st)
      (qb (q_bin .eql a0 (.int .i64 7)) fun v29 =>
      cb v29 fun b_5 => br b_5
       (qb (q_struct [.int .i64 0, .int .i64 0, .str [], .nilfn, .nilfn] [(0, 1, (.int .i64 1)), (1, 1, (.int .i64 1)), (2, 1, (.str [98, 111, 116, 69])), (3, 1, (.fn (.func n_impl_ruleOf_9) [] [])), (4, 1, (.fn (.func n_impl_ruleOf_2) [] []))]) fun v31 =>
       e_store st 5 v2 v31 fun st =>
       qb (q_load st true 5 v2) fun r_5 => retR R (.tup [r_5, (.bool true)]) st)
       (qb (q_struct [.int .i64 0, .int .i64 0, .str [], .nilfn, .nilfn] []) fun v32 =>
       e_store st 5 v2 v32 fun st =>
       qb (q_load st true 5 v2) fun r_6 => retR R (.tup [r_6, (.bool false)]) st))))))
theorem c_impl_ruleOf {a0 : PV} {st : St} {R : Res → St → Prop} (h : b_impl_ruleOf a0 st R) : HCalls prog n_impl_ruleOf [a0] st R :=
 hcalls_of_func tyOK mixed (fn := Go.Proofs.Tryz.f94) (by kernel_rfl) (by kernel_rfl) (by kernel_rfl) (ann := [])
  (show hFunc prog TT [] Go.Proofs.Tryz.f94 [a0] st R from (show hFunc prog TT [] Go.Proofs.Tryz.f94 [a0] st R = b_impl_ruleOf a0 st R by kernel_rfl) ▸ h)
def b_impl_sameForm (a0 a1 : PV) (st : St) (R : Res → St → Prop) : Prop :=
 e_box st a0 fun v2 st =>
 e_box st a1 fun v3 st =>
 qb (q_fa 0 v2) fun v5 =>
 qb (q_load st false 1 v5) fun v6 =>
 qb (q_fa 0 v3) fun v7 =>
 qb (q_load st false 1 v7) fun v8 =>
 qb (q_bin .eql v6 v8) fun v9 =>
 cb v9 fun b => br b
  (qb (q_fa 1 v2) fun v11 =>
  qb (q_load st false 1 v11) fun v12 =>
  qb (q_fa 1 v3) fun v13 =>
  qb (q_load st false 1 v13) fun v14 =>
  qb (q_bin .eql v12 v14) fun v15 =>
  cb v15 fun b_1 => br b_1
   (qb (q_fa 2 v2) fun v18 =>
   qb (q_load st false 1 v18) fun v19 =>
   qb (q_fa 2 v3) fun v20 =>
   qb (q_load st false 1 v20) fun v21 =>
   callK prog n_slices_EqualFunc_impl_Form_impl_Form_impl_Form_impl_Form [v19, v21, (.fn (.func n_impl_sameForm) [] [])] st (fun v22 st =>
   retR R v22 st) (panR R))
   (retR R (.bool false) st))
  (retR R (.bool false) st)
theorem c_impl_sameForm {a0 a1 : PV} {st : St} {R : Res → St → Prop} (h : b_impl_sameForm a0 a1 st R) : HCalls prog n_impl_sameForm [a0, a1] st R :=
 hcalls_of_func tyOK mixed (fn := Go.Proofs.Tryz.f95) (by kernel_rfl) (by kernel_rfl) (by kernel_rfl) (ann := [])
  (show hFunc prog TT [] Go.Proofs.Tryz.f95 [a0, a1] st R from (show hFunc prog TT [] Go.Proofs.Tryz.f95 [a0, a1] st R = b_impl_sameForm a0 a1 st R by kernel_rfl) ▸ h)
def b_impl_Proof_size (a0 : PV) (st : St) (R : Res → St → Prop) : Prop :=
 qb (q_nil a0) fun v6 =>
 qb (q_fa 3 v6) fun v7 =>
 qb (q_load st false 1 v7) fun v8 =>
 qb (q_len v8) fun v9 =>
 hFix (fun ls st X =>
  qb (q_bin .lss (ls.getD 1 .junk) v9) fun v11 =>
  cb v11 fun b => br b
   (qb (q_nil a0) fun v15 =>
   qb (q_fa 3 v15) fun v16 =>
   qb (q_load st false 1 v16) fun v17 =>
   qb (q_ia 4 v17 (ls.getD 1 .junk)) fun v19 =>
   callK prog n_impl_Proof_size [v19] st (fun v20 st =>
   qb (q_bin .add (ls.getD 0 .junk) v20) fun v21 =>
   qb (q_bin .add (ls.getD 1 .junk) (.int .i64 1)) fun v22 =>
   X [v21, v22] st) (panR R))
   (retR R (ls.getD 0 .junk) st))
  [(.int .i64 1), (.int .i64 0)] st
theorem c_impl_Proof_size {a0 : PV} {st : St} {R : Res → St → Prop} (h : b_impl_Proof_size a0 st R) : HCalls prog n_impl_Proof_size [a0] st R :=
 hcalls_of_func tyOK mixed (fn := Go.Proofs.Tryz.f96) (by kernel_rfl) (by kernel_rfl) (by kernel_rfl) (ann := [(12, [3, 10])])
  (show hFunc prog TT [(12, [3, 10])] Go.Proofs.Tryz.f96 [a0] st R from (show hFunc prog TT [(12, [3, 10])] Go.Proofs.Tryz.f96 [a0] st R = b_impl_Proof_size a0 st R by kernel_rfl) ▸ h)
def b_impl_cloneForms (a0 : PV) (st : St) (R : Res → St → Prop) : Prop :=
 qb (q_lit 3 0 0 [] []) fun v6 =>
 qb (q_len a0) fun v8 =>
 hFix (fun ls st X =>
  qb (q_bin .lss (ls.getD 1 .junk) v8) fun v10 =>
  cb v10 fun b => br b
   (qb (q_ia 3 a0 (ls.getD 1 .junk)) fun v11 =>
   qb (q_load st true 3 v11) fun v12 =>
   e_alloc st [.int .i64 0, .int .i64 0, .sl 0 true []] fun v5 st =>
   e_store st 3 v5 v12 fun st =>
   qb (q_load st true 3 v5) fun v14 =>
   callK prog n_impl_cloneForm [v14] st (fun v15 st =>
   qb (q_lit 3 1 0 [] [(0, v15)]) fun v16 =>
   e_append st 3 40 (ls.getD 0 .junk) v16 (fun v17 st =>
   qb (q_bin .add (ls.getD 1 .junk) (.int .i64 1)) fun v18 =>
   X [v17, v18] st)) (panR R))
   (retR R (ls.getD 0 .junk) st))
  [v6, (.int .i64 0)] st
theorem c_impl_cloneForms {a0 : PV} {st : St} {R : Res → St → Prop} (h : b_impl_cloneForms a0 st R) : HCalls prog n_impl_cloneForms [a0] st R :=
 hcalls_of_func tyOK mixed (fn := Go.Proofs.Tryz.f97) (by kernel_rfl) (by kernel_rfl) (by kernel_rfl) (ann := [(12, [3, 9])])
  (show hFunc prog TT [(12, [3, 9])] Go.Proofs.Tryz.f97 [a0] st R from (show hFunc prog TT [(12, [3, 9])] Go.Proofs.Tryz.f97 [a0] st R = b_impl_cloneForms a0 st R by kernel_rfl) ▸ h)
def b_impl_Proof_lifted_1 (a0 a1 a2 : PV) (st : St) (R : Res → St → Prop) : Prop :=
 e_alloc st [.int .i64 0, .int .i64 0, .sl 0 true [], .sl 0 true []] fun v5 st =>
 qb (q_bin .geq a0 a1) fun v8 =>
 hJ (fun ls st =>
  qb (q_struct [.int .i64 0, .int .i64 0, .sl 0 true [], .sl 0 true []] [(0, 1, (.int .i64 1)), (1, 1, (ls.getD 0 .junk))]) fun v13 =>
  e_store st 4 v5 v13 fun st =>
  qb (q_load st true 4 v5) fun r => retR R r st)
  (fun k =>
 cb v8 fun b => br b
  (qb (q_load st false 1 a2) fun v10 =>
  qb (q_bin .add a0 v10) fun v11 =>
  k [v11] st)
  (k [a0] st))
theorem c_impl_Proof_lifted_1 {a0 a1 a2 : PV} {st : St} {R : Res → St → Prop} (h : b_impl_Proof_lifted_1 a0 a1 a2 st R) : HCalls prog n_impl_Proof_lifted_1 [a0, a1, a2] st R :=
 hcalls_of_func tyOK mixed (fn := Go.Proofs.Tryz.f98) (by kernel_rfl) (by kernel_rfl) (by kernel_rfl) (ann := [(10, [0])])
  (show hFunc prog TT [(10, [0])] Go.Proofs.Tryz.f98 [a0, a1, a2] st R from (show hFunc prog TT [(10, [0])] Go.Proofs.Tryz.f98 [a0, a1, a2] st R = b_impl_Proof_lifted_1 a0 a1 a2 st R by kernel_rfl) ▸ h)
def b_spec_FormOK (a0 : PV) (st : St) (R : Res → St → Prop) : Prop :=
 e_box st a0 fun v1 st =>
 qb (q_load st true 3 v1) fun v3 =>
 callK prog n_spec_l08FormCount [v3, (.int .i64 150)] st (fun v4 st =>
 qb (q_bin .geq v4 (.int .i64 0)) fun v5 =>
 cb v5 fun b => br b
  (qb (q_load st true 3 v1) fun v7 =>
  callK prog n_spec_l08Form [v7] st (fun v8 st =>
  retR R v8 st) (panR R))
  (retR R (.bool false) st)) (panR R)
theorem c_spec_FormOK {a0 : PV} {st : St} {R : Res → St → Prop} (h : b_spec_FormOK a0 st R) : HCalls prog n_spec_FormOK [a0] st R :=
 hcalls_of_func tyOK mixed (fn := Go.Proofs.Tryz.f99) (by kernel_rfl) (by kernel_rfl) (by kernel_rfl) (ann := [])
  (show hFunc prog TT [] Go.Proofs.Tryz.f99 [a0] st R from (show hFunc prog TT [] Go.Proofs.Tryz.f99 [a0] st R = b_spec_FormOK a0 st R by kernel_rfl) ▸ h)
def b_spec_l08Size (a0 : PV) (st : St) (R : Res → St → Prop) : Prop :=
 e_box st a0 fun v1 st =>
 hFix (fun ls st X =>
  qb (q_fa 3 v1) fun v6 =>
  qb (q_load st false 1 v6) fun v7 =>
  qb (q_len v7) fun v8 =>
  qb (q_bin .lss (ls.getD 1 .junk) v8) fun v9 =>
  cb v9 fun b => br b
   (qb (q_fa 3 v1) fun v13 =>
   qb (q_load st false 1 v13) fun v14 =>
   qb (q_ia 4 v14 (ls.getD 1 .junk)) fun v16 =>
   qb (q_load st true 4 v16) fun v17 =>
   callK prog n_spec_l08Size [v17] st (fun v18 st =>
   qb (q_bin .add (ls.getD 0 .junk) v18) fun v19 =>
   qb (q_bin .add (ls.getD 1 .junk) (.int .i64 1)) fun v11 =>
   X [v19, v11] st) (panR R))
   (retR R (ls.getD 0 .junk) st))
  [(.int .i64 1), (.int .i64 0)] st
theorem c_spec_l08Size {a0 : PV} {st : St} {R : Res → St → Prop} (h : b_spec_l08Size a0 st R) : HCalls prog n_spec_l08Size [a0] st R :=
 hcalls_of_func tyOK mixed (fn := Go.Proofs.Tryz.f100) (by kernel_rfl) (by kernel_rfl) (by kernel_rfl) (ann := [(12, [3, 4])])
  (show hFunc prog TT [(12, [3, 4])] Go.Proofs.Tryz.f100 [a0] st R from (show hFunc prog TT [(12, [3, 4])] Go.Proofs.Tryz.f100 [a0] st R = b_spec_l08Size a0 st R by kernel_rfl) ▸ h)
def b_spec_l08Move (a0 a1 a2 : PV) (st : St) (R : Res → St → Prop) : Prop :=
 e_box st a0 fun v3 st =>
 e_alloc st [.int .i64 0, .int .i64 0, .sl 0 true [], .sl 0 true []] fun v6 st =>
 qb (q_fa 0 v3) fun v10 =>
 qb (q_load st false 1 v10) fun v11 =>
 qb (q_fa 1 v3) fun v12 =>
 qb (q_load st false 1 v12) fun v13 =>
 qb (q_struct [.int .i64 0, .int .i64 0, .sl 0 true [], .sl 0 true []] [(0, 1, v11), (1, 1, v13)]) fun v14 =>
 e_alloc st [.int .i64 0, .int .i64 0, .sl 0 true [], .sl 0 true []] fun v7 st =>
 e_store st 4 v7 v14 fun st =>
 hJ (fun ls st =>
  hJ (fun ls_1 st =>
   hFix (fun ls_2 st X =>
    qb (q_fa 2 v3) fun v30 =>
    qb (q_load st false 1 v30) fun v31 =>
    qb (q_len v31) fun v32 =>
    qb (q_bin .lss (ls_2.getD 0 .junk) v32) fun v33 =>
    cb v33 fun b_1 => br b_1
     (qb (q_fa 2 v7) fun v36 =>
     qb (q_load st false 1 v36) fun v37 =>
     qb (q_fa 2 v3) fun v38 =>
     qb (q_load st false 1 v38) fun v39 =>
     qb (q_ia 3 v39 (ls_2.getD 0 .junk)) fun v41 =>
     qb (q_load st true 3 v41) fun v42 =>
     callK prog n_spec_l08Copy [v42] st (fun v43 st =>
     q_load st false 1 v36 = some v37 ∧ (qb (q_lit 3 1 0 [] [(0, v43)]) fun v44 =>
     e_append st 3 40 v37 v44 (fun v45 st =>
     qb (q_fa 2 v7) fun v46 =>
     e_store st 1 v46 v45 fun st =>
     qb (q_bin .add (ls_2.getD 0 .junk) (.int .i64 1)) fun v35 =>
     X [v35] st))) (panR R))
     (qb (q_fa 0 v3) fun v47 =>
     qb (q_load st false 1 v47) fun v48 =>
     qb (q_bin .eql v48 (.int .i64 5)) fun v49 =>
     hJ (fun ls_3 st =>
      hFix (fun ls_4 st X_1 =>
       qb (q_fa 3 v3) fun v53 =>
       qb (q_load st false 1 v53) fun v54 =>
       qb (q_len v54) fun v55 =>
       qb (q_bin .lss (ls_4.getD 0 .junk) v55) fun v56 =>
       cb v56 fun b_3 => br b_3
        (qb (q_fa 3 v7) fun v59 =>
        qb (q_load st false 1 v59) fun v60 =>
        qb (q_fa 3 v3) fun v61 =>
        qb (q_load st false 1 v61) fun v62 =>
        qb (q_ia 4 v62 (ls_4.getD 0 .junk)) fun v64 =>
        qb (q_load st true 4 v64) fun v65 =>
        callK prog n_spec_l08Move [v65, (ls_3.getD 0 .junk), a2] st (fun v68 st =>
        q_load st false 1 v59 = some v60 ∧ (qb (q_lit 4 1 0 [] [(0, v68)]) fun v69 =>
        e_append st 4 64 v60 v69 (fun v70 st =>
        qb (q_fa 3 v7) fun v71 =>
        e_store st 1 v71 v70 fun st =>
        qb (q_bin .add (ls_4.getD 0 .junk) (.int .i64 1)) fun v58 =>
        X_1 [v58] st))) (panR R))
        (qb (q_load st true 4 v7) fun v72 =>
        e_store st 4 v6 v72 fun st =>
        qb (q_load st true 4 v6) fun r => retR R r st))
       [(.int .i64 0)] st)
      (fun k_2 =>
     cb v49 fun b_2 => br b_2
      (qb (q_bin .add a1 (.int .i64 1)) fun v51 =>
      k_2 [v51] st)
      (k_2 [a1] st))))
    [(.int .i64 0)] st)
   (fun k_1 =>
  cb (ls.getD 0 .junk) fun b => br b
   (qb (q_fa 1 v7) fun v24 =>
   qb (q_load st false 1 v24) fun v25 =>
   qb (q_bin .add v25 a2) fun v27 =>
   qb (q_fa 1 v7) fun v28 =>
   e_store st 1 v28 v27 fun st =>
   k_1 [] st)
   (k_1 [] st)))
  (fun k =>
 qb (q_fa 0 v3) fun v15 =>
 qb (q_load st false 1 v15) fun v16 =>
 qb (q_bin .eql v16 (.int .i64 1)) fun v17 =>
 cb v17 fun b_4 => br b_4
  (qb (q_fa 1 v3) fun v19 =>
  qb (q_load st false 1 v19) fun v20 =>
  qb (q_bin .geq v20 a1) fun v22 =>
  k [v22] st)
  (k [(.bool false)] st))
theorem c_spec_l08Move {a0 a1 a2 : PV} {st : St} {R : Res → St → Prop} (h : b_spec_l08Move a0 a1 a2 st R) : HCalls prog n_spec_l08Move [a0, a1, a2] st R :=
 hcalls_of_func tyOK mixed (fn := Go.Proofs.Tryz.f101) (by kernel_rfl) (by kernel_rfl) (by kernel_rfl) (ann := [(44, [9]), (20, [8]), (9, [23]), (14, []), (38, [1])])
  (show hFunc prog TT [(44, [9]), (20, [8]), (9, [23]), (14, []), (38, [1])] Go.Proofs.Tryz.f101 [a0, a1, a2] st R from (show hFunc prog TT [(44, [9]), (20, [8]), (9, [23]), (14, []), (38, [1])] Go.Proofs.Tryz.f101 [a0, a1, a2] st R = b_spec_l08Move a0 a1 a2 st R by kernel_rfl) ▸ h)
def b_spec_l08Copy (a0 : PV) (st : St) (R : Res → St → Prop) : Prop :=
 e_box st a0 fun v1 st =>
 e_alloc st [.int .i64 0, .int .i64 0, .sl 0 true []] fun v2 st =>
 qb (q_lit 3 0 0 [] []) fun v5 =>
 hJ (fun ls st =>
  qb (q_fa 0 v1) fun v22 =>
  qb (q_load st false 1 v22) fun v23 =>
  qb (q_fa 1 v1) fun v24 =>
  qb (q_load st false 1 v24) fun v25 =>
  qb (q_struct [.int .i64 0, .int .i64 0, .sl 0 true []] [(0, 1, v23), (1, 1, v25), (2, 1, (ls.getD 0 .junk))]) fun v27 =>
  e_store st 3 v2 v27 fun st =>
  qb (q_load st true 3 v2) fun r => retR R r st)
  (fun k =>
 hFix (fun ls_1 st X =>
  qb (q_fa 2 v1) fun v7 =>
  qb (q_load st false 1 v7) fun v8 =>
  qb (q_len v8) fun v9 =>
  qb (q_bin .lss (ls_1.getD 1 .junk) v9) fun v10 =>
  cb v10 fun b => br b
   (qb (q_fa 2 v1) fun v14 =>
   qb (q_load st false 1 v14) fun v15 =>
   qb (q_ia 3 v15 (ls_1.getD 1 .junk)) fun v17 =>
   qb (q_load st true 3 v17) fun v18 =>
   callK prog n_spec_l08Copy [v18] st (fun v19 st =>
   qb (q_lit 3 1 0 [] [(0, v19)]) fun v20 =>
   e_append st 3 40 (ls_1.getD 0 .junk) v20 (fun v21 st =>
   qb (q_bin .add (ls_1.getD 1 .junk) (.int .i64 1)) fun v12 =>
   X [v21, v12] st)) (panR R))
   (k [(ls_1.getD 0 .junk)] st))
  [v5, (.int .i64 0)] st)
theorem c_spec_l08Copy {a0 : PV} {st : St} {R : Res → St → Prop} (h : b_spec_l08Copy a0 st R) : HCalls prog n_spec_l08Copy [a0] st R :=
 hcalls_of_func tyOK mixed (fn := Go.Proofs.Tryz.f102) (by kernel_rfl) (by kernel_rfl) (by kernel_rfl) (ann := [(12, [3, 4]), (3, [3])])
  (show hFunc prog TT [(12, [3, 4]), (3, [3])] Go.Proofs.Tryz.f102 [a0] st R from (show hFunc prog TT [(12, [3, 4]), (3, [3])] Go.Proofs.Tryz.f102 [a0] st R = b_spec_l08Copy a0 st R by kernel_rfl) ▸ h)
def b_impl_variable (a0 a1 : PV) (st : St) (R : Res → St → Prop) : Prop :=
 e_alloc st [.int .i64 0, .int .i64 0, .str [], .sl 0 true []] fun v4 st =>
 qb (q_struct [.int .i64 0, .int .i64 0, .str [], .sl 0 true []] [(0, 1, (.int .i64 5)), (1, 1, a0), (3, 1, a1)]) fun v7 =>
 e_store st 4 v4 v7 fun st =>
 qb (q_load st true 4 v4) fun r => retR R r st
theorem c_impl_variable {a0 a1 : PV} {st : St} {R : Res → St → Prop} (h : b_impl_variable a0 a1 st R) : HCalls prog n_impl_variable [a0, a1] st R :=
 hcalls_of_func tyOK mixed (fn := Go.Proofs.Tryz.f103) (by kernel_rfl) (by kernel_rfl) (by kernel_rfl) (ann := [])
  (show hFunc prog TT [] Go.Proofs.Tryz.f103 [a0, a1] st R from (show hFunc prog TT [] Go.Proofs.Tryz.f103 [a0, a1] st R = b_impl_variable a0 a1 st R by kernel_rfl) ▸ h)
end Go.H.Tryz
