/- Part of a proof that the program answers as the reference does: EDS7. -/
import Derived.Test.YtcgobhgnoobifaaGreatDoorHT
/- MADE BY PROGRAM (hgen.py): what the functions compute, over pure values. -/
set_option linter.unusedVariables false
set_option maxRecDepth 100000
namespace Go.H.Tryz
open Go Go.H
def b_impl_looker_term (a0 a1 : PV) (st : St) (R : Res → St → Prop) : Prop :=
 e_box st a1 fun v3 st =>
 callK prog n_impl_looker_node [a0] st (fun v6 st =>
 qb (q_un .not v6) fun v7 =>
 cb v7 fun b => br b
  (retR R (.bool false) st)
  (qb (q_fa 0 v3) fun v8 =>
  qb (q_load st false 1 v8) fun v9 =>
  qb (q_bin .eql v9 (.int .i64 4)) fun v11 =>
  cb v11 fun b_1 => br b_1
   (callK prog n_impl_Tree_bare [v3, (.int .i64 1)] st (fun v12 st =>
   cb v12 fun b_2 => br b_2
    (qb (q_fa 3 v3) fun v15 =>
    qb (q_load st false 1 v15) fun v16 =>
    qb (q_ia 4 v16 (.int .i64 0)) fun v17 =>
    qb (q_load st true 4 v17) fun v18 =>
    callK prog n_impl_looker_term [a0, v18] st (fun v19 st =>
    retR R v19 st) (panR R))
    (retR R (.bool false) st)) (panR R))
   (qb (q_bin .eql v9 (.int .i64 5)) fun v22 =>
   hJ (fun ls st =>
    cb (ls.getD 0 .junk) fun b_4 => br b_4
     (qb (q_fa 1 v3) fun v24 =>
     qb (q_load st false 1 v24) fun v25 =>
     callK prog n_impl_in [v25, (.int .i64 0), (.int .i64 100)] st (fun v26 st =>
     cb v26 fun b_5 => br b_5
      (qb (q_fa 2 v3) fun v28 =>
      qb (q_load st false 1 v28) fun v29 =>
      qb (q_bin .eql v29 (.str [])) fun v30 =>
      cb v30 fun b_6 => br b_6
       (qb (q_fa 3 v3) fun v34 =>
       qb (q_load st false 1 v34) fun v35 =>
       callK prog n_impl_looker_args [a0, v35] st (fun v36 st =>
       retR R v36 st) (panR R))
       (retR R (.bool false) st))
      (retR R (.bool false) st)) (panR R))
     (qb (q_bin .eql v9 (.int .i64 6)) fun v39 =>
     cb v39 fun b_7 => br b_7
      (qb (q_fa 1 v3) fun v40 =>
      qb (q_load st false 1 v40) fun v41 =>
      qb (q_bin .eql v41 (.int .i64 0)) fun v42 =>
      cb v42 fun b_8 => br b_8
       (qb (q_fa 2 v3) fun v44 =>
       qb (q_load st false 1 v44) fun v45 =>
       callK prog n_impl_NameOK [v45] st (fun v46 st =>
       cb v46 fun b_9 => br b_9
        (qb (q_fa 3 v3) fun v50 =>
        qb (q_load st false 1 v50) fun v51 =>
        callK prog n_impl_looker_args [a0, v51] st (fun v52 st =>
        retR R v52 st) (panR R))
        (retR R (.bool false) st)) (panR R))
       (retR R (.bool false) st))
      (retR R (.bool false) st)))
    (fun k =>
   cb v22 fun b_3 => br b_3
    (k [v22] st)
    (qb (q_bin .eql v9 (.int .i64 7)) fun v23 =>
    k [v23] st))))) (panR R)
theorem e_impl_looker_term : Enters prog n_impl_looker_term := ⟨Go.Proofs.Tryz.f144, by kernel_rfl, by kernel_rfl, by kernel_rfl⟩
theorem c_impl_looker_term {a0 a1 : PV} {st : St} {R : Res → St → Prop} (h : b_impl_looker_term a0 a1 st R) : HCalls prog n_impl_looker_term [a0, a1] st R :=
 hcalls_of_func tyOK mixed (fn := Go.Proofs.Tryz.f144) (by kernel_rfl) (by kernel_rfl) (by kernel_rfl) (ann := [(30, [21])])
  (show hFunc prog TT [(30, [21])] Go.Proofs.Tryz.f144 [a0, a1] st R from (show hFunc prog TT [(30, [21])] Go.Proofs.Tryz.f144 [a0, a1] st R = b_impl_looker_term a0 a1 st R by kernel_rfl) ▸ h)
def b_impl_same (a0 a1 : PV) (st : St) (R : Res → St → Prop) : Prop :=
 e_box st a0 fun v2 st =>
 e_box st a1 fun v3 st =>
 qb (q_fa 0 v2) fun v6 =>
 qb (q_load st false 1 v6) fun v7 =>
 qb (q_fa 0 v3) fun v8 =>
 qb (q_load st false 1 v8) fun v9 =>
 qb (q_bin .neq v7 v9) fun v10 =>
 cb v10 fun b => br b
  (retR R (.bool false) st)
  (qb (q_fa 1 v2) fun v12 =>
  qb (q_load st false 1 v12) fun v13 =>
  qb (q_fa 1 v3) fun v14 =>
  qb (q_load st false 1 v14) fun v15 =>
  qb (q_bin .neq v13 v15) fun v16 =>
  cb v16 fun b_1 => br b_1
   (retR R (.bool false) st)
   (qb (q_fa 2 v2) fun v19 =>
   qb (q_load st false 1 v19) fun v20 =>
   qb (q_fa 2 v3) fun v21 =>
   qb (q_load st false 1 v21) fun v22 =>
   qb (q_bin .neq v20 v22) fun v23 =>
   cb v23 fun b_2 => br b_2
    (retR R (.bool false) st)
    (qb (q_fa 3 v2) fun v26 =>
    qb (q_load st false 1 v26) fun v27 =>
    qb (q_len v27) fun v28 =>
    qb (q_fa 3 v3) fun v29 =>
    qb (q_load st false 1 v29) fun v30 =>
    qb (q_len v30) fun v31 =>
    qb (q_bin .neq v28 v31) fun v32 =>
    cb v32 fun b_3 => br b_3
     (retR R (.bool false) st)
     (qb (q_fa 3 v2) fun v34 =>
     qb (q_load st false 1 v34) fun v35 =>
     qb (q_len v35) fun v36 =>
     hFix (fun ls st X =>
      qb (q_bin .lss (ls.getD 0 .junk) v36) fun v38 =>
      cb v38 fun b_4 => br b_4
       (qb (q_fa 3 v2) fun v40 =>
       qb (q_load st false 1 v40) fun v41 =>
       qb (q_ia 4 v41 (ls.getD 0 .junk)) fun v43 =>
       qb (q_load st true 4 v43) fun v44 =>
       qb (q_fa 3 v3) fun v45 =>
       qb (q_load st false 1 v45) fun v46 =>
       qb (q_ia 4 v46 (ls.getD 0 .junk)) fun v48 =>
       qb (q_load st true 4 v48) fun v49 =>
       callK prog n_impl_same [v44, v49] st (fun v50 st =>
       qb (q_un .not v50) fun v51 =>
       cb v51 fun b_5 => br b_5
        (retR R (.bool false) st)
        (qb (q_bin .add (ls.getD 0 .junk) (.int .i64 1)) fun v52 =>
        X [v52] st)) (panR R))
       (retR R (.bool true) st))
      [(.int .i64 0)] st))))
theorem e_impl_same : Enters prog n_impl_same := ⟨Go.Proofs.Tryz.f145, by kernel_rfl, by kernel_rfl, by kernel_rfl⟩
theorem c_impl_same {a0 a1 : PV} {st : St} {R : Res → St → Prop} (h : b_impl_same a0 a1 st R) : HCalls prog n_impl_same [a0, a1] st R :=
 hcalls_of_func tyOK mixed (fn := Go.Proofs.Tryz.f145) (by kernel_rfl) (by kernel_rfl) (by kernel_rfl) (ann := [(16, [37])])
  (show hFunc prog TT [(16, [37])] Go.Proofs.Tryz.f145 [a0, a1] st R from (show hFunc prog TT [(16, [37])] Go.Proofs.Tryz.f145 [a0, a1] st R = b_impl_same a0 a1 st R by kernel_rfl) ▸ h)
def b_slices_Max_int_int (a0 : PV) (st : St) (R : Res → St → Prop) : Prop :=
 qb (q_len a0) fun v6 =>
 qb (q_bin .lss v6 (.int .i64 1)) fun v7 =>
 cb v7 fun b => br b
  (qb (q_iface ty_string (.str [115, 108, 105, 99, 101, 115, 46, 77, 97, 120, 58, 32, 101, 109, 112, 116, 121, 32, 108, 105, 115, 116])) fun v8 =>
  e_panic v8 st (panR R))
  (qb (q_ia 1 a0 (.int .i64 0)) fun v10 =>
  qb (q_load st false 1 v10) fun v11 =>
  hFix (fun ls st X =>
   qb (q_len a0) fun v14 =>
   qb (q_bin .lss (ls.getD 1 .junk) v14) fun v15 =>
   cb v15 fun b_1 => br b_1
    (qb (q_ia 1 a0 (ls.getD 1 .junk)) fun v21 =>
    qb (q_load st false 1 v21) fun v22 =>
    qb (q_max (ls.getD 0 .junk) v22) fun v23 =>
    qb (q_bin .add (ls.getD 1 .junk) (.int .i64 1)) fun v17 =>
    X [v23, v17] st)
    (retR R (ls.getD 0 .junk) st))
   [v11, (.int .i64 1)] st)
theorem c_slices_Max_int_int {a0 : PV} {st : St} {R : Res → St → Prop} (h : b_slices_Max_int_int a0 st R) : HCalls prog n_slices_Max_int_int [a0] st R :=
 hcalls_of_func tyOK mixed (fn := Go.Proofs.Tryz.f146) (by kernel_rfl) (by kernel_rfl) (by kernel_rfl) (ann := [(20, [3, 4])])
  (show hFunc prog TT [(20, [3, 4])] Go.Proofs.Tryz.f146 [a0] st R from (show hFunc prog TT [(20, [3, 4])] Go.Proofs.Tryz.f146 [a0] st R = b_slices_Max_int_int a0 st R by kernel_rfl) ▸ h)
def b_spec_l01Erase (a0 : PV) (st : St) (R : Res → St → Prop) : Prop :=
 e_box st a0 fun v1 st =>
 e_alloc st [.int .i64 0, .int .i64 0, .str [], .sl 0 true []] fun v2 st =>
 qb (q_fa 0 v1) fun v3 =>
 qb (q_load st false 1 v3) fun v4 =>
 qb (q_bin .eql v4 (.int .i64 2)) fun v5 =>
 cb v5 fun b => br b
  (qb (q_fa 3 v1) fun v6 =>
  qb (q_load st false 1 v6) fun v7 =>
  qb (q_ia 4 v7 (.int .i64 0)) fun v8 =>
  qb (q_load st true 4 v8) fun v9 =>
  qb (q_fa 3 v1) fun v11 =>
  qb (q_load st false 1 v11) fun v12 =>
  qb (q_ia 4 v12 (.int .i64 1)) fun v13 =>
  qb (q_load st true 4 v13) fun v14 =>
  callK prog n_spec_l01Erase [v9] st (fun v10 st =>
  q_load st true 4 v13 = some v14 ∧ q_load st false 1 v11 = some v12 ∧ (callK prog n_spec_l01Erase [v14] st (fun v15 st =>
  callK prog n_spec_l01Arrow [v10, v15] st (fun v16 st =>
  e_store st 4 v2 v16 fun st =>
  qb (q_load st true 4 v2) fun r => retR R r st) (panR R)) (panR R))) (panR R))
  (qb (q_fa 2 v1) fun v17 =>
  qb (q_load st false 1 v17) fun v18 =>
  callK prog n_spec_l01Base [v18] st (fun v19 st =>
  e_store st 4 v2 v19 fun st =>
  qb (q_load st true 4 v2) fun r_1 => retR R r_1 st) (panR R))
theorem c_spec_l01Erase {a0 : PV} {st : St} {R : Res → St → Prop} (h : b_spec_l01Erase a0 st R) : HCalls prog n_spec_l01Erase [a0] st R :=
 hcalls_of_func tyOK mixed (fn := Go.Proofs.Tryz.f147) (by kernel_rfl) (by kernel_rfl) (by kernel_rfl) (ann := [])
  (show hFunc prog TT [] Go.Proofs.Tryz.f147 [a0] st R from (show hFunc prog TT [] Go.Proofs.Tryz.f147 [a0] st R = b_spec_l01Erase a0 st R by kernel_rfl) ▸ h)
def b_slices_IndexFunc_impl_Decl_impl_Decl (a0 a1 : PV) (st : St) (R : Res → St → Prop) : Prop :=
 qb (q_len a0) fun v7 =>
 hFix (fun ls st X =>
  qb (q_bin .lss (ls.getD 0 .junk) v7) fun v9 =>
  cb v9 fun b => br b
   (qb (q_ia 6 a0 (ls.getD 0 .junk)) fun v14 =>
   qb (q_load st true 6 v14) fun v15 =>
   e_call prog st a1 [v15] (fun v16 st =>
   cb v16 fun b_1 => br b_1
    (retR R (ls.getD 0 .junk) st)
    (qb (q_bin .add (ls.getD 0 .junk) (.int .i64 1)) fun v18 =>
    X [v18] st)) (panR R))
   (retR R (.int .i64 (-1)) st))
  [(.int .i64 0)] st
theorem c_slices_IndexFunc_impl_Decl_impl_Decl {a0 a1 : PV} {st : St} {R : Res → St → Prop} (h : b_slices_IndexFunc_impl_Decl_impl_Decl a0 a1 st R) : HCalls prog n_slices_IndexFunc_impl_Decl_impl_Decl [a0, a1] st R :=
 hcalls_of_func tyOK mixed (fn := Go.Proofs.Tryz.f148) (by kernel_rfl) (by kernel_rfl) (by kernel_rfl) (ann := [(8, [8])])
  (show hFunc prog TT [(8, [8])] Go.Proofs.Tryz.f148 [a0, a1] st R from (show hFunc prog TT [(8, [8])] Go.Proofs.Tryz.f148 [a0, a1] st R = b_slices_IndexFunc_impl_Decl_impl_Decl a0 a1 st R by kernel_rfl) ▸ h)
def b_spec_l04Run_head (a0 a1 a2 a3 : PV) (st : St) (R : Res → St → Prop) : Prop :=
 e_box st a2 fun v6 st =>
 e_alloc st [.int .i64 0, .int .i64 0, .str [], .sl 0 true []] fun v8 st =>
 qb (q_fa 0 v6) fun v12 =>
 qb (q_load st false 1 v12) fun v13 =>
 qb (q_bin .eql v13 (.int .i64 5)) fun v15 =>
 cb v15 fun b => br b
  (qb (q_fa 1 v6) fun v16 =>
  qb (q_load st false 1 v16) fun v17 =>
  qb (q_len a1) fun v19 =>
  qb (q_bin .geq v17 v19) fun v20 =>
  cb v20 fun b_1 => br b_1
   (qb (q_struct [.int .i64 0, .int .i64 0, .str [], .sl 0 true []] []) fun v21 =>
   callK prog n_spec_l04Run_fail [a0, (.int .i64 7), a3] st (fun v24 st =>
   e_store st 4 v8 v21 fun st =>
   qb (q_load st true 4 v8) fun r => retR R (.tup [r, v24]) st) (panR R))
   (hJ (fun ls st =>
    qb (q_load st true 4 (ls.getD 0 .junk)) fun v38 =>
    callK prog n_spec_l03Big [v38] st (fun v39 st =>
    cb v39 fun b_2 => br b_2
     (qb (q_struct [.int .i64 0, .int .i64 0, .str [], .sl 0 true []] []) fun v40 =>
     callK prog n_spec_l04Run_fail [a0, (.int .i64 11), a3] st (fun v43 st =>
     e_store st 4 v8 v40 fun st =>
     qb (q_load st true 4 v8) fun r_1 => retR R (.tup [r_1, v43]) st) (panR R))
     (qb (q_load st true 4 (ls.getD 0 .junk)) fun v44 =>
     e_store st 4 v8 v44 fun st =>
     qb (q_load st true 4 v8) fun r_2 => retR R (.tup [r_2, (.bool true)]) st)) (panR R))
    (fun k =>
   qb (q_len a1) fun v27 =>
   qb (q_bin .sub v27 (.int .i64 1)) fun v28 =>
   qb (q_fa 1 v6) fun v29 =>
   qb (q_load st false 1 v29) fun v30 =>
   qb (q_bin .sub v28 v30) fun v31 =>
   qb (q_ia 4 a1 v31) fun v32 =>
   qb (q_load st true 4 v32) fun v33 =>
   qb (q_fa 1 v6) fun v34 =>
   qb (q_load st false 1 v34) fun v35 =>
   qb (q_bin .add v35 (.int .i64 1)) fun v36 =>
   (callK prog n_spec_l01Lift [v33, (.int .i64 0), v36] st (fun v37 st =>
   e_alloc st [.int .i64 0, .int .i64 0, .str [], .sl 0 true []] fun v10 st =>
   q_load st false 1 v34 = some v35 ∧ q_load st true 4 v32 = some v33 ∧ q_load st false 1 v29 = some v30 ∧ (e_store st 4 v10 v37 fun st =>
   k [v10] st)) (panR R)) ∧
   (e_alloc st [.int .i64 0, .int .i64 0, .str [], .sl 0 true []] fun v10_1 st =>
   q_load st false 1 v34 = some v35 ∧ q_load st true 4 v32 = some v33 ∧ q_load st false 1 v29 = some v30 ∧ (callK prog n_spec_l01Lift [v33, (.int .i64 0), v36] st (fun v37_1 st =>
   e_store st 4 v10_1 v37_1 fun st =>
   k [v10_1] st) (panR R))))))
  (qb (q_bin .eql v13 (.int .i64 7)) fun v46 =>
  cb v46 fun b_3 => br b_3
   (qb (q_struct [.int .i64 0, .int .i64 0, .str [], .sl 0 true []] []) fun v47 =>
   callK prog n_spec_l04Run_fail [a0, (.int .i64 15), a3] st (fun v50 st =>
   e_store st 4 v8 v47 fun st =>
   qb (q_load st true 4 v8) fun r_3 => retR R (.tup [r_3, v50]) st) (panR R))
   (qb (q_nil a0) fun v52 =>
   qb (q_fa 0 v52) fun v53 =>
   qb (q_load st false 1 v53) fun v54 =>
   qb (q_fa 2 v6) fun v55 =>
   qb (q_load st false 1 v55) fun v56 =>
   callK prog n_spec_l04Find [v54, v56] st (fun v57 st =>
   hJ (fun ls_1 st =>
    cb (ls_1.getD 0 .junk) fun b_4 => br b_4
     (qb (q_struct [.int .i64 0, .int .i64 0, .str [], .sl 0 true []] []) fun v70 =>
     callK prog n_spec_l04Run_fail [a0, (.int .i64 5), a3] st (fun v73 st =>
     e_store st 4 v8 v70 fun st =>
     qb (q_load st true 4 v8) fun r_4 => retR R (.tup [r_4, v73]) st) (panR R))
     (qb (q_nil a0) fun v75 =>
     qb (q_fa 0 v75) fun v76 =>
     qb (q_load st false 1 v76) fun v77 =>
     qb (q_ia 6 v77 v57) fun v79 =>
     qb (q_fa 2 v79) fun v80 =>
     qb (q_load st true 4 v80) fun v81 =>
     e_store st 4 v8 v81 fun st =>
     qb (q_load st true 4 v8) fun r_5 => retR R (.tup [r_5, (.bool true)]) st))
    (fun k_1 =>
   qb (q_bin .lss v57 (.int .i64 0)) fun v59 =>
   cb v59 fun b_5 => br b_5
    (k_1 [(.bool true)] st)
    (qb (q_nil a0) fun v62 =>
    qb (q_fa 0 v62) fun v63 =>
    qb (q_load st false 1 v63) fun v64 =>
    qb (q_ia 6 v64 v57) fun v66 =>
    qb (q_fa 1 v66) fun v67 =>
    qb (q_load st false 1 v67) fun v68 =>
    k_1 [v68] st))) (panR R)))
theorem c_spec_l04Run_head {a0 a1 a2 a3 : PV} {st : St} {R : Res → St → Prop} (h : b_spec_l04Run_head a0 a1 a2 a3 st R) : HCalls prog n_spec_l04Run_head [a0, a1, a2, a3] st R :=
 hcalls_of_func tyOK mixed (fn := Go.Proofs.Tryz.f153) (by kernel_rfl) (by kernel_rfl) (by kernel_rfl) (ann := [(21, [10]), (49, [69])])
  (show hFunc prog TT [(21, [10]), (49, [69])] Go.Proofs.Tryz.f153 [a0, a1, a2, a3] st R from (show hFunc prog TT [(21, [10]), (49, [69])] Go.Proofs.Tryz.f153 [a0, a1, a2, a3] st R = b_spec_l04Run_head a0 a1 a2 a3 st R by kernel_rfl) ▸ h)
def b_spec_l01With (a0 a1 : PV) (st : St) (R : Res → St → Prop) : Prop :=
 e_box st a0 fun v2 st =>
 e_alloc st [.int .i64 0, .int .i64 0, .str [], .sl 0 true []] fun v4 st =>
 qb (q_fa 0 v2) fun v5 =>
 qb (q_load st false 1 v5) fun v6 =>
 qb (q_fa 1 v2) fun v7 =>
 qb (q_load st false 1 v7) fun v8 =>
 qb (q_fa 2 v2) fun v9 =>
 qb (q_load st false 1 v9) fun v10 =>
 qb (q_struct [.int .i64 0, .int .i64 0, .str [], .sl 0 true []] [(0, 1, v6), (1, 1, v8), (2, 1, v10), (3, 1, a1)]) fun v12 =>
 e_store st 4 v4 v12 fun st =>
 qb (q_load st true 4 v4) fun r => retR R r st
theorem c_spec_l01With {a0 a1 : PV} {st : St} {R : Res → St → Prop} (h : b_spec_l01With a0 a1 st R) : HCalls prog n_spec_l01With [a0, a1] st R :=
 hcalls_of_func tyOK mixed (fn := Go.Proofs.Tryz.f154) (by kernel_rfl) (by kernel_rfl) (by kernel_rfl) (ann := [])
  (show hFunc prog TT [] Go.Proofs.Tryz.f154 [a0, a1] st R from (show hFunc prog TT [] Go.Proofs.Tryz.f154 [a0, a1] st R = b_spec_l01With a0 a1 st R by kernel_rfl) ▸ h)
def b_impl_checker_head (a0 a1 a2 a3 : PV) (st : St) (R : Res → St → Prop) : Prop :=
 e_box st a2 fun v6 st =>
 e_alloc st [.int .i64 0, .int .i64 0, .str [], .sl 0 true []] fun v8 st =>
 qb (q_fa 0 v6) fun v12 =>
 qb (q_load st false 1 v12) fun v13 =>
 qb (q_bin .eql v13 (.int .i64 5)) fun v15 =>
 cb v15 fun b => br b
  (qb (q_fa 1 v6) fun v16 =>
  qb (q_load st false 1 v16) fun v17 =>
  qb (q_len a1) fun v19 =>
  qb (q_bin .geq v17 v19) fun v20 =>
  hJ (fun ls st =>
   hJ (fun ls_1 st =>
    qb (q_load st true 4 (ls_1.getD 0 .junk)) fun v36 =>
    callK prog n_impl_tooBig [v36] st (fun v37 st =>
    cb v37 fun b_2 => br b_2
     (callK prog n_impl_stop [(.int .i64 11), a3] st (fun v39 st =>
     qb (q_load st true 4 (ls_1.getD 0 .junk)) fun v40 =>
     e_store st 4 v8 v40 fun st =>
     qb (q_load st true 4 v8) fun r => retR R r st) (panR R))
     (qb (q_load st true 4 (ls_1.getD 0 .junk)) fun v40_1 =>
     e_store st 4 v8 v40_1 fun st =>
     qb (q_load st true 4 v8) fun r_1 => retR R r_1 st)) (panR R))
    (fun k_1 =>
   qb (q_len a1) fun v25 =>
   qb (q_bin .sub v25 (.int .i64 1)) fun v26 =>
   qb (q_fa 1 v6) fun v27 =>
   qb (q_load st false 1 v27) fun v28 =>
   qb (q_bin .sub v26 v28) fun v29 =>
   qb (q_ia 4 a1 v29) fun v30 =>
   qb (q_load st true 4 v30) fun v31 =>
   qb (q_fa 1 v6) fun v32 =>
   qb (q_load st false 1 v32) fun v33 =>
   qb (q_bin .add v33 (.int .i64 1)) fun v34 =>
   (callK prog n_impl_lift [v31, (.int .i64 0), v34] st (fun v35 st =>
   e_alloc st [.int .i64 0, .int .i64 0, .str [], .sl 0 true []] fun v9 st =>
   q_load st false 1 v32 = some v33 ∧ q_load st true 4 v30 = some v31 ∧ q_load st false 1 v27 = some v28 ∧ (e_store st 4 v9 v35 fun st =>
   k_1 [v9] st)) (panR R)) ∧
   (e_alloc st [.int .i64 0, .int .i64 0, .str [], .sl 0 true []] fun v9_1 st =>
   q_load st false 1 v32 = some v33 ∧ q_load st true 4 v30 = some v31 ∧ q_load st false 1 v27 = some v28 ∧ (callK prog n_impl_lift [v31, (.int .i64 0), v34] st (fun v35_1 st =>
   e_store st 4 v9_1 v35_1 fun st =>
   k_1 [v9_1] st) (panR R)))))
   (fun k =>
  cb v20 fun b_1 => br b_1
   (callK prog n_impl_stop [(.int .i64 7), a3] st (fun v22 st =>
   k [] st) (panR R))
   (k [] st)))
  (qb (q_bin .eql v13 (.int .i64 6)) fun v42 =>
  cb v42 fun b_3 => br b_3
   (qb (q_fa 2 v6) fun v45 =>
   qb (q_load st false 1 v45) fun v46 =>
   callK prog n_impl_checker_declared [a0, v46, (.bool false)] st (fun v47 st =>
   qb (q_ex v47 0) fun v48 =>
   qb (q_ex v47 1) fun v49 =>
   e_alloc st [.int .i64 0, .int .i64 0, .str [], .sl 0 true []] fun v10 st =>
   e_store st 4 v10 v48 fun st =>
   qb (q_un .not v49) fun v51 =>
   cb v51 fun b_4 => br b_4
    (callK prog n_impl_stop [(.int .i64 5), a3] st (fun v53 st =>
    qb (q_load st true 4 v10) fun v54 =>
    e_store st 4 v8 v54 fun st =>
    qb (q_load st true 4 v8) fun r_2 => retR R r_2 st) (panR R))
    (qb (q_load st true 4 v10) fun v54_1 =>
    e_store st 4 v8 v54_1 fun st =>
    qb (q_load st true 4 v8) fun r_3 => retR R r_3 st)) (panR R))
   (callK prog n_impl_stop [(.int .i64 15), a3] st (fun v56 st =>
   qb (q_struct [.int .i64 0, .int .i64 0, .str [], .sl 0 true []] []) fun v57 =>
   e_store st 4 v8 v57 fun st =>
   qb (q_load st true 4 v8) fun r_4 => retR R r_4 st) (panR R)))
theorem c_impl_checker_head {a0 a1 a2 a3 : PV} {st : St} {R : Res → St → Prop} (h : b_impl_checker_head a0 a1 a2 a3 st R) : HCalls prog n_impl_checker_head [a0, a1, a2, a3] st R :=
 hcalls_of_func tyOK mixed (fn := Go.Proofs.Tryz.f155) (by kernel_rfl) (by kernel_rfl) (by kernel_rfl) (ann := [(18, []), (21, [9])])
  (show hFunc prog TT [(18, []), (21, [9])] Go.Proofs.Tryz.f155 [a0, a1, a2, a3] st R from (show hFunc prog TT [(18, []), (21, [9])] Go.Proofs.Tryz.f155 [a0, a1, a2, a3] st R = b_impl_checker_head a0 a1 a2 a3 st R by kernel_rfl) ▸ h)
def b_impl_cloneAll (a0 : PV) (st : St) (R : Res → St → Prop) : Prop :=
 qb (q_lit 4 0 0 [] []) fun v6 =>
 qb (q_len a0) fun v8 =>
 hFix (fun ls st X =>
  qb (q_bin .lss (ls.getD 1 .junk) v8) fun v10 =>
  cb v10 fun b => br b
   (qb (q_ia 4 a0 (ls.getD 1 .junk)) fun v11 =>
   qb (q_load st true 4 v11) fun v12 =>
   e_alloc st [.int .i64 0, .int .i64 0, .str [], .sl 0 true []] fun v5 st =>
   e_store st 4 v5 v12 fun st =>
   qb (q_load st true 4 v5) fun v14 =>
   callK prog n_impl_clone [v14] st (fun v15 st =>
   qb (q_lit 4 1 0 [] [(0, v15)]) fun v16 =>
   e_append st 4 56 (ls.getD 0 .junk) v16 (fun v17 st =>
   qb (q_bin .add (ls.getD 1 .junk) (.int .i64 1)) fun v18 =>
   X [v17, v18] st)) (panR R))
   (retR R (ls.getD 0 .junk) st))
  [v6, (.int .i64 0)] st
theorem c_impl_cloneAll {a0 : PV} {st : St} {R : Res → St → Prop} (h : b_impl_cloneAll a0 st R) : HCalls prog n_impl_cloneAll [a0] st R :=
 hcalls_of_func tyOK mixed (fn := Go.Proofs.Tryz.f156) (by kernel_rfl) (by kernel_rfl) (by kernel_rfl) (ann := [(12, [3, 9])])
  (show hFunc prog TT [(12, [3, 9])] Go.Proofs.Tryz.f156 [a0] st R from (show hFunc prog TT [(12, [3, 9])] Go.Proofs.Tryz.f156 [a0] st R = b_impl_cloneAll a0 st R by kernel_rfl) ▸ h)
def b_spec_l07Fixed (a0 a1 a2 : PV) (st : St) (R : Res → St → Prop) : Prop :=
 e_box st a0 fun v3 st =>
 e_box st a2 fun v5 st =>
 qb (q_load st true 4 v3) fun v8 =>
 qb (q_load st true 4 v5) fun v9 =>
 callK prog n_spec_l06Var [v8, v9] st (fun v10 st =>
 qb (q_bin .eql v10 a1) fun v12 =>
 cb v12 fun b => br b
  (retR R (.bool true) st)
  (qb (q_fa 0 v3) fun v13 =>
  qb (q_load st false 1 v13) fun v14 =>
  qb (q_bin .neq v14 (.int .i64 6)) fun v15 =>
  cb v15 fun b_1 => br b_1
   (retR R (.bool false) st)
   (hFix (fun ls st X =>
    qb (q_fa 3 v3) fun v17 =>
    qb (q_load st false 1 v17) fun v18 =>
    qb (q_len v18) fun v19 =>
    qb (q_bin .lss (ls.getD 0 .junk) v19) fun v20 =>
    cb v20 fun b_2 => br b_2
     (qb (q_fa 3 v3) fun v23 =>
     qb (q_load st false 1 v23) fun v24 =>
     qb (q_ia 4 v24 (ls.getD 0 .junk)) fun v26 =>
     qb (q_load st true 4 v26) fun v27 =>
     qb (q_load st true 4 v5) fun v29 =>
     callK prog n_spec_l07Fixed [v27, a1, v29] st (fun v30 st =>
     cb v30 fun b_3 => br b_3
      (retR R (.bool true) st)
      (qb (q_bin .add (ls.getD 0 .junk) (.int .i64 1)) fun v22 =>
      X [v22] st)) (panR R))
     (retR R (.bool false) st))
    [(.int .i64 0)] st))) (panR R)
theorem c_spec_l07Fixed {a0 a1 a2 : PV} {st : St} {R : Res → St → Prop} (h : b_spec_l07Fixed a0 a1 a2 st R) : HCalls prog n_spec_l07Fixed [a0, a1, a2] st R :=
 hcalls_of_func tyOK mixed (fn := Go.Proofs.Tryz.f157) (by kernel_rfl) (by kernel_rfl) (by kernel_rfl) (ann := [(24, [7])])
  (show hFunc prog TT [(24, [7])] Go.Proofs.Tryz.f157 [a0, a1, a2] st R from (show hFunc prog TT [(24, [7])] Go.Proofs.Tryz.f157 [a0, a1, a2] st R = b_spec_l07Fixed a0 a1 a2 st R by kernel_rfl) ▸ h)
def b_impl_checker_declared_1 (a0 a1 a2 : PV) (st : St) (R : Res → St → Prop) : Prop :=
 e_box st a0 fun v3 st =>
 qb (q_fa 0 v3) fun v5 =>
 qb (q_load st false 1 v5) fun v6 =>
 qb (q_load st false 1 a1) fun v7 =>
 qb (q_bin .eql v6 v7) fun v8 =>
 cb v8 fun b => br b
  (qb (q_fa 1 v3) fun v10 =>
  qb (q_load st false 1 v10) fun v11 =>
  qb (q_load st false 1 a2) fun v12 =>
  qb (q_beq .eql v11 v12) fun v13 =>
  retR R v13 st)
  (retR R (.bool false) st)
theorem c_impl_checker_declared_1 {a0 a1 a2 : PV} {st : St} {R : Res → St → Prop} (h : b_impl_checker_declared_1 a0 a1 a2 st R) : HCalls prog n_impl_checker_declared_1 [a0, a1, a2] st R :=
 hcalls_of_func tyOK mixed (fn := Go.Proofs.Tryz.f158) (by kernel_rfl) (by kernel_rfl) (by kernel_rfl) (ann := [])
  (show hFunc prog TT [] Go.Proofs.Tryz.f158 [a0, a1, a2] st R from (show hFunc prog TT [] Go.Proofs.Tryz.f158 [a0, a1, a2] st R = b_impl_checker_declared_1 a0 a1 a2 st R by kernel_rfl) ▸ h)
def b_impl_tells (a0 a1 : PV) (st : St) (R : Res → St → Prop) : Prop :=
 e_box st a1 fun v3 st =>
 callK prog n_slices_ContainsFunc_impl_Tree_impl_Tree [a0, (.fn (.func n_impl_tells_1) [] [v3])] st (fun v7 st =>
 retR R v7 st) (panR R)
theorem c_impl_tells {a0 a1 : PV} {st : St} {R : Res → St → Prop} (h : b_impl_tells a0 a1 st R) : HCalls prog n_impl_tells [a0, a1] st R :=
 hcalls_of_func tyOK mixed (fn := Go.Proofs.Tryz.f159) (by kernel_rfl) (by kernel_rfl) (by kernel_rfl) (ann := [])
  (show hFunc prog TT [] Go.Proofs.Tryz.f159 [a0, a1] st R from (show hFunc prog TT [] Go.Proofs.Tryz.f159 [a0, a1] st R = b_impl_tells a0 a1 st R by kernel_rfl) ▸ h)
def b_impl_longForm (a0 a1 : PV) (st : St) (R : Res → St → Prop) : Prop :=
 e_box st a0 fun v2 st =>
 e_box st a1 fun v3 st =>
 e_alloc st [.int .i64 0, .int .i64 0, .str [], .sl 0 true []] fun v4 st =>
 qb (q_load st true 4 v3) fun v12 =>
 callK prog n_impl_takes [v12] st (fun v13 st =>
 qb (q_ex v13 0) fun v14 =>
 qb (q_ex v13 1) fun v15 =>
 e_alloc st [.int .i64 0, .int .i64 0, .str [], .sl 0 true []] fun v6 st =>
 e_store st 4 v6 v15 fun st =>
 qb (q_len v14) fun v17 =>
 qb (q_load st true 4 v2) fun v18 =>
 callK prog n_impl_lift [v18, (.int .i64 0), v17] st (fun v20 st =>
 e_alloc st [.int .i64 0, .int .i64 0, .str [], .sl 0 true []] fun v8 st =>
 e_store st 4 v8 v20 fun st =>
 qb (q_len v14) fun v22 =>
 hFix (fun ls st X =>
  qb (q_bin .lss (ls.getD 0 .junk) v22) fun v24 =>
  cb v24 fun b => br b
   (qb (q_ia 4 v14 (ls.getD 0 .junk)) fun v26 =>
   qb (q_load st true 4 v26) fun v27 =>
   e_alloc st [.int .i64 0, .int .i64 0, .str [], .sl 0 true []] fun v10 st =>
   e_store st 4 v10 v27 fun st =>
   qb (q_fa 3 v8) fun v28 =>
   qb (q_load st false 1 v28) fun v29 =>
   qb (q_bin .sub v17 (.int .i64 1)) fun v31 =>
   qb (q_bin .sub v31 (ls.getD 0 .junk)) fun v33 =>
   qb (q_load st true 4 v10) fun v35 =>
   callK prog n_impl_variable [v33, (.sl 0 true [])] st (fun v34 st =>
   q_load st true 4 v10 = some v35 ∧ q_load st false 1 v28 = some v29 ∧ (callK prog n_impl_longForm [v34, v35] st (fun v36 st =>
   q_load st false 1 v28 = some v29 ∧ (qb (q_lit 4 1 0 [] [(0, v36)]) fun v37 =>
   e_append st 4 56 v29 v37 (fun v38 st =>
   qb (q_fa 3 v8) fun v39 =>
   e_store st 1 v39 v38 fun st =>
   qb (q_bin .add (ls.getD 0 .junk) (.int .i64 1)) fun v40 =>
   X [v40] st))) (panR R))) (panR R))
   (hFix (fun ls_1 st X_1 =>
    qb (q_bin .lss (ls_1.getD 0 .junk) v17) fun v43 =>
    cb v43 fun b_1 => br b_1
     (qb (q_load st true 4 v8) fun v44 =>
     callK prog n_impl_lam [v44] st (fun v45 st =>
     e_store st 4 v8 v45 fun st =>
     qb (q_bin .add (ls_1.getD 0 .junk) (.int .i64 1)) fun v46 =>
     X_1 [v46] st) (panR R))
     (qb (q_load st true 4 v8) fun v47 =>
     e_store st 4 v4 v47 fun st =>
     qb (q_load st true 4 v4) fun r => retR R r st))
    [(.int .i64 0)] st))
  [(.int .i64 0)] st) (panR R)) (panR R)
theorem c_impl_longForm {a0 a1 : PV} {st : St} {R : Res → St → Prop} (h : b_impl_longForm a0 a1 st R) : HCalls prog n_impl_longForm [a0, a1] st R :=
 hcalls_of_func tyOK mixed (fn := Go.Proofs.Tryz.f160) (by kernel_rfl) (by kernel_rfl) (by kernel_rfl) (ann := [(40, [42]), (20, [23])])
  (show hFunc prog TT [(40, [42]), (20, [23])] Go.Proofs.Tryz.f160 [a0, a1] st R from (show hFunc prog TT [(40, [42]), (20, [23])] Go.Proofs.Tryz.f160 [a0, a1] st R = b_impl_longForm a0 a1 st R by kernel_rfl) ▸ h)
def b_impl_variable (a0 a1 : PV) (st : St) (R : Res → St → Prop) : Prop :=
 e_alloc st [.int .i64 0, .int .i64 0, .str [], .sl 0 true []] fun v4 st =>
 qb (q_struct [.int .i64 0, .int .i64 0, .str [], .sl 0 true []] [(0, 1, (.int .i64 5)), (1, 1, a0), (3, 1, a1)]) fun v7 =>
 e_store st 4 v4 v7 fun st =>
 qb (q_load st true 4 v4) fun r => retR R r st
theorem c_impl_variable {a0 a1 : PV} {st : St} {R : Res → St → Prop} (h : b_impl_variable a0 a1 st R) : HCalls prog n_impl_variable [a0, a1] st R :=
 hcalls_of_func tyOK mixed (fn := Go.Proofs.Tryz.f161) (by kernel_rfl) (by kernel_rfl) (by kernel_rfl) (ann := [])
  (show hFunc prog TT [] Go.Proofs.Tryz.f161 [a0, a1] st R from (show hFunc prog TT [] Go.Proofs.Tryz.f161 [a0, a1] st R = b_impl_variable a0 a1 st R by kernel_rfl) ▸ h)
def b_spec_l00Word (a0 : PV) (st : St) (R : Res → St → Prop) : Prop :=
 qb (q_lenS a0) fun v5 =>
 qb (q_bin .lss v5 (.int .i64 1)) fun v6 =>
 cb v6 fun b => br b
  (retR R (.bool false) st)
  (qb (q_lenS a0) fun v9 =>
  qb (q_bin .gtr v9 (.int .i64 40)) fun v10 =>
  cb v10 fun b_1 => br b_1
   (retR R (.bool false) st)
   (qb (q_ix a0 (.int .i64 0)) fun v14 =>
   callK prog n_spec_l00Letter [v14] st (fun v15 st =>
   qb (q_un .not v15) fun v16 =>
   cb v16 fun b_2 => br b_2
    (retR R (.bool false) st)
    (hFix (fun ls st X =>
     qb (q_lenS a0) fun v20 =>
     qb (q_bin .lss (ls.getD 0 .junk) v20) fun v21 =>
     cb v21 fun b_3 => br b_3
      (qb (q_ix a0 (ls.getD 0 .junk)) fun v26 =>
      callK prog n_spec_l00Letter [v26] st (fun v27 st =>
      qb (q_un .not v27) fun v28 =>
      cb v28 fun b_4 => br b_4
       (qb (q_ix a0 (ls.getD 0 .junk)) fun v32 =>
       callK prog n_spec_l00Digit [v32] st (fun v33 st =>
       qb (q_un .not v33) fun v34 =>
       cb v34 fun b_5 => br b_5
        (retR R (.bool false) st)
        (qb (q_bin .add (ls.getD 0 .junk) (.int .i64 1)) fun v23 =>
        X [v23] st)) (panR R))
       (qb (q_bin .add (ls.getD 0 .junk) (.int .i64 1)) fun v23_1 =>
       X [v23_1] st)) (panR R))
      (retR R (.bool true) st))
     [(.int .i64 1)] st)) (panR R)))
theorem c_spec_l00Word {a0 : PV} {st : St} {R : Res → St → Prop} (h : b_spec_l00Word a0 st R) : HCalls prog n_spec_l00Word [a0] st R :=
 hcalls_of_func tyOK mixed (fn := Go.Proofs.Tryz.f162) (by kernel_rfl) (by kernel_rfl) (by kernel_rfl) (ann := [(16, [3])])
  (show hFunc prog TT [(16, [3])] Go.Proofs.Tryz.f162 [a0] st R from (show hFunc prog TT [(16, [3])] Go.Proofs.Tryz.f162 [a0] st R = b_spec_l00Word a0 st R by kernel_rfl) ▸ h)
def b_spec_l00Digit (a0 : PV) (st : St) (R : Res → St → Prop) : Prop :=
 qb (q_bin .geq a0 (.int .u8 48)) fun v4 =>
 cb v4 fun b => br b
  (qb (q_bin .leq a0 (.int .u8 57)) fun v7 =>
  retR R v7 st)
  (retR R (.bool false) st)
theorem c_spec_l00Digit {a0 : PV} {st : St} {R : Res → St → Prop} (h : b_spec_l00Digit a0 st R) : HCalls prog n_spec_l00Digit [a0] st R :=
 hcalls_of_func tyOK mixed (fn := Go.Proofs.Tryz.f163) (by kernel_rfl) (by kernel_rfl) (by kernel_rfl) (ann := [])
  (show hFunc prog TT [] Go.Proofs.Tryz.f163 [a0] st R from (show hFunc prog TT [] Go.Proofs.Tryz.f163 [a0] st R = b_spec_l00Digit a0 st R by kernel_rfl) ▸ h)
end Go.H.Tryz
