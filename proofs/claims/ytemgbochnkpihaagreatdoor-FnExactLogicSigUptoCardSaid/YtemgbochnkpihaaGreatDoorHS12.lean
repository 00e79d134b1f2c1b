/- Part of a proof that the program answers as the reference does: FS12. -/
import Derived.Test.YtemgbochnkpihaaGreatDoorHT
/- MADE BY PROGRAM (hgen.py): what the functions compute, over pure values. -/
set_option linter.unusedVariables false
set_option maxRecDepth 100000
namespace Go.H.Tryz
open Go Go.H
def b_impl_checker_found (a0 a1 a2 a3 : PV) (st : St) (R : Res → St → Prop) : Prop :=
 e_box st a2 fun v6 st =>
 e_alloc st [.int .i64 0, .int .i64 0, .str [], .sl 0 true []] fun v8 st =>
 hJ (fun ls st =>
  qb (q_fa 0 (ls.getD 0 .junk)) fun v22 =>
  qb (q_load st false 1 v22) fun v23 =>
  qb (q_bin .neq v23 (.int .i64 3)) fun v24 =>
  cb v24 fun b => br b
   (callK prog n_impl_stop [(.int .i64 8), a3] st (fun v26 st =>
   qb (q_load st true 4 (ls.getD 0 .junk)) fun v27 =>
   e_store st 4 v8 v27 fun st =>
   qb (q_load st true 4 v8) fun r => retR R r st) (panR R))
   (qb (q_load st true 4 (ls.getD 0 .junk)) fun v27_1 =>
   e_store st 4 v8 v27_1 fun st =>
   qb (q_load st true 4 v8) fun r_1 => retR R r_1 st))
  (fun k =>
 qb (q_fa 3 v6) fun v12 =>
 qb (q_load st false 1 v12) fun v13 =>
 qb (q_load st true 4 v6) fun v16 =>
 qb (q_bin .add a3 (.int .i64 1)) fun v20 =>
 (callK prog n_impl_checker_head [a0, a1, v16, a3] st (fun v18 st =>
 q_load st false 1 v12 = some v13 ∧ ((callK prog n_impl_checker_args [a0, a1, v13, v18, v20] st (fun v21 st =>
 e_alloc st [.int .i64 0, .int .i64 0, .str [], .sl 0 true []] fun v9 st =>
 q_load st true 4 v6 = some v16 ∧ q_load st false 1 v12 = some v13 ∧ (e_store st 4 v9 v21 fun st =>
 k [v9] st)) (panR R)) ∧
 (e_alloc st [.int .i64 0, .int .i64 0, .str [], .sl 0 true []] fun v9_1 st =>
 q_load st true 4 v6 = some v16 ∧ q_load st false 1 v12 = some v13 ∧ (callK prog n_impl_checker_args [a0, a1, v13, v18, v20] st (fun v21_1 st =>
 e_store st 4 v9_1 v21_1 fun st =>
 k [v9_1] st) (panR R))))) (panR R)) ∧
 (e_alloc st [.int .i64 0, .int .i64 0, .str [], .sl 0 true []] fun v9_2 st =>
 q_load st true 4 v6 = some v16 ∧ q_load st false 1 v12 = some v13 ∧ (callK prog n_impl_checker_head [a0, a1, v16, a3] st (fun v18_1 st =>
 q_load st false 1 v12 = some v13 ∧ (callK prog n_impl_checker_args [a0, a1, v13, v18_1, v20] st (fun v21_2 st =>
 e_store st 4 v9_2 v21_2 fun st =>
 k [v9_2] st) (panR R))) (panR R))))
theorem c_impl_checker_found {a0 a1 a2 a3 : PV} {st : St} {R : Res → St → Prop} (h : b_impl_checker_found a0 a1 a2 a3 st R) : HCalls prog n_impl_checker_found [a0, a1, a2, a3] st R :=
 hcalls_of_func tyOK mixed (fn := Go.Proofs.Tryz.f253) (by kernel_rfl) (by kernel_rfl) (by kernel_rfl) (ann := [(5, [9])])
  (show hFunc prog TT [(5, [9])] Go.Proofs.Tryz.f253 [a0, a1, a2, a3] st R from (show hFunc prog TT [(5, [9])] Go.Proofs.Tryz.f253 [a0, a1, a2, a3] st R = b_impl_checker_found a0 a1 a2 a3 st R by kernel_rfl) ▸ h)
def b_impl_at (a0 a1 : PV) (st : St) (R : Res → St → Prop) : Prop :=
 callK prog n_impl_caught [a1] st (fun v6 st =>
 e_alloc st [.int .i64 0, .int .i64 0] fun v4 st =>
 e_store st 2 v4 v6 fun st =>
 qb (q_fa 0 v4) fun v7 =>
 qb (q_load st false 1 v7) fun v8 =>
 qb (q_bin .neq v8 (.int .i64 0)) fun v9 =>
 cb v9 fun b => br b
  (qb (q_fa 0 v4) fun v10 =>
  qb (q_load st false 1 v10) fun v11 =>
  callK prog n_impl_stop [v11, a0] st (fun v13 st =>
  retR R (.tup []) st) (panR R))
  (retR R (.tup []) st)) (panR R)
theorem c_impl_at {a0 a1 : PV} {st : St} {R : Res → St → Prop} (h : b_impl_at a0 a1 st R) : HCalls prog n_impl_at [a0, a1] st R :=
 hcalls_of_func tyOK mixed (fn := Go.Proofs.Tryz.f254) (by kernel_rfl) (by kernel_rfl) (by kernel_rfl) (ann := [])
  (show hFunc prog TT [] Go.Proofs.Tryz.f254 [a0, a1] st R from (show hFunc prog TT [] Go.Proofs.Tryz.f254 [a0, a1] st R = b_impl_at a0 a1 st R by kernel_rfl) ▸ h)
def b_impl_checker_left_1 (a0 a1 a2 a3 : PV) (st : St) (R : Res → St → Prop) : Prop :=
 qb (q_load st false 1 a0) fun v4 =>
 qb (q_nil v4) fun v5 =>
 qb (q_fa 0 v5) fun v6 =>
 qb (q_load st true 4 a1) fun v7 =>
 qb (q_fa 3 a2) fun v8 =>
 qb (q_load st false 1 v8) fun v9 =>
 qb (q_ia 4 v9 (.int .i64 0)) fun v10 =>
 qb (q_load st true 4 v10) fun v11 =>
 qb (q_fa 3 a2) fun v13 =>
 qb (q_load st false 1 v13) fun v14 =>
 qb (q_ia 4 v14 (.int .i64 1)) fun v15 =>
 qb (q_load st true 4 v15) fun v16 =>
 callK prog n_impl_erase [v11] st (fun v12 st =>
 q_load st true 4 v15 = some v16 ∧ q_load st false 1 v13 = some v14 ∧ q_load st true 4 a1 = some v7 ∧ q_load st false 1 a0 = some v4 ∧ (callK prog n_impl_work_put [v6, v7, v12, (.int .i64 0), v16] st (fun v17 st =>
 e_store st 4 a3 v17 fun st =>
 retR R (.tup []) st) (panR R))) (panR R)
theorem c_impl_checker_left_1 {a0 a1 a2 a3 : PV} {st : St} {R : Res → St → Prop} (h : b_impl_checker_left_1 a0 a1 a2 a3 st R) : HCalls prog n_impl_checker_left_1 [a0, a1, a2, a3] st R :=
 hcalls_of_func tyOK mixed (fn := Go.Proofs.Tryz.f255) (by kernel_rfl) (by kernel_rfl) (by kernel_rfl) (ann := [])
  (show hFunc prog TT [] Go.Proofs.Tryz.f255 [a0, a1, a2, a3] st R from (show hFunc prog TT [] Go.Proofs.Tryz.f255 [a0, a1, a2, a3] st R = b_impl_checker_left_1 a0 a1 a2 a3 st R by kernel_rfl) ▸ h)
def b_impl_work_put (a0 a1 a2 a3 a4 : PV) (st : St) (R : Res → St → Prop) : Prop :=
 e_box st a1 fun v6 st =>
 e_box st a2 fun v7 st =>
 e_box st a4 fun v9 st =>
 e_alloc st [.int .i64 0, .int .i64 0, .str [], .sl 0 true []] fun v10 st =>
 qb (q_lit 4 0 0 [] []) fun v14 =>
 qb (q_fa 3 v9) fun v15 =>
 qb (q_load st false 1 v15) fun v16 =>
 qb (q_len v16) fun v17 =>
 hJ (fun ls st =>
  hJ (fun ls_1 st =>
   cb (ls_1.getD 0 .junk) fun b => br b
    (qb (q_load st true 4 v6) fun v46 =>
    qb (q_load st true 4 v7) fun v50 =>
    callK prog n_impl_lift [v46, (.int .i64 0), a3] st (fun v48 st =>
    q_load st true 4 v7 = some v50 ∧ (callK prog n_impl_formed [v48] st (fun v49 st =>
    q_load st true 4 v7 = some v50 ∧ (callK prog n_impl_work_apply [a0, v49, v50, (ls.getD 0 .junk)] st (fun v52 st =>
    e_store st 4 v10 v52 fun st =>
    qb (q_load st true 4 v10) fun r => retR R r st) (panR R))) (panR R))) (panR R))
    (hJ (fun ls_2 st =>
     hJ (fun ls_3 st =>
      qb (q_fa 3 v9) fun v67 =>
      e_store st 1 v67 (ls.getD 0 .junk) fun st =>
      qb (q_load st true 4 v9) fun v68 =>
      callK prog n_impl_formed [v68] st (fun v69 st =>
      e_store st 4 v10 v69 fun st =>
      qb (q_load st true 4 v10) fun r_1 => retR R r_1 st) (panR R))
      (fun k_3 =>
     cb (ls_2.getD 0 .junk) fun b_1 => br b_1
      (qb (q_fa 1 v9) fun v62 =>
      qb (q_load st false 1 v62) fun v63 =>
      qb (q_bin .sub v63 (.int .i64 1)) fun v64 =>
      qb (q_fa 1 v9) fun v65 =>
      e_store st 1 v65 v64 fun st =>
      k_3 [] st)
      (k_3 [] st)))
     (fun k_2 =>
    qb (q_fa 0 v9) fun v53 =>
    qb (q_load st false 1 v53) fun v54 =>
    qb (q_bin .eql v54 (.int .i64 5)) fun v55 =>
    cb v55 fun b_2 => br b_2
     (qb (q_fa 1 v9) fun v57 =>
     qb (q_load st false 1 v57) fun v58 =>
     qb (q_bin .gtr v58 a3) fun v60 =>
     k_2 [v60] st)
     (k_2 [(.bool false)] st))))
   (fun k_1 =>
  qb (q_fa 0 v9) fun v36 =>
  qb (q_load st false 1 v36) fun v37 =>
  qb (q_bin .eql v37 (.int .i64 5)) fun v38 =>
  cb v38 fun b_3 => br b_3
   (qb (q_fa 1 v9) fun v40 =>
   qb (q_load st false 1 v40) fun v41 =>
   qb (q_bin .eql v41 a3) fun v43 =>
   k_1 [v43] st)
   (k_1 [(.bool false)] st)))
  (fun k =>
 hFix (fun ls_4 st X =>
  qb (q_bin .lss (ls_4.getD 1 .junk) v17) fun v19 =>
  cb v19 fun b_4 => br b_4
   (qb (q_ia 4 v16 (ls_4.getD 1 .junk)) fun v21 =>
   qb (q_load st true 4 v21) fun v22 =>
   e_alloc st [.int .i64 0, .int .i64 0, .str [], .sl 0 true []] fun v13 st =>
   e_store st 4 v13 v22 fun st =>
   qb (q_load st true 4 v6) fun v25 =>
   qb (q_load st true 4 v7) fun v26 =>
   qb (q_load st true 4 v13) fun v31 =>
   callK prog n_impl_Tree_under [v9, (ls_4.getD 1 .junk)] st (fun v29 st =>
   q_load st true 4 v13 = some v31 ∧ q_load st true 4 v7 = some v26 ∧ q_load st true 4 v6 = some v25 ∧ (qb (q_bin .add a3 v29) fun v30 =>
   callK prog n_impl_work_put [a0, v25, v26, v30, v31] st (fun v32 st =>
   qb (q_lit 4 1 0 [] [(0, v32)]) fun v33 =>
   e_append st 4 56 (ls_4.getD 0 .junk) v33 (fun v34 st =>
   qb (q_bin .add (ls_4.getD 1 .junk) (.int .i64 1)) fun v35 =>
   X [v34, v35] st)) (panR R))) (panR R))
   (k [(ls_4.getD 0 .junk)] st))
  [v14, (.int .i64 0)] st)
theorem c_impl_work_put {a0 a1 a2 a3 a4 : PV} {st : St} {R : Res → St → Prop} (h : b_impl_work_put a0 a1 a2 a3 a4 st R) : HCalls prog n_impl_work_put [a0, a1, a2, a3, a4] st R :=
 hcalls_of_func tyOK mixed (fn := Go.Proofs.Tryz.f256) (by kernel_rfl) (by kernel_rfl) (by kernel_rfl) (ann := [(12, [11, 18]), (3, [11]), (29, [44]), (37, [61]), (42, [])])
  (show hFunc prog TT [(12, [11, 18]), (3, [11]), (29, [44]), (37, [61]), (42, [])] Go.Proofs.Tryz.f256 [a0, a1, a2, a3, a4] st R from (show hFunc prog TT [(12, [11, 18]), (3, [11]), (29, [44]), (37, [61]), (42, [])] Go.Proofs.Tryz.f256 [a0, a1, a2, a3, a4] st R = b_impl_work_put a0 a1 a2 a3 a4 st R by kernel_rfl) ▸ h)
def b_impl_checker_head (a0 a1 a2 a3 : PV) (st : St) (R : Res → St → Prop) : Prop :=
 e_box st a2 fun v6 st =>
 e_alloc st [.int .i64 0, .int .i64 0, .str [], .sl 0 true []] fun v8 st =>
 qb (q_fa 0 v6) fun v12 =>
 qb (q_load st false 1 v12) fun v13 =>
 qb (q_bin .eql v13 (.int .i64 5)) fun v15 =>
 cb v15 fun b => br b
  (qb (q_fa 1 v6) fun v16 =>
  qb (q_load st false 1 v16) fun v17 =>
  qb (q_len a1) fun v19 =>
  qb (q_bin .geq v17 v19) fun v20 =>
  hJ (fun ls st =>
   hJ (fun ls_1 st =>
    qb (q_load st true 4 (ls_1.getD 0 .junk)) fun v36 =>
    callK prog n_impl_tooBig [v36] st (fun v37 st =>
    cb v37 fun b_2 => br b_2
     (callK prog n_impl_stop [(.int .i64 11), a3] st (fun v39 st =>
     qb (q_load st true 4 (ls_1.getD 0 .junk)) fun v40 =>
     e_store st 4 v8 v40 fun st =>
     qb (q_load st true 4 v8) fun r => retR R r st) (panR R))
     (qb (q_load st true 4 (ls_1.getD 0 .junk)) fun v40_1 =>
     e_store st 4 v8 v40_1 fun st =>
     qb (q_load st true 4 v8) fun r_1 => retR R r_1 st)) (panR R))
    (fun k_1 =>
   qb (q_len a1) fun v25 =>
   qb (q_bin .sub v25 (.int .i64 1)) fun v26 =>
   qb (q_fa 1 v6) fun v27 =>
   qb (q_load st false 1 v27) fun v28 =>
   qb (q_bin .sub v26 v28) fun v29 =>
   qb (q_ia 4 a1 v29) fun v30 =>
   qb (q_load st true 4 v30) fun v31 =>
   qb (q_fa 1 v6) fun v32 =>
   qb (q_load st false 1 v32) fun v33 =>
   qb (q_bin .add v33 (.int .i64 1)) fun v34 =>
   (callK prog n_impl_lift [v31, (.int .i64 0), v34] st (fun v35 st =>
   e_alloc st [.int .i64 0, .int .i64 0, .str [], .sl 0 true []] fun v9 st =>
   q_load st false 1 v32 = some v33 ∧ q_load st true 4 v30 = some v31 ∧ q_load st false 1 v27 = some v28 ∧ (e_store st 4 v9 v35 fun st =>
   k_1 [v9] st)) (panR R)) ∧
   (e_alloc st [.int .i64 0, .int .i64 0, .str [], .sl 0 true []] fun v9_1 st =>
   q_load st false 1 v32 = some v33 ∧ q_load st true 4 v30 = some v31 ∧ q_load st false 1 v27 = some v28 ∧ (callK prog n_impl_lift [v31, (.int .i64 0), v34] st (fun v35_1 st =>
   e_store st 4 v9_1 v35_1 fun st =>
   k_1 [v9_1] st) (panR R)))))
   (fun k =>
  cb v20 fun b_1 => br b_1
   (callK prog n_impl_stop [(.int .i64 7), a3] st (fun v22 st =>
   k [] st) (panR R))
   (k [] st)))
  (qb (q_bin .eql v13 (.int .i64 6)) fun v42 =>
  cb v42 fun b_3 => br b_3
   (qb (q_fa 2 v6) fun v45 =>
   qb (q_load st false 1 v45) fun v46 =>
   callK prog n_impl_checker_declared [a0, v46, (.bool false)] st (fun v47 st =>
   qb (q_ex v47 0) fun v48 =>
   qb (q_ex v47 1) fun v49 =>
   e_alloc st [.int .i64 0, .int .i64 0, .str [], .sl 0 true []] fun v10 st =>
   e_store st 4 v10 v48 fun st =>
   qb (q_un .not v49) fun v51 =>
   cb v51 fun b_4 => br b_4
    (callK prog n_impl_stop [(.int .i64 5), a3] st (fun v53 st =>
    qb (q_load st true 4 v10) fun v54 =>
    e_store st 4 v8 v54 fun st =>
    qb (q_load st true 4 v8) fun r_2 => retR R r_2 st) (panR R))
    (qb (q_load st true 4 v10) fun v54_1 =>
    e_store st 4 v8 v54_1 fun st =>
    qb (q_load st true 4 v8) fun r_3 => retR R r_3 st)) (panR R))
   (callK prog n_impl_stop [(.int .i64 15), a3] st (fun v56 st =>
   qb (q_struct [.int .i64 0, .int .i64 0, .str [], .sl 0 true []] []) fun v57 =>
   e_store st 4 v8 v57 fun st =>
   qb (q_load st true 4 v8) fun r_4 => retR R r_4 st) (panR R)))
theorem c_impl_checker_head {a0 a1 a2 a3 : PV} {st : St} {R : Res → St → Prop} (h : b_impl_checker_head a0 a1 a2 a3 st R) : HCalls prog n_impl_checker_head [a0, a1, a2, a3] st R :=
 hcalls_of_func tyOK mixed (fn := Go.Proofs.Tryz.f269) (by kernel_rfl) (by kernel_rfl) (by kernel_rfl) (ann := [(18, []), (21, [9])])
  (show hFunc prog TT [(18, []), (21, [9])] Go.Proofs.Tryz.f269 [a0, a1, a2, a3] st R from (show hFunc prog TT [(18, []), (21, [9])] Go.Proofs.Tryz.f269 [a0, a1, a2, a3] st R = b_impl_checker_head a0 a1 a2 a3 st R by kernel_rfl) ▸ h)
def b_impl_work_apply (a0 a1 a2 a3 : PV) (st : St) (R : Res → St → Prop) : Prop :=
 e_box st a1 fun v5 st =>
 e_box st a2 fun v6 st =>
 e_alloc st [.int .i64 0, .int .i64 0, .str [], .sl 0 true []] fun v8 st =>
 qb (q_len a3) fun v12 =>
 hFix (fun ls st X =>
  qb (q_bin .lss (ls.getD 0 .junk) v12) fun v14 =>
  cb v14 fun b => br b
   (qb (q_ia 4 a3 (ls.getD 0 .junk)) fun v15 =>
   qb (q_load st true 4 v15) fun v16 =>
   e_alloc st [.int .i64 0, .int .i64 0, .str [], .sl 0 true []] fun v10 st =>
   e_store st 4 v10 v16 fun st =>
   hJ (fun ls_1 st =>
    cb (ls_1.getD 0 .junk) fun b_1 => br b_1
     (callK prog n_impl_stop [(.int .i64 12), (.int .i64 0)] st (fun v25 st =>
     qb (q_nil a0) fun v27 =>
     qb (q_fa 0 v27) fun v28 =>
     qb (q_load st false 1 v28) fun v29 =>
     qb (q_bin .add v29 (.int .i64 1)) fun v30 =>
     qb (q_nil a0) fun v31 =>
     qb (q_fa 0 v31) fun v32 =>
     e_store st 1 v32 v30 fun st =>
     qb (q_nil a0) fun v34 =>
     qb (q_fa 0 v34) fun v35 =>
     qb (q_load st false 1 v35) fun v36 =>
     qb (q_bin .gtr v36 (.int .i64 20000)) fun v37 =>
     hJ (fun ls_2 st =>
      qb (q_load st true 4 v10) fun v40 =>
      qb (q_fa 3 v6) fun v41 =>
      qb (q_load st false 1 v41) fun v42 =>
      qb (q_ia 4 v42 (.int .i64 0)) fun v43 =>
      qb (q_load st true 4 v43) fun v44 =>
      qb (q_fa 3 v5) fun v45 =>
      qb (q_load st false 1 v45) fun v46 =>
      qb (q_ia 4 v46 (.int .i64 0)) fun v47 =>
      qb (q_load st true 4 v47) fun v48 =>
      callK prog n_impl_work_put [a0, v40, v44, (.int .i64 0), v48] st (fun v49 st =>
      e_store st 4 v5 v49 fun st =>
      qb (q_fa 3 v6) fun v50 =>
      qb (q_load st false 1 v50) fun v51 =>
      qb (q_ia 4 v51 (.int .i64 1)) fun v52 =>
      qb (q_load st true 4 v52) fun v53 =>
      e_store st 4 v6 v53 fun st =>
      qb (q_bin .add (ls.getD 0 .junk) (.int .i64 1)) fun v54 =>
      X [v54] st) (panR R))
      (fun k_1 =>
     cb v37 fun b_2 => br b_2
      (callK prog n_impl_stop [(.int .i64 17), (.int .i64 0)] st (fun v38 st =>
      k_1 [] st) (panR R))
      (k_1 [] st))) (panR R))
     (qb (q_nil a0) fun v27_1 =>
     qb (q_fa 0 v27_1) fun v28_1 =>
     qb (q_load st false 1 v28_1) fun v29_1 =>
     qb (q_bin .add v29_1 (.int .i64 1)) fun v30_1 =>
     qb (q_nil a0) fun v31_1 =>
     qb (q_fa 0 v31_1) fun v32_1 =>
     e_store st 1 v32_1 v30_1 fun st =>
     qb (q_nil a0) fun v34_1 =>
     qb (q_fa 0 v34_1) fun v35_1 =>
     qb (q_load st false 1 v35_1) fun v36_1 =>
     qb (q_bin .gtr v36_1 (.int .i64 20000)) fun v37_1 =>
     hJ (fun ls_3 st =>
      qb (q_load st true 4 v10) fun v40_1 =>
      qb (q_fa 3 v6) fun v41_1 =>
      qb (q_load st false 1 v41_1) fun v42_1 =>
      qb (q_ia 4 v42_1 (.int .i64 0)) fun v43_1 =>
      qb (q_load st true 4 v43_1) fun v44_1 =>
      qb (q_fa 3 v5) fun v45_1 =>
      qb (q_load st false 1 v45_1) fun v46_1 =>
      qb (q_ia 4 v46_1 (.int .i64 0)) fun v47_1 =>
      qb (q_load st true 4 v47_1) fun v48_1 =>
      callK prog n_impl_work_put [a0, v40_1, v44_1, (.int .i64 0), v48_1] st (fun v49_1 st =>
      e_store st 4 v5 v49_1 fun st =>
      qb (q_fa 3 v6) fun v50_1 =>
      qb (q_load st false 1 v50_1) fun v51_1 =>
      qb (q_ia 4 v51_1 (.int .i64 1)) fun v52_1 =>
      qb (q_load st true 4 v52_1) fun v53_1 =>
      e_store st 4 v6 v53_1 fun st =>
      qb (q_bin .add (ls.getD 0 .junk) (.int .i64 1)) fun v54_1 =>
      X [v54_1] st) (panR R))
      (fun k_2 =>
     cb v37_1 fun b_3 => br b_3
      (callK prog n_impl_stop [(.int .i64 17), (.int .i64 0)] st (fun v38_1 st =>
      k_2 [] st) (panR R))
      (k_2 [] st))))
    (fun k =>
   qb (q_fa 0 v6) fun v17 =>
   qb (q_load st false 1 v17) fun v18 =>
   qb (q_bin .neq v18 (.int .i64 10)) fun v19 =>
   cb v19 fun b_4 => br b_4
    (k [(.bool true)] st)
    (qb (q_fa 0 v5) fun v21 =>
    qb (q_load st false 1 v21) fun v22 =>
    qb (q_bin .neq v22 (.int .i64 4)) fun v23 =>
    k [v23] st)))
   (qb (q_load st true 4 v5) fun v55 =>
   e_store st 4 v8 v55 fun st =>
   qb (q_load st true 4 v8) fun r => retR R r st))
  [(.int .i64 0)] st
theorem c_impl_work_apply {a0 a1 a2 a3 : PV} {st : St} {R : Res → St → Prop} (h : b_impl_work_apply a0 a1 a2 a3 st R) : HCalls prog n_impl_work_apply [a0, a1, a2, a3] st R :=
 hcalls_of_func tyOK mixed (fn := Go.Proofs.Tryz.f270) (by kernel_rfl) (by kernel_rfl) (by kernel_rfl) (ann := [(8, [13]), (17, [24]), (34, [])])
  (show hFunc prog TT [(8, [13]), (17, [24]), (34, [])] Go.Proofs.Tryz.f270 [a0, a1, a2, a3] st R from (show hFunc prog TT [(8, [13]), (17, [24]), (34, [])] Go.Proofs.Tryz.f270 [a0, a1, a2, a3] st R = b_impl_work_apply a0 a1 a2 a3 st R by kernel_rfl) ▸ h)
def b_impl_formed (a0 : PV) (st : St) (R : Res → St → Prop) : Prop :=
 e_box st a0 fun v1 st =>
 e_alloc st [.int .i64 0, .int .i64 0, .str [], .sl 0 true []] fun v2 st =>
 qb (q_load st true 4 v1) fun v3 =>
 callK prog n_impl_tooBig [v3] st (fun v4 st =>
 cb v4 fun b => br b
  (callK prog n_impl_stop [(.int .i64 11), (.int .i64 0)] st (fun v5 st =>
  qb (q_load st true 4 v1) fun v6 =>
  e_store st 4 v2 v6 fun st =>
  qb (q_load st true 4 v2) fun r => retR R r st) (panR R))
  (qb (q_load st true 4 v1) fun v6_1 =>
  e_store st 4 v2 v6_1 fun st =>
  qb (q_load st true 4 v2) fun r_1 => retR R r_1 st)) (panR R)
theorem c_impl_formed {a0 : PV} {st : St} {R : Res → St → Prop} (h : b_impl_formed a0 st R) : HCalls prog n_impl_formed [a0] st R :=
 hcalls_of_func tyOK mixed (fn := Go.Proofs.Tryz.f271) (by kernel_rfl) (by kernel_rfl) (by kernel_rfl) (ann := [])
  (show hFunc prog TT [] Go.Proofs.Tryz.f271 [a0] st R from (show hFunc prog TT [] Go.Proofs.Tryz.f271 [a0] st R = b_impl_formed a0 st R by kernel_rfl) ▸ h)
end Go.H.Tryz
