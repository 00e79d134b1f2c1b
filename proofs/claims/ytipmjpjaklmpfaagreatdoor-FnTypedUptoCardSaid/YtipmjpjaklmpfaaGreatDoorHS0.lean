/- Part of a proof that the program answers as the reference does: ZGS0. -/
import Derived.Test.YtipmjpjaklmpfaaGreatDoorHT
/- MADE BY PROGRAM (hgen.py): what the functions compute, over pure values. -/
set_option linter.unusedVariables false
set_option maxRecDepth 100000
namespace Go.H.Tryz
open Go Go.H
def b_laws_FnTyped (a0 : PV) (st : St) (R : Res → St → Prop) : Prop :=
 qb (q_len a0) fun v12 =>
 qb (q_bin .gtr v12 (.int .i64 1048576)) fun v13 =>
 cb v13 fun b => br b
  (retR R (.bool true) st)
  (callK prog n_spec_PutOf [a0] st (fun v16 st =>
  qb (q_ex v16 0) fun v17 =>
  qb (q_ex v16 1) fun v18 =>
  qb (q_ex v16 2) fun v19 =>
  qb (q_ia 4 v19 (.int .i64 1)) fun v22 =>
  qb (q_load st true 4 v22) fun v23 =>
  callK prog n_laws_with [v17, v23] st (fun v24 st =>
  hJ (fun ls st =>
   hJ (fun ls_1 st =>
    qb (q_bin .neq (ls.getD 1 .junk) (ls_1.getD 1 .junk)) fun v53 =>
    cb v53 fun b_1 => br b_1
     (retR R (.bool false) st)
     (qb (q_load st true 4 (ls.getD 0 .junk)) fun v55 =>
     qb (q_load st true 4 (ls_1.getD 0 .junk)) fun v56 =>
     callK prog n_laws_same [v55, v56] st (fun v57 st =>
     qb (q_un .not v57) fun v58 =>
     cb v58 fun b_2 => br b_2
      (retR R (.bool false) st)
      (callK prog n_laws_full [(ls.getD 1 .junk)] st (fun v61 st =>
      cb v61 fun b_3 => br b_3
       (retR R (.bool true) st)
       (qb (q_bin .eql (ls.getD 1 .junk) (.int .i64 0)) fun v63 =>
       cb v63 fun b_4 => br b_4
        (qb (q_load st true 4 (ls.getD 0 .junk)) fun v67 =>
        qb (q_ia 4 v19 (.int .i64 2)) fun v69 =>
        qb (q_load st true 4 v69) fun v70 =>
        callK prog n_spec_Consts [] st (fun v65 st =>
        q_load st true 4 v69 = some v70 ∧ q_load st true 4 (ls.getD 0 .junk) = some v67 ∧ (callK prog n_impl_SimpleCheck [v65, v24, (.sl 0 true []), v67, v70] st (fun v71 st =>
        qb (q_bin .eql v71 (.int .i64 0)) fun v72 =>
        retR R v72 st) (panR R))) (panR R))
        (retR R (.bool false) st))) (panR R))) (panR R)))
    (fun k_1 =>
   qb (q_ia 4 v18 (.int .i64 0)) fun v40 =>
   qb (q_load st true 4 v40) fun v41 =>
   qb (q_ia 4 v19 (.int .i64 0)) fun v43 =>
   qb (q_load st true 4 v43) fun v44 =>
   qb (q_ia 4 v18 (.int .i64 2)) fun v46 =>
   qb (q_load st true 4 v46) fun v47 =>
   (callK prog n_spec_Subst [v41, v44, v47] st (fun v48 st =>
   qb (q_ex v48 0) fun v49 =>
   qb (q_ex v48 1) fun v50 =>
   e_alloc st [.int .i64 0, .int .i64 0, .str [], .sl 0 true []] fun v9 st =>
   q_load st true 4 v46 = some v47 ∧ q_load st true 4 v43 = some v44 ∧ q_load st true 4 v40 = some v41 ∧ (e_store st 4 v9 v49 fun st =>
   k_1 [v9, v50] st)) (panR R)) ∧
   (e_alloc st [.int .i64 0, .int .i64 0, .str [], .sl 0 true []] fun v9_1 st =>
   q_load st true 4 v46 = some v47 ∧ q_load st true 4 v43 = some v44 ∧ q_load st true 4 v40 = some v41 ∧ (callK prog n_spec_Subst [v41, v44, v47] st (fun v48_1 st =>
   qb (q_ex v48_1 0) fun v49_1 =>
   qb (q_ex v48_1 1) fun v50_1 =>
   e_store st 4 v9_1 v49_1 fun st =>
   k_1 [v9_1, v50_1] st) (panR R)))))
   (fun k =>
  qb (q_ia 4 v18 (.int .i64 0)) fun v27 =>
  qb (q_load st true 4 v27) fun v28 =>
  qb (q_ia 4 v19 (.int .i64 0)) fun v30 =>
  qb (q_load st true 4 v30) fun v31 =>
  qb (q_ia 4 v18 (.int .i64 2)) fun v33 =>
  qb (q_load st true 4 v33) fun v34 =>
  (callK prog n_impl_Subst [v28, v31, v34] st (fun v35 st =>
  qb (q_ex v35 0) fun v36 =>
  qb (q_ex v35 1) fun v37 =>
  e_alloc st [.int .i64 0, .int .i64 0, .str [], .sl 0 true []] fun v7 st =>
  q_load st true 4 v33 = some v34 ∧ q_load st true 4 v30 = some v31 ∧ q_load st true 4 v27 = some v28 ∧ (e_store st 4 v7 v36 fun st =>
  k [v7, v37] st)) (panR R)) ∧
  (e_alloc st [.int .i64 0, .int .i64 0, .str [], .sl 0 true []] fun v7_1 st =>
  q_load st true 4 v33 = some v34 ∧ q_load st true 4 v30 = some v31 ∧ q_load st true 4 v27 = some v28 ∧ (callK prog n_impl_Subst [v28, v31, v34] st (fun v35_1 st =>
  qb (q_ex v35_1 0) fun v36_1 =>
  qb (q_ex v35_1 1) fun v37_1 =>
  e_store st 4 v7_1 v36_1 fun st =>
  k [v7_1, v37_1] st) (panR R))))) (panR R)) (panR R))
theorem c_laws_FnTyped {a0 : PV} {st : St} {R : Res → St → Prop} (h : b_laws_FnTyped a0 st R) : HCalls prog n_laws_FnTyped [a0] st R :=
 hcalls_of_func tyOK mixed (fn := Go.Proofs.Tryz.f3) (by kernel_rfl) (by kernel_rfl) (by kernel_rfl) (ann := [(21, [7, 8]), (25, [9, 10])])
  (show hFunc prog TT [(21, [7, 8]), (25, [9, 10])] Go.Proofs.Tryz.f3 [a0] st R from (show hFunc prog TT [(21, [7, 8]), (25, [9, 10])] Go.Proofs.Tryz.f3 [a0] st R = b_laws_FnTyped a0 st R by kernel_rfl) ▸ h)
def b_spec_PutOf (a0 : PV) (st : St) (R : Res → St → Prop) : Prop :=
 callK prog n_spec_l00Source [a0] st (fun v15 st =>
 callK prog n_spec_l01Base [(.str [110, 97, 116])] st (fun v16 st =>
 callK prog n_spec_l01Base [(.str [110, 97, 116])] st (fun v17 st =>
 callK prog n_spec_l01Base [(.str [111])] st (fun v18 st =>
 callK prog n_spec_l01Arrow [v17, v18] st (fun v19 st =>
 qb (q_lit 4 2 0 [] [(0, v16), (1, v19)]) fun v20 =>
 callK prog n_spec_l00Src_next [v15, (.int .i64 2)] st (fun v23 st =>
 qb (q_bin .add (.int .i64 1) v23) fun v24 =>
 callK prog n_spec_l00Src_simple [v15, v24] st (fun v25 st =>
 e_alloc st [.int .i64 0, .int .i64 0, .str [], .sl 0 true []] fun v7 st =>
 e_store st 4 v7 v25 fun st =>
 callK prog n_spec_l00Src_next [v15, (.int .i64 2)] st (fun v28 st =>
 qb (q_bin .add (.int .i64 1) v28) fun v29 =>
 callK prog n_spec_l00Src_simple [v15, v29] st (fun v30 st =>
 e_alloc st [.int .i64 0, .int .i64 0, .str [], .sl 0 true []] fun v8 st =>
 e_store st 4 v8 v30 fun st =>
 callK prog n_spec_l00Src_simple [v15, (.int .i64 1)] st (fun v32 st =>
 e_alloc st [.int .i64 0, .int .i64 0, .str [], .sl 0 true []] fun v9 st =>
 e_store st 4 v9 v32 fun st =>
 qb (q_load st true 4 v8) fun v34 =>
 callK prog n_spec_l04More [v20, v34] st (fun v35 st =>
 hJ (fun ls st =>
  hJ (fun ls_1 st =>
   hJ (fun ls_2 st =>
    qb (q_load st true 4 (ls.getD 0 .junk)) fun v60 =>
    qb (q_load st true 4 (ls_1.getD 0 .junk)) fun v61 =>
    qb (q_load st true 4 (ls_2.getD 0 .junk)) fun v62 =>
    qb (q_lit 4 3 0 [] [(0, v60), (1, v61), (2, v62)]) fun v63 =>
    qb (q_load st true 4 v7) fun v64 =>
    qb (q_load st true 4 v8) fun v65 =>
    qb (q_load st true 4 v9) fun v66 =>
    qb (q_lit 4 3 0 [] [(0, v64), (1, v65), (2, v66)]) fun v67 =>
    retR R (.tup [v20, v63, v67]) st)
    (fun k_2 =>
   qb (q_load st true 4 v7) fun v52 =>
   qb (q_load st true 4 v9) fun v54 =>
   (callK prog n_spec_l04More [v35, v52] st (fun v53 st =>
   q_load st true 4 v9 = some v54 ∧ ((callK prog n_spec_l00Src_next [v15, (.int .i64 3)] st (fun v56 st =>
   q_load st true 4 v9 = some v54 ∧ (qb (q_bin .add (.int .i64 1) v56) fun v57 =>
   (callK prog n_spec_l00Src_little [v15, v53, v54, v57] st (fun v58 st =>
   e_alloc st [.int .i64 0, .int .i64 0, .str [], .sl 0 true []] fun v13 st =>
   q_load st true 4 v9 = some v54 ∧ q_load st true 4 v7 = some v52 ∧ (e_store st 4 v13 v58 fun st =>
   k_2 [v13] st)) (panR R)) ∧
   (e_alloc st [.int .i64 0, .int .i64 0, .str [], .sl 0 true []] fun v13_1 st =>
   q_load st true 4 v9 = some v54 ∧ q_load st true 4 v7 = some v52 ∧ (callK prog n_spec_l00Src_little [v15, v53, v54, v57] st (fun v58_1 st =>
   e_store st 4 v13_1 v58_1 fun st =>
   k_2 [v13_1] st) (panR R))))) (panR R)) ∧
   (e_alloc st [.int .i64 0, .int .i64 0, .str [], .sl 0 true []] fun v13_2 st =>
   q_load st true 4 v9 = some v54 ∧ q_load st true 4 v7 = some v52 ∧ (callK prog n_spec_l00Src_next [v15, (.int .i64 3)] st (fun v56_1 st =>
   q_load st true 4 v9 = some v54 ∧ (qb (q_bin .add (.int .i64 1) v56_1) fun v57_1 =>
   callK prog n_spec_l00Src_little [v15, v53, v54, v57_1] st (fun v58_2 st =>
   e_store st 4 v13_2 v58_2 fun st =>
   k_2 [v13_2] st) (panR R))) (panR R))))) (panR R)) ∧
   (e_alloc st [.int .i64 0, .int .i64 0, .str [], .sl 0 true []] fun v13_3 st =>
   q_load st true 4 v9 = some v54 ∧ q_load st true 4 v7 = some v52 ∧ (callK prog n_spec_l04More [v35, v52] st (fun v53_1 st =>
   q_load st true 4 v9 = some v54 ∧ (callK prog n_spec_l00Src_next [v15, (.int .i64 3)] st (fun v56_2 st =>
   q_load st true 4 v9 = some v54 ∧ (qb (q_bin .add (.int .i64 1) v56_2) fun v57_2 =>
   callK prog n_spec_l00Src_little [v15, v53_1, v54, v57_2] st (fun v58_3 st =>
   e_store st 4 v13_3 v58_3 fun st =>
   k_2 [v13_3] st) (panR R))) (panR R))) (panR R)))))
   (fun k_1 =>
  qb (q_load st true 4 v8) fun v45 =>
  (callK prog n_spec_l00Src_next [v15, (.int .i64 2)] st (fun v47 st =>
  q_load st true 4 v8 = some v45 ∧ (qb (q_bin .add (.int .i64 1) v47) fun v48 =>
  (callK prog n_spec_l00Src_little [v15, v20, v45, v48] st (fun v49 st =>
  e_alloc st [.int .i64 0, .int .i64 0, .str [], .sl 0 true []] fun v12 st =>
  q_load st true 4 v8 = some v45 ∧ (e_store st 4 v12 v49 fun st =>
  k_1 [v12] st)) (panR R)) ∧
  (e_alloc st [.int .i64 0, .int .i64 0, .str [], .sl 0 true []] fun v12_1 st =>
  q_load st true 4 v8 = some v45 ∧ (callK prog n_spec_l00Src_little [v15, v20, v45, v48] st (fun v49_1 st =>
  e_store st 4 v12_1 v49_1 fun st =>
  k_1 [v12_1] st) (panR R))))) (panR R)) ∧
  (e_alloc st [.int .i64 0, .int .i64 0, .str [], .sl 0 true []] fun v12_2 st =>
  q_load st true 4 v8 = some v45 ∧ (callK prog n_spec_l00Src_next [v15, (.int .i64 2)] st (fun v47_1 st =>
  q_load st true 4 v8 = some v45 ∧ (qb (q_bin .add (.int .i64 1) v47_1) fun v48_1 =>
  callK prog n_spec_l00Src_little [v15, v20, v45, v48_1] st (fun v49_2 st =>
  e_store st 4 v12_2 v49_2 fun st =>
  k_1 [v12_2] st) (panR R))) (panR R)))))
  (fun k =>
 qb (q_load st true 4 v7) fun v38 =>
 (callK prog n_spec_l00Src_next [v15, (.int .i64 2)] st (fun v40 st =>
 q_load st true 4 v7 = some v38 ∧ (qb (q_bin .add (.int .i64 1) v40) fun v41 =>
 (callK prog n_spec_l00Src_little [v15, v35, v38, v41] st (fun v42 st =>
 e_alloc st [.int .i64 0, .int .i64 0, .str [], .sl 0 true []] fun v11 st =>
 q_load st true 4 v7 = some v38 ∧ (e_store st 4 v11 v42 fun st =>
 k [v11] st)) (panR R)) ∧
 (e_alloc st [.int .i64 0, .int .i64 0, .str [], .sl 0 true []] fun v11_1 st =>
 q_load st true 4 v7 = some v38 ∧ (callK prog n_spec_l00Src_little [v15, v35, v38, v41] st (fun v42_1 st =>
 e_store st 4 v11_1 v42_1 fun st =>
 k [v11_1] st) (panR R))))) (panR R)) ∧
 (e_alloc st [.int .i64 0, .int .i64 0, .str [], .sl 0 true []] fun v11_2 st =>
 q_load st true 4 v7 = some v38 ∧ (callK prog n_spec_l00Src_next [v15, (.int .i64 2)] st (fun v40_1 st =>
 q_load st true 4 v7 = some v38 ∧ (qb (q_bin .add (.int .i64 1) v40_1) fun v41_1 =>
 callK prog n_spec_l00Src_little [v15, v35, v38, v41_1] st (fun v42_2 st =>
 e_store st 4 v11_2 v42_2 fun st =>
 k [v11_2] st) (panR R))) (panR R))))) (panR R)) (panR R)) (panR R)) (panR R)) (panR R)) (panR R)) (panR R)) (panR R)) (panR R)) (panR R)) (panR R)
theorem c_spec_PutOf {a0 : PV} {st : St} {R : Res → St → Prop} (h : b_spec_PutOf a0 st R) : HCalls prog n_spec_PutOf [a0] st R :=
 hcalls_of_func tyOK mixed (fn := Go.Proofs.Tryz.f5) (by kernel_rfl) (by kernel_rfl) (by kernel_rfl) (ann := [(29, [11]), (33, [12]), (37, [13])])
  (show hFunc prog TT [(29, [11]), (33, [12]), (37, [13])] Go.Proofs.Tryz.f5 [a0] st R from (show hFunc prog TT [(29, [11]), (33, [12]), (37, [13])] Go.Proofs.Tryz.f5 [a0] st R = b_spec_PutOf a0 st R by kernel_rfl) ▸ h)
def b_laws_with (a0 a1 : PV) (st : St) (R : Res → St → Prop) : Prop :=
 e_box st a1 fun v3 st =>
 qb (q_lit 4 0 0 [] []) fun v5 =>
 qb (q_load st true 4 v3) fun v8 =>
 qb (q_lit 4 1 0 [] [(0, v8)]) fun v9 =>
 e_append st 4 56 v5 a0 (fun v7 st =>
 q_load st true 4 v3 = some v8 ∧ (e_append st 4 56 v7 v9 (fun v10 st =>
 retR R v10 st)))
theorem c_laws_with {a0 a1 : PV} {st : St} {R : Res → St → Prop} (h : b_laws_with a0 a1 st R) : HCalls prog n_laws_with [a0, a1] st R :=
 hcalls_of_func tyOK mixed (fn := Go.Proofs.Tryz.f6) (by kernel_rfl) (by kernel_rfl) (by kernel_rfl) (ann := [])
  (show hFunc prog TT [] Go.Proofs.Tryz.f6 [a0, a1] st R from (show hFunc prog TT [] Go.Proofs.Tryz.f6 [a0, a1] st R = b_laws_with a0 a1 st R by kernel_rfl) ▸ h)
def b_impl_Subst (a0 a1 a2 : PV) (st : St) (R : Res → St → Prop) : Prop :=
 e_box st a0 fun v3 st =>
 e_box st a1 fun v4 st =>
 e_box st a2 fun v5 st =>
 e_alloc st [.int .i64 0, .int .i64 0, .str [], .sl 0 true []] fun v6 st =>
 hJ (fun ls st =>
  cb (ls.getD 0 .junk) fun b => br b
   (qb (q_struct [.int .i64 0, .int .i64 0, .str [], .sl 0 true []] []) fun v21 =>
   e_store st 4 v6 v21 fun st =>
   qb (q_load st true 4 v6) fun r => retR R (.tup [r, (.int .i64 1)]) st)
   (callK prog n_impl_result [(.fn (.func n_impl_Subst_1) [] [v3, v4, v5])] st (fun v23 st =>
   qb (q_ex v23 0) fun v24 =>
   qb (q_ex v23 1) fun v25 =>
   e_store st 4 v6 v24 fun st =>
   qb (q_load st true 4 v6) fun r_1 => retR R (.tup [r_1, v25]) st) (panR R)))
  (fun k =>
 qb (q_load st true 4 v3) fun v8 =>
 callK prog n_impl_TermOK [v8] st (fun v9 st =>
 qb (q_un .not v9) fun v10 =>
 cb v10 fun b_1 => br b_1
  (k [(.bool true)] st)
  (qb (q_load st true 4 v4) fun v12 =>
  callK prog n_impl_SimpleOK [v12] st (fun v13 st =>
  qb (q_un .not v13) fun v14 =>
  cb v14 fun b_2 => br b_2
   (k [(.bool true)] st)
   (qb (q_load st true 4 v5) fun v17 =>
   callK prog n_impl_treeOK [v17] st (fun v18 st =>
   qb (q_un .not v18) fun v19 =>
   k [v19] st) (panR R))) (panR R))) (panR R))
theorem c_impl_Subst {a0 a1 a2 : PV} {st : St} {R : Res → St → Prop} (h : b_impl_Subst a0 a1 a2 st R) : HCalls prog n_impl_Subst [a0, a1, a2] st R :=
 hcalls_of_func tyOK mixed (fn := Go.Proofs.Tryz.f7) (by kernel_rfl) (by kernel_rfl) (by kernel_rfl) (ann := [(5, [20])])
  (show hFunc prog TT [(5, [20])] Go.Proofs.Tryz.f7 [a0, a1, a2] st R from (show hFunc prog TT [(5, [20])] Go.Proofs.Tryz.f7 [a0, a1, a2] st R = b_impl_Subst a0 a1 a2 st R by kernel_rfl) ▸ h)
def b_spec_Subst (a0 a1 a2 : PV) (st : St) (R : Res → St → Prop) : Prop :=
 e_box st a0 fun v3 st =>
 e_box st a1 fun v4 st =>
 e_box st a2 fun v5 st =>
 e_alloc st [.int .i64 0, .int .i64 0, .str [], .sl 0 true []] fun v6 st =>
 hJ (fun ls st =>
  cb (ls.getD 0 .junk) fun b => br b
   (qb (q_struct [.int .i64 0, .int .i64 0, .str [], .sl 0 true []] []) fun v22 =>
   e_store st 4 v6 v22 fun st =>
   qb (q_load st true 4 v6) fun r => retR R (.tup [r, (.int .i64 1)]) st)
   (qb (q_struct [.int .i64 0] []) fun v23 =>
   e_box st v23 fun v24 st =>
   qb (q_load st true 4 v3) fun v26 =>
   qb (q_load st true 4 v4) fun v27 =>
   qb (q_load st true 4 v5) fun v28 =>
   callK prog n_spec_l03Run_sub [v24, v26, v27, v28, (.int .i64 0)] st (fun v29 st =>
   qb (q_ex v29 0) fun v30 =>
   qb (q_ex v29 1) fun v31 =>
   e_store st 4 v6 v30 fun st =>
   qb (q_load st true 4 v6) fun r_1 => retR R (.tup [r_1, v31]) st) (panR R)))
  (fun k =>
 qb (q_load st true 4 v3) fun v9 =>
 callK prog n_spec_TermOK [v9] st (fun v10 st =>
 qb (q_un .not v10) fun v11 =>
 cb v11 fun b_1 => br b_1
  (k [(.bool true)] st)
  (qb (q_load st true 4 v4) fun v13 =>
  callK prog n_spec_SimpleOK [v13] st (fun v14 st =>
  qb (q_un .not v14) fun v15 =>
  cb v15 fun b_2 => br b_2
   (k [(.bool true)] st)
   (qb (q_load st true 4 v5) fun v18 =>
   callK prog n_spec_l01Right [v18] st (fun v19 st =>
   qb (q_un .not v19) fun v20 =>
   k [v20] st) (panR R))) (panR R))) (panR R))
theorem c_spec_Subst {a0 a1 a2 : PV} {st : St} {R : Res → St → Prop} (h : b_spec_Subst a0 a1 a2 st R) : HCalls prog n_spec_Subst [a0, a1, a2] st R :=
 hcalls_of_func tyOK mixed (fn := Go.Proofs.Tryz.f8) (by kernel_rfl) (by kernel_rfl) (by kernel_rfl) (ann := [(5, [21])])
  (show hFunc prog TT [(5, [21])] Go.Proofs.Tryz.f8 [a0, a1, a2] st R from (show hFunc prog TT [(5, [21])] Go.Proofs.Tryz.f8 [a0, a1, a2] st R = b_spec_Subst a0 a1 a2 st R by kernel_rfl) ▸ h)
def b_laws_same (a0 a1 : PV) (st : St) (R : Res → St → Prop) : Prop :=
 e_box st a0 fun v2 st =>
 e_box st a1 fun v3 st =>
 qb (q_fa 0 v2) fun v6 =>
 qb (q_load st false 1 v6) fun v7 =>
 qb (q_fa 0 v3) fun v8 =>
 qb (q_load st false 1 v8) fun v9 =>
 qb (q_bin .neq v7 v9) fun v10 =>
 cb v10 fun b => br b
  (retR R (.bool false) st)
  (qb (q_fa 1 v2) fun v12 =>
  qb (q_load st false 1 v12) fun v13 =>
  qb (q_fa 1 v3) fun v14 =>
  qb (q_load st false 1 v14) fun v15 =>
  qb (q_bin .neq v13 v15) fun v16 =>
  cb v16 fun b_1 => br b_1
   (retR R (.bool false) st)
   (qb (q_fa 2 v2) fun v19 =>
   qb (q_load st false 1 v19) fun v20 =>
   qb (q_fa 2 v3) fun v21 =>
   qb (q_load st false 1 v21) fun v22 =>
   qb (q_bin .neq v20 v22) fun v23 =>
   cb v23 fun b_2 => br b_2
    (retR R (.bool false) st)
    (qb (q_fa 3 v2) fun v26 =>
    qb (q_load st false 1 v26) fun v27 =>
    qb (q_len v27) fun v28 =>
    qb (q_fa 3 v3) fun v29 =>
    qb (q_load st false 1 v29) fun v30 =>
    qb (q_len v30) fun v31 =>
    qb (q_bin .neq v28 v31) fun v32 =>
    cb v32 fun b_3 => br b_3
     (retR R (.bool false) st)
     (hFix (fun ls st X =>
      qb (q_fa 3 v2) fun v35 =>
      qb (q_load st false 1 v35) fun v36 =>
      qb (q_len v36) fun v37 =>
      qb (q_bin .lss (ls.getD 0 .junk) v37) fun v38 =>
      cb v38 fun b_4 => br b_4
       (qb (q_fa 3 v2) fun v41 =>
       qb (q_load st false 1 v41) fun v42 =>
       qb (q_ia 4 v42 (ls.getD 0 .junk)) fun v44 =>
       qb (q_load st true 4 v44) fun v45 =>
       qb (q_fa 3 v3) fun v46 =>
       qb (q_load st false 1 v46) fun v47 =>
       qb (q_ia 4 v47 (ls.getD 0 .junk)) fun v49 =>
       qb (q_load st true 4 v49) fun v50 =>
       callK prog n_laws_same [v45, v50] st (fun v51 st =>
       qb (q_un .not v51) fun v52 =>
       cb v52 fun b_5 => br b_5
        (retR R (.bool false) st)
        (qb (q_bin .add (ls.getD 0 .junk) (.int .i64 1)) fun v40 =>
        X [v40] st)) (panR R))
       (retR R (.bool true) st))
      [(.int .i64 0)] st))))
theorem e_laws_same : Enters prog n_laws_same := ⟨Go.Proofs.Tryz.f9, by kernel_rfl, by kernel_rfl, by kernel_rfl⟩
theorem c_laws_same {a0 a1 : PV} {st : St} {R : Res → St → Prop} (h : b_laws_same a0 a1 st R) : HCalls prog n_laws_same [a0, a1] st R :=
 hcalls_of_func tyOK mixed (fn := Go.Proofs.Tryz.f9) (by kernel_rfl) (by kernel_rfl) (by kernel_rfl) (ann := [(16, [5])])
  (show hFunc prog TT [(16, [5])] Go.Proofs.Tryz.f9 [a0, a1] st R from (show hFunc prog TT [(16, [5])] Go.Proofs.Tryz.f9 [a0, a1] st R = b_laws_same a0 a1 st R by kernel_rfl) ▸ h)
def b_laws_full (a0 : PV) (st : St) (R : Res → St → Prop) : Prop :=
 qb (q_bin .eql a0 (.int .i64 11)) fun v4 =>
 cb v4 fun b => br b
  (retR R (.bool true) st)
  (qb (q_bin .eql a0 (.int .i64 17)) fun v7 =>
  retR R v7 st)
theorem c_laws_full {a0 : PV} {st : St} {R : Res → St → Prop} (h : b_laws_full a0 st R) : HCalls prog n_laws_full [a0] st R :=
 hcalls_of_func tyOK mixed (fn := Go.Proofs.Tryz.f10) (by kernel_rfl) (by kernel_rfl) (by kernel_rfl) (ann := [])
  (show hFunc prog TT [] Go.Proofs.Tryz.f10 [a0] st R from (show hFunc prog TT [] Go.Proofs.Tryz.f10 [a0] st R = b_laws_full a0 st R by kernel_rfl) ▸ h)
def b_impl_SimpleCheck (a0 a1 a2 a3 a4 : PV) (st : St) (R : Res → St → Prop) : Prop :=
 e_box st a1 fun v6 st =>
 e_box st a3 fun v8 st =>
 e_box st a4 fun v9 st =>
 qb (q_len a0) fun v14 =>
 qb (q_load st false 1 v6) fun v15 =>
 qb (q_len v15) fun v16 =>
 qb (q_len a2) fun v18 =>
 qb (q_lit 1 3 0 [] [(0, v14), (1, v16), (2, v18)]) fun v19 =>
 callK prog n_impl_longLists [v19] st (fun v20 st =>
 cb v20 fun b => br b
  (retR R (.int .i64 2) st)
  (callK prog n_impl_constsOK [a0] st (fun v23 st =>
  qb (q_un .not v23) fun v24 =>
  cb v24 fun b_1 => br b_1
   (retR R (.int .i64 1) st)
   (qb (q_load st false 1 v6) fun v26 =>
   callK prog n_impl_simplesOK [v26, (.int .i64 40)] st (fun v27 st =>
   qb (q_un .not v27) fun v28 =>
   cb v28 fun b_2 => br b_2
    (retR R (.int .i64 1) st)
    (callK prog n_impl_simplesOK [a2, (.int .i64 20)] st (fun v32 st =>
    qb (q_un .not v32) fun v33 =>
    cb v33 fun b_3 => br b_3
     (retR R (.int .i64 1) st)
     (qb (q_load st true 4 v8) fun v36 =>
     callK prog n_impl_badTerm [v36] st (fun v37 st =>
     cb v37 fun b_4 => br b_4
      (retR R (.int .i64 1) st)
      (qb (q_load st true 4 v9) fun v40 =>
      callK prog n_impl_badSimple [v40] st (fun v41 st =>
      cb v41 fun b_5 => br b_5
       (retR R (.int .i64 1) st)
       (qb (q_struct [.sl 0 true [], .sl 0 true []] [(0, 1, a0), (1, 1, a2)]) fun v45 =>
       e_box st v45 fun v46 st =>
       e_alloc st [.nilp] fun v11 st =>
       e_store st 1 v11 v46 fun st =>
       callK prog n_impl_caught [(.fn (.func n_impl_SimpleCheck_1) [] [v11, v6, v8, v9])] st (fun v48 st =>
       qb (q_field false 1 0 v48) fun v49 =>
       retR R v49 st) (panR R))) (panR R))) (panR R))) (panR R))) (panR R))) (panR R))) (panR R)
theorem c_impl_SimpleCheck {a0 a1 a2 a3 a4 : PV} {st : St} {R : Res → St → Prop} (h : b_impl_SimpleCheck a0 a1 a2 a3 a4 st R) : HCalls prog n_impl_SimpleCheck [a0, a1, a2, a3, a4] st R :=
 hcalls_of_func tyOK mixed (fn := Go.Proofs.Tryz.f11) (by kernel_rfl) (by kernel_rfl) (by kernel_rfl) (ann := [])
  (show hFunc prog TT [] Go.Proofs.Tryz.f11 [a0, a1, a2, a3, a4] st R from (show hFunc prog TT [] Go.Proofs.Tryz.f11 [a0, a1, a2, a3, a4] st R = b_impl_SimpleCheck a0 a1 a2 a3 a4 st R by kernel_rfl) ▸ h)
def b_spec_Consts (st : St) (R : Res → St → Prop) : Prop :=
 callK prog n_spec_l03Some [] st (fun v1 st =>
 retR R v1 st) (panR R)
theorem c_spec_Consts {st : St} {R : Res → St → Prop} (h : b_spec_Consts  st R) : HCalls prog n_spec_Consts [] st R :=
 hcalls_of_func tyOK mixed (fn := Go.Proofs.Tryz.f12) (by kernel_rfl) (by kernel_rfl) (by kernel_rfl) (ann := [])
  (show hFunc prog TT [] Go.Proofs.Tryz.f12 [] st R from (show hFunc prog TT [] Go.Proofs.Tryz.f12 [] st R = b_spec_Consts  st R by kernel_rfl) ▸ h)
def b_spec_TermOK (a0 : PV) (st : St) (R : Res → St → Prop) : Prop :=
 e_box st a0 fun v1 st =>
 qb (q_load st true 4 v1) fun v3 =>
 callK prog n_spec_l01Small [v3] st (fun v4 st =>
 cb v4 fun b => br b
  (qb (q_load st true 4 v1) fun v6 =>
  callK prog n_spec_l01Term [v6, (.bool false)] st (fun v7 st =>
  retR R v7 st) (panR R))
  (retR R (.bool false) st)) (panR R)
theorem c_spec_TermOK {a0 : PV} {st : St} {R : Res → St → Prop} (h : b_spec_TermOK a0 st R) : HCalls prog n_spec_TermOK [a0] st R :=
 hcalls_of_func tyOK mixed (fn := Go.Proofs.Tryz.f15) (by kernel_rfl) (by kernel_rfl) (by kernel_rfl) (ann := [])
  (show hFunc prog TT [] Go.Proofs.Tryz.f15 [a0] st R from (show hFunc prog TT [] Go.Proofs.Tryz.f15 [a0] st R = b_spec_TermOK a0 st R by kernel_rfl) ▸ h)
def b_spec_l00Source (a0 : PV) (st : St) (R : Res → St → Prop) : Prop :=
 qb (q_len a0) fun v5 =>
 qb (q_bin .rem v5 (.int .i64 1000)) fun v6 =>
 qb (q_struct [.sl 0 true [], .int .i64 0, .int .i64 0] [(0, 1, a0), (2, 1, v6)]) fun v7 =>
 e_box st v7 fun v8 st =>
 retR R v8 st
theorem c_spec_l00Source {a0 : PV} {st : St} {R : Res → St → Prop} (h : b_spec_l00Source a0 st R) : HCalls prog n_spec_l00Source [a0] st R :=
 hcalls_of_func tyOK mixed (fn := Go.Proofs.Tryz.f19) (by kernel_rfl) (by kernel_rfl) (by kernel_rfl) (ann := [])
  (show hFunc prog TT [] Go.Proofs.Tryz.f19 [a0] st R from (show hFunc prog TT [] Go.Proofs.Tryz.f19 [a0] st R = b_spec_l00Source a0 st R by kernel_rfl) ▸ h)
def b_spec_l01Base (a0 : PV) (st : St) (R : Res → St → Prop) : Prop :=
 e_alloc st [.int .i64 0, .int .i64 0, .str [], .sl 0 true []] fun v2 st =>
 qb (q_struct [.int .i64 0, .int .i64 0, .str [], .sl 0 true []] [(0, 1, (.int .i64 9)), (2, 1, a0)]) fun v4 =>
 e_store st 4 v2 v4 fun st =>
 qb (q_load st true 4 v2) fun r => retR R r st
theorem c_spec_l01Base {a0 : PV} {st : St} {R : Res → St → Prop} (h : b_spec_l01Base a0 st R) : HCalls prog n_spec_l01Base [a0] st R :=
 hcalls_of_func tyOK mixed (fn := Go.Proofs.Tryz.f20) (by kernel_rfl) (by kernel_rfl) (by kernel_rfl) (ann := [])
  (show hFunc prog TT [] Go.Proofs.Tryz.f20 [a0] st R from (show hFunc prog TT [] Go.Proofs.Tryz.f20 [a0] st R = b_spec_l01Base a0 st R by kernel_rfl) ▸ h)
def b_spec_l01Arrow (a0 a1 : PV) (st : St) (R : Res → St → Prop) : Prop :=
 e_box st a0 fun v2 st =>
 e_box st a1 fun v3 st =>
 e_alloc st [.int .i64 0, .int .i64 0, .str [], .sl 0 true []] fun v4 st =>
 qb (q_load st true 4 v2) fun v5 =>
 qb (q_load st true 4 v3) fun v6 =>
 qb (q_lit 4 2 0 [] [(0, v5), (1, v6)]) fun v7 =>
 qb (q_struct [.int .i64 0, .int .i64 0, .str [], .sl 0 true []] [(0, 1, (.int .i64 10)), (3, 1, v7)]) fun v8 =>
 e_store st 4 v4 v8 fun st =>
 qb (q_load st true 4 v4) fun r => retR R r st
theorem c_spec_l01Arrow {a0 a1 : PV} {st : St} {R : Res → St → Prop} (h : b_spec_l01Arrow a0 a1 st R) : HCalls prog n_spec_l01Arrow [a0, a1] st R :=
 hcalls_of_func tyOK mixed (fn := Go.Proofs.Tryz.f21) (by kernel_rfl) (by kernel_rfl) (by kernel_rfl) (ann := [])
  (show hFunc prog TT [] Go.Proofs.Tryz.f21 [a0, a1] st R from (show hFunc prog TT [] Go.Proofs.Tryz.f21 [a0, a1] st R = b_spec_l01Arrow a0 a1 st R by kernel_rfl) ▸ h)
end Go.H.Tryz
