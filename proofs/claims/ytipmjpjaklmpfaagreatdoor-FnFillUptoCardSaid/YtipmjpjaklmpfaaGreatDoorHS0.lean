/- Part of a proof that the program answers as the reference does: ZGS0. -/
import Derived.Test.YtipmjpjaklmpfaaGreatDoorHT
set_option linter.unusedVariables false
set_option maxRecDepth 100000
namespace Go.H.Tryz
open Go Go.H
def b_laws_FnFill (a0 a1 : PV) (st : St) (R : Res → St → Prop) : Prop :=
 qb (q_len a0) fun v15 =>
 qb (q_bin .gtr v15 (.int .i64 1048576)) fun v16 =>
 cb v16 fun b => br b
  (retR R (.bool true) st)
  (qb (q_len a1) fun v19 =>
  qb (q_bin .gtr v19 (.int .i64 1048576)) fun v20 =>
  cb v20 fun b_1 => br b_1
   (retR R (.bool true) st)
   (callK prog n_spec_ProblemOf [a0] st (fun v24 st =>
   qb (q_ex v24 0) fun v25 =>
   qb (q_ex v24 1) fun v26 =>
   qb (q_ex v24 2) fun v27 =>
   qb (q_ex v24 3) fun v28 =>
   e_alloc st [.int .i64 0, .int .i64 0, .str [], .sl 0 true []] fun v8 st =>
   e_store st 4 v8 v28 fun st =>
   callK prog n_spec_ClosedOf [a1, v26] st (fun v31 st =>
   qb (q_ia 4 v27 (.int .i64 0)) fun v33 =>
   qb (q_load st true 4 v33) fun v34 =>
   callK prog n_spec_TermOK [v34] st (fun v35 st =>
   qb (q_un .not v35) fun v36 =>
   cb v36 fun b_2 => br b_2
    (retR R (.bool true) st)
    (callK prog n_laws_right [v31] st (fun v39 st =>
    qb (q_un .not v39) fun v40 =>
    cb v40 fun b_3 => br b_3
     (retR R (.bool true) st)
     (qb (q_ia 4 v27 (.int .i64 0)) fun v46 =>
     qb (q_load st true 4 v46) fun v47 =>
     callK prog n_impl_Fill [v26, v31, v47] st (fun v48 st =>
     qb (q_ex v48 0) fun v49 =>
     qb (q_ex v48 1) fun v50 =>
     e_alloc st [.int .i64 0, .int .i64 0, .str [], .sl 0 true []] fun v10 st =>
     e_store st 4 v10 v49 fun st =>
     qb (q_ia 4 v27 (.int .i64 0)) fun v55 =>
     qb (q_load st true 4 v55) fun v56 =>
     callK prog n_spec_Fill [v26, v31, v56] st (fun v57 st =>
     qb (q_ex v57 0) fun v58 =>
     qb (q_ex v57 1) fun v59 =>
     e_alloc st [.int .i64 0, .int .i64 0, .str [], .sl 0 true []] fun v12 st =>
     e_store st 4 v12 v58 fun st =>
     qb (q_bin .neq v50 v59) fun v62 =>
     cb v62 fun b_4 => br b_4
      (retR R (.bool false) st)
      (qb (q_load st true 4 v10) fun v64 =>
      qb (q_load st true 4 v12) fun v65 =>
      callK prog n_laws_same [v64, v65] st (fun v66 st =>
      qb (q_un .not v66) fun v67 =>
      cb v67 fun b_5 => br b_5
       (retR R (.bool false) st)
       (callK prog n_laws_full [v50] st (fun v70 st =>
       cb v70 fun b_6 => br b_6
        (retR R (.bool true) st)
        (qb (q_bin .eql v50 (.int .i64 0)) fun v73 =>
        cb v73 fun b_7 => br b_7
         (qb (q_load st true 4 v10) fun v77 =>
         qb (q_load st true 4 v8) fun v78 =>
         callK prog n_spec_Consts [] st (fun v75 st =>
         q_load st true 4 v8 = some v78 ∧ q_load st true 4 v10 = some v77 ∧ (callK prog n_impl_SimpleCheck [v75, v25, (.sl 0 true []), v77, v78] st (fun v79 st =>
         qb (q_bin .eql v79 (.int .i64 0)) fun v80 =>
         retR R v80 st) (panR R))) (panR R))
         (retR R (.bool false) st))) (panR R))) (panR R))) (panR R)) (panR R))) (panR R))) (panR R)) (panR R)) (panR R)))
theorem c_laws_FnFill {a0 a1 : PV} {st : St} {R : Res → St → Prop} (h : b_laws_FnFill a0 a1 st R) : HCalls prog n_laws_FnFill [a0, a1] st R :=
 hcalls_of_func tyOK mixed (fn := Go.Proofs.Tryz.f4) (by kernel_rfl) (by kernel_rfl) (by kernel_rfl) (ann := [])
  (show hFunc prog TT [] Go.Proofs.Tryz.f4 [a0, a1] st R from (show hFunc prog TT [] Go.Proofs.Tryz.f4 [a0, a1] st R = b_laws_FnFill a0 a1 st R by kernel_rfl) ▸ h)
def b_laws_same (a0 a1 : PV) (st : St) (R : Res → St → Prop) : Prop :=
 e_box st a0 fun v2 st =>
 e_box st a1 fun v3 st =>
 qb (q_fa 0 v2) fun v6 =>
 qb (q_load st false 1 v6) fun v7 =>
 qb (q_fa 0 v3) fun v8 =>
 qb (q_load st false 1 v8) fun v9 =>
 qb (q_bin .neq v7 v9) fun v10 =>
 cb v10 fun b => br b
  (retR R (.bool false) st)
  (qb (q_fa 1 v2) fun v12 =>
  qb (q_load st false 1 v12) fun v13 =>
  qb (q_fa 1 v3) fun v14 =>
  qb (q_load st false 1 v14) fun v15 =>
  qb (q_bin .neq v13 v15) fun v16 =>
  cb v16 fun b_1 => br b_1
   (retR R (.bool false) st)
   (qb (q_fa 2 v2) fun v19 =>
   qb (q_load st false 1 v19) fun v20 =>
   qb (q_fa 2 v3) fun v21 =>
   qb (q_load st false 1 v21) fun v22 =>
   qb (q_bin .neq v20 v22) fun v23 =>
   cb v23 fun b_2 => br b_2
    (retR R (.bool false) st)
    (qb (q_fa 3 v2) fun v26 =>
    qb (q_load st false 1 v26) fun v27 =>
    qb (q_len v27) fun v28 =>
    qb (q_fa 3 v3) fun v29 =>
    qb (q_load st false 1 v29) fun v30 =>
    qb (q_len v30) fun v31 =>
    qb (q_bin .neq v28 v31) fun v32 =>
    cb v32 fun b_3 => br b_3
     (retR R (.bool false) st)
     (hFix (fun ls st X =>
      qb (q_fa 3 v2) fun v35 =>
      qb (q_load st false 1 v35) fun v36 =>
      qb (q_len v36) fun v37 =>
      qb (q_bin .lss (ls.getD 0 .junk) v37) fun v38 =>
      cb v38 fun b_4 => br b_4
       (qb (q_fa 3 v2) fun v41 =>
       qb (q_load st false 1 v41) fun v42 =>
       qb (q_ia 4 v42 (ls.getD 0 .junk)) fun v44 =>
       qb (q_load st true 4 v44) fun v45 =>
       qb (q_fa 3 v3) fun v46 =>
       qb (q_load st false 1 v46) fun v47 =>
       qb (q_ia 4 v47 (ls.getD 0 .junk)) fun v49 =>
       qb (q_load st true 4 v49) fun v50 =>
       callK prog n_laws_same [v45, v50] st (fun v51 st =>
       qb (q_un .not v51) fun v52 =>
       cb v52 fun b_5 => br b_5
        (retR R (.bool false) st)
        (qb (q_bin .add (ls.getD 0 .junk) (.int .i64 1)) fun v40 =>
        X [v40] st)) (panR R))
       (retR R (.bool true) st))
      [(.int .i64 0)] st))))
theorem e_laws_same : Enters prog n_laws_same := ⟨Go.Proofs.Tryz.f9, by kernel_rfl, by kernel_rfl, by kernel_rfl⟩
theorem c_laws_same {a0 a1 : PV} {st : St} {R : Res → St → Prop} (h : b_laws_same a0 a1 st R) : HCalls prog n_laws_same [a0, a1] st R :=
 hcalls_of_func tyOK mixed (fn := Go.Proofs.Tryz.f9) (by kernel_rfl) (by kernel_rfl) (by kernel_rfl) (ann := [(16, [5])])
  (show hFunc prog TT [(16, [5])] Go.Proofs.Tryz.f9 [a0, a1] st R from (show hFunc prog TT [(16, [5])] Go.Proofs.Tryz.f9 [a0, a1] st R = b_laws_same a0 a1 st R by kernel_rfl) ▸ h)
def b_laws_full (a0 : PV) (st : St) (R : Res → St → Prop) : Prop :=
 qb (q_bin .eql a0 (.int .i64 11)) fun v4 =>
 cb v4 fun b => br b
  (retR R (.bool true) st)
  (qb (q_bin .eql a0 (.int .i64 17)) fun v7 =>
  retR R v7 st)
theorem c_laws_full {a0 : PV} {st : St} {R : Res → St → Prop} (h : b_laws_full a0 st R) : HCalls prog n_laws_full [a0] st R :=
 hcalls_of_func tyOK mixed (fn := Go.Proofs.Tryz.f10) (by kernel_rfl) (by kernel_rfl) (by kernel_rfl) (ann := [])
  (show hFunc prog TT [] Go.Proofs.Tryz.f10 [a0] st R from (show hFunc prog TT [] Go.Proofs.Tryz.f10 [a0] st R = b_laws_full a0 st R by kernel_rfl) ▸ h)
def b_impl_SimpleCheck (a0 a1 a2 a3 a4 : PV) (st : St) (R : Res → St → Prop) : Prop :=
 e_box st a1 fun v6 st =>
 e_box st a3 fun v8 st =>
 e_box st a4 fun v9 st =>
 qb (q_len a0) fun v14 =>
 qb (q_load st false 1 v6) fun v15 =>
 qb (q_len v15) fun v16 =>
 qb (q_len a2) fun v18 =>
 qb (q_lit 1 3 0 [] [(0, v14), (1, v16), (2, v18)]) fun v19 =>
 callK prog n_impl_longLists [v19] st (fun v20 st =>
 cb v20 fun b => br b
  (retR R (.int .i64 2) st)
  (callK prog n_impl_constsOK [a0] st (fun v23 st =>
  qb (q_un .not v23) fun v24 =>
  cb v24 fun b_1 => br b_1
   (retR R (.int .i64 1) st)
   (qb (q_load st false 1 v6) fun v26 =>
   callK prog n_impl_simplesOK [v26, (.int .i64 40)] st (fun v27 st =>
   qb (q_un .not v27) fun v28 =>
   cb v28 fun b_2 => br b_2
    (retR R (.int .i64 1) st)
    (callK prog n_impl_simplesOK [a2, (.int .i64 20)] st (fun v32 st =>
    qb (q_un .not v32) fun v33 =>
    cb v33 fun b_3 => br b_3
     (retR R (.int .i64 1) st)
     (qb (q_load st true 4 v8) fun v36 =>
     callK prog n_impl_badTerm [v36] st (fun v37 st =>
     cb v37 fun b_4 => br b_4
      (retR R (.int .i64 1) st)
      (qb (q_load st true 4 v9) fun v40 =>
      callK prog n_impl_badSimple [v40] st (fun v41 st =>
      cb v41 fun b_5 => br b_5
       (retR R (.int .i64 1) st)
       (qb (q_struct [.sl 0 true [], .sl 0 true []] [(0, 1, a0), (1, 1, a2)]) fun v45 =>
       e_box st v45 fun v46 st =>
       e_alloc st [.nilp] fun v11 st =>
       e_store st 1 v11 v46 fun st =>
       callK prog n_impl_caught [(.fn (.func n_impl_SimpleCheck_1) [] [v11, v6, v8, v9])] st (fun v48 st =>
       qb (q_field false 1 0 v48) fun v49 =>
       retR R v49 st) (panR R))) (panR R))) (panR R))) (panR R))) (panR R))) (panR R))) (panR R)
theorem c_impl_SimpleCheck {a0 a1 a2 a3 a4 : PV} {st : St} {R : Res → St → Prop} (h : b_impl_SimpleCheck a0 a1 a2 a3 a4 st R) : HCalls prog n_impl_SimpleCheck [a0, a1, a2, a3, a4] st R :=
 hcalls_of_func tyOK mixed (fn := Go.Proofs.Tryz.f11) (by kernel_rfl) (by kernel_rfl) (by kernel_rfl) (ann := [])
  (show hFunc prog TT [] Go.Proofs.Tryz.f11 [a0, a1, a2, a3, a4] st R from (show hFunc prog TT [] Go.Proofs.Tryz.f11 [a0, a1, a2, a3, a4] st R = b_impl_SimpleCheck a0 a1 a2 a3 a4 st R by kernel_rfl) ▸ h)
def b_spec_Consts (st : St) (R : Res → St → Prop) : Prop :=
 callK prog n_spec_l03Some [] st (fun v1 st =>
 retR R v1 st) (panR R)
theorem c_spec_Consts {st : St} {R : Res → St → Prop} (h : b_spec_Consts  st R) : HCalls prog n_spec_Consts [] st R :=
 hcalls_of_func tyOK mixed (fn := Go.Proofs.Tryz.f12) (by kernel_rfl) (by kernel_rfl) (by kernel_rfl) (ann := [])
  (show hFunc prog TT [] Go.Proofs.Tryz.f12 [] st R from (show hFunc prog TT [] Go.Proofs.Tryz.f12 [] st R = b_spec_Consts  st R by kernel_rfl) ▸ h)
def b_spec_ProblemOf (a0 : PV) (st : St) (R : Res → St → Prop) : Prop :=
 e_alloc st [.int .i64 0, .int .i64 0, .str [], .sl 0 true []] fun v5 st =>
 callK prog n_spec_l00Source [a0] st (fun v13 st =>
 callK prog n_spec_l00Src_problem [v13] st (fun v16 st =>
 qb (q_ex v16 0) fun v17 =>
 qb (q_ex v16 1) fun v18 =>
 qb (q_ex v16 2) fun v19 =>
 qb (q_ex v16 3) fun v20 =>
 qb (q_ex v16 4) fun v21 =>
 e_alloc st [.int .i64 0, .int .i64 0, .str [], .sl 0 true []] fun v9 st =>
 e_alloc st [.int .i64 0, .int .i64 0, .str [], .sl 0 true []] fun v10 st =>
 e_alloc st [.int .i64 0, .int .i64 0, .str [], .sl 0 true []] fun v11 st =>
 e_store st 4 v9 v19 fun st =>
 e_store st 4 v10 v20 fun st =>
 e_store st 4 v11 v21 fun st =>
 qb (q_load st true 4 v9) fun v24 =>
 qb (q_load st true 4 v10) fun v25 =>
 qb (q_lit 4 2 0 [] [(0, v24), (1, v25)]) fun v26 =>
 qb (q_load st true 4 v11) fun v27 =>
 e_store st 4 v5 v27 fun st =>
 qb (q_load st true 4 v5) fun r => retR R (.tup [v17, v18, v26, r]) st) (panR R)) (panR R)
theorem c_spec_ProblemOf {a0 : PV} {st : St} {R : Res → St → Prop} (h : b_spec_ProblemOf a0 st R) : HCalls prog n_spec_ProblemOf [a0] st R :=
 hcalls_of_func tyOK mixed (fn := Go.Proofs.Tryz.f13) (by kernel_rfl) (by kernel_rfl) (by kernel_rfl) (ann := [])
  (show hFunc prog TT [] Go.Proofs.Tryz.f13 [a0] st R from (show hFunc prog TT [] Go.Proofs.Tryz.f13 [a0] st R = b_spec_ProblemOf a0 st R by kernel_rfl) ▸ h)
def b_spec_ClosedOf (a0 a1 : PV) (st : St) (R : Res → St → Prop) : Prop :=
 callK prog n_spec_l00Source [a0] st (fun v9 st =>
 qb (q_lit 4 0 0 [] []) fun v10 =>
 hFix (fun ls st X =>
  qb (q_len a1) fun v13 =>
  qb (q_bin .lss (ls.getD 1 .junk) v13) fun v14 =>
  cb v14 fun b => br b
   (qb (q_ia 4 a1 (ls.getD 1 .junk)) fun v21 =>
   qb (q_load st true 4 v21) fun v22 =>
   callK prog n_spec_l00Src_next [v9, (.int .i64 2)] st (fun v24 st =>
   q_load st true 4 v21 = some v22 ∧ (qb (q_bin .add (.int .i64 1) v24) fun v25 =>
   callK prog n_spec_l00Src_typed [v9, (.sl 0 true []), (.sl 0 true []), v22, v25] st (fun v26 st =>
   qb (q_lit 4 1 0 [] [(0, v26)]) fun v27 =>
   e_append st 4 56 (ls.getD 0 .junk) v27 (fun v28 st =>
   qb (q_bin .add (ls.getD 1 .junk) (.int .i64 1)) fun v16 =>
   X [v28, v16] st)) (panR R))) (panR R))
   (retR R (ls.getD 0 .junk) st))
  [v10, (.int .i64 0)] st) (panR R)
theorem c_spec_ClosedOf {a0 a1 : PV} {st : St} {R : Res → St → Prop} (h : b_spec_ClosedOf a0 a1 st R) : HCalls prog n_spec_ClosedOf [a0, a1] st R :=
 hcalls_of_func tyOK mixed (fn := Go.Proofs.Tryz.f14) (by kernel_rfl) (by kernel_rfl) (by kernel_rfl) (ann := [(16, [6, 7])])
  (show hFunc prog TT [(16, [6, 7])] Go.Proofs.Tryz.f14 [a0, a1] st R from (show hFunc prog TT [(16, [6, 7])] Go.Proofs.Tryz.f14 [a0, a1] st R = b_spec_ClosedOf a0 a1 st R by kernel_rfl) ▸ h)
def b_spec_TermOK (a0 : PV) (st : St) (R : Res → St → Prop) : Prop :=
 e_box st a0 fun v1 st =>
 qb (q_load st true 4 v1) fun v3 =>
 callK prog n_spec_l01Small [v3] st (fun v4 st =>
 cb v4 fun b => br b
  (qb (q_load st true 4 v1) fun v6 =>
  callK prog n_spec_l01Term [v6, (.bool false)] st (fun v7 st =>
  retR R v7 st) (panR R))
  (retR R (.bool false) st)) (panR R)
theorem c_spec_TermOK {a0 : PV} {st : St} {R : Res → St → Prop} (h : b_spec_TermOK a0 st R) : HCalls prog n_spec_TermOK [a0] st R :=
 hcalls_of_func tyOK mixed (fn := Go.Proofs.Tryz.f15) (by kernel_rfl) (by kernel_rfl) (by kernel_rfl) (ann := [])
  (show hFunc prog TT [] Go.Proofs.Tryz.f15 [a0] st R from (show hFunc prog TT [] Go.Proofs.Tryz.f15 [a0] st R = b_spec_TermOK a0 st R by kernel_rfl) ▸ h)
def b_laws_right (a0 : PV) (st : St) (R : Res → St → Prop) : Prop :=
 hFix (fun ls st X =>
  qb (q_len a0) fun v6 =>
  qb (q_bin .lss (ls.getD 0 .junk) v6) fun v7 =>
  cb v7 fun b => br b
   (qb (q_ia 4 a0 (ls.getD 0 .junk)) fun v12 =>
   qb (q_load st true 4 v12) fun v13 =>
   callK prog n_spec_TermOK [v13] st (fun v14 st =>
   qb (q_un .not v14) fun v15 =>
   cb v15 fun b_1 => br b_1
    (retR R (.bool false) st)
    (qb (q_bin .add (ls.getD 0 .junk) (.int .i64 1)) fun v9 =>
    X [v9] st)) (panR R))
   (retR R (.bool true) st))
  [(.int .i64 0)] st
theorem c_laws_right {a0 : PV} {st : St} {R : Res → St → Prop} (h : b_laws_right a0 st R) : HCalls prog n_laws_right [a0] st R :=
 hcalls_of_func tyOK mixed (fn := Go.Proofs.Tryz.f16) (by kernel_rfl) (by kernel_rfl) (by kernel_rfl) (ann := [(8, [3])])
  (show hFunc prog TT [(8, [3])] Go.Proofs.Tryz.f16 [a0] st R from (show hFunc prog TT [(8, [3])] Go.Proofs.Tryz.f16 [a0] st R = b_laws_right a0 st R by kernel_rfl) ▸ h)
def b_impl_Fill (a0 a1 a2 : PV) (st : St) (R : Res → St → Prop) : Prop :=
 e_box st a0 fun v3 st =>
 e_box st a1 fun v4 st =>
 e_box st a2 fun v5 st =>
 e_alloc st [.int .i64 0, .int .i64 0, .str [], .sl 0 true []] fun v6 st =>
 qb (q_load st false 1 v3) fun v9 =>
 qb (q_len v9) fun v10 =>
 qb (q_load st false 1 v4) fun v11 =>
 qb (q_len v11) fun v12 =>
 qb (q_lit 1 2 0 [] [(0, v10), (1, v12)]) fun v13 =>
 callK prog n_impl_longLists [v13] st (fun v14 st =>
 cb v14 fun b => br b
  (qb (q_struct [.int .i64 0, .int .i64 0, .str [], .sl 0 true []] []) fun v15 =>
  e_store st 4 v6 v15 fun st =>
  qb (q_load st true 4 v6) fun r => retR R (.tup [r, (.int .i64 2)]) st)
  (hJ (fun ls st =>
   cb (ls.getD 0 .junk) fun b_1 => br b_1
    (qb (q_struct [.int .i64 0, .int .i64 0, .str [], .sl 0 true []] []) fun v35 =>
    e_store st 4 v6 v35 fun st =>
    qb (q_load st true 4 v6) fun r_1 => retR R (.tup [r_1, (.int .i64 1)]) st)
    (qb (q_load st false 1 v4) fun v37 =>
    callK prog n_slices_ContainsFunc_impl_Tree_impl_Tree [v37, (.fn (.func n_impl_Fill_1) [] [])] st (fun v38 st =>
    cb v38 fun b_2 => br b_2
     (qb (q_struct [.int .i64 0, .int .i64 0, .str [], .sl 0 true []] []) fun v39 =>
     e_store st 4 v6 v39 fun st =>
     qb (q_load st true 4 v6) fun r_2 => retR R (.tup [r_2, (.int .i64 7)]) st)
     (callK prog n_impl_Tree_each [v5, (.int .i64 0), (.fn (.func n_impl_Fill_2) [] [v3])] st (fun v42 st =>
     cb v42 fun b_3 => br b_3
      (qb (q_struct [.int .i64 0, .int .i64 0, .str [], .sl 0 true []] []) fun v43 =>
      e_store st 4 v6 v43 fun st =>
      qb (q_load st true 4 v6) fun r_3 => retR R (.tup [r_3, (.int .i64 15)]) st)
      (callK prog n_impl_result [(.fn (.func n_impl_Fill_3) [] [v5, v4, v3])] st (fun v45 st =>
      qb (q_ex v45 0) fun v46 =>
      qb (q_ex v45 1) fun v47 =>
      e_store st 4 v6 v46 fun st =>
      qb (q_load st true 4 v6) fun r_4 => retR R (.tup [r_4, v47]) st) (panR R))) (panR R))) (panR R)))
   (fun k =>
  qb (q_load st false 1 v3) fun v17 =>
  callK prog n_impl_simplesOK [v17, (.int .i64 20)] st (fun v18 st =>
  qb (q_un .not v18) fun v19 =>
  cb v19 fun b_4 => br b_4
   (k [(.bool true)] st)
   (qb (q_load st false 1 v4) fun v21 =>
   qb (q_len v21) fun v22 =>
   qb (q_load st false 1 v3) fun v23 =>
   qb (q_len v23) fun v24 =>
   qb (q_bin .neq v22 v24) fun v25 =>
   cb v25 fun b_5 => br b_5
    (k [(.bool true)] st)
    (qb (q_load st false 1 v4) fun v28 =>
    callK prog n_slices_ContainsFunc_impl_Tree_impl_Tree [v28, (.fn (.func n_impl_badTerm) [] [])] st (fun v29 st =>
    cb v29 fun b_6 => br b_6
     (k [(.bool true)] st)
     (qb (q_load st true 4 v5) fun v32 =>
     callK prog n_impl_badTerm [v32] st (fun v33 st =>
     k [v33] st) (panR R))) (panR R)))) (panR R)))) (panR R)
theorem c_impl_Fill {a0 a1 a2 : PV} {st : St} {R : Res → St → Prop} (h : b_impl_Fill a0 a1 a2 st R) : HCalls prog n_impl_Fill [a0, a1, a2] st R :=
 hcalls_of_func tyOK mixed (fn := Go.Proofs.Tryz.f17) (by kernel_rfl) (by kernel_rfl) (by kernel_rfl) (ann := [(13, [16])])
  (show hFunc prog TT [(13, [16])] Go.Proofs.Tryz.f17 [a0, a1, a2] st R from (show hFunc prog TT [(13, [16])] Go.Proofs.Tryz.f17 [a0, a1, a2] st R = b_impl_Fill a0 a1 a2 st R by kernel_rfl) ▸ h)
def b_spec_Fill (a0 a1 a2 : PV) (st : St) (R : Res → St → Prop) : Prop :=
 e_box st a2 fun v5 st =>
 e_alloc st [.int .i64 0, .int .i64 0, .str [], .sl 0 true []] fun v6 st =>
 hJ (fun ls st =>
  cb (ls.getD 0 .junk) fun b => br b
   (qb (q_struct [.int .i64 0, .int .i64 0, .str [], .sl 0 true []] []) fun v19 =>
   e_store st 4 v6 v19 fun st =>
   qb (q_load st true 4 v6) fun r => retR R (.tup [r, (.int .i64 2)]) st)
   (hJ (fun ls_1 st =>
    cb (ls_1.getD 0 .junk) fun b_1 => br b_1
     (qb (q_struct [.int .i64 0, .int .i64 0, .str [], .sl 0 true []] []) fun v40 =>
     e_store st 4 v6 v40 fun st =>
     qb (q_load st true 4 v6) fun r_1 => retR R (.tup [r_1, (.int .i64 1)]) st)
     (hJ (fun ls_2 st =>
      qb (q_load st true 4 v5) fun v54 =>
      qb (q_len a0) fun v56 =>
      callK prog n_spec_l06Known [v54, v56] st (fun v57 st =>
      qb (q_un .not v57) fun v58 =>
      cb v58 fun b_2 => br b_2
       (qb (q_struct [.int .i64 0, .int .i64 0, .str [], .sl 0 true []] []) fun v59 =>
       e_store st 4 v6 v59 fun st =>
       qb (q_load st true 4 v6) fun r_2 => retR R (.tup [r_2, (.int .i64 15)]) st)
       (qb (q_struct [.int .i64 0] []) fun v62 =>
       e_box st v62 fun v63 st =>
       qb (q_struct [.sl 0 true [], .sl 0 true [], .sl 0 true [], .nilp, .int .i64 0] [(1, 1, a0), (2, 1, a1), (3, 1, v63)]) fun v64 =>
       e_box st v64 fun v65 st =>
       qb (q_load st true 4 v5) fun v67 =>
       callK prog n_spec_l06Run_fill [v65, v67] st (fun v68 st =>
       e_alloc st [.int .i64 0, .int .i64 0, .str [], .sl 0 true []] fun v10 st =>
       e_store st 4 v10 v68 fun st =>
       qb (q_nil v65) fun v70 =>
       qb (q_fa 4 v70) fun v71 =>
       qb (q_load st false 1 v71) fun v72 =>
       qb (q_bin .neq v72 (.int .i64 0)) fun v73 =>
       cb v73 fun b_3 => br b_3
        (qb (q_struct [.int .i64 0, .int .i64 0, .str [], .sl 0 true []] []) fun v74 =>
        qb (q_nil v65) fun v76 =>
        qb (q_fa 4 v76) fun v77 =>
        qb (q_load st false 1 v77) fun v78 =>
        e_store st 4 v6 v74 fun st =>
        q_load st false 1 v77 = some v78 ∧ (qb (q_load st true 4 v6) fun r_3 => retR R (.tup [r_3, v78]) st))
        (qb (q_load st true 4 v10) fun v79 =>
        e_store st 4 v6 v79 fun st =>
        qb (q_load st true 4 v6) fun r_4 => retR R (.tup [r_4, (.int .i64 0)]) st)) (panR R))) (panR R))
      (fun k_2 =>
     hFix (fun ls_3 st X =>
      qb (q_len a1) fun v43 =>
      qb (q_bin .lss (ls_3.getD 0 .junk) v43) fun v44 =>
      cb v44 fun b_4 => br b_4
       (qb (q_ia 4 a1 (ls_3.getD 0 .junk)) fun v49 =>
       qb (q_load st true 4 v49) fun v50 =>
       callK prog n_spec_l02Closed [v50, (.int .i64 0)] st (fun v51 st =>
       qb (q_un .not v51) fun v52 =>
       cb v52 fun b_5 => br b_5
        (qb (q_struct [.int .i64 0, .int .i64 0, .str [], .sl 0 true []] []) fun v53 =>
        e_store st 4 v6 v53 fun st =>
        qb (q_load st true 4 v6) fun r_5 => retR R (.tup [r_5, (.int .i64 7)]) st)
        (qb (q_bin .add (ls_3.getD 0 .junk) (.int .i64 1)) fun v46 =>
        X [v46] st)) (panR R))
       (k_2 [] st))
      [(.int .i64 0)] st)))
    (fun k_1 =>
   callK prog n_spec_l03Simples [a0, (.int .i64 20)] st (fun v21 st =>
   qb (q_un .not v21) fun v22 =>
   cb v22 fun b_6 => br b_6
    (k_1 [(.bool true)] st)
    (qb (q_len a1) fun v25 =>
    qb (q_len a0) fun v27 =>
    qb (q_bin .neq v25 v27) fun v28 =>
    cb v28 fun b_7 => br b_7
     (k_1 [(.bool true)] st)
     (callK prog n_spec_l03Spine [a1] st (fun v32 st =>
     qb (q_un .not v32) fun v33 =>
     cb v33 fun b_8 => br b_8
      (k_1 [(.bool true)] st)
      (qb (q_load st true 4 v5) fun v36 =>
      callK prog n_spec_TermOK [v36] st (fun v37 st =>
      qb (q_un .not v37) fun v38 =>
      k_1 [v38] st) (panR R))) (panR R)))) (panR R))))
  (fun k =>
 qb (q_len a0) fun v12 =>
 qb (q_bin .gtr v12 (.int .i64 4096)) fun v13 =>
 cb v13 fun b_9 => br b_9
  (k [(.bool true)] st)
  (qb (q_len a1) fun v16 =>
  qb (q_bin .gtr v16 (.int .i64 4096)) fun v17 =>
  k [v17] st))
theorem c_spec_Fill {a0 a1 a2 : PV} {st : St} {R : Res → St → Prop} (h : b_spec_Fill a0 a1 a2 st R) : HCalls prog n_spec_Fill [a0, a1, a2] st R :=
 hcalls_of_func tyOK mixed (fn := Go.Proofs.Tryz.f18) (by kernel_rfl) (by kernel_rfl) (by kernel_rfl) (ann := [(24, [8]), (3, []), (5, [18]), (13, [39])])
  (show hFunc prog TT [(24, [8]), (3, []), (5, [18]), (13, [39])] Go.Proofs.Tryz.f18 [a0, a1, a2] st R from (show hFunc prog TT [(24, [8]), (3, []), (5, [18]), (13, [39])] Go.Proofs.Tryz.f18 [a0, a1, a2] st R = b_spec_Fill a0 a1 a2 st R by kernel_rfl) ▸ h)
def b_spec_l00Source (a0 : PV) (st : St) (R : Res → St → Prop) : Prop :=
 qb (q_len a0) fun v5 =>
 qb (q_bin .rem v5 (.int .i64 1000)) fun v6 =>
 qb (q_struct [.sl 0 true [], .int .i64 0, .int .i64 0] [(0, 1, a0), (2, 1, v6)]) fun v7 =>
 e_box st v7 fun v8 st =>
 retR R v8 st
theorem c_spec_l00Source {a0 : PV} {st : St} {R : Res → St → Prop} (h : b_spec_l00Source a0 st R) : HCalls prog n_spec_l00Source [a0] st R :=
 hcalls_of_func tyOK mixed (fn := Go.Proofs.Tryz.f19) (by kernel_rfl) (by kernel_rfl) (by kernel_rfl) (ann := [])
  (show hFunc prog TT [] Go.Proofs.Tryz.f19 [a0] st R from (show hFunc prog TT [] Go.Proofs.Tryz.f19 [a0] st R = b_spec_l00Source a0 st R by kernel_rfl) ▸ h)
def b_spec_l01Base (a0 : PV) (st : St) (R : Res → St → Prop) : Prop :=
 e_alloc st [.int .i64 0, .int .i64 0, .str [], .sl 0 true []] fun v2 st =>
 qb (q_struct [.int .i64 0, .int .i64 0, .str [], .sl 0 true []] [(0, 1, (.int .i64 9)), (2, 1, a0)]) fun v4 =>
 e_store st 4 v2 v4 fun st =>
 qb (q_load st true 4 v2) fun r => retR R r st
theorem c_spec_l01Base {a0 : PV} {st : St} {R : Res → St → Prop} (h : b_spec_l01Base a0 st R) : HCalls prog n_spec_l01Base [a0] st R :=
 hcalls_of_func tyOK mixed (fn := Go.Proofs.Tryz.f20) (by kernel_rfl) (by kernel_rfl) (by kernel_rfl) (ann := [])
  (show hFunc prog TT [] Go.Proofs.Tryz.f20 [a0] st R from (show hFunc prog TT [] Go.Proofs.Tryz.f20 [a0] st R = b_spec_l01Base a0 st R by kernel_rfl) ▸ h)
def b_spec_l01Arrow (a0 a1 : PV) (st : St) (R : Res → St → Prop) : Prop :=
 e_box st a0 fun v2 st =>
 e_box st a1 fun v3 st =>
 e_alloc st [.int .i64 0, .int .i64 0, .str [], .sl 0 true []] fun v4 st =>
 qb (q_load st true 4 v2) fun v5 =>
 qb (q_load st true 4 v3) fun v6 =>
 qb (q_lit 4 2 0 [] [(0, v5), (1, v6)]) fun v7 =>
 qb (q_struct [.int .i64 0, .int .i64 0, .str [], .sl 0 true []] [(0, 1, (.int .i64 10)), (3, 1, v7)]) fun v8 =>
 e_store st 4 v4 v8 fun st =>
 qb (q_load st true 4 v4) fun r => retR R r st
theorem c_spec_l01Arrow {a0 a1 : PV} {st : St} {R : Res → St → Prop} (h : b_spec_l01Arrow a0 a1 st R) : HCalls prog n_spec_l01Arrow [a0, a1] st R :=
 hcalls_of_func tyOK mixed (fn := Go.Proofs.Tryz.f21) (by kernel_rfl) (by kernel_rfl) (by kernel_rfl) (ann := [])
  (show hFunc prog TT [] Go.Proofs.Tryz.f21 [a0, a1] st R from (show hFunc prog TT [] Go.Proofs.Tryz.f21 [a0, a1] st R = b_spec_l01Arrow a0 a1 st R by kernel_rfl) ▸ h)
end Go.H.Tryz
