/- Part of a proof that the program answers as the reference does: ZGS1. -/
import Derived.Test.YtipmjpjaklmpfaaGreatDoorHT
set_option linter.unusedVariables false
set_option maxRecDepth 100000
namespace Go.H.Tryz
open Go Go.H
def b_spec_l00Src_next (a0 a1 : PV) (st : St) (R : Res → St → Prop) : Prop :=
 qb (q_bin .leq a1 (.int .i64 1)) fun v9 =>
 cb v9 fun b => br b
  (retR R (.int .i64 0) st)
  (qb (q_bin .leq a1 (.int .i64 256)) fun v11 =>
  cb v11 fun b_1 => br b_1
   (callK prog n_spec_l00Src_byte [a0] st (fun v13 st =>
   qb (q_bin .rem v13 a1) fun v15 =>
   retR R v15 st) (panR R))
   (callK prog n_spec_l00Src_byte [a0] st (fun v17 st =>
   callK prog n_spec_l00Src_byte [a0] st (fun v19 st =>
   callK prog n_spec_l00Src_byte [a0] st (fun v21 st =>
   qb (q_bin .mul v17 (.int .i64 65536)) fun v23 =>
   qb (q_bin .mul v19 (.int .i64 256)) fun v25 =>
   qb (q_bin .add v23 v25) fun v26 =>
   qb (q_bin .add v26 v21) fun v28 =>
   qb (q_bin .rem v28 a1) fun v30 =>
   retR R v30 st) (panR R)) (panR R)) (panR R)))
theorem c_spec_l00Src_next {a0 a1 : PV} {st : St} {R : Res → St → Prop} (h : b_spec_l00Src_next a0 a1 st R) : HCalls prog n_spec_l00Src_next [a0, a1] st R :=
 hcalls_of_func tyOK mixed (fn := Go.Proofs.Tryz.f23) (by kernel_rfl) (by kernel_rfl) (by kernel_rfl) (ann := [])
  (show hFunc prog TT [] Go.Proofs.Tryz.f23 [a0, a1] st R from (show hFunc prog TT [] Go.Proofs.Tryz.f23 [a0, a1] st R = b_spec_l00Src_next a0 a1 st R by kernel_rfl) ▸ h)
def b_spec_l04More (a0 a1 : PV) (st : St) (R : Res → St → Prop) : Prop :=
 e_box st a1 fun v3 st =>
 qb (q_lit 4 0 0 [] []) fun v5 =>
 qb (q_load st true 4 v3) fun v8 =>
 qb (q_lit 4 1 0 [] [(0, v8)]) fun v9 =>
 e_append st 4 56 v5 a0 (fun v7 st =>
 q_load st true 4 v3 = some v8 ∧ (e_append st 4 56 v7 v9 (fun v10 st =>
 retR R v10 st)))
theorem c_spec_l04More {a0 a1 : PV} {st : St} {R : Res → St → Prop} (h : b_spec_l04More a0 a1 st R) : HCalls prog n_spec_l04More [a0, a1] st R :=
 hcalls_of_func tyOK mixed (fn := Go.Proofs.Tryz.f24) (by kernel_rfl) (by kernel_rfl) (by kernel_rfl) (ann := [])
  (show hFunc prog TT [] Go.Proofs.Tryz.f24 [a0, a1] st R from (show hFunc prog TT [] Go.Proofs.Tryz.f24 [a0, a1] st R = b_spec_l04More a0 a1 st R by kernel_rfl) ▸ h)
def b_impl_TermOK (a0 : PV) (st : St) (R : Res → St → Prop) : Prop :=
 e_box st a0 fun v1 st =>
 qb (q_load st true 4 v1) fun v4 =>
 callK prog n_impl_fresh [] st (fun v3 st =>
 q_load st true 4 v1 = some v4 ∧ (callK prog n_impl_looker_term [v3, v4] st (fun v5 st =>
 retR R v5 st) (panR R))) (panR R)
theorem c_impl_TermOK {a0 : PV} {st : St} {R : Res → St → Prop} (h : b_impl_TermOK a0 st R) : HCalls prog n_impl_TermOK [a0] st R :=
 hcalls_of_func tyOK mixed (fn := Go.Proofs.Tryz.f26) (by kernel_rfl) (by kernel_rfl) (by kernel_rfl) (ann := [])
  (show hFunc prog TT [] Go.Proofs.Tryz.f26 [a0] st R from (show hFunc prog TT [] Go.Proofs.Tryz.f26 [a0] st R = b_impl_TermOK a0 st R by kernel_rfl) ▸ h)
def b_impl_SimpleOK (a0 : PV) (st : St) (R : Res → St → Prop) : Prop :=
 e_box st a0 fun v1 st =>
 qb (q_load st true 4 v1) fun v4 =>
 callK prog n_impl_fresh [] st (fun v3 st =>
 q_load st true 4 v1 = some v4 ∧ (callK prog n_impl_looker_simple [v3, v4] st (fun v5 st =>
 retR R v5 st) (panR R))) (panR R)
theorem c_impl_SimpleOK {a0 : PV} {st : St} {R : Res → St → Prop} (h : b_impl_SimpleOK a0 st R) : HCalls prog n_impl_SimpleOK [a0] st R :=
 hcalls_of_func tyOK mixed (fn := Go.Proofs.Tryz.f27) (by kernel_rfl) (by kernel_rfl) (by kernel_rfl) (ann := [])
  (show hFunc prog TT [] Go.Proofs.Tryz.f27 [a0] st R from (show hFunc prog TT [] Go.Proofs.Tryz.f27 [a0] st R = b_impl_SimpleOK a0 st R by kernel_rfl) ▸ h)
def b_impl_result (a0 : PV) (st : St) (R : Res → St → Prop) : Prop :=
 e_box st a0 fun v1 st =>
 e_alloc st [.int .i64 0, .int .i64 0, .str [], .sl 0 true []] fun v2 st =>
 qb (q_struct [.int .i64 0, .int .i64 0, .str [], .sl 0 true []] []) fun v6 =>
 e_alloc st [.int .i64 0, .int .i64 0, .str [], .sl 0 true []] fun v4 st =>
 e_store st 4 v4 v6 fun st =>
 callK prog n_impl_caught [(.fn (.func n_impl_result_1) [] [v1, v4])] st (fun v8 st =>
 e_alloc st [.int .i64 0, .int .i64 0] fun v5 st =>
 e_store st 2 v5 v8 fun st =>
 qb (q_fa 0 v5) fun v9 =>
 qb (q_load st false 1 v9) fun v10 =>
 qb (q_bin .neq v10 (.int .i64 0)) fun v11 =>
 cb v11 fun b => br b
  (qb (q_struct [.int .i64 0, .int .i64 0, .str [], .sl 0 true []] []) fun v12 =>
  qb (q_fa 0 v5) fun v13 =>
  qb (q_load st false 1 v13) fun v14 =>
  e_store st 4 v2 v12 fun st =>
  q_load st false 1 v13 = some v14 ∧ (qb (q_load st true 4 v2) fun r => retR R (.tup [r, v14]) st))
  (qb (q_load st true 4 v4) fun v15 =>
  callK prog n_impl_clone [v15] st (fun v16 st =>
  e_store st 4 v2 v16 fun st =>
  qb (q_load st true 4 v2) fun r_1 => retR R (.tup [r_1, (.int .i64 0)]) st) (panR R))) (panR R)
theorem c_impl_result {a0 : PV} {st : St} {R : Res → St → Prop} (h : b_impl_result a0 st R) : HCalls prog n_impl_result [a0] st R :=
 hcalls_of_func tyOK mixed (fn := Go.Proofs.Tryz.f29) (by kernel_rfl) (by kernel_rfl) (by kernel_rfl) (ann := [])
  (show hFunc prog TT [] Go.Proofs.Tryz.f29 [a0] st R from (show hFunc prog TT [] Go.Proofs.Tryz.f29 [a0] st R = b_impl_result a0 st R by kernel_rfl) ▸ h)
def b_impl_work_put (a0 a1 a2 a3 a4 : PV) (st : St) (R : Res → St → Prop) : Prop :=
 e_box st a1 fun v6 st =>
 e_box st a2 fun v7 st =>
 e_box st a4 fun v9 st =>
 e_alloc st [.int .i64 0, .int .i64 0, .str [], .sl 0 true []] fun v10 st =>
 qb (q_lit 4 0 0 [] []) fun v14 =>
 qb (q_fa 3 v9) fun v15 =>
 qb (q_load st false 1 v15) fun v16 =>
 qb (q_len v16) fun v17 =>
 hJ (fun ls st =>
  hJ (fun ls_1 st =>
   cb (ls_1.getD 0 .junk) fun b => br b
    (qb (q_load st true 4 v6) fun v46 =>
    qb (q_load st true 4 v7) fun v50 =>
    callK prog n_impl_lift [v46, (.int .i64 0), a3] st (fun v48 st =>
    q_load st true 4 v7 = some v50 ∧ (callK prog n_impl_formed [v48] st (fun v49 st =>
    q_load st true 4 v7 = some v50 ∧ (callK prog n_impl_work_apply [a0, v49, v50, (ls.getD 0 .junk)] st (fun v52 st =>
    e_store st 4 v10 v52 fun st =>
    qb (q_load st true 4 v10) fun r => retR R r st) (panR R))) (panR R))) (panR R))
    (hJ (fun ls_2 st =>
     hJ (fun ls_3 st =>
      qb (q_fa 3 v9) fun v67 =>
      e_store st 1 v67 (ls.getD 0 .junk) fun st =>
      qb (q_load st true 4 v9) fun v68 =>
      callK prog n_impl_formed [v68] st (fun v69 st =>
      e_store st 4 v10 v69 fun st =>
      qb (q_load st true 4 v10) fun r_1 => retR R r_1 st) (panR R))
      (fun k_3 =>
     cb (ls_2.getD 0 .junk) fun b_1 => br b_1
      (qb (q_fa 1 v9) fun v62 =>
      qb (q_load st false 1 v62) fun v63 =>
      qb (q_bin .sub v63 (.int .i64 1)) fun v64 =>
      qb (q_fa 1 v9) fun v65 =>
      e_store st 1 v65 v64 fun st =>
      k_3 [] st)
      (k_3 [] st)))
     (fun k_2 =>
    qb (q_fa 0 v9) fun v53 =>
    qb (q_load st false 1 v53) fun v54 =>
    qb (q_bin .eql v54 (.int .i64 5)) fun v55 =>
    cb v55 fun b_2 => br b_2
     (qb (q_fa 1 v9) fun v57 =>
     qb (q_load st false 1 v57) fun v58 =>
     qb (q_bin .gtr v58 a3) fun v60 =>
     k_2 [v60] st)
     (k_2 [(.bool false)] st))))
   (fun k_1 =>
  qb (q_fa 0 v9) fun v36 =>
  qb (q_load st false 1 v36) fun v37 =>
  qb (q_bin .eql v37 (.int .i64 5)) fun v38 =>
  cb v38 fun b_3 => br b_3
   (qb (q_fa 1 v9) fun v40 =>
   qb (q_load st false 1 v40) fun v41 =>
   qb (q_bin .eql v41 a3) fun v43 =>
   k_1 [v43] st)
   (k_1 [(.bool false)] st)))
  (fun k =>
 hFix (fun ls_4 st X =>
  qb (q_bin .lss (ls_4.getD 1 .junk) v17) fun v19 =>
  cb v19 fun b_4 => br b_4
   (qb (q_ia 4 v16 (ls_4.getD 1 .junk)) fun v21 =>
   qb (q_load st true 4 v21) fun v22 =>
   e_alloc st [.int .i64 0, .int .i64 0, .str [], .sl 0 true []] fun v13 st =>
   e_store st 4 v13 v22 fun st =>
   qb (q_load st true 4 v6) fun v25 =>
   qb (q_load st true 4 v7) fun v26 =>
   qb (q_load st true 4 v13) fun v31 =>
   callK prog n_impl_Tree_under [v9, (ls_4.getD 1 .junk)] st (fun v29 st =>
   q_load st true 4 v13 = some v31 ∧ q_load st true 4 v7 = some v26 ∧ q_load st true 4 v6 = some v25 ∧ (qb (q_bin .add a3 v29) fun v30 =>
   callK prog n_impl_work_put [a0, v25, v26, v30, v31] st (fun v32 st =>
   qb (q_lit 4 1 0 [] [(0, v32)]) fun v33 =>
   e_append st 4 56 (ls_4.getD 0 .junk) v33 (fun v34 st =>
   qb (q_bin .add (ls_4.getD 1 .junk) (.int .i64 1)) fun v35 =>
   X [v34, v35] st)) (panR R))) (panR R))
   (k [(ls_4.getD 0 .junk)] st))
  [v14, (.int .i64 0)] st)
theorem c_impl_work_put {a0 a1 a2 a3 a4 : PV} {st : St} {R : Res → St → Prop} (h : b_impl_work_put a0 a1 a2 a3 a4 st R) : HCalls prog n_impl_work_put [a0, a1, a2, a3, a4] st R :=
 hcalls_of_func tyOK mixed (fn := Go.Proofs.Tryz.f31) (by kernel_rfl) (by kernel_rfl) (by kernel_rfl) (ann := [(12, [11, 18]), (3, [11]), (29, [44]), (37, [61]), (42, [])])
  (show hFunc prog TT [(12, [11, 18]), (3, [11]), (29, [44]), (37, [61]), (42, [])] Go.Proofs.Tryz.f31 [a0, a1, a2, a3, a4] st R from (show hFunc prog TT [(12, [11, 18]), (3, [11]), (29, [44]), (37, [61]), (42, [])] Go.Proofs.Tryz.f31 [a0, a1, a2, a3, a4] st R = b_impl_work_put a0 a1 a2 a3 a4 st R by kernel_rfl) ▸ h)
def b_spec_SimpleOK (a0 : PV) (st : St) (R : Res → St → Prop) : Prop :=
 e_box st a0 fun v1 st =>
 qb (q_load st true 4 v1) fun v3 =>
 callK prog n_spec_l01Small [v3] st (fun v4 st =>
 cb v4 fun b => br b
  (qb (q_load st true 4 v1) fun v6 =>
  callK prog n_spec_l01Simple [v6] st (fun v7 st =>
  retR R v7 st) (panR R))
  (retR R (.bool false) st)) (panR R)
theorem c_spec_SimpleOK {a0 : PV} {st : St} {R : Res → St → Prop} (h : b_spec_SimpleOK a0 st R) : HCalls prog n_spec_SimpleOK [a0] st R :=
 hcalls_of_func tyOK mixed (fn := Go.Proofs.Tryz.f32) (by kernel_rfl) (by kernel_rfl) (by kernel_rfl) (ann := [])
  (show hFunc prog TT [] Go.Proofs.Tryz.f32 [a0] st R from (show hFunc prog TT [] Go.Proofs.Tryz.f32 [a0] st R = b_spec_SimpleOK a0 st R by kernel_rfl) ▸ h)
def b_spec_l03Run_sub (a0 a1 a2 a3 a4 : PV) (st : St) (R : Res → St → Prop) : Prop :=
 e_box st a1 fun v6 st =>
 e_box st a2 fun v7 st =>
 e_box st a3 fun v8 st =>
 e_alloc st [.int .i64 0, .int .i64 0, .str [], .sl 0 true []] fun v10 st =>
 qb (q_lit 4 0 0 [] []) fun v18 =>
 hJ (fun ls st =>
  hJ (fun ls_1 st =>
   cb (ls_1.getD 0 .junk) fun b => br b
    (qb (q_load st true 4 v6) fun v60 =>
    callK prog n_spec_l01Lift [v60, (.int .i64 0), a4] st (fun v62 st =>
    e_alloc st [.int .i64 0, .int .i64 0, .str [], .sl 0 true []] fun v16 st =>
    e_store st 4 v16 v62 fun st =>
    qb (q_load st true 4 v16) fun v63 =>
    callK prog n_spec_l03Big [v63] st (fun v64 st =>
    cb v64 fun b_1 => br b_1
     (qb (q_struct [.int .i64 0, .int .i64 0, .str [], .sl 0 true []] []) fun v65 =>
     e_store st 4 v10 v65 fun st =>
     qb (q_load st true 4 v10) fun r => retR R (.tup [r, (.int .i64 11)]) st)
     (qb (q_load st true 4 v16) fun v67 =>
     qb (q_load st true 4 v7) fun v68 =>
     callK prog n_spec_l03Run_reduce [a0, v67, v68, (ls.getD 0 .junk)] st (fun v70 st =>
     qb (q_ex v70 0) fun v71 =>
     qb (q_ex v70 1) fun v72 =>
     e_store st 4 v10 v71 fun st =>
     qb (q_load st true 4 v10) fun r_1 => retR R (.tup [r_1, v72]) st) (panR R))) (panR R)) (panR R))
    (qb (q_load st true 4 v8) fun v73 =>
    callK prog n_spec_l01With [v73, (ls.getD 0 .junk)] st (fun v75 st =>
    e_alloc st [.int .i64 0, .int .i64 0, .str [], .sl 0 true []] fun v17 st =>
    e_store st 4 v17 v75 fun st =>
    hJ (fun ls_2 st =>
     hJ (fun ls_3 st =>
      qb (q_load st true 4 v17) fun v89 =>
      callK prog n_spec_l03Big [v89] st (fun v90 st =>
      cb v90 fun b_3 => br b_3
       (qb (q_struct [.int .i64 0, .int .i64 0, .str [], .sl 0 true []] []) fun v91 =>
       e_store st 4 v10 v91 fun st =>
       qb (q_load st true 4 v10) fun r_2 => retR R (.tup [r_2, (.int .i64 11)]) st)
       (qb (q_load st true 4 v17) fun v92 =>
       e_store st 4 v10 v92 fun st =>
       qb (q_load st true 4 v10) fun r_3 => retR R (.tup [r_3, (.int .i64 0)]) st)) (panR R))
      (fun k_3 =>
     cb (ls_2.getD 0 .junk) fun b_2 => br b_2
      (qb (q_fa 1 v17) fun v85 =>
      qb (q_load st false 1 v85) fun v86 =>
      qb (q_bin .sub v86 (.int .i64 1)) fun v87 =>
      qb (q_fa 1 v17) fun v88 =>
      e_store st 1 v88 v87 fun st =>
      k_3 [] st)
      (k_3 [] st)))
     (fun k_2 =>
    qb (q_fa 0 v8) fun v76 =>
    qb (q_load st false 1 v76) fun v77 =>
    qb (q_bin .eql v77 (.int .i64 5)) fun v78 =>
    cb v78 fun b_4 => br b_4
     (qb (q_fa 1 v8) fun v80 =>
     qb (q_load st false 1 v80) fun v81 =>
     qb (q_bin .gtr v81 a4) fun v83 =>
     k_2 [v83] st)
     (k_2 [(.bool false)] st))) (panR R)))
   (fun k_1 =>
  qb (q_fa 0 v8) fun v51 =>
  qb (q_load st false 1 v51) fun v52 =>
  qb (q_bin .eql v52 (.int .i64 5)) fun v53 =>
  cb v53 fun b_5 => br b_5
   (qb (q_fa 1 v8) fun v55 =>
   qb (q_load st false 1 v55) fun v56 =>
   qb (q_bin .eql v56 a4) fun v58 =>
   k_1 [v58] st)
   (k_1 [(.bool false)] st)))
  (fun k =>
 hFix (fun ls_4 st X =>
  qb (q_fa 3 v8) fun v20 =>
  qb (q_load st false 1 v20) fun v21 =>
  qb (q_len v21) fun v22 =>
  qb (q_bin .lss (ls_4.getD 1 .junk) v22) fun v23 =>
  cb v23 fun b_6 => br b_6
   (hJ (fun ls_5 st =>
    qb (q_bin .neq (ls_5.getD 1 .junk) (.int .i64 0)) fun v44 =>
    cb v44 fun b_7 => br b_7
     (qb (q_struct [.int .i64 0, .int .i64 0, .str [], .sl 0 true []] []) fun v45 =>
     e_store st 4 v10 v45 fun st =>
     qb (q_load st true 4 v10) fun r_4 => retR R (.tup [r_4, (ls_5.getD 1 .junk)]) st)
     (qb (q_load st true 4 (ls_5.getD 0 .junk)) fun v48 =>
     qb (q_lit 4 1 0 [] [(0, v48)]) fun v49 =>
     e_append st 4 56 (ls_4.getD 0 .junk) v49 (fun v50 st =>
     qb (q_bin .add (ls_4.getD 1 .junk) (.int .i64 1)) fun v25 =>
     X [v50, v25] st)))
    (fun k_4 =>
   qb (q_load st true 4 v6) fun v28 =>
   qb (q_load st true 4 v7) fun v29 =>
   qb (q_fa 3 v8) fun v30 =>
   qb (q_load st false 1 v30) fun v31 =>
   qb (q_ia 4 v31 (ls_4.getD 1 .junk)) fun v33 =>
   qb (q_load st true 4 v33) fun v34 =>
   qb (q_load st true 4 v8) fun v36 =>
   (callK prog n_spec_l01Under [v36, (ls_4.getD 1 .junk)] st (fun v38 st =>
   q_load st true 4 v33 = some v34 ∧ q_load st false 1 v30 = some v31 ∧ q_load st true 4 v7 = some v29 ∧ q_load st true 4 v6 = some v28 ∧ (qb (q_bin .add a4 v38) fun v39 =>
   (callK prog n_spec_l03Run_sub [a0, v28, v29, v34, v39] st (fun v40 st =>
   qb (q_ex v40 0) fun v41 =>
   qb (q_ex v40 1) fun v42 =>
   e_alloc st [.int .i64 0, .int .i64 0, .str [], .sl 0 true []] fun v14 st =>
   q_load st true 4 v8 = some v36 ∧ q_load st true 4 v33 = some v34 ∧ q_load st false 1 v30 = some v31 ∧ q_load st true 4 v7 = some v29 ∧ q_load st true 4 v6 = some v28 ∧ (e_store st 4 v14 v41 fun st =>
   k_4 [v14, v42] st)) (panR R)) ∧
   (e_alloc st [.int .i64 0, .int .i64 0, .str [], .sl 0 true []] fun v14_1 st =>
   q_load st true 4 v8 = some v36 ∧ q_load st true 4 v33 = some v34 ∧ q_load st false 1 v30 = some v31 ∧ q_load st true 4 v7 = some v29 ∧ q_load st true 4 v6 = some v28 ∧ (callK prog n_spec_l03Run_sub [a0, v28, v29, v34, v39] st (fun v40_1 st =>
   qb (q_ex v40_1 0) fun v41_1 =>
   qb (q_ex v40_1 1) fun v42_1 =>
   e_store st 4 v14_1 v41_1 fun st =>
   k_4 [v14_1, v42_1] st) (panR R))))) (panR R)) ∧
   (e_alloc st [.int .i64 0, .int .i64 0, .str [], .sl 0 true []] fun v14_2 st =>
   q_load st true 4 v8 = some v36 ∧ q_load st true 4 v33 = some v34 ∧ q_load st false 1 v30 = some v31 ∧ q_load st true 4 v7 = some v29 ∧ q_load st true 4 v6 = some v28 ∧ (callK prog n_spec_l01Under [v36, (ls_4.getD 1 .junk)] st (fun v38_1 st =>
   q_load st true 4 v33 = some v34 ∧ q_load st false 1 v30 = some v31 ∧ q_load st true 4 v7 = some v29 ∧ q_load st true 4 v6 = some v28 ∧ (qb (q_bin .add a4 v38_1) fun v39_1 =>
   callK prog n_spec_l03Run_sub [a0, v28, v29, v34, v39_1] st (fun v40_2 st =>
   qb (q_ex v40_2 0) fun v41_2 =>
   qb (q_ex v40_2 1) fun v42_2 =>
   e_store st 4 v14_2 v41_2 fun st =>
   k_4 [v14_2, v42_2] st) (panR R))) (panR R)))))
   (k [(ls_4.getD 0 .junk)] st))
  [v18, (.int .i64 0)] st)
theorem c_spec_l03Run_sub {a0 a1 a2 a3 a4 : PV} {st : St} {R : Res → St → Prop} (h : b_spec_l03Run_sub a0 a1 a2 a3 a4 st R) : HCalls prog n_spec_l03Run_sub [a0, a1, a2, a3, a4] st R :=
 hcalls_of_func tyOK mixed (fn := Go.Proofs.Tryz.f34) (by kernel_rfl) (by kernel_rfl) (by kernel_rfl) (ann := [(12, [12, 13]), (3, [12]), (21, [14, 15]), (37, [59]), (61, [84]), (66, [])])
  (show hFunc prog TT [(12, [12, 13]), (3, [12]), (21, [14, 15]), (37, [59]), (61, [84]), (66, [])] Go.Proofs.Tryz.f34 [a0, a1, a2, a3, a4] st R from (show hFunc prog TT [(12, [12, 13]), (3, [12]), (21, [14, 15]), (37, [59]), (61, [84]), (66, [])] Go.Proofs.Tryz.f34 [a0, a1, a2, a3, a4] st R = b_spec_l03Run_sub a0 a1 a2 a3 a4 st R by kernel_rfl) ▸ h)
def b_impl_longLists (a0 : PV) (st : St) (R : Res → St → Prop) : Prop :=
 callK prog n_slices_Max_int_int [a0] st (fun v4 st =>
 qb (q_bin .gtr v4 (.int .i64 4096)) fun v5 =>
 retR R v5 st) (panR R)
theorem c_impl_longLists {a0 : PV} {st : St} {R : Res → St → Prop} (h : b_impl_longLists a0 st R) : HCalls prog n_impl_longLists [a0] st R :=
 hcalls_of_func tyOK mixed (fn := Go.Proofs.Tryz.f35) (by kernel_rfl) (by kernel_rfl) (by kernel_rfl) (ann := [])
  (show hFunc prog TT [] Go.Proofs.Tryz.f35 [a0] st R from (show hFunc prog TT [] Go.Proofs.Tryz.f35 [a0] st R = b_impl_longLists a0 st R by kernel_rfl) ▸ h)
def b_impl_constsOK (a0 : PV) (st : St) (R : Res → St → Prop) : Prop :=
 qb (q_len a0) fun v7 =>
 qb (q_bin .gtr v7 (.int .i64 60)) fun v8 =>
 cb v8 fun b => br b
  (retR R (.bool false) st)
  (e_mkmap st fun v9 st =>
  qb (q_len a0) fun v11 =>
  hFix (fun ls st X =>
   qb (q_bin .lss (ls.getD 0 .junk) v11) fun v13 =>
   cb v13 fun b_1 => br b_1
    (qb (q_ia 5 a0 (ls.getD 0 .junk)) fun v14 =>
    qb (q_load st true 5 v14) fun v15 =>
    e_alloc st [.str [], .int .i64 0, .int .i64 0, .str [], .sl 0 true []] fun v5 st =>
    e_store st 5 v5 v15 fun st =>
    qb (q_fa 0 v5) fun v16 =>
    qb (q_load st false 1 v16) fun v17 =>
    callK prog n_impl_NameOK [v17] st (fun v18 st =>
    qb (q_un .not v18) fun v19 =>
    cb v19 fun b_2 => br b_2
     (retR R (.bool false) st)
     (qb (q_fa 0 v5) fun v22 =>
     qb (q_load st false 1 v22) fun v23 =>
     qb (q_lookup st .string (.bool false) false v9 v23) fun v24 =>
     cb v24 fun b_3 => br b_3
      (retR R (.bool false) st)
      (qb (q_fa 1 v5) fun v27 =>
      qb (q_load st true 4 v27) fun v28 =>
      callK prog n_impl_badSimple [v28] st (fun v29 st =>
      cb v29 fun b_4 => br b_4
       (retR R (.bool false) st)
       (qb (q_fa 0 v5) fun v32 =>
       qb (q_load st false 1 v32) fun v33 =>
       e_mapset st .string v9 v33 (.bool true) fun st =>
       qb (q_bin .add (ls.getD 0 .junk) (.int .i64 1)) fun v34 =>
       X [v34] st)) (panR R)))) (panR R))
    (retR R (.bool true) st))
   [(.int .i64 0)] st)
theorem c_impl_constsOK {a0 : PV} {st : St} {R : Res → St → Prop} (h : b_impl_constsOK a0 st R) : HCalls prog n_impl_constsOK [a0] st R :=
 hcalls_of_func tyOK mixed (fn := Go.Proofs.Tryz.f36) (by kernel_rfl) (by kernel_rfl) (by kernel_rfl) (ann := [(20, [12])])
  (show hFunc prog TT [(20, [12])] Go.Proofs.Tryz.f36 [a0] st R from (show hFunc prog TT [(20, [12])] Go.Proofs.Tryz.f36 [a0] st R = b_impl_constsOK a0 st R by kernel_rfl) ▸ h)
def b_impl_simplesOK (a0 a1 : PV) (st : St) (R : Res → St → Prop) : Prop :=
 qb (q_len a0) fun v6 =>
 qb (q_bin .leq v6 a1) fun v8 =>
 cb v8 fun b => br b
  (callK prog n_slices_ContainsFunc_impl_Tree_impl_Tree [a0, (.fn (.func n_impl_badSimple) [] [])] st (fun v11 st =>
  qb (q_un .not v11) fun v12 =>
  retR R v12 st) (panR R))
  (retR R (.bool false) st)
theorem c_impl_simplesOK {a0 a1 : PV} {st : St} {R : Res → St → Prop} (h : b_impl_simplesOK a0 a1 st R) : HCalls prog n_impl_simplesOK [a0, a1] st R :=
 hcalls_of_func tyOK mixed (fn := Go.Proofs.Tryz.f37) (by kernel_rfl) (by kernel_rfl) (by kernel_rfl) (ann := [])
  (show hFunc prog TT [] Go.Proofs.Tryz.f37 [a0, a1] st R from (show hFunc prog TT [] Go.Proofs.Tryz.f37 [a0, a1] st R = b_impl_simplesOK a0 a1 st R by kernel_rfl) ▸ h)
def b_impl_badTerm (a0 : PV) (st : St) (R : Res → St → Prop) : Prop :=
 e_box st a0 fun v1 st =>
 qb (q_load st true 4 v1) fun v3 =>
 callK prog n_impl_TermOK [v3] st (fun v4 st =>
 qb (q_un .not v4) fun v5 =>
 retR R v5 st) (panR R)
theorem c_impl_badTerm {a0 : PV} {st : St} {R : Res → St → Prop} (h : b_impl_badTerm a0 st R) : HCalls prog n_impl_badTerm [a0] st R :=
 hcalls_of_func tyOK mixed (fn := Go.Proofs.Tryz.f38) (by kernel_rfl) (by kernel_rfl) (by kernel_rfl) (ann := [])
  (show hFunc prog TT [] Go.Proofs.Tryz.f38 [a0] st R from (show hFunc prog TT [] Go.Proofs.Tryz.f38 [a0] st R = b_impl_badTerm a0 st R by kernel_rfl) ▸ h)
def b_impl_badSimple (a0 : PV) (st : St) (R : Res → St → Prop) : Prop :=
 e_box st a0 fun v1 st =>
 qb (q_load st true 4 v1) fun v3 =>
 callK prog n_impl_SimpleOK [v3] st (fun v4 st =>
 qb (q_un .not v4) fun v5 =>
 retR R v5 st) (panR R)
theorem c_impl_badSimple {a0 : PV} {st : St} {R : Res → St → Prop} (h : b_impl_badSimple a0 st R) : HCalls prog n_impl_badSimple [a0] st R :=
 hcalls_of_func tyOK mixed (fn := Go.Proofs.Tryz.f39) (by kernel_rfl) (by kernel_rfl) (by kernel_rfl) (ann := [])
  (show hFunc prog TT [] Go.Proofs.Tryz.f39 [a0] st R from (show hFunc prog TT [] Go.Proofs.Tryz.f39 [a0] st R = b_impl_badSimple a0 st R by kernel_rfl) ▸ h)
def b_impl_SimpleCheck_1 (a0 a1 a2 a3 : PV) (st : St) (R : Res → St → Prop) : Prop :=
 qb (q_load st false 1 a0) fun v4 =>
 qb (q_load st false 1 a1) fun v5 =>
 qb (q_load st true 4 a2) fun v7 =>
 qb (q_load st true 4 a3) fun v8 =>
 callK prog n_slices_Clip_impl_Tree_impl_Tree [v5] st (fun v6 st =>
 q_load st true 4 a3 = some v8 ∧ q_load st true 4 a2 = some v7 ∧ q_load st false 1 a0 = some v4 ∧ (callK prog n_impl_simpler_check [v4, v6, v7, v8] st (fun v9 st =>
 retR R (.tup []) st) (panR R))) (panR R)
theorem c_impl_SimpleCheck_1 {a0 a1 a2 a3 : PV} {st : St} {R : Res → St → Prop} (h : b_impl_SimpleCheck_1 a0 a1 a2 a3 st R) : HCalls prog n_impl_SimpleCheck_1 [a0, a1, a2, a3] st R :=
 hcalls_of_func tyOK mixed (fn := Go.Proofs.Tryz.f41) (by kernel_rfl) (by kernel_rfl) (by kernel_rfl) (ann := [])
  (show hFunc prog TT [] Go.Proofs.Tryz.f41 [a0, a1, a2, a3] st R from (show hFunc prog TT [] Go.Proofs.Tryz.f41 [a0, a1, a2, a3] st R = b_impl_SimpleCheck_1 a0 a1 a2 a3 st R by kernel_rfl) ▸ h)
def b_impl_simpler_check (a0 a1 a2 a3 : PV) (st : St) (R : Res → St → Prop) : Prop :=
 e_box st a2 fun v6 st =>
 e_box st a3 fun v7 st =>
 qb (q_fa 0 v6) fun v11 =>
 qb (q_load st false 1 v11) fun v12 =>
 qb (q_bin .eql v12 (.int .i64 4)) fun v13 =>
 qb (q_fa 0 v7) fun v14 =>
 qb (q_load st false 1 v14) fun v15 =>
 qb (q_bin .eql v15 (.int .i64 10)) fun v16 =>
 qb (q_beq .neq v13 v16) fun v17 =>
 hJ (fun ls st =>
  qb (q_fa 0 v6) fun v19 =>
  qb (q_load st false 1 v19) fun v20 =>
  qb (q_bin .eql v20 (.int .i64 4)) fun v21 =>
  cb v21 fun b_1 => br b_1
   (qb (q_fa 3 v7) fun v25 =>
   qb (q_load st false 1 v25) fun v26 =>
   qb (q_ia 4 v26 (.int .i64 0)) fun v27 =>
   qb (q_load st true 4 v27) fun v28 =>
   qb (q_lit 4 1 0 [] [(0, v28)]) fun v29 =>
   qb (q_fa 3 v6) fun v31 =>
   qb (q_load st false 1 v31) fun v32 =>
   qb (q_ia 4 v32 (.int .i64 0)) fun v33 =>
   qb (q_load st true 4 v33) fun v34 =>
   qb (q_fa 3 v7) fun v35 =>
   qb (q_load st false 1 v35) fun v36 =>
   qb (q_ia 4 v36 (.int .i64 1)) fun v37 =>
   qb (q_load st true 4 v37) fun v38 =>
   callK prog n_slices_Clip_impl_Tree_impl_Tree [a1] st (fun v24 st =>
   q_load st true 4 v37 = some v38 ∧ q_load st false 1 v35 = some v36 ∧ q_load st true 4 v33 = some v34 ∧ q_load st false 1 v31 = some v32 ∧ q_load st true 4 v27 = some v28 ∧ q_load st false 1 v25 = some v26 ∧ (e_append st 4 56 v24 v29 (fun v30 st =>
   q_load st true 4 v37 = some v38 ∧ q_load st false 1 v35 = some v36 ∧ q_load st true 4 v33 = some v34 ∧ q_load st false 1 v31 = some v32 ∧ (callK prog n_impl_simpler_check [a0, v30, v34, v38] st (fun v39 st =>
   retR R (.tup []) st) (panR R))))) (panR R))
   (qb (q_load st true 4 v6) fun v42 =>
   callK prog n_impl_simpler_typeOf [a0, a1, v42] st (fun v43 st =>
   e_alloc st [.int .i64 0, .int .i64 0, .str [], .sl 0 true []] fun v8 st =>
   e_store st 4 v8 v43 fun st =>
   qb (q_fa 3 v6) fun v44 =>
   qb (q_load st false 1 v44) fun v45 =>
   qb (q_len v45) fun v46 =>
   hJ (fun ls_1 st =>
    qb (q_fa 0 v8) fun v69 =>
    qb (q_load st false 1 v69) fun v70 =>
    qb (q_bin .eql v70 (.int .i64 10)) fun v71 =>
    cb v71 fun b_2 => br b_2
     (callK prog n_impl_stop [(.int .i64 8), (.int .i64 0)] st (fun v72 st =>
     retR R (.tup []) st) (panR R))
     (qb (q_load st true 4 v7) fun v74 =>
     qb (q_load st true 4 v8) fun v75 =>
     callK prog n_impl_same [v74, v75] st (fun v76 st =>
     qb (q_un .not v76) fun v77 =>
     cb v77 fun b_3 => br b_3
      (callK prog n_impl_stop [(.int .i64 10), (.int .i64 0)] st (fun v78 st =>
      retR R (.tup []) st) (panR R))
      (retR R (.tup []) st)) (panR R)))
    (fun k_1 =>
   hFix (fun ls_2 st X =>
    qb (q_bin .lss (ls_2.getD 0 .junk) v46) fun v48 =>
    cb v48 fun b_4 => br b_4
     (qb (q_ia 4 v45 (ls_2.getD 0 .junk)) fun v49 =>
     qb (q_load st true 4 v49) fun v50 =>
     e_alloc st [.int .i64 0, .int .i64 0, .str [], .sl 0 true []] fun v10 st =>
     e_store st 4 v10 v50 fun st =>
     qb (q_fa 0 v8) fun v51 =>
     qb (q_load st false 1 v51) fun v52 =>
     qb (q_bin .neq v52 (.int .i64 10)) fun v53 =>
     hJ (fun ls_3 st =>
      qb (q_load st true 4 v10) fun v57 =>
      qb (q_fa 3 v8) fun v58 =>
      qb (q_load st false 1 v58) fun v59 =>
      qb (q_ia 4 v59 (.int .i64 0)) fun v60 =>
      qb (q_load st true 4 v60) fun v61 =>
      callK prog n_impl_simpler_check [a0, a1, v57, v61] st (fun v62 st =>
      qb (q_fa 3 v8) fun v63 =>
      qb (q_load st false 1 v63) fun v64 =>
      qb (q_ia 4 v64 (.int .i64 1)) fun v65 =>
      qb (q_load st true 4 v65) fun v66 =>
      e_store st 4 v8 v66 fun st =>
      qb (q_bin .add (ls_2.getD 0 .junk) (.int .i64 1)) fun v67 =>
      X [v67] st) (panR R))
      (fun k_2 =>
     cb v53 fun b_5 => br b_5
      (callK prog n_impl_stop [(.int .i64 8), (.int .i64 0)] st (fun v54 st =>
      k_2 [] st) (panR R))
      (k_2 [] st)))
     (k_1 [] st))
    [(.int .i64 0)] st)) (panR R)))
  (fun k =>
 cb v17 fun b => br b
  (callK prog n_impl_stop [(.int .i64 9), (.int .i64 0)] st (fun v18 st =>
  k [] st) (panR R))
  (k [] st))
theorem c_impl_simpler_check {a0 a1 a2 a3 : PV} {st : St} {R : Res → St → Prop} (h : b_impl_simpler_check a0 a1 a2 a3 st R) : HCalls prog n_impl_simpler_check [a0, a1, a2, a3] st R :=
 hcalls_of_func tyOK mixed (fn := Go.Proofs.Tryz.f42) (by kernel_rfl) (by kernel_rfl) (by kernel_rfl) (ann := [(28, [47]), (3, []), (10, []), (42, [])])
  (show hFunc prog TT [(28, [47]), (3, []), (10, []), (42, [])] Go.Proofs.Tryz.f42 [a0, a1, a2, a3] st R from (show hFunc prog TT [(28, [47]), (3, []), (10, []), (42, [])] Go.Proofs.Tryz.f42 [a0, a1, a2, a3] st R = b_impl_simpler_check a0 a1 a2 a3 st R by kernel_rfl) ▸ h)
end Go.H.Tryz
