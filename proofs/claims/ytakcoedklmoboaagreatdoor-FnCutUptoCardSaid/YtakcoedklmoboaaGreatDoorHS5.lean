/- Part of a proof that the program answers as the reference does: ZFS5. -/
import Derived.Test.YtakcoedklmoboaaGreatDoorHT
/- MADE BY PROGRAM (hgen.py): what the functions compute, over pure values. -/
set_option linter.unusedVariables false
set_option maxRecDepth 100000
namespace Go.H.Tryz
open Go Go.H
def b_impl_lam (a0 : PV) (st : St) (R : Res → St → Prop) : Prop :=
 e_box st a0 fun v1 st =>
 e_alloc st [.int .i64 0, .int .i64 0, .str [], .sl 0 true []] fun v2 st =>
 qb (q_load st true 4 v1) fun v3 =>
 qb (q_lit 4 1 0 [] [(0, v3)]) fun v4 =>
 qb (q_struct [.int .i64 0, .int .i64 0, .str [], .sl 0 true []] [(0, 1, (.int .i64 4)), (3, 1, v4)]) fun v5 =>
 e_store st 4 v2 v5 fun st =>
 qb (q_load st true 4 v2) fun r => retR R r st
theorem c_impl_lam {a0 : PV} {st : St} {R : Res → St → Prop} (h : b_impl_lam a0 st R) : HCalls prog n_impl_lam [a0] st R :=
 hcalls_of_func tyOK mixed (fn := Go.Proofs.Tryz.f104) (by kernel_rfl) (by kernel_rfl) (by kernel_rfl) (ann := [])
  (show hFunc prog TT [] Go.Proofs.Tryz.f104 [a0] st R from (show hFunc prog TT [] Go.Proofs.Tryz.f104 [a0] st R = b_impl_lam a0 st R by kernel_rfl) ▸ h)
def b_impl_looker_simple (a0 a1 : PV) (st : St) (R : Res → St → Prop) : Prop :=
 e_box st a1 fun v3 st =>
 callK prog n_impl_looker_node [a0] st (fun v6 st =>
 qb (q_un .not v6) fun v7 =>
 cb v7 fun b => br b
  (retR R (.bool false) st)
  (qb (q_fa 0 v3) fun v8 =>
  qb (q_load st false 1 v8) fun v9 =>
  qb (q_bin .eql v9 (.int .i64 9)) fun v11 =>
  cb v11 fun b_1 => br b_1
   (qb (q_fa 1 v3) fun v12 =>
   qb (q_load st false 1 v12) fun v13 =>
   qb (q_bin .eql v13 (.int .i64 0)) fun v14 =>
   cb v14 fun b_2 => br b_2
    (qb (q_fa 2 v3) fun v16 =>
    qb (q_load st false 1 v16) fun v17 =>
    callK prog n_impl_NameOK [v17] st (fun v18 st =>
    cb v18 fun b_3 => br b_3
     (qb (q_fa 3 v3) fun v21 =>
     qb (q_load st false 1 v21) fun v22 =>
     qb (q_len v22) fun v23 =>
     qb (q_bin .eql v23 (.int .i64 0)) fun v24 =>
     retR R v24 st)
     (retR R (.bool false) st)) (panR R))
    (retR R (.bool false) st))
   (qb (q_bin .eql v9 (.int .i64 10)) fun v27 =>
   cb v27 fun b_4 => br b_4
    (callK prog n_impl_Tree_bare [v3, (.int .i64 2)] st (fun v28 st =>
    cb v28 fun b_5 => br b_5
     (qb (q_fa 3 v3) fun v31 =>
     qb (q_load st false 1 v31) fun v32 =>
     qb (q_ia 4 v32 (.int .i64 0)) fun v33 =>
     qb (q_load st true 4 v33) fun v34 =>
     callK prog n_impl_looker_simple [a0, v34] st (fun v35 st =>
     cb v35 fun b_6 => br b_6
      (qb (q_fa 3 v3) fun v39 =>
      qb (q_load st false 1 v39) fun v40 =>
      qb (q_ia 4 v40 (.int .i64 1)) fun v41 =>
      qb (q_load st true 4 v41) fun v42 =>
      callK prog n_impl_looker_simple [a0, v42] st (fun v43 st =>
      retR R v43 st) (panR R))
      (retR R (.bool false) st)) (panR R))
     (retR R (.bool false) st)) (panR R))
    (retR R (.bool false) st)))) (panR R)
theorem c_impl_looker_simple {a0 a1 : PV} {st : St} {R : Res → St → Prop} (h : b_impl_looker_simple a0 a1 st R) : HCalls prog n_impl_looker_simple [a0, a1] st R :=
 hcalls_of_func tyOK mixed (fn := Go.Proofs.Tryz.f105) (by kernel_rfl) (by kernel_rfl) (by kernel_rfl) (ann := [])
  (show hFunc prog TT [] Go.Proofs.Tryz.f105 [a0, a1] st R from (show hFunc prog TT [] Go.Proofs.Tryz.f105 [a0, a1] st R = b_impl_looker_simple a0 a1 st R by kernel_rfl) ▸ h)
def b_impl_KindOK (a0 : PV) (st : St) (R : Res → St → Prop) : Prop :=
 e_box st a0 fun v1 st =>
 qb (q_load st true 4 v1) fun v4 =>
 callK prog n_impl_fresh [] st (fun v3 st =>
 q_load st true 4 v1 = some v4 ∧ (callK prog n_impl_looker_family [v3, v4, (.bool true)] st (fun v5 st =>
 retR R v5 st) (panR R))) (panR R)
theorem c_impl_KindOK {a0 : PV} {st : St} {R : Res → St → Prop} (h : b_impl_KindOK a0 st R) : HCalls prog n_impl_KindOK [a0] st R :=
 hcalls_of_func tyOK mixed (fn := Go.Proofs.Tryz.f106) (by kernel_rfl) (by kernel_rfl) (by kernel_rfl) (ann := [])
  (show hFunc prog TT [] Go.Proofs.Tryz.f106 [a0] st R from (show hFunc prog TT [] Go.Proofs.Tryz.f106 [a0] st R = b_impl_KindOK a0 st R by kernel_rfl) ▸ h)
def b_impl_result_1 (a0 a1 : PV) (st : St) (R : Res → St → Prop) : Prop :=
 qb (q_load st false 1 a0) fun v2 =>
 e_call prog st v2 [] (fun v3 st =>
 e_store st 4 a1 v3 fun st =>
 retR R (.tup []) st) (panR R)
theorem c_impl_result_1 {a0 a1 : PV} {st : St} {R : Res → St → Prop} (h : b_impl_result_1 a0 a1 st R) : HCalls prog n_impl_result_1 [a0, a1] st R :=
 hcalls_of_func tyOK mixed (fn := Go.Proofs.Tryz.f107) (by kernel_rfl) (by kernel_rfl) (by kernel_rfl) (ann := [])
  (show hFunc prog TT [] Go.Proofs.Tryz.f107 [a0, a1] st R from (show hFunc prog TT [] Go.Proofs.Tryz.f107 [a0, a1] st R = b_impl_result_1 a0 a1 st R by kernel_rfl) ▸ h)
def b_impl_clone (a0 : PV) (st : St) (R : Res → St → Prop) : Prop :=
 e_box st a0 fun v1 st =>
 e_alloc st [.int .i64 0, .int .i64 0, .str [], .sl 0 true []] fun v2 st =>
 qb (q_fa 3 v1) fun v3 =>
 qb (q_load st false 1 v3) fun v4 =>
 callK prog n_impl_cloneAll [v4] st (fun v5 st =>
 qb (q_fa 3 v1) fun v6 =>
 e_store st 1 v6 v5 fun st =>
 qb (q_load st true 4 v1) fun v7 =>
 e_store st 4 v2 v7 fun st =>
 qb (q_load st true 4 v2) fun r => retR R r st) (panR R)
theorem c_impl_clone {a0 : PV} {st : St} {R : Res → St → Prop} (h : b_impl_clone a0 st R) : HCalls prog n_impl_clone [a0] st R :=
 hcalls_of_func tyOK mixed (fn := Go.Proofs.Tryz.f108) (by kernel_rfl) (by kernel_rfl) (by kernel_rfl) (ann := [])
  (show hFunc prog TT [] Go.Proofs.Tryz.f108 [a0] st R from (show hFunc prog TT [] Go.Proofs.Tryz.f108 [a0] st R = b_impl_clone a0 st R by kernel_rfl) ▸ h)
def b_impl_Tree_under (a0 a1 : PV) (st : St) (R : Res → St → Prop) : Prop :=
 callK prog n_impl_Tree_binds [a0, a1] st (fun v7 st =>
 cb v7 fun b => br b
  (retR R (.int .i64 1) st)
  (retR R (.int .i64 0) st)) (panR R)
theorem c_impl_Tree_under {a0 a1 : PV} {st : St} {R : Res → St → Prop} (h : b_impl_Tree_under a0 a1 st R) : HCalls prog n_impl_Tree_under [a0, a1] st R :=
 hcalls_of_func tyOK mixed (fn := Go.Proofs.Tryz.f109) (by kernel_rfl) (by kernel_rfl) (by kernel_rfl) (ann := [])
  (show hFunc prog TT [] Go.Proofs.Tryz.f109 [a0, a1] st R from (show hFunc prog TT [] Go.Proofs.Tryz.f109 [a0, a1] st R = b_impl_Tree_under a0 a1 st R by kernel_rfl) ▸ h)
def b_impl_work_apply (a0 a1 a2 a3 : PV) (st : St) (R : Res → St → Prop) : Prop :=
 e_box st a1 fun v5 st =>
 e_box st a2 fun v6 st =>
 e_alloc st [.int .i64 0, .int .i64 0, .str [], .sl 0 true []] fun v8 st =>
 qb (q_len a3) fun v12 =>
 hFix (fun ls st X =>
  qb (q_bin .lss (ls.getD 0 .junk) v12) fun v14 =>
  cb v14 fun b => br b
   (qb (q_ia 4 a3 (ls.getD 0 .junk)) fun v15 =>
   qb (q_load st true 4 v15) fun v16 =>
   e_alloc st [.int .i64 0, .int .i64 0, .str [], .sl 0 true []] fun v10 st =>
   e_store st 4 v10 v16 fun st =>
   hJ (fun ls_1 st =>
    cb (ls_1.getD 0 .junk) fun b_1 => br b_1
     (callK prog n_impl_stop [(.int .i64 12), (.int .i64 0)] st (fun v25 st =>
     qb (q_nil a0) fun v27 =>
     qb (q_fa 0 v27) fun v28 =>
     qb (q_load st false 1 v28) fun v29 =>
     qb (q_bin .add v29 (.int .i64 1)) fun v30 =>
     qb (q_nil a0) fun v31 =>
     qb (q_fa 0 v31) fun v32 =>
     e_store st 1 v32 v30 fun st =>
     qb (q_nil a0) fun v34 =>
     qb (q_fa 0 v34) fun v35 =>
     qb (q_load st false 1 v35) fun v36 =>
     qb (q_bin .gtr v36 (.int .i64 20000)) fun v37 =>
     hJ (fun ls_2 st =>
      qb (q_load st true 4 v10) fun v40 =>
      qb (q_fa 3 v6) fun v41 =>
      qb (q_load st false 1 v41) fun v42 =>
      qb (q_ia 4 v42 (.int .i64 0)) fun v43 =>
      qb (q_load st true 4 v43) fun v44 =>
      qb (q_fa 3 v5) fun v45 =>
      qb (q_load st false 1 v45) fun v46 =>
      qb (q_ia 4 v46 (.int .i64 0)) fun v47 =>
      qb (q_load st true 4 v47) fun v48 =>
      callK prog n_impl_work_put [a0, v40, v44, (.int .i64 0), v48] st (fun v49 st =>
      e_store st 4 v5 v49 fun st =>
      qb (q_fa 3 v6) fun v50 =>
      qb (q_load st false 1 v50) fun v51 =>
      qb (q_ia 4 v51 (.int .i64 1)) fun v52 =>
      qb (q_load st true 4 v52) fun v53 =>
      e_store st 4 v6 v53 fun st =>
      qb (q_bin .add (ls.getD 0 .junk) (.int .i64 1)) fun v54 =>
      X [v54] st) (panR R))
      (fun k_1 =>
     cb v37 fun b_2 => br b_2
      (callK prog n_impl_stop [(.int .i64 17), (.int .i64 0)] st (fun v38 st =>
      k_1 [] st) (panR R))
      (k_1 [] st))) (panR R))
     (qb (q_nil a0) fun v27_1 =>
     qb (q_fa 0 v27_1) fun v28_1 =>
     qb (q_load st false 1 v28_1) fun v29_1 =>
     qb (q_bin .add v29_1 (.int .i64 1)) fun v30_1 =>
     qb (q_nil a0) fun v31_1 =>
     qb (q_fa 0 v31_1) fun v32_1 =>
     e_store st 1 v32_1 v30_1 fun st =>
     qb (q_nil a0) fun v34_1 =>
     qb (q_fa 0 v34_1) fun v35_1 =>
     qb (q_load st false 1 v35_1) fun v36_1 =>
     qb (q_bin .gtr v36_1 (.int .i64 20000)) fun v37_1 =>
     hJ (fun ls_3 st =>
      qb (q_load st true 4 v10) fun v40_1 =>
      qb (q_fa 3 v6) fun v41_1 =>
      qb (q_load st false 1 v41_1) fun v42_1 =>
      qb (q_ia 4 v42_1 (.int .i64 0)) fun v43_1 =>
      qb (q_load st true 4 v43_1) fun v44_1 =>
      qb (q_fa 3 v5) fun v45_1 =>
      qb (q_load st false 1 v45_1) fun v46_1 =>
      qb (q_ia 4 v46_1 (.int .i64 0)) fun v47_1 =>
      qb (q_load st true 4 v47_1) fun v48_1 =>
      callK prog n_impl_work_put [a0, v40_1, v44_1, (.int .i64 0), v48_1] st (fun v49_1 st =>
      e_store st 4 v5 v49_1 fun st =>
      qb (q_fa 3 v6) fun v50_1 =>
      qb (q_load st false 1 v50_1) fun v51_1 =>
      qb (q_ia 4 v51_1 (.int .i64 1)) fun v52_1 =>
      qb (q_load st true 4 v52_1) fun v53_1 =>
      e_store st 4 v6 v53_1 fun st =>
      qb (q_bin .add (ls.getD 0 .junk) (.int .i64 1)) fun v54_1 =>
      X [v54_1] st) (panR R))
      (fun k_2 =>
     cb v37_1 fun b_3 => br b_3
      (callK prog n_impl_stop [(.int .i64 17), (.int .i64 0)] st (fun v38_1 st =>
      k_2 [] st) (panR R))
      (k_2 [] st))))
    (fun k =>
   qb (q_fa 0 v6) fun v17 =>
   qb (q_load st false 1 v17) fun v18 =>
   qb (q_bin .neq v18 (.int .i64 10)) fun v19 =>
   cb v19 fun b_4 => br b_4
    (k [(.bool true)] st)
    (qb (q_fa 0 v5) fun v21 =>
    qb (q_load st false 1 v21) fun v22 =>
    qb (q_bin .neq v22 (.int .i64 4)) fun v23 =>
    k [v23] st)))
   (qb (q_load st true 4 v5) fun v55 =>
   e_store st 4 v8 v55 fun st =>
   qb (q_load st true 4 v8) fun r => retR R r st))
  [(.int .i64 0)] st
theorem c_impl_work_apply {a0 a1 a2 a3 : PV} {st : St} {R : Res → St → Prop} (h : b_impl_work_apply a0 a1 a2 a3 st R) : HCalls prog n_impl_work_apply [a0, a1, a2, a3] st R :=
 hcalls_of_func tyOK mixed (fn := Go.Proofs.Tryz.f110) (by kernel_rfl) (by kernel_rfl) (by kernel_rfl) (ann := [(8, [13]), (17, [24]), (34, [])])
  (show hFunc prog TT [(8, [13]), (17, [24]), (34, [])] Go.Proofs.Tryz.f110 [a0, a1, a2, a3] st R from (show hFunc prog TT [(8, [13]), (17, [24]), (34, [])] Go.Proofs.Tryz.f110 [a0, a1, a2, a3] st R = b_impl_work_apply a0 a1 a2 a3 st R by kernel_rfl) ▸ h)
def b_impl_formed (a0 : PV) (st : St) (R : Res → St → Prop) : Prop :=
 e_box st a0 fun v1 st =>
 e_alloc st [.int .i64 0, .int .i64 0, .str [], .sl 0 true []] fun v2 st =>
 qb (q_load st true 4 v1) fun v3 =>
 callK prog n_impl_tooBig [v3] st (fun v4 st =>
 cb v4 fun b => br b
  (callK prog n_impl_stop [(.int .i64 11), (.int .i64 0)] st (fun v5 st =>
  qb (q_load st true 4 v1) fun v6 =>
  e_store st 4 v2 v6 fun st =>
  qb (q_load st true 4 v2) fun r => retR R r st) (panR R))
  (qb (q_load st true 4 v1) fun v6_1 =>
  e_store st 4 v2 v6_1 fun st =>
  qb (q_load st true 4 v2) fun r_1 => retR R r_1 st)) (panR R)
theorem c_impl_formed {a0 : PV} {st : St} {R : Res → St → Prop} (h : b_impl_formed a0 st R) : HCalls prog n_impl_formed [a0] st R :=
 hcalls_of_func tyOK mixed (fn := Go.Proofs.Tryz.f111) (by kernel_rfl) (by kernel_rfl) (by kernel_rfl) (ann := [])
  (show hFunc prog TT [] Go.Proofs.Tryz.f111 [a0] st R from (show hFunc prog TT [] Go.Proofs.Tryz.f111 [a0] st R = b_impl_formed a0 st R by kernel_rfl) ▸ h)
def b_impl_lift (a0 a1 a2 : PV) (st : St) (R : Res → St → Prop) : Prop :=
 e_box st a0 fun v3 st =>
 e_box st a1 fun v4 st =>
 e_box st a2 fun v5 st =>
 e_alloc st [.int .i64 0, .int .i64 0, .str [], .sl 0 true []] fun v6 st =>
 qb (q_load st true 4 v3) fun v7 =>
 callK prog n_impl_turned [v7, (.int .i64 0), (.fn (.func n_impl_lift_1) [] [v4, v5])] st (fun v9 st =>
 e_store st 4 v6 v9 fun st =>
 qb (q_load st true 4 v6) fun r => retR R r st) (panR R)
theorem c_impl_lift {a0 a1 a2 : PV} {st : St} {R : Res → St → Prop} (h : b_impl_lift a0 a1 a2 st R) : HCalls prog n_impl_lift [a0, a1, a2] st R :=
 hcalls_of_func tyOK mixed (fn := Go.Proofs.Tryz.f112) (by kernel_rfl) (by kernel_rfl) (by kernel_rfl) (ann := [])
  (show hFunc prog TT [] Go.Proofs.Tryz.f112 [a0, a1, a2] st R from (show hFunc prog TT [] Go.Proofs.Tryz.f112 [a0, a1, a2] st R = b_impl_lift a0 a1 a2 st R by kernel_rfl) ▸ h)
def b_impl_Tree_each (a0 a1 a2 : PV) (st : St) (R : Res → St → Prop) : Prop :=
 e_call prog st a2 [a0, a1] (fun v11 st =>
 cb v11 fun b => br b
  (retR R (.bool true) st)
  (qb (q_nil a0) fun v13 =>
  qb (q_fa 3 v13) fun v14 =>
  qb (q_load st false 1 v14) fun v15 =>
  qb (q_len v15) fun v16 =>
  hFix (fun ls st X =>
   qb (q_bin .lss (ls.getD 0 .junk) v16) fun v18 =>
   cb v18 fun b_1 => br b_1
    (qb (q_nil a0) fun v21 =>
    qb (q_fa 3 v21) fun v22 =>
    qb (q_load st false 1 v22) fun v23 =>
    qb (q_ia 4 v23 (ls.getD 0 .junk)) fun v25 =>
    callK prog n_impl_Tree_under [a0, (ls.getD 0 .junk)] st (fun v29 st =>
    q_load st false 1 v22 = some v23 ∧ (qb (q_bin .add a1 v29) fun v30 =>
    callK prog n_impl_Tree_each [v25, v30, a2] st (fun v32 st =>
    cb v32 fun b_2 => br b_2
     (retR R (.bool true) st)
     (qb (q_bin .add (ls.getD 0 .junk) (.int .i64 1)) fun v33 =>
     X [v33] st)) (panR R))) (panR R))
    (retR R (.bool false) st))
   [(.int .i64 0)] st)) (panR R)
theorem c_impl_Tree_each {a0 a1 a2 : PV} {st : St} {R : Res → St → Prop} (h : b_impl_Tree_each a0 a1 a2 st R) : HCalls prog n_impl_Tree_each [a0, a1, a2] st R :=
 hcalls_of_func tyOK mixed (fn := Go.Proofs.Tryz.f113) (by kernel_rfl) (by kernel_rfl) (by kernel_rfl) (ann := [(16, [17])])
  (show hFunc prog TT [(16, [17])] Go.Proofs.Tryz.f113 [a0, a1, a2] st R from (show hFunc prog TT [(16, [17])] Go.Proofs.Tryz.f113 [a0, a1, a2] st R = b_impl_Tree_each a0 a1 a2 st R by kernel_rfl) ▸ h)
def b_impl_tooBig_1 (a0 a1 a2 : PV) (st : St) (R : Res → St → Prop) : Prop :=
 qb (q_load st false 1 a2) fun v6 =>
 qb (q_bin .add v6 (.int .i64 1)) fun v7 =>
 e_store st 1 a2 v7 fun st =>
 qb (q_load st false 1 a2) fun v8 =>
 qb (q_bin .gtr v8 (.int .i64 150)) fun v9 =>
 cb v9 fun b => br b
  (retR R (.bool true) st)
  (qb (q_nil a0) fun v12 =>
  qb (q_fa 0 v12) fun v13 =>
  qb (q_load st false 1 v13) fun v14 =>
  qb (q_bin .eql v14 (.int .i64 5)) fun v15 =>
  cb v15 fun b_1 => br b_1
   (qb (q_nil a0) fun v18 =>
   qb (q_fa 1 v18) fun v19 =>
   qb (q_load st false 1 v19) fun v20 =>
   qb (q_bin .gtr v20 (.int .i64 100)) fun v21 =>
   retR R v21 st)
   (retR R (.bool false) st))
theorem c_impl_tooBig_1 {a0 a1 a2 : PV} {st : St} {R : Res → St → Prop} (h : b_impl_tooBig_1 a0 a1 a2 st R) : HCalls prog n_impl_tooBig_1 [a0, a1, a2] st R :=
 hcalls_of_func tyOK mixed (fn := Go.Proofs.Tryz.f114) (by kernel_rfl) (by kernel_rfl) (by kernel_rfl) (ann := [])
  (show hFunc prog TT [] Go.Proofs.Tryz.f114 [a0, a1, a2] st R from (show hFunc prog TT [] Go.Proofs.Tryz.f114 [a0, a1, a2] st R = b_impl_tooBig_1 a0 a1 a2 st R by kernel_rfl) ▸ h)
def b_impl_looker_node (a0 : PV) (st : St) (R : Res → St → Prop) : Prop :=
 qb (q_nil a0) fun v4 =>
 qb (q_fa 0 v4) fun v5 =>
 qb (q_load st false 1 v5) fun v6 =>
 qb (q_bin .sub v6 (.int .i64 1)) fun v7 =>
 qb (q_nil a0) fun v8 =>
 qb (q_fa 0 v8) fun v9 =>
 e_store st 1 v9 v7 fun st =>
 qb (q_nil a0) fun v11 =>
 qb (q_fa 0 v11) fun v12 =>
 qb (q_load st false 1 v12) fun v13 =>
 qb (q_bin .geq v13 (.int .i64 0)) fun v14 =>
 retR R v14 st
theorem c_impl_looker_node {a0 : PV} {st : St} {R : Res → St → Prop} (h : b_impl_looker_node a0 st R) : HCalls prog n_impl_looker_node [a0] st R :=
 hcalls_of_func tyOK mixed (fn := Go.Proofs.Tryz.f115) (by kernel_rfl) (by kernel_rfl) (by kernel_rfl) (ann := [])
  (show hFunc prog TT [] Go.Proofs.Tryz.f115 [a0] st R from (show hFunc prog TT [] Go.Proofs.Tryz.f115 [a0] st R = b_impl_looker_node a0 st R by kernel_rfl) ▸ h)
def b_impl_in (a0 a1 a2 : PV) (st : St) (R : Res → St → Prop) : Prop :=
 qb (q_bin .geq a0 a1) fun v9 =>
 cb v9 fun b => br b
  (qb (q_bin .leq a0 a2) fun v13 =>
  retR R v13 st)
  (retR R (.bool false) st)
theorem c_impl_in {a0 a1 a2 : PV} {st : St} {R : Res → St → Prop} (h : b_impl_in a0 a1 a2 st R) : HCalls prog n_impl_in [a0, a1, a2] st R :=
 hcalls_of_func tyOK mixed (fn := Go.Proofs.Tryz.f116) (by kernel_rfl) (by kernel_rfl) (by kernel_rfl) (ann := [])
  (show hFunc prog TT [] Go.Proofs.Tryz.f116 [a0, a1, a2] st R from (show hFunc prog TT [] Go.Proofs.Tryz.f116 [a0, a1, a2] st R = b_impl_in a0 a1 a2 st R by kernel_rfl) ▸ h)
def b_impl_Tree_bare (a0 a1 : PV) (st : St) (R : Res → St → Prop) : Prop :=
 qb (q_nil a0) fun v6 =>
 qb (q_fa 1 v6) fun v7 =>
 qb (q_load st false 1 v7) fun v8 =>
 qb (q_bin .eql v8 (.int .i64 0)) fun v9 =>
 cb v9 fun b => br b
  (qb (q_nil a0) fun v12 =>
  qb (q_fa 2 v12) fun v13 =>
  qb (q_load st false 1 v13) fun v14 =>
  qb (q_bin .eql v14 (.str [])) fun v15 =>
  cb v15 fun b_1 => br b_1
   (qb (q_nil a0) fun v19 =>
   qb (q_fa 3 v19) fun v20 =>
   qb (q_load st false 1 v20) fun v21 =>
   qb (q_len v21) fun v22 =>
   qb (q_bin .eql v22 a1) fun v24 =>
   retR R v24 st)
   (retR R (.bool false) st))
  (retR R (.bool false) st)
theorem c_impl_Tree_bare {a0 a1 : PV} {st : St} {R : Res → St → Prop} (h : b_impl_Tree_bare a0 a1 st R) : HCalls prog n_impl_Tree_bare [a0, a1] st R :=
 hcalls_of_func tyOK mixed (fn := Go.Proofs.Tryz.f118) (by kernel_rfl) (by kernel_rfl) (by kernel_rfl) (ann := [])
  (show hFunc prog TT [] Go.Proofs.Tryz.f118 [a0, a1] st R from (show hFunc prog TT [] Go.Proofs.Tryz.f118 [a0, a1] st R = b_impl_Tree_bare a0 a1 st R by kernel_rfl) ▸ h)
def b_impl_looker_args (a0 a1 : PV) (st : St) (R : Res → St → Prop) : Prop :=
 qb (q_len a1) fun v8 =>
 hFix (fun ls st X =>
  qb (q_bin .lss (ls.getD 0 .junk) v8) fun v10 =>
  cb v10 fun b => br b
   (qb (q_ia 4 a1 (ls.getD 0 .junk)) fun v11 =>
   qb (q_load st true 4 v11) fun v12 =>
   e_alloc st [.int .i64 0, .int .i64 0, .str [], .sl 0 true []] fun v6 st =>
   e_store st 4 v6 v12 fun st =>
   hJ (fun ls_1 st =>
    cb (ls_1.getD 0 .junk) fun b_1 => br b_1
     (callK prog n_impl_Tree_bare [v6, (.int .i64 0)] st (fun v22 st =>
     qb (q_un .not v22) fun v23 =>
     cb v23 fun b_2 => br b_2
      (retR R (.bool false) st)
      (callK prog n_impl_looker_node [a0] st (fun v26 st =>
      qb (q_un .not v26) fun v27 =>
      cb v27 fun b_3 => br b_3
       (retR R (.bool false) st)
       (qb (q_bin .add (ls.getD 0 .junk) (.int .i64 1)) fun v33 =>
       X [v33] st)) (panR R))) (panR R))
     (qb (q_load st true 4 v6) fun v30 =>
     callK prog n_impl_looker_term [a0, v30] st (fun v31 st =>
     qb (q_un .not v31) fun v32 =>
     cb v32 fun b_4 => br b_4
      (retR R (.bool false) st)
      (qb (q_bin .add (ls.getD 0 .junk) (.int .i64 1)) fun v33_1 =>
      X [v33_1] st)) (panR R)))
    (fun k =>
   qb (q_nil a0) fun v14 =>
   qb (q_fa 1 v14) fun v15 =>
   qb (q_load st false 1 v15) fun v16 =>
   cb v16 fun b_5 => br b_5
    (qb (q_fa 0 v6) fun v18 =>
    qb (q_load st false 1 v18) fun v19 =>
    qb (q_bin .eql v19 (.int .i64 8)) fun v20 =>
    k [v20] st)
    (k [(.bool false)] st)))
   (retR R (.bool true) st))
  [(.int .i64 0)] st
theorem e_impl_looker_args : Enters prog n_impl_looker_args := ⟨Go.Proofs.Tryz.f119, by kernel_rfl, by kernel_rfl, by kernel_rfl⟩
theorem c_impl_looker_args {a0 a1 : PV} {st : St} {R : Res → St → Prop} (h : b_impl_looker_args a0 a1 st R) : HCalls prog n_impl_looker_args [a0, a1] st R :=
 hcalls_of_func tyOK mixed (fn := Go.Proofs.Tryz.f119) (by kernel_rfl) (by kernel_rfl) (by kernel_rfl) (ann := [(8, [9]), (17, [21])])
  (show hFunc prog TT [(8, [9]), (17, [21])] Go.Proofs.Tryz.f119 [a0, a1] st R from (show hFunc prog TT [(8, [9]), (17, [21])] Go.Proofs.Tryz.f119 [a0, a1] st R = b_impl_looker_args a0 a1 st R by kernel_rfl) ▸ h)
def b_impl_NameOK (a0 : PV) (st : St) (R : Res → St → Prop) : Prop :=
 callK prog n_impl_wordOK [a0] st (fun v6 st =>
 qb (q_un .not v6) fun v7 =>
 cb v7 fun b => br b
  (retR R (.bool false) st)
  (qb (q_bin .eql a0 (.str [116, 121, 112, 101])) fun v10 =>
  cb v10 fun b_1 => br b_1
   (retR R (.bool false) st)
   (qb (q_bin .eql a0 (.str [95])) fun v14 =>
   cb v14 fun b_2 => br b_2
    (retR R (.bool false) st)
    (callK prog n_strings_CutPrefix [a0, (.str [120])] st (fun v18 st =>
    qb (q_ex v18 0) fun v19 =>
    qb (q_ex v18 1) fun v20 =>
    qb (q_un .not v20) fun v22 =>
    cb v22 fun b_3 => br b_3
     (retR R (.bool true) st)
     (qb (q_bin .eql v19 (.str [])) fun v25 =>
     cb v25 fun b_4 => br b_4
      (retR R (.bool true) st)
      (callK prog n_impl_over [v19, (.str [48, 49, 50, 51, 52, 53, 54, 55, 56, 57])] st (fun v29 st =>
      qb (q_un .not v29) fun v30 =>
      retR R v30 st) (panR R)))) (panR R))))) (panR R)
theorem c_impl_NameOK {a0 : PV} {st : St} {R : Res → St → Prop} (h : b_impl_NameOK a0 st R) : HCalls prog n_impl_NameOK [a0] st R :=
 hcalls_of_func tyOK mixed (fn := Go.Proofs.Tryz.f120) (by kernel_rfl) (by kernel_rfl) (by kernel_rfl) (ann := [])
  (show hFunc prog TT [] Go.Proofs.Tryz.f120 [a0] st R from (show hFunc prog TT [] Go.Proofs.Tryz.f120 [a0] st R = b_impl_NameOK a0 st R by kernel_rfl) ▸ h)
def b_impl_looker_family (a0 a1 a2 : PV) (st : St) (R : Res → St → Prop) : Prop :=
 e_box st a1 fun v4 st =>
 callK prog n_impl_looker_node [a0] st (fun v8 st =>
 qb (q_un .not v8) fun v9 =>
 cb v9 fun b => br b
  (retR R (.bool false) st)
  (qb (q_fa 0 v4) fun v10 =>
  qb (q_load st false 1 v10) fun v11 =>
  qb (q_bin .eql v11 (.int .i64 1)) fun v13 =>
  cb v13 fun b_1 => br b_1
   (cb a2 fun b_2 => br b_2
    (callK prog n_impl_Tree_bare [v4, (.int .i64 0)] st (fun v16 st =>
    retR R v16 st) (panR R))
    (retR R (.bool false) st))
   (qb (q_bin .eql v11 (.int .i64 3)) fun v19 =>
   cb v19 fun b_3 => br b_3
    (qb (q_un .not a2) fun v21 =>
    cb v21 fun b_4 => br b_4
     (qb (q_fa 1 v4) fun v23 =>
     qb (q_load st false 1 v23) fun v24 =>
     qb (q_bin .eql v24 (.int .i64 0)) fun v25 =>
     cb v25 fun b_5 => br b_5
      (qb (q_fa 2 v4) fun v28 =>
      qb (q_load st false 1 v28) fun v29 =>
      callK prog n_impl_NameOK [v29] st (fun v30 st =>
      cb v30 fun b_6 => br b_6
       (qb (q_fa 3 v4) fun v34 =>
       qb (q_load st false 1 v34) fun v35 =>
       callK prog n_impl_looker_args [a0, v35] st (fun v36 st =>
       retR R v36 st) (panR R))
       (retR R (.bool false) st)) (panR R))
      (retR R (.bool false) st))
     (retR R (.bool false) st))
    (qb (q_bin .eql v11 (.int .i64 2)) fun v39 =>
    cb v39 fun b_7 => br b_7
     (callK prog n_impl_Tree_bare [v4, (.int .i64 2)] st (fun v40 st =>
     cb v40 fun b_8 => br b_8
      (qb (q_fa 3 v4) fun v43 =>
      qb (q_load st false 1 v43) fun v44 =>
      qb (q_ia 4 v44 (.int .i64 0)) fun v45 =>
      qb (q_load st true 4 v45) fun v46 =>
      callK prog n_impl_looker_family [a0, v46, (.bool false)] st (fun v47 st =>
      cb v47 fun b_9 => br b_9
       (qb (q_fa 3 v4) fun v51 =>
       qb (q_load st false 1 v51) fun v52 =>
       qb (q_ia 4 v52 (.int .i64 1)) fun v53 =>
       qb (q_load st true 4 v53) fun v54 =>
       callK prog n_impl_looker_family [a0, v54, a2] st (fun v56 st =>
       retR R v56 st) (panR R))
       (retR R (.bool false) st)) (panR R))
      (retR R (.bool false) st)) (panR R))
     (retR R (.bool false) st))))) (panR R)
theorem c_impl_looker_family {a0 a1 a2 : PV} {st : St} {R : Res → St → Prop} (h : b_impl_looker_family a0 a1 a2 st R) : HCalls prog n_impl_looker_family [a0, a1, a2] st R :=
 hcalls_of_func tyOK mixed (fn := Go.Proofs.Tryz.f121) (by kernel_rfl) (by kernel_rfl) (by kernel_rfl) (ann := [])
  (show hFunc prog TT [] Go.Proofs.Tryz.f121 [a0, a1, a2] st R from (show hFunc prog TT [] Go.Proofs.Tryz.f121 [a0, a1, a2] st R = b_impl_looker_family a0 a1 a2 st R by kernel_rfl) ▸ h)
end Go.H.Tryz
