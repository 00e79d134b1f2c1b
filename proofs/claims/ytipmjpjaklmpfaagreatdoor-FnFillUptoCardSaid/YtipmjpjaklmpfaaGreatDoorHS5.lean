/- Part of a proof that the program answers as the reference does: ZGS5. -/
import Derived.Test.YtipmjpjaklmpfaaGreatDoorHT
set_option linter.unusedVariables false
set_option maxRecDepth 100000
namespace Go.H.Tryz
open Go Go.H
def b_impl_looker_node (a0 : PV) (st : St) (R : Res → St → Prop) : Prop :=
 qb (q_nil a0) fun v4 =>
 qb (q_fa 0 v4) fun v5 =>
 qb (q_load st false 1 v5) fun v6 =>
 qb (q_bin .sub v6 (.int .i64 1)) fun v7 =>
 qb (q_nil a0) fun v8 =>
 qb (q_fa 0 v8) fun v9 =>
 e_store st 1 v9 v7 fun st =>
 qb (q_nil a0) fun v11 =>
 qb (q_fa 0 v11) fun v12 =>
 qb (q_load st false 1 v12) fun v13 =>
 qb (q_bin .geq v13 (.int .i64 0)) fun v14 =>
 retR R v14 st
theorem c_impl_looker_node {a0 : PV} {st : St} {R : Res → St → Prop} (h : b_impl_looker_node a0 st R) : HCalls prog n_impl_looker_node [a0] st R :=
 hcalls_of_func tyOK mixed (fn := Go.Proofs.Tryz.f105) (by kernel_rfl) (by kernel_rfl) (by kernel_rfl) (ann := [])
  (show hFunc prog TT [] Go.Proofs.Tryz.f105 [a0] st R from (show hFunc prog TT [] Go.Proofs.Tryz.f105 [a0] st R = b_impl_looker_node a0 st R by kernel_rfl) ▸ h)
def b_impl_Tree_bare (a0 a1 : PV) (st : St) (R : Res → St → Prop) : Prop :=
 qb (q_nil a0) fun v6 =>
 qb (q_fa 1 v6) fun v7 =>
 qb (q_load st false 1 v7) fun v8 =>
 qb (q_bin .eql v8 (.int .i64 0)) fun v9 =>
 cb v9 fun b => br b
  (qb (q_nil a0) fun v12 =>
  qb (q_fa 2 v12) fun v13 =>
  qb (q_load st false 1 v13) fun v14 =>
  qb (q_bin .eql v14 (.str [])) fun v15 =>
  cb v15 fun b_1 => br b_1
   (qb (q_nil a0) fun v19 =>
   qb (q_fa 3 v19) fun v20 =>
   qb (q_load st false 1 v20) fun v21 =>
   qb (q_len v21) fun v22 =>
   qb (q_bin .eql v22 a1) fun v24 =>
   retR R v24 st)
   (retR R (.bool false) st))
  (retR R (.bool false) st)
theorem c_impl_Tree_bare {a0 a1 : PV} {st : St} {R : Res → St → Prop} (h : b_impl_Tree_bare a0 a1 st R) : HCalls prog n_impl_Tree_bare [a0, a1] st R :=
 hcalls_of_func tyOK mixed (fn := Go.Proofs.Tryz.f106) (by kernel_rfl) (by kernel_rfl) (by kernel_rfl) (ann := [])
  (show hFunc prog TT [] Go.Proofs.Tryz.f106 [a0, a1] st R from (show hFunc prog TT [] Go.Proofs.Tryz.f106 [a0, a1] st R = b_impl_Tree_bare a0 a1 st R by kernel_rfl) ▸ h)
def b_impl_in (a0 a1 a2 : PV) (st : St) (R : Res → St → Prop) : Prop :=
 qb (q_bin .geq a0 a1) fun v9 =>
 cb v9 fun b => br b
  (qb (q_bin .leq a0 a2) fun v13 =>
  retR R v13 st)
  (retR R (.bool false) st)
theorem c_impl_in {a0 a1 a2 : PV} {st : St} {R : Res → St → Prop} (h : b_impl_in a0 a1 a2 st R) : HCalls prog n_impl_in [a0, a1, a2] st R :=
 hcalls_of_func tyOK mixed (fn := Go.Proofs.Tryz.f107) (by kernel_rfl) (by kernel_rfl) (by kernel_rfl) (ann := [])
  (show hFunc prog TT [] Go.Proofs.Tryz.f107 [a0, a1, a2] st R from (show hFunc prog TT [] Go.Proofs.Tryz.f107 [a0, a1, a2] st R = b_impl_in a0 a1 a2 st R by kernel_rfl) ▸ h)
def b_impl_looker_args (a0 a1 : PV) (st : St) (R : Res → St → Prop) : Prop :=
 qb (q_len a1) fun v8 =>
 hFix (fun ls st X =>
  qb (q_bin .lss (ls.getD 0 .junk) v8) fun v10 =>
  cb v10 fun b => br b
   (qb (q_ia 4 a1 (ls.getD 0 .junk)) fun v11 =>
   qb (q_load st true 4 v11) fun v12 =>
   e_alloc st [.int .i64 0, .int .i64 0, .str [], .sl 0 true []] fun v6 st =>
   e_store st 4 v6 v12 fun st =>
   hJ (fun ls_1 st =>
    cb (ls_1.getD 0 .junk) fun b_1 => br b_1
     (callK prog n_impl_Tree_bare [v6, (.int .i64 0)] st (fun v22 st =>
     qb (q_un .not v22) fun v23 =>
     cb v23 fun b_2 => br b_2
      (retR R (.bool false) st)
      (callK prog n_impl_looker_node [a0] st (fun v26 st =>
      qb (q_un .not v26) fun v27 =>
      cb v27 fun b_3 => br b_3
       (retR R (.bool false) st)
       (qb (q_bin .add (ls.getD 0 .junk) (.int .i64 1)) fun v33 =>
       X [v33] st)) (panR R))) (panR R))
     (qb (q_load st true 4 v6) fun v30 =>
     callK prog n_impl_looker_term [a0, v30] st (fun v31 st =>
     qb (q_un .not v31) fun v32 =>
     cb v32 fun b_4 => br b_4
      (retR R (.bool false) st)
      (qb (q_bin .add (ls.getD 0 .junk) (.int .i64 1)) fun v33_1 =>
      X [v33_1] st)) (panR R)))
    (fun k =>
   qb (q_nil a0) fun v14 =>
   qb (q_fa 1 v14) fun v15 =>
   qb (q_load st false 1 v15) fun v16 =>
   cb v16 fun b_5 => br b_5
    (qb (q_fa 0 v6) fun v18 =>
    qb (q_load st false 1 v18) fun v19 =>
    qb (q_bin .eql v19 (.int .i64 8)) fun v20 =>
    k [v20] st)
    (k [(.bool false)] st)))
   (retR R (.bool true) st))
  [(.int .i64 0)] st
theorem c_impl_looker_args {a0 a1 : PV} {st : St} {R : Res → St → Prop} (h : b_impl_looker_args a0 a1 st R) : HCalls prog n_impl_looker_args [a0, a1] st R :=
 hcalls_of_func tyOK mixed (fn := Go.Proofs.Tryz.f108) (by kernel_rfl) (by kernel_rfl) (by kernel_rfl) (ann := [(8, [9]), (17, [21])])
  (show hFunc prog TT [(8, [9]), (17, [21])] Go.Proofs.Tryz.f108 [a0, a1] st R from (show hFunc prog TT [(8, [9]), (17, [21])] Go.Proofs.Tryz.f108 [a0, a1] st R = b_impl_looker_args a0 a1 st R by kernel_rfl) ▸ h)
def b_impl_cloneAll (a0 : PV) (st : St) (R : Res → St → Prop) : Prop :=
 qb (q_lit 4 0 0 [] []) fun v6 =>
 qb (q_len a0) fun v8 =>
 hFix (fun ls st X =>
  qb (q_bin .lss (ls.getD 1 .junk) v8) fun v10 =>
  cb v10 fun b => br b
   (qb (q_ia 4 a0 (ls.getD 1 .junk)) fun v11 =>
   qb (q_load st true 4 v11) fun v12 =>
   e_alloc st [.int .i64 0, .int .i64 0, .str [], .sl 0 true []] fun v5 st =>
   e_store st 4 v5 v12 fun st =>
   qb (q_load st true 4 v5) fun v14 =>
   callK prog n_impl_clone [v14] st (fun v15 st =>
   qb (q_lit 4 1 0 [] [(0, v15)]) fun v16 =>
   e_append st 4 56 (ls.getD 0 .junk) v16 (fun v17 st =>
   qb (q_bin .add (ls.getD 1 .junk) (.int .i64 1)) fun v18 =>
   X [v17, v18] st)) (panR R))
   (retR R (ls.getD 0 .junk) st))
  [v6, (.int .i64 0)] st
theorem c_impl_cloneAll {a0 : PV} {st : St} {R : Res → St → Prop} (h : b_impl_cloneAll a0 st R) : HCalls prog n_impl_cloneAll [a0] st R :=
 hcalls_of_func tyOK mixed (fn := Go.Proofs.Tryz.f110) (by kernel_rfl) (by kernel_rfl) (by kernel_rfl) (ann := [(12, [3, 9])])
  (show hFunc prog TT [(12, [3, 9])] Go.Proofs.Tryz.f110 [a0] st R from (show hFunc prog TT [(12, [3, 9])] Go.Proofs.Tryz.f110 [a0] st R = b_impl_cloneAll a0 st R by kernel_rfl) ▸ h)
def b_impl_Tree_binds (a0 a1 : PV) (st : St) (R : Res → St → Prop) : Prop :=
 qb (q_nil a0) fun v6 =>
 qb (q_fa 0 v6) fun v7 =>
 qb (q_load st false 1 v7) fun v8 =>
 qb (q_bin .eql v8 (.int .i64 4)) fun v9 =>
 cb v9 fun b => br b
  (retR R (.bool true) st)
  (qb (q_nil a0) fun v12 =>
  qb (q_fa 0 v12) fun v13 =>
  qb (q_load st false 1 v13) fun v14 =>
  qb (q_bin .eql v14 (.int .i64 2)) fun v15 =>
  cb v15 fun b_1 => br b_1
   (qb (q_bin .eql a1 (.int .i64 1)) fun v18 =>
   retR R v18 st)
   (retR R (.bool false) st))
theorem c_impl_Tree_binds {a0 a1 : PV} {st : St} {R : Res → St → Prop} (h : b_impl_Tree_binds a0 a1 st R) : HCalls prog n_impl_Tree_binds [a0, a1] st R :=
 hcalls_of_func tyOK mixed (fn := Go.Proofs.Tryz.f111) (by kernel_rfl) (by kernel_rfl) (by kernel_rfl) (ann := [])
  (show hFunc prog TT [] Go.Proofs.Tryz.f111 [a0, a1] st R from (show hFunc prog TT [] Go.Proofs.Tryz.f111 [a0, a1] st R = b_impl_Tree_binds a0 a1 st R by kernel_rfl) ▸ h)
def b_impl_tooBig (a0 : PV) (st : St) (R : Res → St → Prop) : Prop :=
 e_box st a0 fun v1 st =>
 e_alloc st [.int .i64 0] fun v3 st =>
 e_store st 1 v3 (.int .i64 0) fun st =>
 callK prog n_impl_Tree_each [v1, (.int .i64 0), (.fn (.func n_impl_tooBig_1) [] [v3])] st (fun v5 st =>
 retR R v5 st) (panR R)
theorem c_impl_tooBig {a0 : PV} {st : St} {R : Res → St → Prop} (h : b_impl_tooBig a0 st R) : HCalls prog n_impl_tooBig [a0] st R :=
 hcalls_of_func tyOK mixed (fn := Go.Proofs.Tryz.f112) (by kernel_rfl) (by kernel_rfl) (by kernel_rfl) (ann := [])
  (show hFunc prog TT [] Go.Proofs.Tryz.f112 [a0] st R from (show hFunc prog TT [] Go.Proofs.Tryz.f112 [a0] st R = b_impl_tooBig a0 st R by kernel_rfl) ▸ h)
def b_impl_turned (a0 a1 a2 : PV) (st : St) (R : Res → St → Prop) : Prop :=
 e_box st a0 fun v3 st =>
 e_alloc st [.int .i64 0, .int .i64 0, .str [], .sl 0 true []] fun v6 st =>
 qb (q_lit 4 0 0 [] []) fun v10 =>
 qb (q_fa 3 v3) fun v11 =>
 qb (q_load st false 1 v11) fun v12 =>
 qb (q_len v12) fun v13 =>
 hJ (fun ls st =>
  qb (q_fa 3 v3) fun v31 =>
  e_store st 1 v31 (ls.getD 0 .junk) fun st =>
  qb (q_fa 0 v3) fun v32 =>
  qb (q_load st false 1 v32) fun v33 =>
  qb (q_bin .eql v33 (.int .i64 5)) fun v34 =>
  cb v34 fun b => br b
   (qb (q_load st true 4 v3) fun v36 =>
   e_call prog st a2 [v36, a1] (fun v38 st =>
   e_store st 4 v6 v38 fun st =>
   qb (q_load st true 4 v6) fun r => retR R r st) (panR R))
   (qb (q_load st true 4 v3) fun v39 =>
   e_store st 4 v6 v39 fun st =>
   qb (q_load st true 4 v6) fun r_1 => retR R r_1 st))
  (fun k =>
 hFix (fun ls_1 st X =>
  qb (q_bin .lss (ls_1.getD 1 .junk) v13) fun v15 =>
  cb v15 fun b_1 => br b_1
   (qb (q_ia 4 v12 (ls_1.getD 1 .junk)) fun v17 =>
   qb (q_load st true 4 v17) fun v18 =>
   e_alloc st [.int .i64 0, .int .i64 0, .str [], .sl 0 true []] fun v9 st =>
   e_store st 4 v9 v18 fun st =>
   qb (q_load st true 4 v9) fun v20 =>
   callK prog n_impl_Tree_under [v3, (ls_1.getD 1 .junk)] st (fun v23 st =>
   q_load st true 4 v9 = some v20 ∧ (qb (q_bin .add a1 v23) fun v24 =>
   callK prog n_impl_turned [v20, v24, a2] st (fun v26 st =>
   qb (q_lit 4 1 0 [] [(0, v26)]) fun v27 =>
   e_append st 4 56 (ls_1.getD 0 .junk) v27 (fun v28 st =>
   qb (q_bin .add (ls_1.getD 1 .junk) (.int .i64 1)) fun v29 =>
   X [v28, v29] st)) (panR R))) (panR R))
   (k [(ls_1.getD 0 .junk)] st))
  [v10, (.int .i64 0)] st)
theorem c_impl_turned {a0 a1 a2 : PV} {st : St} {R : Res → St → Prop} (h : b_impl_turned a0 a1 a2 st R) : HCalls prog n_impl_turned [a0, a1, a2] st R :=
 hcalls_of_func tyOK mixed (fn := Go.Proofs.Tryz.f113) (by kernel_rfl) (by kernel_rfl) (by kernel_rfl) (ann := [(12, [7, 14]), (3, [7])])
  (show hFunc prog TT [(12, [7, 14]), (3, [7])] Go.Proofs.Tryz.f113 [a0, a1, a2] st R from (show hFunc prog TT [(12, [7, 14]), (3, [7])] Go.Proofs.Tryz.f113 [a0, a1, a2] st R = b_impl_turned a0 a1 a2 st R by kernel_rfl) ▸ h)
def b_impl_lift_1 (a0 a1 a2 a3 : PV) (st : St) (R : Res → St → Prop) : Prop :=
 e_box st a0 fun v4 st =>
 e_alloc st [.int .i64 0, .int .i64 0, .str [], .sl 0 true []] fun v6 st =>
 qb (q_fa 1 v4) fun v7 =>
 qb (q_load st false 1 v7) fun v8 =>
 qb (q_load st false 1 a2) fun v9 =>
 qb (q_bin .add v9 a1) fun v11 =>
 qb (q_bin .geq v8 v11) fun v12 =>
 cb v12 fun b => br b
  (qb (q_fa 1 v4) fun v13 =>
  qb (q_load st false 1 v13) fun v14 =>
  qb (q_load st false 1 a3) fun v15 =>
  qb (q_bin .add v14 v15) fun v16 =>
  qb (q_fa 1 v4) fun v17 =>
  e_store st 1 v17 v16 fun st =>
  qb (q_load st true 4 v4) fun v18 =>
  e_store st 4 v6 v18 fun st =>
  qb (q_load st true 4 v6) fun r => retR R r st)
  (qb (q_load st true 4 v4) fun v18_1 =>
  e_store st 4 v6 v18_1 fun st =>
  qb (q_load st true 4 v6) fun r_1 => retR R r_1 st)
theorem c_impl_lift_1 {a0 a1 a2 a3 : PV} {st : St} {R : Res → St → Prop} (h : b_impl_lift_1 a0 a1 a2 a3 st R) : HCalls prog n_impl_lift_1 [a0, a1, a2, a3] st R :=
 hcalls_of_func tyOK mixed (fn := Go.Proofs.Tryz.f114) (by kernel_rfl) (by kernel_rfl) (by kernel_rfl) (ann := [])
  (show hFunc prog TT [] Go.Proofs.Tryz.f114 [a0, a1, a2, a3] st R from (show hFunc prog TT [] Go.Proofs.Tryz.f114 [a0, a1, a2, a3] st R = b_impl_lift_1 a0 a1 a2 a3 st R by kernel_rfl) ▸ h)
def b_spec_l01Binds (a0 a1 : PV) (st : St) (R : Res → St → Prop) : Prop :=
 e_box st a0 fun v2 st =>
 qb (q_fa 0 v2) fun v5 =>
 qb (q_load st false 1 v5) fun v6 =>
 qb (q_bin .eql v6 (.int .i64 4)) fun v7 =>
 cb v7 fun b => br b
  (retR R (.bool true) st)
  (qb (q_fa 0 v2) fun v9 =>
  qb (q_load st false 1 v9) fun v10 =>
  qb (q_bin .eql v10 (.int .i64 2)) fun v11 =>
  cb v11 fun b_1 => br b_1
   (qb (q_bin .eql a1 (.int .i64 1)) fun v14 =>
   retR R v14 st)
   (retR R (.bool false) st))
theorem c_spec_l01Binds {a0 a1 : PV} {st : St} {R : Res → St → Prop} (h : b_spec_l01Binds a0 a1 st R) : HCalls prog n_spec_l01Binds [a0, a1] st R :=
 hcalls_of_func tyOK mixed (fn := Go.Proofs.Tryz.f117) (by kernel_rfl) (by kernel_rfl) (by kernel_rfl) (ann := [])
  (show hFunc prog TT [] Go.Proofs.Tryz.f117 [a0, a1] st R from (show hFunc prog TT [] Go.Proofs.Tryz.f117 [a0, a1] st R = b_spec_l01Binds a0 a1 st R by kernel_rfl) ▸ h)
def b_spec_l01High (a0 : PV) (st : St) (R : Res → St → Prop) : Prop :=
 e_box st a0 fun v1 st =>
 hJ (fun ls st =>
  cb (ls.getD 0 .junk) fun b => br b
   (retR R (.bool true) st)
   (hFix (fun ls_1 st X =>
    qb (q_fa 3 v1) fun v13 =>
    qb (q_load st false 1 v13) fun v14 =>
    qb (q_len v14) fun v15 =>
    qb (q_bin .lss (ls_1.getD 0 .junk) v15) fun v16 =>
    cb v16 fun b_1 => br b_1
     (qb (q_fa 3 v1) fun v19 =>
     qb (q_load st false 1 v19) fun v20 =>
     qb (q_ia 4 v20 (ls_1.getD 0 .junk)) fun v22 =>
     qb (q_load st true 4 v22) fun v23 =>
     callK prog n_spec_l01High [v23] st (fun v24 st =>
     cb v24 fun b_2 => br b_2
      (retR R (.bool true) st)
      (qb (q_bin .add (ls_1.getD 0 .junk) (.int .i64 1)) fun v18 =>
      X [v18] st)) (panR R))
     (retR R (.bool false) st))
    [(.int .i64 0)] st))
  (fun k =>
 qb (q_fa 0 v1) fun v4 =>
 qb (q_load st false 1 v4) fun v5 =>
 qb (q_bin .eql v5 (.int .i64 5)) fun v6 =>
 cb v6 fun b_3 => br b_3
  (qb (q_fa 1 v1) fun v8 =>
  qb (q_load st false 1 v8) fun v9 =>
  qb (q_bin .gtr v9 (.int .i64 100)) fun v10 =>
  k [v10] st)
  (k [(.bool false)] st))
theorem e_spec_l01High : Enters prog n_spec_l01High := ⟨Go.Proofs.Tryz.f118, by kernel_rfl, by kernel_rfl, by kernel_rfl⟩
theorem c_spec_l01High {a0 : PV} {st : St} {R : Res → St → Prop} (h : b_spec_l01High a0 st R) : HCalls prog n_spec_l01High [a0] st R :=
 hcalls_of_func tyOK mixed (fn := Go.Proofs.Tryz.f118) (by kernel_rfl) (by kernel_rfl) (by kernel_rfl) (ann := [(16, [3]), (5, [11])])
  (show hFunc prog TT [(16, [3]), (5, [11])] Go.Proofs.Tryz.f118 [a0] st R from (show hFunc prog TT [(16, [3]), (5, [11])] Go.Proofs.Tryz.f118 [a0] st R = b_spec_l01High a0 st R by kernel_rfl) ▸ h)
def b_spec_l01Copy (a0 : PV) (st : St) (R : Res → St → Prop) : Prop :=
 e_box st a0 fun v1 st =>
 e_alloc st [.int .i64 0, .int .i64 0, .str [], .sl 0 true []] fun v2 st =>
 qb (q_lit 4 0 0 [] []) fun v5 =>
 hJ (fun ls st =>
  qb (q_load st true 4 v1) fun v22 =>
  callK prog n_spec_l01With [v22, (ls.getD 0 .junk)] st (fun v24 st =>
  e_store st 4 v2 v24 fun st =>
  qb (q_load st true 4 v2) fun r => retR R r st) (panR R))
  (fun k =>
 hFix (fun ls_1 st X =>
  qb (q_fa 3 v1) fun v7 =>
  qb (q_load st false 1 v7) fun v8 =>
  qb (q_len v8) fun v9 =>
  qb (q_bin .lss (ls_1.getD 1 .junk) v9) fun v10 =>
  cb v10 fun b => br b
   (qb (q_fa 3 v1) fun v14 =>
   qb (q_load st false 1 v14) fun v15 =>
   qb (q_ia 4 v15 (ls_1.getD 1 .junk)) fun v17 =>
   qb (q_load st true 4 v17) fun v18 =>
   callK prog n_spec_l01Copy [v18] st (fun v19 st =>
   qb (q_lit 4 1 0 [] [(0, v19)]) fun v20 =>
   e_append st 4 56 (ls_1.getD 0 .junk) v20 (fun v21 st =>
   qb (q_bin .add (ls_1.getD 1 .junk) (.int .i64 1)) fun v12 =>
   X [v21, v12] st)) (panR R))
   (k [(ls_1.getD 0 .junk)] st))
  [v5, (.int .i64 0)] st)
theorem c_spec_l01Copy {a0 : PV} {st : St} {R : Res → St → Prop} (h : b_spec_l01Copy a0 st R) : HCalls prog n_spec_l01Copy [a0] st R :=
 hcalls_of_func tyOK mixed (fn := Go.Proofs.Tryz.f119) (by kernel_rfl) (by kernel_rfl) (by kernel_rfl) (ann := [(12, [3, 4]), (3, [3])])
  (show hFunc prog TT [(12, [3, 4]), (3, [3])] Go.Proofs.Tryz.f119 [a0] st R from (show hFunc prog TT [(12, [3, 4]), (3, [3])] Go.Proofs.Tryz.f119 [a0] st R = b_spec_l01Copy a0 st R by kernel_rfl) ▸ h)
def b_impl_wordOK (a0 : PV) (st : St) (R : Res → St → Prop) : Prop :=
 qb (q_lenS a0) fun v4 =>
 callK prog n_impl_in [v4, (.int .i64 1), (.int .i64 40)] st (fun v5 st =>
 cb v5 fun b => br b
  (qb (q_ix a0 (.int .i64 0)) fun v8 =>
  callK prog n_impl_isHead [v8] st (fun v9 st =>
  cb v9 fun b_1 => br b_1
   (callK prog n_impl_over [a0, (.str [97, 98, 99, 100, 101, 102, 103, 104, 105, 106, 107, 108, 109, 110, 111, 112, 113, 114, 115, 116, 117, 118, 119, 120, 121, 122, 65, 66, 67, 68, 69, 70, 71, 72, 73, 74, 75, 76, 77, 78, 79, 80, 81, 82, 83, 84, 85, 86, 87, 88, 89, 90, 95, 48, 49, 50, 51, 52, 53, 54, 55, 56, 57])] st (fun v13 st =>
   retR R v13 st) (panR R))
   (retR R (.bool false) st)) (panR R))
  (retR R (.bool false) st)) (panR R)
theorem c_impl_wordOK {a0 : PV} {st : St} {R : Res → St → Prop} (h : b_impl_wordOK a0 st R) : HCalls prog n_impl_wordOK [a0] st R :=
 hcalls_of_func tyOK mixed (fn := Go.Proofs.Tryz.f120) (by kernel_rfl) (by kernel_rfl) (by kernel_rfl) (ann := [])
  (show hFunc prog TT [] Go.Proofs.Tryz.f120 [a0] st R from (show hFunc prog TT [] Go.Proofs.Tryz.f120 [a0] st R = b_impl_wordOK a0 st R by kernel_rfl) ▸ h)
def b_strings_CutPrefix (a0 a1 : PV) (st : St) (R : Res → St → Prop) : Prop :=
 callK prog n_internal_stringslite_CutPrefix [a0, a1] st (fun v8 st =>
 qb (q_ex v8 0) fun v9 =>
 qb (q_ex v8 1) fun v10 =>
 retR R (.tup [v9, v10]) st) (panR R)
theorem c_strings_CutPrefix {a0 a1 : PV} {st : St} {R : Res → St → Prop} (h : b_strings_CutPrefix a0 a1 st R) : HCalls prog n_strings_CutPrefix [a0, a1] st R :=
 hcalls_of_func tyOK mixed (fn := Go.Proofs.Tryz.f121) (by kernel_rfl) (by kernel_rfl) (by kernel_rfl) (ann := [])
  (show hFunc prog TT [] Go.Proofs.Tryz.f121 [a0, a1] st R from (show hFunc prog TT [] Go.Proofs.Tryz.f121 [a0, a1] st R = b_strings_CutPrefix a0 a1 st R by kernel_rfl) ▸ h)
def b_impl_over (a0 a1 : PV) (st : St) (R : Res → St → Prop) : Prop :=
 callK prog n_strings_Trim [a0, a1] st (fun v7 st =>
 qb (q_bin .eql v7 (.str [])) fun v8 =>
 retR R v8 st) (panR R)
theorem c_impl_over {a0 a1 : PV} {st : St} {R : Res → St → Prop} (h : b_impl_over a0 a1 st R) : HCalls prog n_impl_over [a0, a1] st R :=
 hcalls_of_func tyOK mixed (fn := Go.Proofs.Tryz.f122) (by kernel_rfl) (by kernel_rfl) (by kernel_rfl) (ann := [])
  (show hFunc prog TT [] Go.Proofs.Tryz.f122 [a0, a1] st R from (show hFunc prog TT [] Go.Proofs.Tryz.f122 [a0, a1] st R = b_impl_over a0 a1 st R by kernel_rfl) ▸ h)
def b_slices_IndexFunc_impl_Typed_impl_Typed (a0 a1 : PV) (st : St) (R : Res → St → Prop) : Prop :=
 qb (q_len a0) fun v7 =>
 hFix (fun ls st X =>
  qb (q_bin .lss (ls.getD 0 .junk) v7) fun v9 =>
  cb v9 fun b => br b
   (qb (q_ia 5 a0 (ls.getD 0 .junk)) fun v14 =>
   qb (q_load st true 5 v14) fun v15 =>
   e_call prog st a1 [v15] (fun v16 st =>
   cb v16 fun b_1 => br b_1
    (retR R (ls.getD 0 .junk) st)
    (qb (q_bin .add (ls.getD 0 .junk) (.int .i64 1)) fun v18 =>
    X [v18] st)) (panR R))
   (retR R (.int .i64 (-1)) st))
  [(.int .i64 0)] st
theorem c_slices_IndexFunc_impl_Typed_impl_Typed {a0 a1 : PV} {st : St} {R : Res → St → Prop} (h : b_slices_IndexFunc_impl_Typed_impl_Typed a0 a1 st R) : HCalls prog n_slices_IndexFunc_impl_Typed_impl_Typed [a0, a1] st R :=
 hcalls_of_func tyOK mixed (fn := Go.Proofs.Tryz.f123) (by kernel_rfl) (by kernel_rfl) (by kernel_rfl) (ann := [(8, [8])])
  (show hFunc prog TT [(8, [8])] Go.Proofs.Tryz.f123 [a0, a1] st R from (show hFunc prog TT [(8, [8])] Go.Proofs.Tryz.f123 [a0, a1] st R = b_slices_IndexFunc_impl_Typed_impl_Typed a0 a1 st R by kernel_rfl) ▸ h)
end Go.H.Tryz
