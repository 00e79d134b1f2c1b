/- Part of a proof that the program answers as the reference does: EFS7. -/
import Derived.Test.YtlhiejikjncgpaaGreatDoorHT
/- MADE BY PROGRAM (hgen.py): what the functions compute, over pure values. -/
set_option linter.unusedVariables false
set_option maxRecDepth 100000
namespace Go.H.Tryz
open Go Go.H
def b_impl_looker_node (a0 : PV) (st : St) (R : Res → St → Prop) : Prop :=
 qb (q_nil a0) fun v4 =>
 qb (q_fa 0 v4) fun v5 =>
 qb (q_load st false 1 v5) fun v6 =>
 qb (q_bin .sub v6 (.int .i64 1)) fun v7 =>
 qb (q_nil a0) fun v8 =>
 qb (q_fa 0 v8) fun v9 =>
 e_store st 1 v9 v7 fun st =>
 qb (q_nil a0) fun v11 =>
 qb (q_fa 0 v11) fun v12 =>
 qb (q_load st false 1 v12) fun v13 =>
 qb (q_bin .geq v13 (.int .i64 0)) fun v14 =>
 retR R v14 st
theorem c_impl_looker_node {a0 : PV} {st : St} {R : Res → St → Prop} (h : b_impl_looker_node a0 st R) : HCalls prog n_impl_looker_node [a0] st R :=
 hcalls_of_func tyOK mixed (fn := Go.Proofs.Tryz.f142) (by kernel_rfl) (by kernel_rfl) (by kernel_rfl) (ann := [])
  (show hFunc prog TT [] Go.Proofs.Tryz.f142 [a0] st R from (show hFunc prog TT [] Go.Proofs.Tryz.f142 [a0] st R = b_impl_looker_node a0 st R by kernel_rfl) ▸ h)
def b_impl_Tree_bare (a0 a1 : PV) (st : St) (R : Res → St → Prop) : Prop :=
 qb (q_nil a0) fun v6 =>
 qb (q_fa 1 v6) fun v7 =>
 qb (q_load st false 1 v7) fun v8 =>
 qb (q_bin .eql v8 (.int .i64 0)) fun v9 =>
 cb v9 fun b => br b
  (qb (q_nil a0) fun v12 =>
  qb (q_fa 2 v12) fun v13 =>
  qb (q_load st false 1 v13) fun v14 =>
  qb (q_bin .eql v14 (.str [])) fun v15 =>
  cb v15 fun b_1 => br b_1
   (qb (q_nil a0) fun v19 =>
   qb (q_fa 3 v19) fun v20 =>
   qb (q_load st false 1 v20) fun v21 =>
   qb (q_len v21) fun v22 =>
   qb (q_bin .eql v22 a1) fun v24 =>
   retR R v24 st)
   (retR R (.bool false) st))
  (retR R (.bool false) st)
theorem c_impl_Tree_bare {a0 a1 : PV} {st : St} {R : Res → St → Prop} (h : b_impl_Tree_bare a0 a1 st R) : HCalls prog n_impl_Tree_bare [a0, a1] st R :=
 hcalls_of_func tyOK mixed (fn := Go.Proofs.Tryz.f143) (by kernel_rfl) (by kernel_rfl) (by kernel_rfl) (ann := [])
  (show hFunc prog TT [] Go.Proofs.Tryz.f143 [a0, a1] st R from (show hFunc prog TT [] Go.Proofs.Tryz.f143 [a0, a1] st R = b_impl_Tree_bare a0 a1 st R by kernel_rfl) ▸ h)
def b_impl_looker_args (a0 a1 : PV) (st : St) (R : Res → St → Prop) : Prop :=
 qb (q_len a1) fun v8 =>
 hFix (fun ls st X =>
  qb (q_bin .lss (ls.getD 0 .junk) v8) fun v10 =>
  cb v10 fun b => br b
   (qb (q_ia 4 a1 (ls.getD 0 .junk)) fun v11 =>
   qb (q_load st true 4 v11) fun v12 =>
   e_alloc st [.int .i64 0, .int .i64 0, .str [], .sl 0 true []] fun v6 st =>
   e_store st 4 v6 v12 fun st =>
   hJ (fun ls_1 st =>
    cb (ls_1.getD 0 .junk) fun b_1 => br b_1
     (callK prog n_impl_Tree_bare [v6, (.int .i64 0)] st (fun v22 st =>
     qb (q_un .not v22) fun v23 =>
     cb v23 fun b_2 => br b_2
      (retR R (.bool false) st)
      (callK prog n_impl_looker_node [a0] st (fun v26 st =>
      qb (q_un .not v26) fun v27 =>
      cb v27 fun b_3 => br b_3
       (retR R (.bool false) st)
       (qb (q_bin .add (ls.getD 0 .junk) (.int .i64 1)) fun v33 =>
       X [v33] st)) (panR R))) (panR R))
     (qb (q_load st true 4 v6) fun v30 =>
     callK prog n_impl_looker_term [a0, v30] st (fun v31 st =>
     qb (q_un .not v31) fun v32 =>
     cb v32 fun b_4 => br b_4
      (retR R (.bool false) st)
      (qb (q_bin .add (ls.getD 0 .junk) (.int .i64 1)) fun v33_1 =>
      X [v33_1] st)) (panR R)))
    (fun k =>
   qb (q_nil a0) fun v14 =>
   qb (q_fa 1 v14) fun v15 =>
   qb (q_load st false 1 v15) fun v16 =>
   cb v16 fun b_5 => br b_5
    (qb (q_fa 0 v6) fun v18 =>
    qb (q_load st false 1 v18) fun v19 =>
    qb (q_bin .eql v19 (.int .i64 8)) fun v20 =>
    k [v20] st)
    (k [(.bool false)] st)))
   (retR R (.bool true) st))
  [(.int .i64 0)] st
theorem e_impl_looker_args : Enters prog n_impl_looker_args := ⟨Go.Proofs.Tryz.f144, by kernel_rfl, by kernel_rfl, by kernel_rfl⟩
theorem c_impl_looker_args {a0 a1 : PV} {st : St} {R : Res → St → Prop} (h : b_impl_looker_args a0 a1 st R) : HCalls prog n_impl_looker_args [a0, a1] st R :=
 hcalls_of_func tyOK mixed (fn := Go.Proofs.Tryz.f144) (by kernel_rfl) (by kernel_rfl) (by kernel_rfl) (ann := [(8, [9]), (17, [21])])
  (show hFunc prog TT [(8, [9]), (17, [21])] Go.Proofs.Tryz.f144 [a0, a1] st R from (show hFunc prog TT [(8, [9]), (17, [21])] Go.Proofs.Tryz.f144 [a0, a1] st R = b_impl_looker_args a0 a1 st R by kernel_rfl) ▸ h)
def b_impl_NameOK (a0 : PV) (st : St) (R : Res → St → Prop) : Prop :=
 callK prog n_impl_wordOK [a0] st (fun v6 st =>
 qb (q_un .not v6) fun v7 =>
 cb v7 fun b => br b
  (retR R (.bool false) st)
  (qb (q_bin .eql a0 (.str [116, 121, 112, 101])) fun v10 =>
  cb v10 fun b_1 => br b_1
   (retR R (.bool false) st)
   (qb (q_bin .eql a0 (.str [95])) fun v14 =>
   cb v14 fun b_2 => br b_2
    (retR R (.bool false) st)
    (callK prog n_strings_CutPrefix [a0, (.str [120])] st (fun v18 st =>
    qb (q_ex v18 0) fun v19 =>
    qb (q_ex v18 1) fun v20 =>
    qb (q_un .not v20) fun v22 =>
    cb v22 fun b_3 => br b_3
     (retR R (.bool true) st)
     (qb (q_bin .eql v19 (.str [])) fun v25 =>
     cb v25 fun b_4 => br b_4
      (retR R (.bool true) st)
      (callK prog n_impl_over [v19, (.str [48, 49, 50, 51, 52, 53, 54, 55, 56, 57])] st (fun v29 st =>
      qb (q_un .not v29) fun v30 =>
      retR R v30 st) (panR R)))) (panR R))))) (panR R)
theorem c_impl_NameOK {a0 : PV} {st : St} {R : Res → St → Prop} (h : b_impl_NameOK a0 st R) : HCalls prog n_impl_NameOK [a0] st R :=
 hcalls_of_func tyOK mixed (fn := Go.Proofs.Tryz.f145) (by kernel_rfl) (by kernel_rfl) (by kernel_rfl) (ann := [])
  (show hFunc prog TT [] Go.Proofs.Tryz.f145 [a0] st R from (show hFunc prog TT [] Go.Proofs.Tryz.f145 [a0] st R = b_impl_NameOK a0 st R by kernel_rfl) ▸ h)
def b_impl_Tree_binds (a0 a1 : PV) (st : St) (R : Res → St → Prop) : Prop :=
 qb (q_nil a0) fun v6 =>
 qb (q_fa 0 v6) fun v7 =>
 qb (q_load st false 1 v7) fun v8 =>
 qb (q_bin .eql v8 (.int .i64 4)) fun v9 =>
 cb v9 fun b => br b
  (retR R (.bool true) st)
  (qb (q_nil a0) fun v12 =>
  qb (q_fa 0 v12) fun v13 =>
  qb (q_load st false 1 v13) fun v14 =>
  qb (q_bin .eql v14 (.int .i64 2)) fun v15 =>
  cb v15 fun b_1 => br b_1
   (qb (q_bin .eql a1 (.int .i64 1)) fun v18 =>
   retR R v18 st)
   (retR R (.bool false) st))
theorem c_impl_Tree_binds {a0 a1 : PV} {st : St} {R : Res → St → Prop} (h : b_impl_Tree_binds a0 a1 st R) : HCalls prog n_impl_Tree_binds [a0, a1] st R :=
 hcalls_of_func tyOK mixed (fn := Go.Proofs.Tryz.f147) (by kernel_rfl) (by kernel_rfl) (by kernel_rfl) (ann := [])
  (show hFunc prog TT [] Go.Proofs.Tryz.f147 [a0, a1] st R from (show hFunc prog TT [] Go.Proofs.Tryz.f147 [a0, a1] st R = b_impl_Tree_binds a0 a1 st R by kernel_rfl) ▸ h)
def b_spec_l01Kind (a0 : PV) (st : St) (R : Res → St → Prop) : Prop :=
 e_box st a0 fun v1 st =>
 qb (q_fa 0 v1) fun v3 =>
 qb (q_load st false 1 v3) fun v4 =>
 qb (q_bin .eql v4 (.int .i64 2)) fun v6 =>
 cb v6 fun b => br b
  (qb (q_fa 1 v1) fun v7 =>
  qb (q_load st false 1 v7) fun v8 =>
  qb (q_bin .eql v8 (.int .i64 0)) fun v9 =>
  cb v9 fun b_1 => br b_1
   (qb (q_fa 2 v1) fun v11 =>
   qb (q_load st false 1 v11) fun v12 =>
   qb (q_bin .eql v12 (.str [])) fun v13 =>
   cb v13 fun b_2 => br b_2
    (qb (q_fa 3 v1) fun v16 =>
    qb (q_load st false 1 v16) fun v17 =>
    qb (q_len v17) fun v18 =>
    qb (q_bin .eql v18 (.int .i64 2)) fun v19 =>
    cb v19 fun b_3 => br b_3
     (qb (q_fa 3 v1) fun v22 =>
     qb (q_load st false 1 v22) fun v23 =>
     qb (q_ia 4 v23 (.int .i64 0)) fun v24 =>
     qb (q_load st true 4 v24) fun v25 =>
     callK prog n_spec_l01Family [v25] st (fun v26 st =>
     cb v26 fun b_4 => br b_4
      (qb (q_fa 3 v1) fun v29 =>
      qb (q_load st false 1 v29) fun v30 =>
      qb (q_ia 4 v30 (.int .i64 1)) fun v31 =>
      qb (q_load st true 4 v31) fun v32 =>
      callK prog n_spec_l01Kind [v32] st (fun v33 st =>
      retR R v33 st) (panR R))
      (retR R (.bool false) st)) (panR R))
     (retR R (.bool false) st))
    (retR R (.bool false) st))
   (retR R (.bool false) st))
  (qb (q_bin .eql v4 (.int .i64 1)) fun v36 =>
  cb v36 fun b_5 => br b_5
   (qb (q_fa 1 v1) fun v37 =>
   qb (q_load st false 1 v37) fun v38 =>
   qb (q_bin .eql v38 (.int .i64 0)) fun v39 =>
   cb v39 fun b_6 => br b_6
    (qb (q_fa 2 v1) fun v41 =>
    qb (q_load st false 1 v41) fun v42 =>
    qb (q_bin .eql v42 (.str [])) fun v43 =>
    cb v43 fun b_7 => br b_7
     (qb (q_fa 3 v1) fun v46 =>
     qb (q_load st false 1 v46) fun v47 =>
     qb (q_len v47) fun v48 =>
     qb (q_bin .eql v48 (.int .i64 0)) fun v49 =>
     retR R v49 st)
     (retR R (.bool false) st))
    (retR R (.bool false) st))
   (retR R (.bool false) st))
theorem c_spec_l01Kind {a0 : PV} {st : St} {R : Res → St → Prop} (h : b_spec_l01Kind a0 st R) : HCalls prog n_spec_l01Kind [a0] st R :=
 hcalls_of_func tyOK mixed (fn := Go.Proofs.Tryz.f148) (by kernel_rfl) (by kernel_rfl) (by kernel_rfl) (ann := [])
  (show hFunc prog TT [] Go.Proofs.Tryz.f148 [a0] st R from (show hFunc prog TT [] Go.Proofs.Tryz.f148 [a0] st R = b_spec_l01Kind a0 st R by kernel_rfl) ▸ h)
def b_spec_l01Binds (a0 a1 : PV) (st : St) (R : Res → St → Prop) : Prop :=
 e_box st a0 fun v2 st =>
 qb (q_fa 0 v2) fun v5 =>
 qb (q_load st false 1 v5) fun v6 =>
 qb (q_bin .eql v6 (.int .i64 4)) fun v7 =>
 cb v7 fun b => br b
  (retR R (.bool true) st)
  (qb (q_fa 0 v2) fun v9 =>
  qb (q_load st false 1 v9) fun v10 =>
  qb (q_bin .eql v10 (.int .i64 2)) fun v11 =>
  cb v11 fun b_1 => br b_1
   (qb (q_bin .eql a1 (.int .i64 1)) fun v14 =>
   retR R v14 st)
   (retR R (.bool false) st))
theorem c_spec_l01Binds {a0 a1 : PV} {st : St} {R : Res → St → Prop} (h : b_spec_l01Binds a0 a1 st R) : HCalls prog n_spec_l01Binds [a0, a1] st R :=
 hcalls_of_func tyOK mixed (fn := Go.Proofs.Tryz.f149) (by kernel_rfl) (by kernel_rfl) (by kernel_rfl) (ann := [])
  (show hFunc prog TT [] Go.Proofs.Tryz.f149 [a0, a1] st R from (show hFunc prog TT [] Go.Proofs.Tryz.f149 [a0, a1] st R = b_spec_l01Binds a0 a1 st R by kernel_rfl) ▸ h)
def b_spec_l01Copy (a0 : PV) (st : St) (R : Res → St → Prop) : Prop :=
 e_box st a0 fun v1 st =>
 e_alloc st [.int .i64 0, .int .i64 0, .str [], .sl 0 true []] fun v2 st =>
 qb (q_lit 4 0 0 [] []) fun v5 =>
 hJ (fun ls st =>
  qb (q_load st true 4 v1) fun v22 =>
  callK prog n_spec_l01With [v22, (ls.getD 0 .junk)] st (fun v24 st =>
  e_store st 4 v2 v24 fun st =>
  qb (q_load st true 4 v2) fun r => retR R r st) (panR R))
  (fun k =>
 hFix (fun ls_1 st X =>
  qb (q_fa 3 v1) fun v7 =>
  qb (q_load st false 1 v7) fun v8 =>
  qb (q_len v8) fun v9 =>
  qb (q_bin .lss (ls_1.getD 1 .junk) v9) fun v10 =>
  cb v10 fun b => br b
   (qb (q_fa 3 v1) fun v14 =>
   qb (q_load st false 1 v14) fun v15 =>
   qb (q_ia 4 v15 (ls_1.getD 1 .junk)) fun v17 =>
   qb (q_load st true 4 v17) fun v18 =>
   callK prog n_spec_l01Copy [v18] st (fun v19 st =>
   qb (q_lit 4 1 0 [] [(0, v19)]) fun v20 =>
   e_append st 4 56 (ls_1.getD 0 .junk) v20 (fun v21 st =>
   qb (q_bin .add (ls_1.getD 1 .junk) (.int .i64 1)) fun v12 =>
   X [v21, v12] st)) (panR R))
   (k [(ls_1.getD 0 .junk)] st))
  [v5, (.int .i64 0)] st)
theorem c_spec_l01Copy {a0 : PV} {st : St} {R : Res → St → Prop} (h : b_spec_l01Copy a0 st R) : HCalls prog n_spec_l01Copy [a0] st R :=
 hcalls_of_func tyOK mixed (fn := Go.Proofs.Tryz.f150) (by kernel_rfl) (by kernel_rfl) (by kernel_rfl) (ann := [(12, [3, 4]), (3, [3])])
  (show hFunc prog TT [(12, [3, 4]), (3, [3])] Go.Proofs.Tryz.f150 [a0] st R from (show hFunc prog TT [(12, [3, 4]), (3, [3])] Go.Proofs.Tryz.f150 [a0] st R = b_spec_l01Copy a0 st R by kernel_rfl) ▸ h)
def b_impl_checker_family (a0 a1 a2 a3 : PV) (st : St) (R : Res → St → Prop) : Prop :=
 e_box st a2 fun v6 st =>
 qb (q_fa 0 v6) fun v11 =>
 qb (q_load st false 1 v11) fun v12 =>
 qb (q_bin .eql v12 (.int .i64 2)) fun v14 =>
 cb v14 fun b => br b
  (qb (q_fa 3 v6) fun v17 =>
  qb (q_load st false 1 v17) fun v18 =>
  qb (q_ia 4 v18 (.int .i64 0)) fun v19 =>
  qb (q_load st true 4 v19) fun v20 =>
  qb (q_bin .add a3 (.int .i64 1)) fun v22 =>
  callK prog n_impl_checker_family [a0, a1, v20, v22] st (fun v23 st =>
  qb (q_fa 3 v6) fun v26 =>
  qb (q_load st false 1 v26) fun v27 =>
  qb (q_ia 4 v27 (.int .i64 0)) fun v28 =>
  qb (q_load st true 4 v28) fun v29 =>
  qb (q_fa 3 v6) fun v31 =>
  qb (q_load st false 1 v31) fun v32 =>
  qb (q_ia 4 v32 (.int .i64 1)) fun v33 =>
  qb (q_load st true 4 v33) fun v34 =>
  qb (q_bin .add a3 (.int .i64 1)) fun v36 =>
  qb (q_fa 3 v6) fun v37 =>
  qb (q_load st false 1 v37) fun v38 =>
  qb (q_ia 4 v38 (.int .i64 0)) fun v39 =>
  qb (q_load st true 4 v39) fun v40 =>
  callK prog n_impl_behind [a1, v29] st (fun v30 st =>
  q_load st true 4 v39 = some v40 ∧ q_load st false 1 v37 = some v38 ∧ q_load st true 4 v33 = some v34 ∧ q_load st false 1 v31 = some v32 ∧ (callK prog n_impl_Size [v40] st (fun v41 st =>
  q_load st true 4 v33 = some v34 ∧ q_load st false 1 v31 = some v32 ∧ (qb (q_bin .add v36 v41) fun v42 =>
  callK prog n_impl_checker_family [a0, v30, v34, v42] st (fun v43 st =>
  retR R (.tup []) st) (panR R))) (panR R))) (panR R)) (panR R))
  (qb (q_bin .eql v12 (.int .i64 3)) fun v45 =>
  cb v45 fun b_1 => br b_1
   (qb (q_fa 2 v6) fun v48 =>
   qb (q_load st false 1 v48) fun v49 =>
   callK prog n_impl_checker_declared [a0, v49, (.bool true)] st (fun v50 st =>
   qb (q_ex v50 0) fun v51 =>
   qb (q_ex v50 1) fun v52 =>
   e_alloc st [.int .i64 0, .int .i64 0, .str [], .sl 0 true []] fun v8 st =>
   e_store st 4 v8 v51 fun st =>
   qb (q_un .not v52) fun v54 =>
   hJ (fun ls st =>
    qb (q_fa 3 v6) fun v59 =>
    qb (q_load st false 1 v59) fun v60 =>
    qb (q_load st true 4 v8) fun v61 =>
    qb (q_bin .add a3 (.int .i64 1)) fun v63 =>
    callK prog n_impl_checker_args [a0, a1, v60, v61, v63] st (fun v64 st =>
    e_alloc st [.int .i64 0, .int .i64 0, .str [], .sl 0 true []] fun v10 st =>
    e_store st 4 v10 v64 fun st =>
    qb (q_fa 0 v10) fun v65 =>
    qb (q_load st false 1 v65) fun v66 =>
    qb (q_bin .neq v66 (.int .i64 1)) fun v67 =>
    cb v67 fun b_3 => br b_3
     (callK prog n_impl_stop [(.int .i64 8), a3] st (fun v69 st =>
     retR R (.tup []) st) (panR R))
     (retR R (.tup []) st)) (panR R))
    (fun k =>
   cb v54 fun b_2 => br b_2
    (callK prog n_impl_stop [(.int .i64 5), a3] st (fun v56 st =>
    k [] st) (panR R))
    (k [] st))) (panR R))
   (retR R (.tup []) st))
theorem c_impl_checker_family {a0 a1 a2 a3 : PV} {st : St} {R : Res → St → Prop} (h : b_impl_checker_family a0 a1 a2 a3 st R) : HCalls prog n_impl_checker_family [a0, a1, a2, a3] st R :=
 hcalls_of_func tyOK mixed (fn := Go.Proofs.Tryz.f152) (by kernel_rfl) (by kernel_rfl) (by kernel_rfl) (ann := [(34, [])])
  (show hFunc prog TT [(34, [])] Go.Proofs.Tryz.f152 [a0, a1, a2, a3] st R from (show hFunc prog TT [(34, [])] Go.Proofs.Tryz.f152 [a0, a1, a2, a3] st R = b_impl_checker_family a0 a1 a2 a3 st R by kernel_rfl) ▸ h)
def b_slices_Clip_impl_Tree_impl_Tree (a0 : PV) (st : St) (R : Res → St → Prop) : Prop :=
 qb (q_len a0) fun v5 =>
 qb (q_len a0) fun v7 =>
 qb (q_sliceE 4 a0 none (some v5) (some v7)) fun v8 =>
 retR R v8 st
theorem c_slices_Clip_impl_Tree_impl_Tree {a0 : PV} {st : St} {R : Res → St → Prop} (h : b_slices_Clip_impl_Tree_impl_Tree a0 st R) : HCalls prog n_slices_Clip_impl_Tree_impl_Tree [a0] st R :=
 hcalls_of_func tyOK mixed (fn := Go.Proofs.Tryz.f153) (by kernel_rfl) (by kernel_rfl) (by kernel_rfl) (ann := [])
  (show hFunc prog TT [] Go.Proofs.Tryz.f153 [a0] st R from (show hFunc prog TT [] Go.Proofs.Tryz.f153 [a0] st R = b_slices_Clip_impl_Tree_impl_Tree a0 st R by kernel_rfl) ▸ h)
def b_spec_l00Word (a0 : PV) (st : St) (R : Res → St → Prop) : Prop :=
 qb (q_lenS a0) fun v5 =>
 qb (q_bin .lss v5 (.int .i64 1)) fun v6 =>
 cb v6 fun b => br b
  (retR R (.bool false) st)
  (qb (q_lenS a0) fun v9 =>
  qb (q_bin .gtr v9 (.int .i64 40)) fun v10 =>
  cb v10 fun b_1 => br b_1
   (retR R (.bool false) st)
   (qb (q_ix a0 (.int .i64 0)) fun v14 =>
   callK prog n_spec_l00Letter [v14] st (fun v15 st =>
   qb (q_un .not v15) fun v16 =>
   cb v16 fun b_2 => br b_2
    (retR R (.bool false) st)
    (hFix (fun ls st X =>
     qb (q_lenS a0) fun v20 =>
     qb (q_bin .lss (ls.getD 0 .junk) v20) fun v21 =>
     cb v21 fun b_3 => br b_3
      (qb (q_ix a0 (ls.getD 0 .junk)) fun v26 =>
      callK prog n_spec_l00Letter [v26] st (fun v27 st =>
      qb (q_un .not v27) fun v28 =>
      cb v28 fun b_4 => br b_4
       (qb (q_ix a0 (ls.getD 0 .junk)) fun v32 =>
       callK prog n_spec_l00Digit [v32] st (fun v33 st =>
       qb (q_un .not v33) fun v34 =>
       cb v34 fun b_5 => br b_5
        (retR R (.bool false) st)
        (qb (q_bin .add (ls.getD 0 .junk) (.int .i64 1)) fun v23 =>
        X [v23] st)) (panR R))
       (qb (q_bin .add (ls.getD 0 .junk) (.int .i64 1)) fun v23_1 =>
       X [v23_1] st)) (panR R))
      (retR R (.bool true) st))
     [(.int .i64 1)] st)) (panR R)))
theorem c_spec_l00Word {a0 : PV} {st : St} {R : Res → St → Prop} (h : b_spec_l00Word a0 st R) : HCalls prog n_spec_l00Word [a0] st R :=
 hcalls_of_func tyOK mixed (fn := Go.Proofs.Tryz.f154) (by kernel_rfl) (by kernel_rfl) (by kernel_rfl) (ann := [(16, [3])])
  (show hFunc prog TT [(16, [3])] Go.Proofs.Tryz.f154 [a0] st R from (show hFunc prog TT [(16, [3])] Go.Proofs.Tryz.f154 [a0] st R = b_spec_l00Word a0 st R by kernel_rfl) ▸ h)
def b_spec_l00Digit (a0 : PV) (st : St) (R : Res → St → Prop) : Prop :=
 qb (q_bin .geq a0 (.int .u8 48)) fun v4 =>
 cb v4 fun b => br b
  (qb (q_bin .leq a0 (.int .u8 57)) fun v7 =>
  retR R v7 st)
  (retR R (.bool false) st)
theorem c_spec_l00Digit {a0 : PV} {st : St} {R : Res → St → Prop} (h : b_spec_l00Digit a0 st R) : HCalls prog n_spec_l00Digit [a0] st R :=
 hcalls_of_func tyOK mixed (fn := Go.Proofs.Tryz.f155) (by kernel_rfl) (by kernel_rfl) (by kernel_rfl) (ann := [])
  (show hFunc prog TT [] Go.Proofs.Tryz.f155 [a0] st R from (show hFunc prog TT [] Go.Proofs.Tryz.f155 [a0] st R = b_spec_l00Digit a0 st R by kernel_rfl) ▸ h)
def b_spec_l04Run_kind (a0 a1 a2 a3 : PV) (st : St) (R : Res → St → Prop) : Prop :=
 e_box st a2 fun v6 st =>
 qb (q_fa 0 v6) fun v9 =>
 qb (q_load st false 1 v9) fun v10 =>
 qb (q_bin .eql v10 (.int .i64 1)) fun v11 =>
 cb v11 fun b => br b
  (retR R (.bool true) st)
  (qb (q_fa 3 v6) fun v14 =>
  qb (q_load st false 1 v14) fun v15 =>
  qb (q_ia 4 v15 (.int .i64 0)) fun v16 =>
  qb (q_load st true 4 v16) fun v17 =>
  qb (q_bin .add a3 (.int .i64 1)) fun v19 =>
  callK prog n_spec_l04Run_family [a0, a1, v17, v19] st (fun v20 st =>
  cb v20 fun b_1 => br b_1
   (qb (q_fa 3 v6) fun v24 =>
   qb (q_load st false 1 v24) fun v25 =>
   qb (q_ia 4 v25 (.int .i64 0)) fun v26 =>
   qb (q_load st true 4 v26) fun v27 =>
   qb (q_fa 3 v6) fun v29 =>
   qb (q_load st false 1 v29) fun v30 =>
   qb (q_ia 4 v30 (.int .i64 1)) fun v31 =>
   qb (q_load st true 4 v31) fun v32 =>
   qb (q_bin .add a3 (.int .i64 1)) fun v34 =>
   qb (q_fa 3 v6) fun v35 =>
   qb (q_load st false 1 v35) fun v36 =>
   qb (q_ia 4 v36 (.int .i64 0)) fun v37 =>
   qb (q_load st true 4 v37) fun v38 =>
   callK prog n_spec_l04More [a1, v27] st (fun v28 st =>
   q_load st true 4 v37 = some v38 ∧ q_load st false 1 v35 = some v36 ∧ q_load st true 4 v31 = some v32 ∧ q_load st false 1 v29 = some v30 ∧ (callK prog n_spec_l01Size [v38] st (fun v39 st =>
   q_load st true 4 v31 = some v32 ∧ q_load st false 1 v29 = some v30 ∧ (qb (q_bin .add v34 v39) fun v40 =>
   callK prog n_spec_l04Run_kind [a0, v28, v32, v40] st (fun v41 st =>
   retR R v41 st) (panR R))) (panR R))) (panR R))
   (retR R (.bool false) st)) (panR R))
theorem c_spec_l04Run_kind {a0 a1 a2 a3 : PV} {st : St} {R : Res → St → Prop} (h : b_spec_l04Run_kind a0 a1 a2 a3 st R) : HCalls prog n_spec_l04Run_kind [a0, a1, a2, a3] st R :=
 hcalls_of_func tyOK mixed (fn := Go.Proofs.Tryz.f156) (by kernel_rfl) (by kernel_rfl) (by kernel_rfl) (ann := [])
  (show hFunc prog TT [] Go.Proofs.Tryz.f156 [a0, a1, a2, a3] st R from (show hFunc prog TT [] Go.Proofs.Tryz.f156 [a0, a1, a2, a3] st R = b_spec_l04Run_kind a0 a1 a2 a3 st R by kernel_rfl) ▸ h)
def b_spec_l01Erase (a0 : PV) (st : St) (R : Res → St → Prop) : Prop :=
 e_box st a0 fun v1 st =>
 e_alloc st [.int .i64 0, .int .i64 0, .str [], .sl 0 true []] fun v2 st =>
 qb (q_fa 0 v1) fun v3 =>
 qb (q_load st false 1 v3) fun v4 =>
 qb (q_bin .eql v4 (.int .i64 2)) fun v5 =>
 cb v5 fun b => br b
  (qb (q_fa 3 v1) fun v6 =>
  qb (q_load st false 1 v6) fun v7 =>
  qb (q_ia 4 v7 (.int .i64 0)) fun v8 =>
  qb (q_load st true 4 v8) fun v9 =>
  qb (q_fa 3 v1) fun v11 =>
  qb (q_load st false 1 v11) fun v12 =>
  qb (q_ia 4 v12 (.int .i64 1)) fun v13 =>
  qb (q_load st true 4 v13) fun v14 =>
  callK prog n_spec_l01Erase [v9] st (fun v10 st =>
  q_load st true 4 v13 = some v14 ∧ q_load st false 1 v11 = some v12 ∧ (callK prog n_spec_l01Erase [v14] st (fun v15 st =>
  callK prog n_spec_l01Arrow [v10, v15] st (fun v16 st =>
  e_store st 4 v2 v16 fun st =>
  qb (q_load st true 4 v2) fun r => retR R r st) (panR R)) (panR R))) (panR R))
  (qb (q_fa 2 v1) fun v17 =>
  qb (q_load st false 1 v17) fun v18 =>
  callK prog n_spec_l01Base [v18] st (fun v19 st =>
  e_store st 4 v2 v19 fun st =>
  qb (q_load st true 4 v2) fun r_1 => retR R r_1 st) (panR R))
theorem c_spec_l01Erase {a0 : PV} {st : St} {R : Res → St → Prop} (h : b_spec_l01Erase a0 st R) : HCalls prog n_spec_l01Erase [a0] st R :=
 hcalls_of_func tyOK mixed (fn := Go.Proofs.Tryz.f157) (by kernel_rfl) (by kernel_rfl) (by kernel_rfl) (ann := [])
  (show hFunc prog TT [] Go.Proofs.Tryz.f157 [a0] st R from (show hFunc prog TT [] Go.Proofs.Tryz.f157 [a0] st R = b_spec_l01Erase a0 st R by kernel_rfl) ▸ h)
def b_spec_l04Run_head (a0 a1 a2 a3 : PV) (st : St) (R : Res → St → Prop) : Prop :=
 e_box st a2 fun v6 st =>
 e_alloc st [.int .i64 0, .int .i64 0, .str [], .sl 0 true []] fun v8 st =>
 qb (q_fa 0 v6) fun v12 =>
 qb (q_load st false 1 v12) fun v13 =>
 qb (q_bin .eql v13 (.int .i64 5)) fun v15 =>
 cb v15 fun b => br b
  (qb (q_fa 1 v6) fun v16 =>
  qb (q_load st false 1 v16) fun v17 =>
  qb (q_len a1) fun v19 =>
  qb (q_bin .geq v17 v19) fun v20 =>
  cb v20 fun b_1 => br b_1
   (qb (q_struct [.int .i64 0, .int .i64 0, .str [], .sl 0 true []] []) fun v21 =>
   callK prog n_spec_l04Run_fail [a0, (.int .i64 7), a3] st (fun v24 st =>
   e_store st 4 v8 v21 fun st =>
   qb (q_load st true 4 v8) fun r => retR R (.tup [r, v24]) st) (panR R))
   (hJ (fun ls st =>
    qb (q_load st true 4 (ls.getD 0 .junk)) fun v38 =>
    callK prog n_spec_l03Big [v38] st (fun v39 st =>
    cb v39 fun b_2 => br b_2
     (qb (q_struct [.int .i64 0, .int .i64 0, .str [], .sl 0 true []] []) fun v40 =>
     callK prog n_spec_l04Run_fail [a0, (.int .i64 11), a3] st (fun v43 st =>
     e_store st 4 v8 v40 fun st =>
     qb (q_load st true 4 v8) fun r_1 => retR R (.tup [r_1, v43]) st) (panR R))
     (qb (q_load st true 4 (ls.getD 0 .junk)) fun v44 =>
     e_store st 4 v8 v44 fun st =>
     qb (q_load st true 4 v8) fun r_2 => retR R (.tup [r_2, (.bool true)]) st)) (panR R))
    (fun k =>
   qb (q_len a1) fun v27 =>
   qb (q_bin .sub v27 (.int .i64 1)) fun v28 =>
   qb (q_fa 1 v6) fun v29 =>
   qb (q_load st false 1 v29) fun v30 =>
   qb (q_bin .sub v28 v30) fun v31 =>
   qb (q_ia 4 a1 v31) fun v32 =>
   qb (q_load st true 4 v32) fun v33 =>
   qb (q_fa 1 v6) fun v34 =>
   qb (q_load st false 1 v34) fun v35 =>
   qb (q_bin .add v35 (.int .i64 1)) fun v36 =>
   (callK prog n_spec_l01Lift [v33, (.int .i64 0), v36] st (fun v37 st =>
   e_alloc st [.int .i64 0, .int .i64 0, .str [], .sl 0 true []] fun v10 st =>
   q_load st false 1 v34 = some v35 ∧ q_load st true 4 v32 = some v33 ∧ q_load st false 1 v29 = some v30 ∧ (e_store st 4 v10 v37 fun st =>
   k [v10] st)) (panR R)) ∧
   (e_alloc st [.int .i64 0, .int .i64 0, .str [], .sl 0 true []] fun v10_1 st =>
   q_load st false 1 v34 = some v35 ∧ q_load st true 4 v32 = some v33 ∧ q_load st false 1 v29 = some v30 ∧ (callK prog n_spec_l01Lift [v33, (.int .i64 0), v36] st (fun v37_1 st =>
   e_store st 4 v10_1 v37_1 fun st =>
   k [v10_1] st) (panR R))))))
  (qb (q_bin .eql v13 (.int .i64 7)) fun v46 =>
  cb v46 fun b_3 => br b_3
   (qb (q_struct [.int .i64 0, .int .i64 0, .str [], .sl 0 true []] []) fun v47 =>
   callK prog n_spec_l04Run_fail [a0, (.int .i64 15), a3] st (fun v50 st =>
   e_store st 4 v8 v47 fun st =>
   qb (q_load st true 4 v8) fun r_3 => retR R (.tup [r_3, v50]) st) (panR R))
   (qb (q_nil a0) fun v52 =>
   qb (q_fa 0 v52) fun v53 =>
   qb (q_load st false 1 v53) fun v54 =>
   qb (q_fa 2 v6) fun v55 =>
   qb (q_load st false 1 v55) fun v56 =>
   callK prog n_spec_l04Find [v54, v56] st (fun v57 st =>
   hJ (fun ls_1 st =>
    cb (ls_1.getD 0 .junk) fun b_4 => br b_4
     (qb (q_struct [.int .i64 0, .int .i64 0, .str [], .sl 0 true []] []) fun v70 =>
     callK prog n_spec_l04Run_fail [a0, (.int .i64 5), a3] st (fun v73 st =>
     e_store st 4 v8 v70 fun st =>
     qb (q_load st true 4 v8) fun r_4 => retR R (.tup [r_4, v73]) st) (panR R))
     (qb (q_nil a0) fun v75 =>
     qb (q_fa 0 v75) fun v76 =>
     qb (q_load st false 1 v76) fun v77 =>
     qb (q_ia 6 v77 v57) fun v79 =>
     qb (q_fa 2 v79) fun v80 =>
     qb (q_load st true 4 v80) fun v81 =>
     e_store st 4 v8 v81 fun st =>
     qb (q_load st true 4 v8) fun r_5 => retR R (.tup [r_5, (.bool true)]) st))
    (fun k_1 =>
   qb (q_bin .lss v57 (.int .i64 0)) fun v59 =>
   cb v59 fun b_5 => br b_5
    (k_1 [(.bool true)] st)
    (qb (q_nil a0) fun v62 =>
    qb (q_fa 0 v62) fun v63 =>
    qb (q_load st false 1 v63) fun v64 =>
    qb (q_ia 6 v64 v57) fun v66 =>
    qb (q_fa 1 v66) fun v67 =>
    qb (q_load st false 1 v67) fun v68 =>
    k_1 [v68] st))) (panR R)))
theorem c_spec_l04Run_head {a0 a1 a2 a3 : PV} {st : St} {R : Res → St → Prop} (h : b_spec_l04Run_head a0 a1 a2 a3 st R) : HCalls prog n_spec_l04Run_head [a0, a1, a2, a3] st R :=
 hcalls_of_func tyOK mixed (fn := Go.Proofs.Tryz.f158) (by kernel_rfl) (by kernel_rfl) (by kernel_rfl) (ann := [(21, [10]), (49, [69])])
  (show hFunc prog TT [(21, [10]), (49, [69])] Go.Proofs.Tryz.f158 [a0, a1, a2, a3] st R from (show hFunc prog TT [(21, [10]), (49, [69])] Go.Proofs.Tryz.f158 [a0, a1, a2, a3] st R = b_spec_l04Run_head a0 a1 a2 a3 st R by kernel_rfl) ▸ h)
def b_impl_checker_left (a0 a1 a2 a3 : PV) (st : St) (R : Res → St → Prop) : Prop :=
 e_box st a0 fun v4 st =>
 e_box st a1 fun v5 st =>
 e_box st a2 fun v6 st =>
 e_alloc st [.int .i64 0, .int .i64 0, .str [], .sl 0 true []] fun v8 st =>
 qb (q_struct [.int .i64 0, .int .i64 0, .str [], .sl 0 true []] []) fun v10 =>
 e_alloc st [.int .i64 0, .int .i64 0, .str [], .sl 0 true []] fun v9 st =>
 e_store st 4 v9 v10 fun st =>
 callK prog n_impl_at [a3, (.fn (.func n_impl_checker_left_1) [] [v4, v5, v6, v9])] st (fun v13 st =>
 qb (q_load st true 4 v9) fun v14 =>
 e_store st 4 v8 v14 fun st =>
 qb (q_load st true 4 v8) fun r => retR R r st) (panR R)
theorem c_impl_checker_left {a0 a1 a2 a3 : PV} {st : St} {R : Res → St → Prop} (h : b_impl_checker_left a0 a1 a2 a3 st R) : HCalls prog n_impl_checker_left [a0, a1, a2, a3] st R :=
 hcalls_of_func tyOK mixed (fn := Go.Proofs.Tryz.f159) (by kernel_rfl) (by kernel_rfl) (by kernel_rfl) (ann := [])
  (show hFunc prog TT [] Go.Proofs.Tryz.f159 [a0, a1, a2, a3] st R from (show hFunc prog TT [] Go.Proofs.Tryz.f159 [a0, a1, a2, a3] st R = b_impl_checker_left a0 a1 a2 a3 st R by kernel_rfl) ▸ h)
def b_slices_ContainsFunc_impl_Decl_impl_Decl (a0 a1 : PV) (st : St) (R : Res → St → Prop) : Prop :=
 callK prog n_slices_IndexFunc_impl_Decl_impl_Decl [a0, a1] st (fun v7 st =>
 qb (q_bin .geq v7 (.int .i64 0)) fun v8 =>
 retR R v8 st) (panR R)
theorem c_slices_ContainsFunc_impl_Decl_impl_Decl {a0 a1 : PV} {st : St} {R : Res → St → Prop} (h : b_slices_ContainsFunc_impl_Decl_impl_Decl a0 a1 st R) : HCalls prog n_slices_ContainsFunc_impl_Decl_impl_Decl [a0, a1] st R :=
 hcalls_of_func tyOK mixed (fn := Go.Proofs.Tryz.f160) (by kernel_rfl) (by kernel_rfl) (by kernel_rfl) (ann := [])
  (show hFunc prog TT [] Go.Proofs.Tryz.f160 [a0, a1] st R from (show hFunc prog TT [] Go.Proofs.Tryz.f160 [a0, a1] st R = b_slices_ContainsFunc_impl_Decl_impl_Decl a0 a1 st R by kernel_rfl) ▸ h)
def b_impl_has_1 (a0 a1 : PV) (st : St) (R : Res → St → Prop) : Prop :=
 e_box st a0 fun v2 st =>
 qb (q_fa 0 v2) fun v4 =>
 qb (q_load st false 1 v4) fun v5 =>
 qb (q_load st false 1 a1) fun v6 =>
 qb (q_bin .eql v5 v6) fun v7 =>
 retR R v7 st
theorem c_impl_has_1 {a0 a1 : PV} {st : St} {R : Res → St → Prop} (h : b_impl_has_1 a0 a1 st R) : HCalls prog n_impl_has_1 [a0, a1] st R :=
 hcalls_of_func tyOK mixed (fn := Go.Proofs.Tryz.f161) (by kernel_rfl) (by kernel_rfl) (by kernel_rfl) (ann := [])
  (show hFunc prog TT [] Go.Proofs.Tryz.f161 [a0, a1] st R from (show hFunc prog TT [] Go.Proofs.Tryz.f161 [a0, a1] st R = b_impl_has_1 a0 a1 st R by kernel_rfl) ▸ h)
def b_impl_declFault_1 (a0 a1 : PV) (st : St) (R : Res → St → Prop) : Prop :=
 qb (q_load st false 1 a0) fun v2 =>
 qb (q_struct [.int .i64 0, .sl 0 true []] [(1, 1, v2)]) fun v3 =>
 e_box st v3 fun v4 st =>
 qb (q_fa 2 a1) fun v5 =>
 qb (q_load st true 4 v5) fun v6 =>
 callK prog n_impl_checker_family [v4, (.sl 0 true []), v6, (.int .i64 0)] st (fun v7 st =>
 retR R (.tup []) st) (panR R)
theorem c_impl_declFault_1 {a0 a1 : PV} {st : St} {R : Res → St → Prop} (h : b_impl_declFault_1 a0 a1 st R) : HCalls prog n_impl_declFault_1 [a0, a1] st R :=
 hcalls_of_func tyOK mixed (fn := Go.Proofs.Tryz.f162) (by kernel_rfl) (by kernel_rfl) (by kernel_rfl) (ann := [])
  (show hFunc prog TT [] Go.Proofs.Tryz.f162 [a0, a1] st R from (show hFunc prog TT [] Go.Proofs.Tryz.f162 [a0, a1] st R = b_impl_declFault_1 a0 a1 st R by kernel_rfl) ▸ h)
end Go.H.Tryz
