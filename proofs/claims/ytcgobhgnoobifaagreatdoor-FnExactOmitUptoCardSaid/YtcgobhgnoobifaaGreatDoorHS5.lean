/- Part of a proof that the program answers as the reference does: EDS5. -/
import Derived.Test.YtcgobhgnoobifaaGreatDoorHT
/- MADE BY PROGRAM (hgen.py): what the functions compute, over pure values. -/
set_option linter.unusedVariables false
set_option maxRecDepth 100000
namespace Go.H.Tryz
open Go Go.H
def b_spec_l04Find (a0 a1 : PV) (st : St) (R : Res → St → Prop) : Prop :=
 hFix (fun ls st X =>
  qb (q_len a0) fun v8 =>
  qb (q_bin .lss (ls.getD 0 .junk) v8) fun v9 =>
  cb v9 fun b => br b
   (qb (q_ia 6 a0 (ls.getD 0 .junk)) fun v14 =>
   qb (q_fa 0 v14) fun v15 =>
   qb (q_load st false 1 v15) fun v16 =>
   qb (q_bin .eql v16 a1) fun v18 =>
   cb v18 fun b_1 => br b_1
    (retR R (ls.getD 0 .junk) st)
    (qb (q_bin .add (ls.getD 0 .junk) (.int .i64 1)) fun v11 =>
    X [v11] st))
   (retR R (.int .i64 (-1)) st))
  [(.int .i64 0)] st
theorem c_spec_l04Find {a0 a1 : PV} {st : St} {R : Res → St → Prop} (h : b_spec_l04Find a0 a1 st R) : HCalls prog n_spec_l04Find [a0, a1] st R :=
 hcalls_of_func tyOK mixed (fn := Go.Proofs.Tryz.f103) (by kernel_rfl) (by kernel_rfl) (by kernel_rfl) (ann := [(8, [5])])
  (show hFunc prog TT [(8, [5])] Go.Proofs.Tryz.f103 [a0, a1] st R from (show hFunc prog TT [(8, [5])] Go.Proofs.Tryz.f103 [a0, a1] st R = b_spec_l04Find a0 a1 st R by kernel_rfl) ▸ h)
def b_spec_l04Run_synth (a0 a1 a2 a3 : PV) (st : St) (R : Res → St → Prop) : Prop :=
 e_box st a2 fun v6 st =>
 e_alloc st [.int .i64 0, .int .i64 0, .str [], .sl 0 true []] fun v8 st =>
 qb (q_load st true 4 v6) fun v15 =>
 callK prog n_spec_l04Run_head [a0, a1, v15, a3] st (fun v17 st =>
 qb (q_ex v17 0) fun v18 =>
 qb (q_ex v17 1) fun v19 =>
 e_alloc st [.int .i64 0, .int .i64 0, .str [], .sl 0 true []] fun v10 st =>
 e_store st 4 v10 v18 fun st =>
 qb (q_un .not v19) fun v21 =>
 cb v21 fun b => br b
  (qb (q_load st true 4 v10) fun v22 =>
  e_store st 4 v8 v22 fun st =>
  qb (q_load st true 4 v8) fun r => retR R (.tup [r, (.bool false)]) st)
  (qb (q_load st true 4 v10) fun v26 =>
  qb (q_fa 3 v6) fun v27 =>
  qb (q_load st false 1 v27) fun v28 =>
  callK prog n_spec_l04Run_spine [a0, a1, v26, v28, a3] st (fun v30 st =>
  qb (q_ex v30 0) fun v31 =>
  qb (q_ex v30 1) fun v32 =>
  e_store st 4 v10 v31 fun st =>
  hJ (fun ls st =>
   cb (ls.getD 0 .junk) fun b_1 => br b_1
    (qb (q_load st true 4 v10) fun v39 =>
    callK prog n_spec_l04Run_fail [a0, (.int .i64 8), a3] st (fun v42 st =>
    q_load st true 4 v10 = some v39 ∧ (e_store st 4 v8 v39 fun st =>
    qb (q_load st true 4 v8) fun r_1 => retR R (.tup [r_1, v42]) st)) (panR R))
    (qb (q_load st true 4 v10) fun v43 =>
    e_store st 4 v8 v43 fun st =>
    qb (q_load st true 4 v8) fun r_2 => retR R (.tup [r_2, v32]) st))
   (fun k =>
  cb v32 fun b_2 => br b_2
   (qb (q_fa 0 v10) fun v35 =>
   qb (q_load st false 1 v35) fun v36 =>
   qb (q_bin .neq v36 (.int .i64 3)) fun v37 =>
   k [v37] st)
   (k [(.bool false)] st))) (panR R))) (panR R)
theorem c_spec_l04Run_synth {a0 a1 a2 a3 : PV} {st : St} {R : Res → St → Prop} (h : b_spec_l04Run_synth a0 a1 a2 a3 st R) : HCalls prog n_spec_l04Run_synth [a0, a1, a2, a3] st R :=
 hcalls_of_func tyOK mixed (fn := Go.Proofs.Tryz.f108) (by kernel_rfl) (by kernel_rfl) (by kernel_rfl) (ann := [(21, [38])])
  (show hFunc prog TT [(21, [38])] Go.Proofs.Tryz.f108 [a0, a1, a2, a3] st R from (show hFunc prog TT [(21, [38])] Go.Proofs.Tryz.f108 [a0, a1, a2, a3] st R = b_spec_l04Run_synth a0 a1 a2 a3 st R by kernel_rfl) ▸ h)
def b_spec_l01Copy (a0 : PV) (st : St) (R : Res → St → Prop) : Prop :=
 e_box st a0 fun v1 st =>
 e_alloc st [.int .i64 0, .int .i64 0, .str [], .sl 0 true []] fun v2 st =>
 qb (q_lit 4 0 0 [] []) fun v5 =>
 hJ (fun ls st =>
  qb (q_load st true 4 v1) fun v22 =>
  callK prog n_spec_l01With [v22, (ls.getD 0 .junk)] st (fun v24 st =>
  e_store st 4 v2 v24 fun st =>
  qb (q_load st true 4 v2) fun r => retR R r st) (panR R))
  (fun k =>
 hFix (fun ls_1 st X =>
  qb (q_fa 3 v1) fun v7 =>
  qb (q_load st false 1 v7) fun v8 =>
  qb (q_len v8) fun v9 =>
  qb (q_bin .lss (ls_1.getD 1 .junk) v9) fun v10 =>
  cb v10 fun b => br b
   (qb (q_fa 3 v1) fun v14 =>
   qb (q_load st false 1 v14) fun v15 =>
   qb (q_ia 4 v15 (ls_1.getD 1 .junk)) fun v17 =>
   qb (q_load st true 4 v17) fun v18 =>
   callK prog n_spec_l01Copy [v18] st (fun v19 st =>
   qb (q_lit 4 1 0 [] [(0, v19)]) fun v20 =>
   e_append st 4 56 (ls_1.getD 0 .junk) v20 (fun v21 st =>
   qb (q_bin .add (ls_1.getD 1 .junk) (.int .i64 1)) fun v12 =>
   X [v21, v12] st)) (panR R))
   (k [(ls_1.getD 0 .junk)] st))
  [v5, (.int .i64 0)] st)
theorem c_spec_l01Copy {a0 : PV} {st : St} {R : Res → St → Prop} (h : b_spec_l01Copy a0 st R) : HCalls prog n_spec_l01Copy [a0] st R :=
 hcalls_of_func tyOK mixed (fn := Go.Proofs.Tryz.f109) (by kernel_rfl) (by kernel_rfl) (by kernel_rfl) (ann := [(12, [3, 4]), (3, [3])])
  (show hFunc prog TT [(12, [3, 4]), (3, [3])] Go.Proofs.Tryz.f109 [a0] st R from (show hFunc prog TT [(12, [3, 4]), (3, [3])] Go.Proofs.Tryz.f109 [a0] st R = b_spec_l01Copy a0 st R by kernel_rfl) ▸ h)
def b_impl_stop (a0 a1 : PV) (st : St) (R : Res → St → Prop) : Prop :=
 qb (q_struct [.int .i64 0, .int .i64 0] [(0, 1, a0), (1, 1, a1)]) fun v6 =>
 qb (q_iface ty_impl_halt v6) fun v7 =>
 e_panic v7 st (panR R)
theorem c_impl_stop {a0 a1 : PV} {st : St} {R : Res → St → Prop} (h : b_impl_stop a0 a1 st R) : HCalls prog n_impl_stop [a0, a1] st R :=
 hcalls_of_func tyOK mixed (fn := Go.Proofs.Tryz.f112) (by kernel_rfl) (by kernel_rfl) (by kernel_rfl) (ann := [])
  (show hFunc prog TT [] Go.Proofs.Tryz.f112 [a0, a1] st R from (show hFunc prog TT [] Go.Proofs.Tryz.f112 [a0, a1] st R = b_impl_stop a0 a1 st R by kernel_rfl) ▸ h)
def b_impl_checker_found (a0 a1 a2 a3 : PV) (st : St) (R : Res → St → Prop) : Prop :=
 e_box st a2 fun v6 st =>
 e_alloc st [.int .i64 0, .int .i64 0, .str [], .sl 0 true []] fun v8 st =>
 hJ (fun ls st =>
  qb (q_fa 0 (ls.getD 0 .junk)) fun v22 =>
  qb (q_load st false 1 v22) fun v23 =>
  qb (q_bin .neq v23 (.int .i64 3)) fun v24 =>
  cb v24 fun b => br b
   (callK prog n_impl_stop [(.int .i64 8), a3] st (fun v26 st =>
   qb (q_load st true 4 (ls.getD 0 .junk)) fun v27 =>
   e_store st 4 v8 v27 fun st =>
   qb (q_load st true 4 v8) fun r => retR R r st) (panR R))
   (qb (q_load st true 4 (ls.getD 0 .junk)) fun v27_1 =>
   e_store st 4 v8 v27_1 fun st =>
   qb (q_load st true 4 v8) fun r_1 => retR R r_1 st))
  (fun k =>
 qb (q_fa 3 v6) fun v12 =>
 qb (q_load st false 1 v12) fun v13 =>
 qb (q_load st true 4 v6) fun v16 =>
 qb (q_bin .add a3 (.int .i64 1)) fun v20 =>
 (callK prog n_impl_checker_head [a0, a1, v16, a3] st (fun v18 st =>
 q_load st false 1 v12 = some v13 ∧ ((callK prog n_impl_checker_args [a0, a1, v13, v18, v20] st (fun v21 st =>
 e_alloc st [.int .i64 0, .int .i64 0, .str [], .sl 0 true []] fun v9 st =>
 q_load st true 4 v6 = some v16 ∧ q_load st false 1 v12 = some v13 ∧ (e_store st 4 v9 v21 fun st =>
 k [v9] st)) (panR R)) ∧
 (e_alloc st [.int .i64 0, .int .i64 0, .str [], .sl 0 true []] fun v9_1 st =>
 q_load st true 4 v6 = some v16 ∧ q_load st false 1 v12 = some v13 ∧ (callK prog n_impl_checker_args [a0, a1, v13, v18, v20] st (fun v21_1 st =>
 e_store st 4 v9_1 v21_1 fun st =>
 k [v9_1] st) (panR R))))) (panR R)) ∧
 (e_alloc st [.int .i64 0, .int .i64 0, .str [], .sl 0 true []] fun v9_2 st =>
 q_load st true 4 v6 = some v16 ∧ q_load st false 1 v12 = some v13 ∧ (callK prog n_impl_checker_head [a0, a1, v16, a3] st (fun v18_1 st =>
 q_load st false 1 v12 = some v13 ∧ (callK prog n_impl_checker_args [a0, a1, v13, v18_1, v20] st (fun v21_2 st =>
 e_store st 4 v9_2 v21_2 fun st =>
 k [v9_2] st) (panR R))) (panR R))))
theorem c_impl_checker_found {a0 a1 a2 a3 : PV} {st : St} {R : Res → St → Prop} (h : b_impl_checker_found a0 a1 a2 a3 st R) : HCalls prog n_impl_checker_found [a0, a1, a2, a3] st R :=
 hcalls_of_func tyOK mixed (fn := Go.Proofs.Tryz.f113) (by kernel_rfl) (by kernel_rfl) (by kernel_rfl) (ann := [(5, [9])])
  (show hFunc prog TT [(5, [9])] Go.Proofs.Tryz.f113 [a0, a1, a2, a3] st R from (show hFunc prog TT [(5, [9])] Go.Proofs.Tryz.f113 [a0, a1, a2, a3] st R = b_impl_checker_found a0 a1 a2 a3 st R by kernel_rfl) ▸ h)
def b_impl_clone (a0 : PV) (st : St) (R : Res → St → Prop) : Prop :=
 e_box st a0 fun v1 st =>
 e_alloc st [.int .i64 0, .int .i64 0, .str [], .sl 0 true []] fun v2 st =>
 qb (q_fa 3 v1) fun v3 =>
 qb (q_load st false 1 v3) fun v4 =>
 callK prog n_impl_cloneAll [v4] st (fun v5 st =>
 qb (q_fa 3 v1) fun v6 =>
 e_store st 1 v6 v5 fun st =>
 qb (q_load st true 4 v1) fun v7 =>
 e_store st 4 v2 v7 fun st =>
 qb (q_load st true 4 v2) fun r => retR R r st) (panR R)
theorem c_impl_clone {a0 : PV} {st : St} {R : Res → St → Prop} (h : b_impl_clone a0 st R) : HCalls prog n_impl_clone [a0] st R :=
 hcalls_of_func tyOK mixed (fn := Go.Proofs.Tryz.f114) (by kernel_rfl) (by kernel_rfl) (by kernel_rfl) (ann := [])
  (show hFunc prog TT [] Go.Proofs.Tryz.f114 [a0] st R from (show hFunc prog TT [] Go.Proofs.Tryz.f114 [a0] st R = b_impl_clone a0 st R by kernel_rfl) ▸ h)
def b_spec_l07Omittable (a0 : PV) (st : St) (R : Res → St → Prop) : Prop :=
 e_box st a0 fun v1 st =>
 qb (q_lit 4 0 0 [] []) fun v8 =>
 hFix (fun ls st X =>
  qb (q_fa 0 v1) fun v9 =>
  qb (q_load st false 1 v9) fun v10 =>
  qb (q_bin .eql v10 (.int .i64 2)) fun v11 =>
  cb v11 fun b => br b
   (qb (q_fa 3 v1) fun v13 =>
   qb (q_load st false 1 v13) fun v14 =>
   qb (q_ia 4 v14 (.int .i64 0)) fun v15 =>
   qb (q_load st true 4 v15) fun v16 =>
   callK prog n_spec_l01Erase [v16] st (fun v17 st =>
   qb (q_lit 4 1 0 [] [(0, v17)]) fun v18 =>
   e_append st 4 56 (ls.getD 0 .junk) v18 (fun v19 st =>
   qb (q_fa 3 v1) fun v20 =>
   qb (q_load st false 1 v20) fun v21 =>
   qb (q_ia 4 v21 (.int .i64 1)) fun v22 =>
   qb (q_load st true 4 v22) fun v23 =>
   e_store st 4 v1 v23 fun st =>
   X [v19] st)) (panR R))
   (qb (q_lit 1 0 0 [] []) fun v24 =>
   hFix (fun ls_1 st X_1 =>
    qb (q_len (ls.getD 0 .junk)) fun v27 =>
    qb (q_bin .lss (ls_1.getD 1 .junk) v27) fun v28 =>
    cb v28 fun b_1 => br b_1
     (hFix (fun ls_2 st X_2 =>
      qb (q_fa 3 v1) fun v32 =>
      qb (q_load st false 1 v32) fun v33 =>
      qb (q_len v33) fun v34 =>
      qb (q_bin .lss (ls_2.getD 1 .junk) v34) fun v35 =>
      cb v35 fun b_2 => br b_2
       (cb (ls_2.getD 0 .junk) fun b_3 => br b_3
        (qb (q_bin .add (ls_2.getD 1 .junk) (.int .i64 1)) fun v37 =>
        X_2 [(.bool true), v37] st)
        (qb (q_fa 3 v1) fun v40 =>
        qb (q_load st false 1 v40) fun v41 =>
        qb (q_ia 4 v41 (ls_2.getD 1 .junk)) fun v43 =>
        qb (q_load st true 4 v43) fun v44 =>
        qb (q_len (ls.getD 0 .junk)) fun v46 =>
        qb (q_bin .sub v46 (.int .i64 1)) fun v47 =>
        qb (q_bin .sub v47 (ls_1.getD 1 .junk)) fun v49 =>
        qb (q_ia 4 (ls.getD 0 .junk) (ls_1.getD 1 .junk)) fun v52 =>
        qb (q_load st true 4 v52) fun v53 =>
        callK prog n_spec_l07Fixed [v44, v49, v53] st (fun v54 st =>
        qb (q_bin .add (ls_2.getD 1 .junk) (.int .i64 1)) fun v37_1 =>
        X_2 [v54, v37_1] st) (panR R)))
       (qb (q_lit 1 1 0 [] [(0, (ls_2.getD 0 .junk))]) fun v58 =>
       e_append st 1 1 (ls_1.getD 0 .junk) v58 (fun v59 st =>
       qb (q_bin .add (ls_1.getD 1 .junk) (.int .i64 1)) fun v30 =>
       X_1 [v59, v30] st)))
      [(.bool false), (.int .i64 0)] st)
     (retR R (ls_1.getD 0 .junk) st))
    [v24, (.int .i64 0)] st))
  [v8] st
theorem c_spec_l07Omittable {a0 : PV} {st : St} {R : Res → St → Prop} (h : b_spec_l07Omittable a0 st R) : HCalls prog n_spec_l07Omittable [a0] st R :=
 hcalls_of_func tyOK mixed (fn := Go.Proofs.Tryz.f116) (by kernel_rfl) (by kernel_rfl) (by kernel_rfl) (ann := [(44, [6, 7]), (28, [4, 5]), (8, [3])])
  (show hFunc prog TT [(44, [6, 7]), (28, [4, 5]), (8, [3])] Go.Proofs.Tryz.f116 [a0] st R from (show hFunc prog TT [(44, [6, 7]), (28, [4, 5]), (8, [3])] Go.Proofs.Tryz.f116 [a0] st R = b_spec_l07Omittable a0 st R by kernel_rfl) ▸ h)
def b_impl_checker_declared (a0 a1 a2 : PV) (st : St) (R : Res → St → Prop) : Prop :=
 e_box st a1 fun v4 st =>
 e_box st a2 fun v5 st =>
 e_alloc st [.int .i64 0, .int .i64 0, .str [], .sl 0 true []] fun v6 st =>
 qb (q_nil a0) fun v10 =>
 qb (q_fa 1 v10) fun v11 =>
 qb (q_load st false 1 v11) fun v12 =>
 callK prog n_slices_IndexFunc_impl_Decl_impl_Decl [v12, (.fn (.func n_impl_checker_declared_1) [] [v4, v5])] st (fun v14 st =>
 qb (q_bin .lss v14 (.int .i64 0)) fun v16 =>
 cb v16 fun b => br b
  (qb (q_struct [.int .i64 0, .int .i64 0, .str [], .sl 0 true []] []) fun v17 =>
  e_store st 4 v6 v17 fun st =>
  qb (q_load st true 4 v6) fun r => retR R (.tup [r, (.bool false)]) st)
  (qb (q_nil a0) fun v19 =>
  qb (q_fa 1 v19) fun v20 =>
  qb (q_load st false 1 v20) fun v21 =>
  qb (q_ia 6 v21 v14) fun v23 =>
  qb (q_fa 2 v23) fun v24 =>
  qb (q_load st true 4 v24) fun v25 =>
  e_store st 4 v6 v25 fun st =>
  qb (q_load st true 4 v6) fun r_1 => retR R (.tup [r_1, (.bool true)]) st)) (panR R)
theorem c_impl_checker_declared {a0 a1 a2 : PV} {st : St} {R : Res → St → Prop} (h : b_impl_checker_declared a0 a1 a2 st R) : HCalls prog n_impl_checker_declared [a0, a1, a2] st R :=
 hcalls_of_func tyOK mixed (fn := Go.Proofs.Tryz.f117) (by kernel_rfl) (by kernel_rfl) (by kernel_rfl) (ann := [])
  (show hFunc prog TT [] Go.Proofs.Tryz.f117 [a0, a1, a2] st R from (show hFunc prog TT [] Go.Proofs.Tryz.f117 [a0, a1, a2] st R = b_impl_checker_declared a0 a1 a2 st R by kernel_rfl) ▸ h)
def b_impl_omittable (a0 : PV) (st : St) (R : Res → St → Prop) : Prop :=
 e_box st a0 fun v1 st =>
 qb (q_lit 4 0 0 [] []) fun v7 =>
 hFix (fun ls st X =>
  qb (q_fa 0 v1) fun v8 =>
  qb (q_load st false 1 v8) fun v9 =>
  qb (q_bin .eql v9 (.int .i64 2)) fun v10 =>
  cb v10 fun b => br b
   (qb (q_fa 3 v1) fun v12 =>
   qb (q_load st false 1 v12) fun v13 =>
   qb (q_ia 4 v13 (.int .i64 0)) fun v14 =>
   qb (q_load st true 4 v14) fun v15 =>
   qb (q_lit 4 1 0 [] [(0, v15)]) fun v16 =>
   qb (q_fa 3 v1) fun v18 =>
   qb (q_load st false 1 v18) fun v19 =>
   qb (q_ia 4 v19 (.int .i64 1)) fun v20 =>
   qb (q_load st true 4 v20) fun v21 =>
   e_append st 4 56 (ls.getD 0 .junk) v16 (fun v17 st =>
   q_load st true 4 v20 = some v21 ∧ q_load st false 1 v18 = some v19 ∧ (e_store st 4 v1 v21 fun st =>
   X [v17] st)))
   (qb (q_lit 1 0 0 [] []) fun v22 =>
   qb (q_len (ls.getD 0 .junk)) fun v24 =>
   hFix (fun ls_1 st X_1 =>
    qb (q_bin .lss (ls_1.getD 1 .junk) v24) fun v26 =>
    cb v26 fun b_1 => br b_1
     (qb (q_ia 4 (ls.getD 0 .junk) (ls_1.getD 1 .junk)) fun v28 =>
     qb (q_load st true 4 v28) fun v29 =>
     e_alloc st [.int .i64 0, .int .i64 0, .str [], .sl 0 true []] fun v6 st =>
     e_store st 4 v6 v29 fun st =>
     qb (q_fa 3 v1) fun v31 =>
     qb (q_load st false 1 v31) fun v32 =>
     qb (q_len (ls.getD 0 .junk)) fun v34 =>
     qb (q_bin .sub v34 (.int .i64 1)) fun v35 =>
     qb (q_bin .sub v35 (ls_1.getD 1 .junk)) fun v37 =>
     qb (q_load st true 4 v6) fun v39 =>
     callK prog n_impl_variable [v37, (.sl 0 true [])] st (fun v38 st =>
     q_load st true 4 v6 = some v39 ∧ q_load st false 1 v31 = some v32 ∧ (callK prog n_impl_erase [v39] st (fun v40 st =>
     q_load st false 1 v31 = some v32 ∧ (callK prog n_impl_longForm [v38, v40] st (fun v41 st =>
     q_load st false 1 v31 = some v32 ∧ (callK prog n_impl_tells [v32, v41] st (fun v42 st =>
     qb (q_lit 1 1 0 [] [(0, v42)]) fun v43 =>
     e_append st 1 1 (ls_1.getD 0 .junk) v43 (fun v44 st =>
     qb (q_bin .add (ls_1.getD 1 .junk) (.int .i64 1)) fun v45 =>
     X_1 [v44, v45] st)) (panR R))) (panR R))) (panR R))) (panR R))
     (retR R (ls_1.getD 0 .junk) st))
    [v22, (.int .i64 0)] st))
  [v7] st
theorem c_impl_omittable {a0 : PV} {st : St} {R : Res → St → Prop} (h : b_impl_omittable a0 st R) : HCalls prog n_impl_omittable [a0] st R :=
 hcalls_of_func tyOK mixed (fn := Go.Proofs.Tryz.f118) (by kernel_rfl) (by kernel_rfl) (by kernel_rfl) (ann := [(24, [4, 25]), (8, [3])])
  (show hFunc prog TT [(24, [4, 25]), (8, [3])] Go.Proofs.Tryz.f118 [a0] st R from (show hFunc prog TT [(24, [4, 25]), (8, [3])] Go.Proofs.Tryz.f118 [a0] st R = b_impl_omittable a0 st R by kernel_rfl) ▸ h)
def b_spec_l07Omitter_omit (a0 a1 : PV) (st : St) (R : Res → St → Prop) : Prop :=
 e_box st a1 fun v3 st =>
 e_alloc st [.int .i64 0, .int .i64 0, .str [], .sl 0 true []] fun v4 st =>
 qb (q_lit 1 0 0 [] []) fun v9 =>
 qb (q_nil a0) fun v11 =>
 qb (q_fa 0 v11) fun v12 =>
 qb (q_load st false 1 v12) fun v13 =>
 qb (q_fa 2 v3) fun v14 =>
 qb (q_load st false 1 v14) fun v15 =>
 callK prog n_spec_l04Find [v13, v15] st (fun v16 st =>
 hJ (fun ls st =>
  hJ (fun ls_1 st =>
   qb (q_lit 4 0 0 [] []) fun v44 =>
   hJ (fun ls_2 st =>
    qb (q_load st true 4 v3) fun v106 =>
    callK prog n_spec_l01With [v106, (ls_2.getD 0 .junk)] st (fun v108 st =>
    e_store st 4 v4 v108 fun st =>
    qb (q_load st true 4 v4) fun r => retR R r st) (panR R))
    (fun k_2 =>
   hFix (fun ls_3 st X =>
    qb (q_fa 3 v3) fun v46 =>
    qb (q_load st false 1 v46) fun v47 =>
    qb (q_len v47) fun v48 =>
    qb (q_bin .lss (ls_3.getD 1 .junk) v48) fun v49 =>
    cb v49 fun b_1 => br b_1
     (hJ (fun ls_4 st =>
      hJ (fun ls_5 st =>
       qb (q_fa 3 v3) fun v98 =>
       qb (q_load st false 1 v98) fun v99 =>
       qb (q_ia 4 v99 (ls_3.getD 1 .junk)) fun v101 =>
       qb (q_load st true 4 v101) fun v102 =>
       callK prog n_spec_l07Omitter_omit [a0, v102] st (fun v103 st =>
       qb (q_lit 4 1 0 [] [(0, v103)]) fun v104 =>
       e_append st 4 56 (ls_5.getD 0 .junk) v104 (fun v105 st =>
       qb (q_bin .add (ls_3.getD 1 .junk) (.int .i64 1)) fun v51 =>
       X [v105, v51] st)) (panR R))
       (fun k_4 =>
      cb (ls_4.getD 0 .junk) fun b_2 => br b_2
       (qb (q_nil a0) fun v63 =>
       qb (q_fa 2 v63) fun v64 =>
       qb (q_load st false 1 v64) fun v65 =>
       qb (q_bin .add v65 (.int .i64 1)) fun v66 =>
       qb (q_nil a0) fun v67 =>
       qb (q_fa 2 v67) fun v68 =>
       e_store st 1 v68 v66 fun st =>
       hJ (fun ls_6 st =>
        cb (ls_6.getD 0 .junk) fun b_3 => br b_3
         (qb (q_struct [.int .i64 0, .int .i64 0, .str [], .sl 0 true []] [(0, 1, (.int .i64 8))]) fun v93 =>
         qb (q_lit 4 1 0 [] [(0, v93)]) fun v94 =>
         e_append st 4 56 (ls_3.getD 0 .junk) v94 (fun v95 st =>
         qb (q_bin .add (ls_3.getD 1 .junk) (.int .i64 1)) fun v51_1 =>
         X [v95, v51_1] st))
         (k_4 [(ls_3.getD 0 .junk)] st))
        (fun k_5 =>
       qb (q_nil a0) fun v70 =>
       qb (q_fa 2 v70) fun v71 =>
       qb (q_load st false 1 v71) fun v72 =>
       qb (q_nil a0) fun v74 =>
       qb (q_fa 1 v74) fun v75 =>
       qb (q_load st false 1 v75) fun v76 =>
       qb (q_len v76) fun v77 =>
       qb (q_bin .leq v72 v77) fun v78 =>
       cb v78 fun b_4 => br b_4
        (qb (q_nil a0) fun v81 =>
        qb (q_fa 1 v81) fun v82 =>
        qb (q_load st false 1 v82) fun v83 =>
        qb (q_nil a0) fun v85 =>
        qb (q_fa 2 v85) fun v86 =>
        qb (q_load st false 1 v86) fun v87 =>
        qb (q_bin .sub v87 (.int .i64 1)) fun v88 =>
        qb (q_ia 1 v83 v88) fun v89 =>
        qb (q_load st false 1 v89) fun v90 =>
        k_5 [v90] st)
        (k_5 [(.bool false)] st)))
       (k_4 [(ls_3.getD 0 .junk)] st)))
      (fun k_3 =>
     qb (q_len (ls_1.getD 0 .junk)) fun v54 =>
     qb (q_bin .lss (ls_3.getD 1 .junk) v54) fun v55 =>
     cb v55 fun b_5 => br b_5
      (qb (q_ia 1 (ls_1.getD 0 .junk) (ls_3.getD 1 .junk)) fun v59 =>
      qb (q_load st false 1 v59) fun v60 =>
      k_3 [v60] st)
      (k_3 [(.bool false)] st)))
     (k_2 [(ls_3.getD 0 .junk)] st))
    [v44, (.int .i64 0)] st))
   (fun k_1 =>
  cb (ls.getD 0 .junk) fun b => br b
   (qb (q_nil a0) fun v36 =>
   qb (q_fa 0 v36) fun v37 =>
   qb (q_load st false 1 v37) fun v38 =>
   qb (q_ia 6 v38 v16) fun v40 =>
   qb (q_fa 2 v40) fun v41 =>
   qb (q_load st true 4 v41) fun v42 =>
   callK prog n_spec_l07Omittable [v42] st (fun v43 st =>
   k_1 [v43] st) (panR R))
   (k_1 [v9] st)))
  (fun k =>
 qb (q_fa 0 v3) fun v17 =>
 qb (q_load st false 1 v17) fun v18 =>
 qb (q_bin .eql v18 (.int .i64 6)) fun v19 =>
 cb v19 fun b_6 => br b_6
  (qb (q_bin .geq v16 (.int .i64 0)) fun v22 =>
  cb v22 fun b_7 => br b_7
   (qb (q_nil a0) fun v26 =>
   qb (q_fa 0 v26) fun v27 =>
   qb (q_load st false 1 v27) fun v28 =>
   qb (q_ia 6 v28 v16) fun v30 =>
   qb (q_fa 1 v30) fun v31 =>
   qb (q_load st false 1 v31) fun v32 =>
   qb (q_un .not v32) fun v33 =>
   k [v33] st)
   (k [(.bool false)] st))
  (k [(.bool false)] st))) (panR R)
theorem c_spec_l07Omitter_omit {a0 a1 : PV} {st : St} {R : Res → St → Prop} (h : b_spec_l07Omitter_omit a0 a1 st R) : HCalls prog n_spec_l07Omitter_omit [a0, a1] st R :=
 hcalls_of_func tyOK mixed (fn := Go.Proofs.Tryz.f119) (by kernel_rfl) (by kernel_rfl) (by kernel_rfl) (ann := [(28, [7, 8]), (3, [7]), (13, [34]), (18, [5]), (37, [61]), (42, [7]), (45, [91])])
  (show hFunc prog TT [(28, [7, 8]), (3, [7]), (13, [34]), (18, [5]), (37, [61]), (42, [7]), (45, [91])] Go.Proofs.Tryz.f119 [a0, a1] st R from (show hFunc prog TT [(28, [7, 8]), (3, [7]), (13, [34]), (18, [5]), (37, [61]), (42, [7]), (45, [91])] Go.Proofs.Tryz.f119 [a0, a1] st R = b_spec_l07Omitter_omit a0 a1 st R by kernel_rfl) ▸ h)
def b_impl_badTerm (a0 : PV) (st : St) (R : Res → St → Prop) : Prop :=
 e_box st a0 fun v1 st =>
 qb (q_load st true 4 v1) fun v3 =>
 callK prog n_impl_TermOK [v3] st (fun v4 st =>
 qb (q_un .not v4) fun v5 =>
 retR R v5 st) (panR R)
theorem c_impl_badTerm {a0 : PV} {st : St} {R : Res → St → Prop} (h : b_impl_badTerm a0 st R) : HCalls prog n_impl_badTerm [a0] st R :=
 hcalls_of_func tyOK mixed (fn := Go.Proofs.Tryz.f120) (by kernel_rfl) (by kernel_rfl) (by kernel_rfl) (ann := [])
  (show hFunc prog TT [] Go.Proofs.Tryz.f120 [a0] st R from (show hFunc prog TT [] Go.Proofs.Tryz.f120 [a0] st R = b_impl_badTerm a0 st R by kernel_rfl) ▸ h)
def b_impl_omitter_term (a0 a1 : PV) (st : St) (R : Res → St → Prop) : Prop :=
 e_box st a1 fun v3 st =>
 e_alloc st [.int .i64 0, .int .i64 0, .str [], .sl 0 true []] fun v4 st =>
 qb (q_nil a0) fun v11 =>
 qb (q_fa 0 v11) fun v12 =>
 qb (q_load st false 1 v12) fun v13 =>
 qb (q_fa 2 v3) fun v14 =>
 qb (q_load st false 1 v14) fun v15 =>
 qb (q_lookup st .string (.sl 0 true []) false v13 v15) fun v16 =>
 qb (q_lit 4 0 0 [] []) fun v17 =>
 qb (q_fa 3 v3) fun v18 =>
 qb (q_load st false 1 v18) fun v19 =>
 qb (q_len v19) fun v20 =>
 hJ (fun ls st =>
  qb (q_fa 3 v3) fun v76 =>
  e_store st 1 v76 (ls.getD 0 .junk) fun st =>
  qb (q_load st true 4 v3) fun v77 =>
  e_store st 4 v4 v77 fun st =>
  qb (q_load st true 4 v4) fun r => retR R r st)
  (fun k =>
 hFix (fun ls_1 st X =>
  qb (q_bin .lss (ls_1.getD 1 .junk) v20) fun v22 =>
  cb v22 fun b => br b
   (qb (q_ia 4 v19 (ls_1.getD 1 .junk)) fun v24 =>
   qb (q_load st true 4 v24) fun v25 =>
   e_alloc st [.int .i64 0, .int .i64 0, .str [], .sl 0 true []] fun v8 st =>
   e_store st 4 v8 v25 fun st =>
   hJ (fun ls_2 st =>
    hJ (fun ls_3 st =>
     qb (q_load st true 4 v8) fun v70 =>
     callK prog n_impl_omitter_term [a0, v70] st (fun v71 st =>
     qb (q_lit 4 1 0 [] [(0, v71)]) fun v72 =>
     e_append st 4 56 (ls_3.getD 0 .junk) v72 (fun v73 st =>
     qb (q_bin .add (ls_1.getD 1 .junk) (.int .i64 1)) fun v74 =>
     X [v73, v74] st)) (panR R))
     (fun k_2 =>
    cb (ls_2.getD 0 .junk) fun b_1 => br b_1
     (qb (q_nil a0) fun v50 =>
     qb (q_fa 1 v50) fun v51 =>
     qb (q_load st false 1 v51) fun v52 =>
     qb (q_ia 1 v52 (.int .i64 0)) fun v53 =>
     qb (q_load st false 1 v53) fun v54 =>
     qb (q_nil a0) fun v57 =>
     qb (q_fa 1 v57) fun v58 =>
     qb (q_load st false 1 v58) fun v59 =>
     qb (q_sliceE 1 v59 (some (.int .i64 1)) none none) fun v60 =>
     qb (q_nil a0) fun v61 =>
     qb (q_fa 1 v61) fun v62 =>
     e_store st 1 v62 v60 fun st =>
     cb v54 fun b_2 => br b_2
      (qb (q_struct [.int .i64 0, .int .i64 0, .str [], .sl 0 true []] [(0, 1, (.int .i64 8))]) fun v65 =>
      qb (q_lit 4 1 0 [] [(0, v65)]) fun v66 =>
      e_append st 4 56 (ls_1.getD 0 .junk) v66 (fun v67 st =>
      qb (q_bin .add (ls_1.getD 1 .junk) (.int .i64 1)) fun v74_1 =>
      X [v67, v74_1] st))
      (k_2 [(ls_1.getD 0 .junk)] st))
     (k_2 [(ls_1.getD 0 .junk)] st)))
    (fun k_1 =>
   qb (q_fa 0 v3) fun v26 =>
   qb (q_load st false 1 v26) fun v27 =>
   qb (q_bin .eql v27 (.int .i64 6)) fun v28 =>
   cb v28 fun b_3 => br b_3
    (qb (q_len v16) fun v32 =>
    qb (q_bin .lss (ls_1.getD 1 .junk) v32) fun v33 =>
    cb v33 fun b_4 => br b_4
     (qb (q_ia 1 v16 (ls_1.getD 1 .junk)) fun v38 =>
     qb (q_load st false 1 v38) fun v39 =>
     cb v39 fun b_5 => br b_5
      (qb (q_nil a0) fun v43 =>
      qb (q_fa 1 v43) fun v44 =>
      qb (q_load st false 1 v44) fun v45 =>
      qb (q_len v45) fun v46 =>
      qb (q_bin .gtr v46 (.int .i64 0)) fun v47 =>
      k_1 [v47] st)
      (k_1 [(.bool false)] st))
     (k_1 [(.bool false)] st))
    (k_1 [(.bool false)] st)))
   (k [(ls_1.getD 0 .junk)] st))
  [v17, (.int .i64 0)] st)
theorem c_impl_omitter_term {a0 a1 : PV} {st : St} {R : Res → St → Prop} (h : b_impl_omitter_term a0 a1 st R) : HCalls prog n_impl_omitter_term [a0, a1] st R :=
 hcalls_of_func tyOK mixed (fn := Go.Proofs.Tryz.f121) (by kernel_rfl) (by kernel_rfl) (by kernel_rfl) (ann := [(12, [6, 21]), (3, [6]), (21, [48]), (26, [6])])
  (show hFunc prog TT [(12, [6, 21]), (3, [6]), (21, [48]), (26, [6])] Go.Proofs.Tryz.f121 [a0, a1] st R from (show hFunc prog TT [(12, [6, 21]), (3, [6]), (21, [48]), (26, [6])] Go.Proofs.Tryz.f121 [a0, a1] st R = b_impl_omitter_term a0 a1 st R by kernel_rfl) ▸ h)
def b_spec_NameOK (a0 : PV) (st : St) (R : Res → St → Prop) : Prop :=
 callK prog n_spec_l00Word [a0] st (fun v5 st =>
 qb (q_un .not v5) fun v6 =>
 cb v6 fun b => br b
  (retR R (.bool false) st)
  (qb (q_bin .eql a0 (.str [116, 121, 112, 101])) fun v9 =>
  cb v9 fun b_1 => br b_1
   (retR R (.bool false) st)
   (qb (q_bin .eql a0 (.str [95])) fun v13 =>
   cb v13 fun b_2 => br b_2
    (retR R (.bool false) st)
    (hJ (fun ls st =>
     qb (q_ix a0 (.int .i64 0)) fun v32 =>
     qb (q_bin .neq v32 (.int .u8 120)) fun v33 =>
     cb v33 fun b_3 => br b_3
      (retR R (.bool true) st)
      (qb (q_lenS a0) fun v36 =>
      qb (q_bin .eql v36 (.int .i64 1)) fun v37 =>
      retR R v37 st))
     (fun k =>
    hFix (fun ls_1 st X =>
     qb (q_lenS a0) fun v17 =>
     qb (q_bin .lss (ls_1.getD 0 .junk) v17) fun v18 =>
     cb v18 fun b_4 => br b_4
      (qb (q_ix a0 (.int .i64 0)) fun v22 =>
      qb (q_bin .neq v22 (.int .u8 120)) fun v23 =>
      cb v23 fun b_5 => br b_5
       (retR R (.bool true) st)
       (qb (q_ix a0 (ls_1.getD 0 .junk)) fun v27 =>
       callK prog n_spec_l00Digit [v27] st (fun v28 st =>
       qb (q_un .not v28) fun v29 =>
       cb v29 fun b_6 => br b_6
        (retR R (.bool true) st)
        (qb (q_bin .add (ls_1.getD 0 .junk) (.int .i64 1)) fun v20 =>
        X [v20] st)) (panR R)))
      (k [] st))
     [(.int .i64 1)] st))))) (panR R)
theorem c_spec_NameOK {a0 : PV} {st : St} {R : Res → St → Prop} (h : b_spec_NameOK a0 st R) : HCalls prog n_spec_NameOK [a0] st R :=
 hcalls_of_func tyOK mixed (fn := Go.Proofs.Tryz.f122) (by kernel_rfl) (by kernel_rfl) (by kernel_rfl) (ann := [(16, [3]), (3, [])])
  (show hFunc prog TT [(16, [3]), (3, [])] Go.Proofs.Tryz.f122 [a0] st R from (show hFunc prog TT [(16, [3]), (3, [])] Go.Proofs.Tryz.f122 [a0] st R = b_spec_NameOK a0 st R by kernel_rfl) ▸ h)
end Go.H.Tryz
