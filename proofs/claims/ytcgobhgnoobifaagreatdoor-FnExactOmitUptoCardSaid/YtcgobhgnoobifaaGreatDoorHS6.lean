/- Part of a proof that the program answers as the reference does: EDS6. -/
import Derived.Test.YtcgobhgnoobifaaGreatDoorHT
/- MADE BY PROGRAM (hgen.py): what the functions compute, over pure values. -/
set_option linter.unusedVariables false
set_option maxRecDepth 100000
namespace Go.H.Tryz
open Go Go.H
def b_impl_NameOK (a0 : PV) (st : St) (R : Res → St → Prop) : Prop :=
 callK prog n_impl_wordOK [a0] st (fun v6 st =>
 qb (q_un .not v6) fun v7 =>
 cb v7 fun b => br b
  (retR R (.bool false) st)
  (qb (q_bin .eql a0 (.str [116, 121, 112, 101])) fun v10 =>
  cb v10 fun b_1 => br b_1
   (retR R (.bool false) st)
   (qb (q_bin .eql a0 (.str [95])) fun v14 =>
   cb v14 fun b_2 => br b_2
    (retR R (.bool false) st)
    (callK prog n_strings_CutPrefix [a0, (.str [120])] st (fun v18 st =>
    qb (q_ex v18 0) fun v19 =>
    qb (q_ex v18 1) fun v20 =>
    qb (q_un .not v20) fun v22 =>
    cb v22 fun b_3 => br b_3
     (retR R (.bool true) st)
     (qb (q_bin .eql v19 (.str [])) fun v25 =>
     cb v25 fun b_4 => br b_4
      (retR R (.bool true) st)
      (callK prog n_impl_over [v19, (.str [48, 49, 50, 51, 52, 53, 54, 55, 56, 57])] st (fun v29 st =>
      qb (q_un .not v29) fun v30 =>
      retR R v30 st) (panR R)))) (panR R))))) (panR R)
theorem c_impl_NameOK {a0 : PV} {st : St} {R : Res → St → Prop} (h : b_impl_NameOK a0 st R) : HCalls prog n_impl_NameOK [a0] st R :=
 hcalls_of_func tyOK mixed (fn := Go.Proofs.Tryz.f123) (by kernel_rfl) (by kernel_rfl) (by kernel_rfl) (ann := [])
  (show hFunc prog TT [] Go.Proofs.Tryz.f123 [a0] st R from (show hFunc prog TT [] Go.Proofs.Tryz.f123 [a0] st R = b_impl_NameOK a0 st R by kernel_rfl) ▸ h)
def b_slices_ContainsFunc_impl_Decl_impl_Decl (a0 a1 : PV) (st : St) (R : Res → St → Prop) : Prop :=
 callK prog n_slices_IndexFunc_impl_Decl_impl_Decl [a0, a1] st (fun v7 st =>
 qb (q_bin .geq v7 (.int .i64 0)) fun v8 =>
 retR R v8 st) (panR R)
theorem c_slices_ContainsFunc_impl_Decl_impl_Decl {a0 a1 : PV} {st : St} {R : Res → St → Prop} (h : b_slices_ContainsFunc_impl_Decl_impl_Decl a0 a1 st R) : HCalls prog n_slices_ContainsFunc_impl_Decl_impl_Decl [a0, a1] st R :=
 hcalls_of_func tyOK mixed (fn := Go.Proofs.Tryz.f124) (by kernel_rfl) (by kernel_rfl) (by kernel_rfl) (ann := [])
  (show hFunc prog TT [] Go.Proofs.Tryz.f124 [a0, a1] st R from (show hFunc prog TT [] Go.Proofs.Tryz.f124 [a0, a1] st R = b_slices_ContainsFunc_impl_Decl_impl_Decl a0 a1 st R by kernel_rfl) ▸ h)
def b_impl_has_1 (a0 a1 : PV) (st : St) (R : Res → St → Prop) : Prop :=
 e_box st a0 fun v2 st =>
 qb (q_fa 0 v2) fun v4 =>
 qb (q_load st false 1 v4) fun v5 =>
 qb (q_load st false 1 a1) fun v6 =>
 qb (q_bin .eql v5 v6) fun v7 =>
 retR R v7 st
theorem c_impl_has_1 {a0 a1 : PV} {st : St} {R : Res → St → Prop} (h : b_impl_has_1 a0 a1 st R) : HCalls prog n_impl_has_1 [a0, a1] st R :=
 hcalls_of_func tyOK mixed (fn := Go.Proofs.Tryz.f125) (by kernel_rfl) (by kernel_rfl) (by kernel_rfl) (ann := [])
  (show hFunc prog TT [] Go.Proofs.Tryz.f125 [a0, a1] st R from (show hFunc prog TT [] Go.Proofs.Tryz.f125 [a0, a1] st R = b_impl_has_1 a0 a1 st R by kernel_rfl) ▸ h)
def b_impl_declFault_1 (a0 a1 : PV) (st : St) (R : Res → St → Prop) : Prop :=
 qb (q_load st false 1 a0) fun v2 =>
 qb (q_struct [.int .i64 0, .sl 0 true []] [(1, 1, v2)]) fun v3 =>
 e_box st v3 fun v4 st =>
 qb (q_fa 2 a1) fun v5 =>
 qb (q_load st true 4 v5) fun v6 =>
 callK prog n_impl_checker_family [v4, (.sl 0 true []), v6, (.int .i64 0)] st (fun v7 st =>
 retR R (.tup []) st) (panR R)
theorem c_impl_declFault_1 {a0 a1 : PV} {st : St} {R : Res → St → Prop} (h : b_impl_declFault_1 a0 a1 st R) : HCalls prog n_impl_declFault_1 [a0, a1] st R :=
 hcalls_of_func tyOK mixed (fn := Go.Proofs.Tryz.f127) (by kernel_rfl) (by kernel_rfl) (by kernel_rfl) (ann := [])
  (show hFunc prog TT [] Go.Proofs.Tryz.f127 [a0, a1] st R from (show hFunc prog TT [] Go.Proofs.Tryz.f127 [a0, a1] st R = b_impl_declFault_1 a0 a1 st R by kernel_rfl) ▸ h)
def b_impl_fresh (st : St) (R : Res → St → Prop) : Prop :=
 qb (q_struct [.int .i64 0, .bool false] [(0, 1, (.int .i64 150))]) fun v1 =>
 e_box st v1 fun v2 st =>
 retR R v2 st
theorem c_impl_fresh {st : St} {R : Res → St → Prop} (h : b_impl_fresh  st R) : HCalls prog n_impl_fresh [] st R :=
 hcalls_of_func tyOK mixed (fn := Go.Proofs.Tryz.f128) (by kernel_rfl) (by kernel_rfl) (by kernel_rfl) (ann := [])
  (show hFunc prog TT [] Go.Proofs.Tryz.f128 [] st R from (show hFunc prog TT [] Go.Proofs.Tryz.f128 [] st R = b_impl_fresh  st R by kernel_rfl) ▸ h)
def b_impl_looker_family (a0 a1 a2 : PV) (st : St) (R : Res → St → Prop) : Prop :=
 e_box st a1 fun v4 st =>
 callK prog n_impl_looker_node [a0] st (fun v8 st =>
 qb (q_un .not v8) fun v9 =>
 cb v9 fun b => br b
  (retR R (.bool false) st)
  (qb (q_fa 0 v4) fun v10 =>
  qb (q_load st false 1 v10) fun v11 =>
  qb (q_bin .eql v11 (.int .i64 1)) fun v13 =>
  cb v13 fun b_1 => br b_1
   (cb a2 fun b_2 => br b_2
    (callK prog n_impl_Tree_bare [v4, (.int .i64 0)] st (fun v16 st =>
    retR R v16 st) (panR R))
    (retR R (.bool false) st))
   (qb (q_bin .eql v11 (.int .i64 3)) fun v19 =>
   cb v19 fun b_3 => br b_3
    (qb (q_un .not a2) fun v21 =>
    cb v21 fun b_4 => br b_4
     (qb (q_fa 1 v4) fun v23 =>
     qb (q_load st false 1 v23) fun v24 =>
     qb (q_bin .eql v24 (.int .i64 0)) fun v25 =>
     cb v25 fun b_5 => br b_5
      (qb (q_fa 2 v4) fun v28 =>
      qb (q_load st false 1 v28) fun v29 =>
      callK prog n_impl_NameOK [v29] st (fun v30 st =>
      cb v30 fun b_6 => br b_6
       (qb (q_fa 3 v4) fun v34 =>
       qb (q_load st false 1 v34) fun v35 =>
       callK prog n_impl_looker_args [a0, v35] st (fun v36 st =>
       retR R v36 st) (panR R))
       (retR R (.bool false) st)) (panR R))
      (retR R (.bool false) st))
     (retR R (.bool false) st))
    (qb (q_bin .eql v11 (.int .i64 2)) fun v39 =>
    cb v39 fun b_7 => br b_7
     (callK prog n_impl_Tree_bare [v4, (.int .i64 2)] st (fun v40 st =>
     cb v40 fun b_8 => br b_8
      (qb (q_fa 3 v4) fun v43 =>
      qb (q_load st false 1 v43) fun v44 =>
      qb (q_ia 4 v44 (.int .i64 0)) fun v45 =>
      qb (q_load st true 4 v45) fun v46 =>
      callK prog n_impl_looker_family [a0, v46, (.bool false)] st (fun v47 st =>
      cb v47 fun b_9 => br b_9
       (qb (q_fa 3 v4) fun v51 =>
       qb (q_load st false 1 v51) fun v52 =>
       qb (q_ia 4 v52 (.int .i64 1)) fun v53 =>
       qb (q_load st true 4 v53) fun v54 =>
       callK prog n_impl_looker_family [a0, v54, a2] st (fun v56 st =>
       retR R v56 st) (panR R))
       (retR R (.bool false) st)) (panR R))
      (retR R (.bool false) st)) (panR R))
     (retR R (.bool false) st))))) (panR R)
theorem c_impl_looker_family {a0 a1 a2 : PV} {st : St} {R : Res → St → Prop} (h : b_impl_looker_family a0 a1 a2 st R) : HCalls prog n_impl_looker_family [a0, a1, a2] st R :=
 hcalls_of_func tyOK mixed (fn := Go.Proofs.Tryz.f129) (by kernel_rfl) (by kernel_rfl) (by kernel_rfl) (ann := [])
  (show hFunc prog TT [] Go.Proofs.Tryz.f129 [a0, a1, a2] st R from (show hFunc prog TT [] Go.Proofs.Tryz.f129 [a0, a1, a2] st R = b_impl_looker_family a0 a1 a2 st R by kernel_rfl) ▸ h)
def b_spec_l01Small (a0 : PV) (st : St) (R : Res → St → Prop) : Prop :=
 e_box st a0 fun v1 st =>
 qb (q_load st true 4 v1) fun v3 =>
 callK prog n_spec_l01Count [v3, (.int .i64 150)] st (fun v4 st =>
 qb (q_bin .geq v4 (.int .i64 0)) fun v5 =>
 retR R v5 st) (panR R)
theorem c_spec_l01Small {a0 : PV} {st : St} {R : Res → St → Prop} (h : b_spec_l01Small a0 st R) : HCalls prog n_spec_l01Small [a0] st R :=
 hcalls_of_func tyOK mixed (fn := Go.Proofs.Tryz.f131) (by kernel_rfl) (by kernel_rfl) (by kernel_rfl) (ann := [])
  (show hFunc prog TT [] Go.Proofs.Tryz.f131 [a0] st R from (show hFunc prog TT [] Go.Proofs.Tryz.f131 [a0] st R = b_spec_l01Small a0 st R by kernel_rfl) ▸ h)
def b_spec_l01Family (a0 : PV) (st : St) (R : Res → St → Prop) : Prop :=
 e_box st a0 fun v1 st =>
 qb (q_fa 0 v1) fun v3 =>
 qb (q_load st false 1 v3) fun v4 =>
 qb (q_bin .eql v4 (.int .i64 2)) fun v6 =>
 cb v6 fun b => br b
  (qb (q_fa 1 v1) fun v7 =>
  qb (q_load st false 1 v7) fun v8 =>
  qb (q_bin .eql v8 (.int .i64 0)) fun v9 =>
  cb v9 fun b_1 => br b_1
   (qb (q_fa 2 v1) fun v11 =>
   qb (q_load st false 1 v11) fun v12 =>
   qb (q_bin .eql v12 (.str [])) fun v13 =>
   cb v13 fun b_2 => br b_2
    (qb (q_fa 3 v1) fun v16 =>
    qb (q_load st false 1 v16) fun v17 =>
    qb (q_len v17) fun v18 =>
    qb (q_bin .eql v18 (.int .i64 2)) fun v19 =>
    cb v19 fun b_3 => br b_3
     (qb (q_fa 3 v1) fun v22 =>
     qb (q_load st false 1 v22) fun v23 =>
     qb (q_ia 4 v23 (.int .i64 0)) fun v24 =>
     qb (q_load st true 4 v24) fun v25 =>
     callK prog n_spec_l01Family [v25] st (fun v26 st =>
     cb v26 fun b_4 => br b_4
      (qb (q_fa 3 v1) fun v29 =>
      qb (q_load st false 1 v29) fun v30 =>
      qb (q_ia 4 v30 (.int .i64 1)) fun v31 =>
      qb (q_load st true 4 v31) fun v32 =>
      callK prog n_spec_l01Family [v32] st (fun v33 st =>
      retR R v33 st) (panR R))
      (retR R (.bool false) st)) (panR R))
     (retR R (.bool false) st))
    (retR R (.bool false) st))
   (retR R (.bool false) st))
  (qb (q_bin .eql v4 (.int .i64 3)) fun v36 =>
  cb v36 fun b_5 => br b_5
   (qb (q_fa 1 v1) fun v37 =>
   qb (q_load st false 1 v37) fun v38 =>
   qb (q_bin .eql v38 (.int .i64 0)) fun v39 =>
   cb v39 fun b_6 => br b_6
    (qb (q_fa 2 v1) fun v41 =>
    qb (q_load st false 1 v41) fun v42 =>
    callK prog n_spec_NameOK [v42] st (fun v43 st =>
    cb v43 fun b_7 => br b_7
     (qb (q_fa 3 v1) fun v46 =>
     qb (q_load st false 1 v46) fun v47 =>
     callK prog n_spec_l01Terms [v47, (.bool false)] st (fun v48 st =>
     retR R v48 st) (panR R))
     (retR R (.bool false) st)) (panR R))
    (retR R (.bool false) st))
   (retR R (.bool false) st))
theorem c_spec_l01Family {a0 : PV} {st : St} {R : Res → St → Prop} (h : b_spec_l01Family a0 st R) : HCalls prog n_spec_l01Family [a0] st R :=
 hcalls_of_func tyOK mixed (fn := Go.Proofs.Tryz.f132) (by kernel_rfl) (by kernel_rfl) (by kernel_rfl) (ann := [])
  (show hFunc prog TT [] Go.Proofs.Tryz.f132 [a0] st R from (show hFunc prog TT [] Go.Proofs.Tryz.f132 [a0] st R = b_spec_l01Family a0 st R by kernel_rfl) ▸ h)
def b_spec_l04More (a0 a1 : PV) (st : St) (R : Res → St → Prop) : Prop :=
 e_box st a1 fun v3 st =>
 qb (q_lit 4 0 0 [] []) fun v5 =>
 qb (q_load st true 4 v3) fun v8 =>
 qb (q_lit 4 1 0 [] [(0, v8)]) fun v9 =>
 e_append st 4 56 v5 a0 (fun v7 st =>
 q_load st true 4 v3 = some v8 ∧ (e_append st 4 56 v7 v9 (fun v10 st =>
 retR R v10 st)))
theorem c_spec_l04More {a0 a1 : PV} {st : St} {R : Res → St → Prop} (h : b_spec_l04More a0 a1 st R) : HCalls prog n_spec_l04More [a0, a1] st R :=
 hcalls_of_func tyOK mixed (fn := Go.Proofs.Tryz.f133) (by kernel_rfl) (by kernel_rfl) (by kernel_rfl) (ann := [])
  (show hFunc prog TT [] Go.Proofs.Tryz.f133 [a0, a1] st R from (show hFunc prog TT [] Go.Proofs.Tryz.f133 [a0, a1] st R = b_spec_l04More a0 a1 st R by kernel_rfl) ▸ h)
def b_spec_l01Size (a0 : PV) (st : St) (R : Res → St → Prop) : Prop :=
 e_box st a0 fun v1 st =>
 hFix (fun ls st X =>
  qb (q_fa 3 v1) fun v6 =>
  qb (q_load st false 1 v6) fun v7 =>
  qb (q_len v7) fun v8 =>
  qb (q_bin .lss (ls.getD 1 .junk) v8) fun v9 =>
  cb v9 fun b => br b
   (qb (q_fa 3 v1) fun v13 =>
   qb (q_load st false 1 v13) fun v14 =>
   qb (q_ia 4 v14 (ls.getD 1 .junk)) fun v16 =>
   qb (q_load st true 4 v16) fun v17 =>
   callK prog n_spec_l01Size [v17] st (fun v18 st =>
   qb (q_bin .add (ls.getD 0 .junk) v18) fun v19 =>
   qb (q_bin .add (ls.getD 1 .junk) (.int .i64 1)) fun v11 =>
   X [v19, v11] st) (panR R))
   (retR R (ls.getD 0 .junk) st))
  [(.int .i64 1), (.int .i64 0)] st
theorem c_spec_l01Size {a0 : PV} {st : St} {R : Res → St → Prop} (h : b_spec_l01Size a0 st R) : HCalls prog n_spec_l01Size [a0] st R :=
 hcalls_of_func tyOK mixed (fn := Go.Proofs.Tryz.f134) (by kernel_rfl) (by kernel_rfl) (by kernel_rfl) (ann := [(12, [3, 4])])
  (show hFunc prog TT [(12, [3, 4])] Go.Proofs.Tryz.f134 [a0] st R from (show hFunc prog TT [(12, [3, 4])] Go.Proofs.Tryz.f134 [a0] st R = b_spec_l01Size a0 st R by kernel_rfl) ▸ h)
def b_spec_l04Run_fail (a0 a1 a2 : PV) (st : St) (R : Res → St → Prop) : Prop :=
 qb (q_nil a0) fun v8 =>
 qb (q_fa 2 v8) fun v9 =>
 qb (q_load st false 1 v9) fun v10 =>
 qb (q_bin .eql v10 (.int .i64 0)) fun v11 =>
 cb v11 fun b => br b
  (qb (q_nil a0) fun v14 =>
  qb (q_fa 2 v14) fun v15 =>
  e_store st 1 v15 a1 fun st =>
  qb (q_nil a0) fun v18 =>
  qb (q_fa 3 v18) fun v19 =>
  e_store st 1 v19 a2 fun st =>
  retR R (.bool false) st)
  (retR R (.bool false) st)
theorem c_spec_l04Run_fail {a0 a1 a2 : PV} {st : St} {R : Res → St → Prop} (h : b_spec_l04Run_fail a0 a1 a2 st R) : HCalls prog n_spec_l04Run_fail [a0, a1, a2] st R :=
 hcalls_of_func tyOK mixed (fn := Go.Proofs.Tryz.f135) (by kernel_rfl) (by kernel_rfl) (by kernel_rfl) (ann := [])
  (show hFunc prog TT [] Go.Proofs.Tryz.f135 [a0, a1, a2] st R from (show hFunc prog TT [] Go.Proofs.Tryz.f135 [a0, a1, a2] st R = b_spec_l04Run_fail a0 a1 a2 st R by kernel_rfl) ▸ h)
def b_spec_l04Run_spine (a0 a1 a2 a3 a4 : PV) (st : St) (R : Res → St → Prop) : Prop :=
 e_box st a2 fun v7 st =>
 e_alloc st [.int .i64 0, .int .i64 0, .str [], .sl 0 true []] fun v10 st =>
 qb (q_bin .add a4 (.int .i64 1)) fun v16 =>
 hFix (fun ls st X =>
  qb (q_len a3) fun v19 =>
  qb (q_bin .lss (ls.getD 1 .junk) v19) fun v20 =>
  cb v20 fun b => br b
   (qb (q_fa 0 v7) fun v23 =>
   qb (q_load st false 1 v23) fun v24 =>
   qb (q_bin .neq v24 (.int .i64 2)) fun v25 =>
   cb v25 fun b_1 => br b_1
    (qb (q_struct [.int .i64 0, .int .i64 0, .str [], .sl 0 true []] []) fun v26 =>
    callK prog n_spec_l04Run_fail [a0, (.int .i64 8), (ls.getD 0 .junk)] st (fun v29 st =>
    e_store st 4 v10 v26 fun st =>
    qb (q_load st true 4 v10) fun r => retR R (.tup [r, v29]) st) (panR R))
    (qb (q_ia 4 a3 (ls.getD 1 .junk)) fun v34 =>
    qb (q_load st true 4 v34) fun v35 =>
    qb (q_fa 3 v7) fun v36 =>
    qb (q_load st false 1 v36) fun v37 =>
    qb (q_ia 4 v37 (.int .i64 0)) fun v38 =>
    qb (q_load st true 4 v38) fun v39 =>
    callK prog n_spec_l04Run_term [a0, a1, v35, v39, (ls.getD 0 .junk)] st (fun v41 st =>
    qb (q_un .not v41) fun v42 =>
    cb v42 fun b_2 => br b_2
     (qb (q_struct [.int .i64 0, .int .i64 0, .str [], .sl 0 true []] []) fun v43 =>
     e_store st 4 v10 v43 fun st =>
     qb (q_load st true 4 v10) fun r_1 => retR R (.tup [r_1, (.bool false)]) st)
     (hJ (fun ls_1 st =>
      qb (q_bin .neq (ls_1.getD 1 .junk) (.int .i64 0)) fun v66 =>
      cb v66 fun b_3 => br b_3
       (qb (q_struct [.int .i64 0, .int .i64 0, .str [], .sl 0 true []] []) fun v67 =>
       callK prog n_spec_l04Run_fail [a0, (ls_1.getD 1 .junk), (ls.getD 0 .junk)] st (fun v71 st =>
       e_store st 4 v10 v67 fun st =>
       qb (q_load st true 4 v10) fun r_2 => retR R (.tup [r_2, v71]) st) (panR R))
       (qb (q_load st true 4 (ls_1.getD 0 .junk)) fun v72 =>
       e_store st 4 v7 v72 fun st =>
       qb (q_ia 4 a3 (ls.getD 1 .junk)) fun v76 =>
       qb (q_load st true 4 v76) fun v77 =>
       callK prog n_spec_l01Size [v77] st (fun v78 st =>
       qb (q_bin .add (ls.getD 0 .junk) v78) fun v79 =>
       qb (q_bin .add (ls.getD 1 .junk) (.int .i64 1)) fun v22 =>
       X [v79, v22] st) (panR R)))
      (fun k =>
     qb (q_nil a0) fun v46 =>
     qb (q_fa 1 v46) fun v47 =>
     qb (q_load st false 1 v47) fun v48 =>
     qb (q_ia 4 a3 (ls.getD 1 .junk)) fun v51 =>
     qb (q_load st true 4 v51) fun v52 =>
     qb (q_fa 3 v7) fun v53 =>
     qb (q_load st false 1 v53) fun v54 =>
     qb (q_ia 4 v54 (.int .i64 0)) fun v55 =>
     qb (q_load st true 4 v55) fun v56 =>
     qb (q_fa 3 v7) fun v58 =>
     qb (q_load st false 1 v58) fun v59 =>
     qb (q_ia 4 v59 (.int .i64 1)) fun v60 =>
     qb (q_load st true 4 v60) fun v61 =>
     (callK prog n_spec_l01Erase [v56] st (fun v57 st =>
     q_load st true 4 v60 = some v61 ∧ q_load st false 1 v58 = some v59 ∧ q_load st true 4 v51 = some v52 ∧ q_load st false 1 v47 = some v48 ∧ ((callK prog n_spec_l03Run_sub [v48, v52, v57, v61, (.int .i64 0)] st (fun v62 st =>
     qb (q_ex v62 0) fun v63 =>
     qb (q_ex v62 1) fun v64 =>
     e_alloc st [.int .i64 0, .int .i64 0, .str [], .sl 0 true []] fun v13 st =>
     q_load st true 4 v60 = some v61 ∧ q_load st false 1 v58 = some v59 ∧ q_load st true 4 v55 = some v56 ∧ q_load st false 1 v53 = some v54 ∧ q_load st true 4 v51 = some v52 ∧ q_load st false 1 v47 = some v48 ∧ (e_store st 4 v13 v63 fun st =>
     k [v13, v64] st)) (panR R)) ∧
     (e_alloc st [.int .i64 0, .int .i64 0, .str [], .sl 0 true []] fun v13_1 st =>
     q_load st true 4 v60 = some v61 ∧ q_load st false 1 v58 = some v59 ∧ q_load st true 4 v55 = some v56 ∧ q_load st false 1 v53 = some v54 ∧ q_load st true 4 v51 = some v52 ∧ q_load st false 1 v47 = some v48 ∧ (callK prog n_spec_l03Run_sub [v48, v52, v57, v61, (.int .i64 0)] st (fun v62_1 st =>
     qb (q_ex v62_1 0) fun v63_1 =>
     qb (q_ex v62_1 1) fun v64_1 =>
     e_store st 4 v13_1 v63_1 fun st =>
     k [v13_1, v64_1] st) (panR R))))) (panR R)) ∧
     (e_alloc st [.int .i64 0, .int .i64 0, .str [], .sl 0 true []] fun v13_2 st =>
     q_load st true 4 v60 = some v61 ∧ q_load st false 1 v58 = some v59 ∧ q_load st true 4 v55 = some v56 ∧ q_load st false 1 v53 = some v54 ∧ q_load st true 4 v51 = some v52 ∧ q_load st false 1 v47 = some v48 ∧ (callK prog n_spec_l01Erase [v56] st (fun v57_1 st =>
     q_load st true 4 v60 = some v61 ∧ q_load st false 1 v58 = some v59 ∧ q_load st true 4 v51 = some v52 ∧ q_load st false 1 v47 = some v48 ∧ (callK prog n_spec_l03Run_sub [v48, v52, v57_1, v61, (.int .i64 0)] st (fun v62_2 st =>
     qb (q_ex v62_2 0) fun v63_2 =>
     qb (q_ex v62_2 1) fun v64_2 =>
     e_store st 4 v13_2 v63_2 fun st =>
     k [v13_2, v64_2] st) (panR R))) (panR R)))))) (panR R)))
   (qb (q_load st true 4 v7) fun v80 =>
   e_store st 4 v10 v80 fun st =>
   qb (q_load st true 4 v10) fun r_3 => retR R (.tup [r_3, (.bool true)]) st))
  [v16, (.int .i64 0)] st
theorem c_spec_l04Run_spine {a0 a1 a2 a3 a4 : PV} {st : St} {R : Res → St → Prop} (h : b_spec_l04Run_spine a0 a1 a2 a3 a4 st R) : HCalls prog n_spec_l04Run_spine [a0, a1, a2, a3, a4] st R :=
 hcalls_of_func tyOK mixed (fn := Go.Proofs.Tryz.f136) (by kernel_rfl) (by kernel_rfl) (by kernel_rfl) (ann := [(12, [4, 12]), (37, [13, 14])])
  (show hFunc prog TT [(12, [4, 12]), (37, [13, 14])] Go.Proofs.Tryz.f136 [a0, a1, a2, a3, a4] st R from (show hFunc prog TT [(12, [4, 12]), (37, [13, 14])] Go.Proofs.Tryz.f136 [a0, a1, a2, a3, a4] st R = b_spec_l04Run_spine a0 a1 a2 a3 a4 st R by kernel_rfl) ▸ h)
def b_impl_behind (a0 a1 : PV) (st : St) (R : Res → St → Prop) : Prop :=
 e_box st a1 fun v3 st =>
 qb (q_load st true 4 v3) fun v7 =>
 qb (q_lit 4 1 0 [] [(0, v7)]) fun v8 =>
 callK prog n_slices_Clip_impl_Tree_impl_Tree [a0] st (fun v6 st =>
 q_load st true 4 v3 = some v7 ∧ (e_append st 4 56 v6 v8 (fun v9 st =>
 retR R v9 st))) (panR R)
theorem c_impl_behind {a0 a1 : PV} {st : St} {R : Res → St → Prop} (h : b_impl_behind a0 a1 st R) : HCalls prog n_impl_behind [a0, a1] st R :=
 hcalls_of_func tyOK mixed (fn := Go.Proofs.Tryz.f138) (by kernel_rfl) (by kernel_rfl) (by kernel_rfl) (ann := [])
  (show hFunc prog TT [] Go.Proofs.Tryz.f138 [a0, a1] st R from (show hFunc prog TT [] Go.Proofs.Tryz.f138 [a0, a1] st R = b_impl_behind a0 a1 st R by kernel_rfl) ▸ h)
def b_impl_checker_args (a0 a1 a2 a3 a4 : PV) (st : St) (R : Res → St → Prop) : Prop :=
 e_box st a3 fun v8 st =>
 e_alloc st [.int .i64 0, .int .i64 0, .str [], .sl 0 true []] fun v10 st =>
 qb (q_len a2) fun v14 =>
 hFix (fun ls st X =>
  qb (q_bin .lss (ls.getD 1 .junk) v14) fun v16 =>
  cb v16 fun b => br b
   (qb (q_ia 4 a2 (ls.getD 1 .junk)) fun v17 =>
   qb (q_load st true 4 v17) fun v18 =>
   e_alloc st [.int .i64 0, .int .i64 0, .str [], .sl 0 true []] fun v12 st =>
   e_store st 4 v12 v18 fun st =>
   qb (q_fa 0 v8) fun v19 =>
   qb (q_load st false 1 v19) fun v20 =>
   qb (q_bin .neq v20 (.int .i64 2)) fun v21 =>
   hJ (fun ls_1 st =>
    qb (q_load st true 4 v12) fun v26 =>
    qb (q_fa 3 v8) fun v27 =>
    qb (q_load st false 1 v27) fun v28 =>
    qb (q_ia 4 v28 (.int .i64 0)) fun v29 =>
    qb (q_load st true 4 v29) fun v30 =>
    callK prog n_impl_checker_term [a0, a1, v26, v30, (ls.getD 0 .junk)] st (fun v32 st =>
    qb (q_load st true 4 v12) fun v34 =>
    qb (q_load st true 4 v8) fun v35 =>
    callK prog n_impl_checker_left [a0, v34, v35, (ls.getD 0 .junk)] st (fun v37 st =>
    e_store st 4 v8 v37 fun st =>
    qb (q_load st true 4 v12) fun v39 =>
    callK prog n_impl_Size [v39] st (fun v40 st =>
    qb (q_bin .add (ls.getD 0 .junk) v40) fun v41 =>
    qb (q_bin .add (ls.getD 1 .junk) (.int .i64 1)) fun v42 =>
    X [v41, v42] st) (panR R)) (panR R)) (panR R))
    (fun k =>
   cb v21 fun b_1 => br b_1
    (callK prog n_impl_stop [(.int .i64 8), (ls.getD 0 .junk)] st (fun v23 st =>
    k [] st) (panR R))
    (k [] st)))
   (qb (q_load st true 4 v8) fun v43 =>
   e_store st 4 v10 v43 fun st =>
   qb (q_load st true 4 v10) fun r => retR R r st))
  [a4, (.int .i64 0)] st
theorem c_impl_checker_args {a0 a1 a2 a3 a4 : PV} {st : St} {R : Res → St → Prop} (h : b_impl_checker_args a0 a1 a2 a3 a4 st R) : HCalls prog n_impl_checker_args [a0, a1, a2, a3, a4] st R :=
 hcalls_of_func tyOK mixed (fn := Go.Proofs.Tryz.f140) (by kernel_rfl) (by kernel_rfl) (by kernel_rfl) (ann := [(8, [4, 15]), (22, [])])
  (show hFunc prog TT [(8, [4, 15]), (22, [])] Go.Proofs.Tryz.f140 [a0, a1, a2, a3, a4] st R from (show hFunc prog TT [(8, [4, 15]), (22, [])] Go.Proofs.Tryz.f140 [a0, a1, a2, a3, a4] st R = b_impl_checker_args a0 a1 a2 a3 a4 st R by kernel_rfl) ▸ h)
def b_spec_l01Kind (a0 : PV) (st : St) (R : Res → St → Prop) : Prop :=
 e_box st a0 fun v1 st =>
 qb (q_fa 0 v1) fun v3 =>
 qb (q_load st false 1 v3) fun v4 =>
 qb (q_bin .eql v4 (.int .i64 2)) fun v6 =>
 cb v6 fun b => br b
  (qb (q_fa 1 v1) fun v7 =>
  qb (q_load st false 1 v7) fun v8 =>
  qb (q_bin .eql v8 (.int .i64 0)) fun v9 =>
  cb v9 fun b_1 => br b_1
   (qb (q_fa 2 v1) fun v11 =>
   qb (q_load st false 1 v11) fun v12 =>
   qb (q_bin .eql v12 (.str [])) fun v13 =>
   cb v13 fun b_2 => br b_2
    (qb (q_fa 3 v1) fun v16 =>
    qb (q_load st false 1 v16) fun v17 =>
    qb (q_len v17) fun v18 =>
    qb (q_bin .eql v18 (.int .i64 2)) fun v19 =>
    cb v19 fun b_3 => br b_3
     (qb (q_fa 3 v1) fun v22 =>
     qb (q_load st false 1 v22) fun v23 =>
     qb (q_ia 4 v23 (.int .i64 0)) fun v24 =>
     qb (q_load st true 4 v24) fun v25 =>
     callK prog n_spec_l01Family [v25] st (fun v26 st =>
     cb v26 fun b_4 => br b_4
      (qb (q_fa 3 v1) fun v29 =>
      qb (q_load st false 1 v29) fun v30 =>
      qb (q_ia 4 v30 (.int .i64 1)) fun v31 =>
      qb (q_load st true 4 v31) fun v32 =>
      callK prog n_spec_l01Kind [v32] st (fun v33 st =>
      retR R v33 st) (panR R))
      (retR R (.bool false) st)) (panR R))
     (retR R (.bool false) st))
    (retR R (.bool false) st))
   (retR R (.bool false) st))
  (qb (q_bin .eql v4 (.int .i64 1)) fun v36 =>
  cb v36 fun b_5 => br b_5
   (qb (q_fa 1 v1) fun v37 =>
   qb (q_load st false 1 v37) fun v38 =>
   qb (q_bin .eql v38 (.int .i64 0)) fun v39 =>
   cb v39 fun b_6 => br b_6
    (qb (q_fa 2 v1) fun v41 =>
    qb (q_load st false 1 v41) fun v42 =>
    qb (q_bin .eql v42 (.str [])) fun v43 =>
    cb v43 fun b_7 => br b_7
     (qb (q_fa 3 v1) fun v46 =>
     qb (q_load st false 1 v46) fun v47 =>
     qb (q_len v47) fun v48 =>
     qb (q_bin .eql v48 (.int .i64 0)) fun v49 =>
     retR R v49 st)
     (retR R (.bool false) st))
    (retR R (.bool false) st))
   (retR R (.bool false) st))
theorem c_spec_l01Kind {a0 : PV} {st : St} {R : Res → St → Prop} (h : b_spec_l01Kind a0 st R) : HCalls prog n_spec_l01Kind [a0] st R :=
 hcalls_of_func tyOK mixed (fn := Go.Proofs.Tryz.f141) (by kernel_rfl) (by kernel_rfl) (by kernel_rfl) (ann := [])
  (show hFunc prog TT [] Go.Proofs.Tryz.f141 [a0] st R from (show hFunc prog TT [] Go.Proofs.Tryz.f141 [a0] st R = b_spec_l01Kind a0 st R by kernel_rfl) ▸ h)
def b_spec_l01Term (a0 a1 : PV) (st : St) (R : Res → St → Prop) : Prop :=
 e_box st a0 fun v2 st =>
 qb (q_fa 0 v2) fun v5 =>
 qb (q_load st false 1 v5) fun v6 =>
 qb (q_bin .eql v6 (.int .i64 4)) fun v8 =>
 cb v8 fun b => br b
  (qb (q_fa 1 v2) fun v9 =>
  qb (q_load st false 1 v9) fun v10 =>
  qb (q_bin .eql v10 (.int .i64 0)) fun v11 =>
  cb v11 fun b_1 => br b_1
   (qb (q_fa 2 v2) fun v13 =>
   qb (q_load st false 1 v13) fun v14 =>
   qb (q_bin .eql v14 (.str [])) fun v15 =>
   cb v15 fun b_2 => br b_2
    (qb (q_fa 3 v2) fun v18 =>
    qb (q_load st false 1 v18) fun v19 =>
    qb (q_len v19) fun v20 =>
    qb (q_bin .eql v20 (.int .i64 1)) fun v21 =>
    cb v21 fun b_3 => br b_3
     (qb (q_fa 3 v2) fun v24 =>
     qb (q_load st false 1 v24) fun v25 =>
     qb (q_ia 4 v25 (.int .i64 0)) fun v26 =>
     qb (q_load st true 4 v26) fun v27 =>
     callK prog n_spec_l01Term [v27, a1] st (fun v29 st =>
     retR R v29 st) (panR R))
     (retR R (.bool false) st))
    (retR R (.bool false) st))
   (retR R (.bool false) st))
  (qb (q_bin .eql v6 (.int .i64 5)) fun v32 =>
  hJ (fun ls st =>
   cb (ls.getD 0 .junk) fun b_5 => br b_5
    (qb (q_fa 1 v2) fun v34 =>
    qb (q_load st false 1 v34) fun v35 =>
    qb (q_bin .geq v35 (.int .i64 0)) fun v36 =>
    cb v36 fun b_6 => br b_6
     (qb (q_fa 1 v2) fun v38 =>
     qb (q_load st false 1 v38) fun v39 =>
     qb (q_bin .leq v39 (.int .i64 100)) fun v40 =>
     cb v40 fun b_7 => br b_7
      (qb (q_fa 2 v2) fun v43 =>
      qb (q_load st false 1 v43) fun v44 =>
      qb (q_bin .eql v44 (.str [])) fun v45 =>
      cb v45 fun b_8 => br b_8
       (qb (q_fa 3 v2) fun v48 =>
       qb (q_load st false 1 v48) fun v49 =>
       callK prog n_spec_l01Terms [v49, a1] st (fun v51 st =>
       retR R v51 st) (panR R))
       (retR R (.bool false) st))
      (retR R (.bool false) st))
     (retR R (.bool false) st))
    (qb (q_bin .eql v6 (.int .i64 6)) fun v54 =>
    cb v54 fun b_9 => br b_9
     (qb (q_fa 1 v2) fun v55 =>
     qb (q_load st false 1 v55) fun v56 =>
     qb (q_bin .eql v56 (.int .i64 0)) fun v57 =>
     cb v57 fun b_10 => br b_10
      (qb (q_fa 2 v2) fun v59 =>
      qb (q_load st false 1 v59) fun v60 =>
      callK prog n_spec_NameOK [v60] st (fun v61 st =>
      cb v61 fun b_11 => br b_11
       (qb (q_fa 3 v2) fun v64 =>
       qb (q_load st false 1 v64) fun v65 =>
       callK prog n_spec_l01Terms [v65, a1] st (fun v67 st =>
       retR R v67 st) (panR R))
       (retR R (.bool false) st)) (panR R))
      (retR R (.bool false) st))
     (retR R (.bool false) st)))
   (fun k =>
  cb v32 fun b_4 => br b_4
   (k [v32] st)
   (qb (q_bin .eql v6 (.int .i64 7)) fun v33 =>
   k [v33] st)))
theorem e_spec_l01Term : Enters prog n_spec_l01Term := ⟨Go.Proofs.Tryz.f142, by kernel_rfl, by kernel_rfl, by kernel_rfl⟩
theorem c_spec_l01Term {a0 a1 : PV} {st : St} {R : Res → St → Prop} (h : b_spec_l01Term a0 a1 st R) : HCalls prog n_spec_l01Term [a0, a1] st R :=
 hcalls_of_func tyOK mixed (fn := Go.Proofs.Tryz.f142) (by kernel_rfl) (by kernel_rfl) (by kernel_rfl) (ann := [(22, [31])])
  (show hFunc prog TT [(22, [31])] Go.Proofs.Tryz.f142 [a0, a1] st R from (show hFunc prog TT [(22, [31])] Go.Proofs.Tryz.f142 [a0, a1] st R = b_spec_l01Term a0 a1 st R by kernel_rfl) ▸ h)
def b_spec_l01Same (a0 a1 : PV) (st : St) (R : Res → St → Prop) : Prop :=
 e_box st a0 fun v2 st =>
 e_box st a1 fun v3 st =>
 qb (q_fa 0 v2) fun v6 =>
 qb (q_load st false 1 v6) fun v7 =>
 qb (q_fa 0 v3) fun v8 =>
 qb (q_load st false 1 v8) fun v9 =>
 qb (q_bin .neq v7 v9) fun v10 =>
 cb v10 fun b => br b
  (retR R (.bool false) st)
  (qb (q_fa 1 v2) fun v12 =>
  qb (q_load st false 1 v12) fun v13 =>
  qb (q_fa 1 v3) fun v14 =>
  qb (q_load st false 1 v14) fun v15 =>
  qb (q_bin .neq v13 v15) fun v16 =>
  cb v16 fun b_1 => br b_1
   (retR R (.bool false) st)
   (qb (q_fa 2 v2) fun v19 =>
   qb (q_load st false 1 v19) fun v20 =>
   qb (q_fa 2 v3) fun v21 =>
   qb (q_load st false 1 v21) fun v22 =>
   qb (q_bin .neq v20 v22) fun v23 =>
   cb v23 fun b_2 => br b_2
    (retR R (.bool false) st)
    (qb (q_fa 3 v2) fun v26 =>
    qb (q_load st false 1 v26) fun v27 =>
    qb (q_len v27) fun v28 =>
    qb (q_fa 3 v3) fun v29 =>
    qb (q_load st false 1 v29) fun v30 =>
    qb (q_len v30) fun v31 =>
    qb (q_bin .neq v28 v31) fun v32 =>
    cb v32 fun b_3 => br b_3
     (retR R (.bool false) st)
     (hFix (fun ls st X =>
      qb (q_fa 3 v2) fun v35 =>
      qb (q_load st false 1 v35) fun v36 =>
      qb (q_len v36) fun v37 =>
      qb (q_bin .lss (ls.getD 0 .junk) v37) fun v38 =>
      cb v38 fun b_4 => br b_4
       (qb (q_fa 3 v2) fun v41 =>
       qb (q_load st false 1 v41) fun v42 =>
       qb (q_ia 4 v42 (ls.getD 0 .junk)) fun v44 =>
       qb (q_load st true 4 v44) fun v45 =>
       qb (q_fa 3 v3) fun v46 =>
       qb (q_load st false 1 v46) fun v47 =>
       qb (q_ia 4 v47 (ls.getD 0 .junk)) fun v49 =>
       qb (q_load st true 4 v49) fun v50 =>
       callK prog n_spec_l01Same [v45, v50] st (fun v51 st =>
       qb (q_un .not v51) fun v52 =>
       cb v52 fun b_5 => br b_5
        (retR R (.bool false) st)
        (qb (q_bin .add (ls.getD 0 .junk) (.int .i64 1)) fun v40 =>
        X [v40] st)) (panR R))
       (retR R (.bool true) st))
      [(.int .i64 0)] st))))
theorem e_spec_l01Same : Enters prog n_spec_l01Same := ⟨Go.Proofs.Tryz.f143, by kernel_rfl, by kernel_rfl, by kernel_rfl⟩
theorem c_spec_l01Same {a0 a1 : PV} {st : St} {R : Res → St → Prop} (h : b_spec_l01Same a0 a1 st R) : HCalls prog n_spec_l01Same [a0, a1] st R :=
 hcalls_of_func tyOK mixed (fn := Go.Proofs.Tryz.f143) (by kernel_rfl) (by kernel_rfl) (by kernel_rfl) (ann := [(16, [5])])
  (show hFunc prog TT [(16, [5])] Go.Proofs.Tryz.f143 [a0, a1] st R from (show hFunc prog TT [(16, [5])] Go.Proofs.Tryz.f143 [a0, a1] st R = b_spec_l01Same a0 a1 st R by kernel_rfl) ▸ h)
end Go.H.Tryz
