/- Part of a proof that the program answers as the reference does: ZDS7. -/
import Derived.Test.YtmfdgpjmdbdhcaaGreatDoorHT
/- MADE BY PROGRAM (hgen.py): what the functions compute, over pure values. -/
set_option linter.unusedVariables false
set_option maxRecDepth 100000
namespace Go.H.Tryz
open Go Go.H
def b_spec_l03Target (a0 : PV) (st : St) (R : Res → St → Prop) : Prop :=
 e_box st a0 fun v1 st =>
 e_alloc st [.int .i64 0, .int .i64 0, .str [], .sl 0 true []] fun v2 st =>
 hFix (fun ls st X =>
  qb (q_fa 0 v1) fun v3 =>
  qb (q_load st false 1 v3) fun v4 =>
  qb (q_bin .eql v4 (.int .i64 10)) fun v5 =>
  cb v5 fun b => br b
   (qb (q_fa 3 v1) fun v6 =>
   qb (q_load st false 1 v6) fun v7 =>
   qb (q_ia 4 v7 (.int .i64 1)) fun v8 =>
   qb (q_load st true 4 v8) fun v9 =>
   e_store st 4 v1 v9 fun st =>
   X [] st)
   (qb (q_load st true 4 v1) fun v10 =>
   e_store st 4 v2 v10 fun st =>
   qb (q_load st true 4 v2) fun r => retR R r st))
  [] st
theorem e_spec_l03Target : Enters prog n_spec_l03Target := ⟨Go.Proofs.Tryz.f144, by kernel_rfl, by kernel_rfl, by kernel_rfl⟩
theorem c_spec_l03Target {a0 : PV} {st : St} {R : Res → St → Prop} (h : b_spec_l03Target a0 st R) : HCalls prog n_spec_l03Target [a0] st R :=
 hcalls_of_func tyOK mixed (fn := Go.Proofs.Tryz.f144) (by kernel_rfl) (by kernel_rfl) (by kernel_rfl) (ann := [(4, [])])
  (show hFunc prog TT [(4, [])] Go.Proofs.Tryz.f144 [a0] st R from (show hFunc prog TT [(4, [])] Go.Proofs.Tryz.f144 [a0] st R = b_spec_l03Target a0 st R by kernel_rfl) ▸ h)
def b_impl_SigOK (a0 : PV) (st : St) (R : Res → St → Prop) : Prop :=
 qb (q_len a0) fun v6 =>
 qb (q_bin .gtr v6 (.int .i64 40)) fun v7 =>
 cb v7 fun b => br b
  (retR R (.bool false) st)
  (qb (q_len a0) fun v9 =>
  hFix (fun ls st X =>
   qb (q_bin .lss (ls.getD 0 .junk) v9) fun v11 =>
   cb v11 fun b_1 => br b_1
    (qb (q_ia 6 a0 (ls.getD 0 .junk)) fun v13 =>
    qb (q_load st true 6 v13) fun v14 =>
    e_alloc st [.str [], .bool false, .int .i64 0, .int .i64 0, .str [], .sl 0 true []] fun v4 st =>
    e_store st 6 v4 v14 fun st =>
    qb (q_load st true 6 v4) fun v15 =>
    callK prog n_impl_declForm [v15] st (fun v16 st =>
    qb (q_un .not v16) fun v17 =>
    cb v17 fun b_2 => br b_2
     (retR R (.bool false) st)
     (qb (q_sliceE 6 a0 none (some (ls.getD 0 .junk)) none) fun v21 =>
     qb (q_fa 0 v4) fun v22 =>
     qb (q_load st false 1 v22) fun v23 =>
     callK prog n_impl_has [v21, v23] st (fun v24 st =>
     cb v24 fun b_3 => br b_3
      (retR R (.bool false) st)
      (qb (q_sliceE 6 a0 none (some (ls.getD 0 .junk)) none) fun v29 =>
      qb (q_load st true 6 v4) fun v30 =>
      callK prog n_impl_declFault [v29, v30] st (fun v31 st =>
      qb (q_field false 1 0 v31) fun v32 =>
      qb (q_bin .neq v32 (.int .i64 0)) fun v33 =>
      cb v33 fun b_4 => br b_4
       (retR R (.bool false) st)
       (qb (q_bin .add (ls.getD 0 .junk) (.int .i64 1)) fun v35 =>
       X [v35] st)) (panR R))) (panR R))) (panR R))
    (retR R (.bool true) st))
   [(.int .i64 0)] st)
theorem e_impl_SigOK : Enters prog n_impl_SigOK := ⟨Go.Proofs.Tryz.f145, by kernel_rfl, by kernel_rfl, by kernel_rfl⟩
theorem c_impl_SigOK {a0 : PV} {st : St} {R : Res → St → Prop} (h : b_impl_SigOK a0 st R) : HCalls prog n_impl_SigOK [a0] st R :=
 hcalls_of_func tyOK mixed (fn := Go.Proofs.Tryz.f145) (by kernel_rfl) (by kernel_rfl) (by kernel_rfl) (ann := [(16, [10])])
  (show hFunc prog TT [(16, [10])] Go.Proofs.Tryz.f145 [a0] st R from (show hFunc prog TT [(16, [10])] Go.Proofs.Tryz.f145 [a0] st R = b_impl_SigOK a0 st R by kernel_rfl) ▸ h)
def b_impl_familyFault_1 (a0 a1 a2 : PV) (st : St) (R : Res → St → Prop) : Prop :=
 qb (q_load st false 1 a0) fun v3 =>
 qb (q_struct [.int .i64 0, .sl 0 true []] [(1, 1, v3)]) fun v4 =>
 e_box st v4 fun v5 st =>
 qb (q_load st false 1 a1) fun v6 =>
 qb (q_load st true 4 a2) fun v7 =>
 callK prog n_impl_checker_family [v5, v6, v7, (.int .i64 0)] st (fun v8 st =>
 retR R (.tup []) st) (panR R)
theorem e_impl_familyFault_1 : Enters prog n_impl_familyFault_1 := ⟨Go.Proofs.Tryz.f146, by kernel_rfl, by kernel_rfl, by kernel_rfl⟩
theorem c_impl_familyFault_1 {a0 a1 a2 : PV} {st : St} {R : Res → St → Prop} (h : b_impl_familyFault_1 a0 a1 a2 st R) : HCalls prog n_impl_familyFault_1 [a0, a1, a2] st R :=
 hcalls_of_func tyOK mixed (fn := Go.Proofs.Tryz.f146) (by kernel_rfl) (by kernel_rfl) (by kernel_rfl) (ann := [])
  (show hFunc prog TT [] Go.Proofs.Tryz.f146 [a0, a1, a2] st R from (show hFunc prog TT [] Go.Proofs.Tryz.f146 [a0, a1, a2] st R = b_impl_familyFault_1 a0 a1 a2 st R by kernel_rfl) ▸ h)
def b_impl_checker_family (a0 a1 a2 a3 : PV) (st : St) (R : Res → St → Prop) : Prop :=
 e_box st a2 fun v6 st =>
 qb (q_fa 0 v6) fun v11 =>
 qb (q_load st false 1 v11) fun v12 =>
 qb (q_bin .eql v12 (.int .i64 2)) fun v14 =>
 cb v14 fun b => br b
  (qb (q_fa 3 v6) fun v17 =>
  qb (q_load st false 1 v17) fun v18 =>
  qb (q_ia 4 v18 (.int .i64 0)) fun v19 =>
  qb (q_load st true 4 v19) fun v20 =>
  qb (q_bin .add a3 (.int .i64 1)) fun v22 =>
  callK prog n_impl_checker_family [a0, a1, v20, v22] st (fun v23 st =>
  qb (q_fa 3 v6) fun v26 =>
  qb (q_load st false 1 v26) fun v27 =>
  qb (q_ia 4 v27 (.int .i64 0)) fun v28 =>
  qb (q_load st true 4 v28) fun v29 =>
  qb (q_fa 3 v6) fun v31 =>
  qb (q_load st false 1 v31) fun v32 =>
  qb (q_ia 4 v32 (.int .i64 1)) fun v33 =>
  qb (q_load st true 4 v33) fun v34 =>
  qb (q_bin .add a3 (.int .i64 1)) fun v36 =>
  qb (q_fa 3 v6) fun v37 =>
  qb (q_load st false 1 v37) fun v38 =>
  qb (q_ia 4 v38 (.int .i64 0)) fun v39 =>
  qb (q_load st true 4 v39) fun v40 =>
  callK prog n_impl_behind [a1, v29] st (fun v30 st =>
  q_load st true 4 v39 = some v40 ∧ q_load st false 1 v37 = some v38 ∧ q_load st true 4 v33 = some v34 ∧ q_load st false 1 v31 = some v32 ∧ (callK prog n_impl_Size [v40] st (fun v41 st =>
  q_load st true 4 v33 = some v34 ∧ q_load st false 1 v31 = some v32 ∧ (qb (q_bin .add v36 v41) fun v42 =>
  callK prog n_impl_checker_family [a0, v30, v34, v42] st (fun v43 st =>
  retR R (.tup []) st) (panR R))) (panR R))) (panR R)) (panR R))
  (qb (q_bin .eql v12 (.int .i64 3)) fun v45 =>
  cb v45 fun b_1 => br b_1
   (qb (q_fa 2 v6) fun v48 =>
   qb (q_load st false 1 v48) fun v49 =>
   callK prog n_impl_checker_declared [a0, v49, (.bool true)] st (fun v50 st =>
   qb (q_ex v50 0) fun v51 =>
   qb (q_ex v50 1) fun v52 =>
   e_alloc st [.int .i64 0, .int .i64 0, .str [], .sl 0 true []] fun v8 st =>
   e_store st 4 v8 v51 fun st =>
   qb (q_un .not v52) fun v54 =>
   hJ (fun ls st =>
    qb (q_fa 3 v6) fun v59 =>
    qb (q_load st false 1 v59) fun v60 =>
    qb (q_load st true 4 v8) fun v61 =>
    qb (q_bin .add a3 (.int .i64 1)) fun v63 =>
    callK prog n_impl_checker_args [a0, a1, v60, v61, v63] st (fun v64 st =>
    e_alloc st [.int .i64 0, .int .i64 0, .str [], .sl 0 true []] fun v10 st =>
    e_store st 4 v10 v64 fun st =>
    qb (q_fa 0 v10) fun v65 =>
    qb (q_load st false 1 v65) fun v66 =>
    qb (q_bin .neq v66 (.int .i64 1)) fun v67 =>
    cb v67 fun b_3 => br b_3
     (callK prog n_impl_stop [(.int .i64 8), a3] st (fun v69 st =>
     retR R (.tup []) st) (panR R))
     (retR R (.tup []) st)) (panR R))
    (fun k =>
   cb v54 fun b_2 => br b_2
    (callK prog n_impl_stop [(.int .i64 5), a3] st (fun v56 st =>
    k [] st) (panR R))
    (k [] st))) (panR R))
   (retR R (.tup []) st))
theorem e_impl_checker_family : Enters prog n_impl_checker_family := ⟨Go.Proofs.Tryz.f147, by kernel_rfl, by kernel_rfl, by kernel_rfl⟩
theorem c_impl_checker_family {a0 a1 a2 a3 : PV} {st : St} {R : Res → St → Prop} (h : b_impl_checker_family a0 a1 a2 a3 st R) : HCalls prog n_impl_checker_family [a0, a1, a2, a3] st R :=
 hcalls_of_func tyOK mixed (fn := Go.Proofs.Tryz.f147) (by kernel_rfl) (by kernel_rfl) (by kernel_rfl) (ann := [(34, [])])
  (show hFunc prog TT [(34, [])] Go.Proofs.Tryz.f147 [a0, a1, a2, a3] st R from (show hFunc prog TT [(34, [])] Go.Proofs.Tryz.f147 [a0, a1, a2, a3] st R = b_impl_checker_family a0 a1 a2 a3 st R by kernel_rfl) ▸ h)
def b_impl_checker_args (a0 a1 a2 a3 a4 : PV) (st : St) (R : Res → St → Prop) : Prop :=
 e_box st a3 fun v8 st =>
 e_alloc st [.int .i64 0, .int .i64 0, .str [], .sl 0 true []] fun v10 st =>
 qb (q_len a2) fun v14 =>
 hFix (fun ls st X =>
  qb (q_bin .lss (ls.getD 1 .junk) v14) fun v16 =>
  cb v16 fun b => br b
   (qb (q_ia 4 a2 (ls.getD 1 .junk)) fun v17 =>
   qb (q_load st true 4 v17) fun v18 =>
   e_alloc st [.int .i64 0, .int .i64 0, .str [], .sl 0 true []] fun v12 st =>
   e_store st 4 v12 v18 fun st =>
   qb (q_fa 0 v8) fun v19 =>
   qb (q_load st false 1 v19) fun v20 =>
   qb (q_bin .neq v20 (.int .i64 2)) fun v21 =>
   hJ (fun ls_1 st =>
    qb (q_load st true 4 v12) fun v26 =>
    qb (q_fa 3 v8) fun v27 =>
    qb (q_load st false 1 v27) fun v28 =>
    qb (q_ia 4 v28 (.int .i64 0)) fun v29 =>
    qb (q_load st true 4 v29) fun v30 =>
    callK prog n_impl_checker_term [a0, a1, v26, v30, (ls.getD 0 .junk)] st (fun v32 st =>
    qb (q_load st true 4 v12) fun v34 =>
    qb (q_load st true 4 v8) fun v35 =>
    callK prog n_impl_checker_left [a0, v34, v35, (ls.getD 0 .junk)] st (fun v37 st =>
    e_store st 4 v8 v37 fun st =>
    qb (q_load st true 4 v12) fun v39 =>
    callK prog n_impl_Size [v39] st (fun v40 st =>
    qb (q_bin .add (ls.getD 0 .junk) v40) fun v41 =>
    qb (q_bin .add (ls.getD 1 .junk) (.int .i64 1)) fun v42 =>
    X [v41, v42] st) (panR R)) (panR R)) (panR R))
    (fun k =>
   cb v21 fun b_1 => br b_1
    (callK prog n_impl_stop [(.int .i64 8), (ls.getD 0 .junk)] st (fun v23 st =>
    k [] st) (panR R))
    (k [] st)))
   (qb (q_load st true 4 v8) fun v43 =>
   e_store st 4 v10 v43 fun st =>
   qb (q_load st true 4 v10) fun r => retR R r st))
  [a4, (.int .i64 0)] st
theorem e_impl_checker_args : Enters prog n_impl_checker_args := ⟨Go.Proofs.Tryz.f148, by kernel_rfl, by kernel_rfl, by kernel_rfl⟩
theorem c_impl_checker_args {a0 a1 a2 a3 a4 : PV} {st : St} {R : Res → St → Prop} (h : b_impl_checker_args a0 a1 a2 a3 a4 st R) : HCalls prog n_impl_checker_args [a0, a1, a2, a3, a4] st R :=
 hcalls_of_func tyOK mixed (fn := Go.Proofs.Tryz.f148) (by kernel_rfl) (by kernel_rfl) (by kernel_rfl) (ann := [(8, [4, 15]), (22, [])])
  (show hFunc prog TT [(8, [4, 15]), (22, [])] Go.Proofs.Tryz.f148 [a0, a1, a2, a3, a4] st R from (show hFunc prog TT [(8, [4, 15]), (22, [])] Go.Proofs.Tryz.f148 [a0, a1, a2, a3, a4] st R = b_impl_checker_args a0 a1 a2 a3 a4 st R by kernel_rfl) ▸ h)
def b_impl_checker_head (a0 a1 a2 a3 : PV) (st : St) (R : Res → St → Prop) : Prop :=
 e_box st a2 fun v6 st =>
 e_alloc st [.int .i64 0, .int .i64 0, .str [], .sl 0 true []] fun v8 st =>
 qb (q_fa 0 v6) fun v12 =>
 qb (q_load st false 1 v12) fun v13 =>
 qb (q_bin .eql v13 (.int .i64 5)) fun v15 =>
 cb v15 fun b => br b
  (qb (q_fa 1 v6) fun v16 =>
  qb (q_load st false 1 v16) fun v17 =>
  qb (q_len a1) fun v19 =>
  qb (q_bin .geq v17 v19) fun v20 =>
  hJ (fun ls st =>
   hJ (fun ls_1 st =>
    qb (q_load st true 4 (ls_1.getD 0 .junk)) fun v36 =>
    callK prog n_impl_tooBig [v36] st (fun v37 st =>
    cb v37 fun b_2 => br b_2
     (callK prog n_impl_stop [(.int .i64 11), a3] st (fun v39 st =>
     qb (q_load st true 4 (ls_1.getD 0 .junk)) fun v40 =>
     e_store st 4 v8 v40 fun st =>
     qb (q_load st true 4 v8) fun r => retR R r st) (panR R))
     (qb (q_load st true 4 (ls_1.getD 0 .junk)) fun v40_1 =>
     e_store st 4 v8 v40_1 fun st =>
     qb (q_load st true 4 v8) fun r_1 => retR R r_1 st)) (panR R))
    (fun k_1 =>
   qb (q_len a1) fun v25 =>
   qb (q_bin .sub v25 (.int .i64 1)) fun v26 =>
   qb (q_fa 1 v6) fun v27 =>
   qb (q_load st false 1 v27) fun v28 =>
   qb (q_bin .sub v26 v28) fun v29 =>
   qb (q_ia 4 a1 v29) fun v30 =>
   qb (q_load st true 4 v30) fun v31 =>
   qb (q_fa 1 v6) fun v32 =>
   qb (q_load st false 1 v32) fun v33 =>
   qb (q_bin .add v33 (.int .i64 1)) fun v34 =>
   (callK prog n_impl_lift [v31, (.int .i64 0), v34] st (fun v35 st =>
   e_alloc st [.int .i64 0, .int .i64 0, .str [], .sl 0 true []] fun v9 st =>
   q_load st false 1 v32 = some v33 ∧ q_load st true 4 v30 = some v31 ∧ q_load st false 1 v27 = some v28 ∧ (e_store st 4 v9 v35 fun st =>
   k_1 [v9] st)) (panR R)) ∧
   (e_alloc st [.int .i64 0, .int .i64 0, .str [], .sl 0 true []] fun v9_1 st =>
   q_load st false 1 v32 = some v33 ∧ q_load st true 4 v30 = some v31 ∧ q_load st false 1 v27 = some v28 ∧ (callK prog n_impl_lift [v31, (.int .i64 0), v34] st (fun v35_1 st =>
   e_store st 4 v9_1 v35_1 fun st =>
   k_1 [v9_1] st) (panR R)))))
   (fun k =>
  cb v20 fun b_1 => br b_1
   (callK prog n_impl_stop [(.int .i64 7), a3] st (fun v22 st =>
   k [] st) (panR R))
   (k [] st)))
  (qb (q_bin .eql v13 (.int .i64 6)) fun v42 =>
  cb v42 fun b_3 => br b_3
   (qb (q_fa 2 v6) fun v45 =>
   qb (q_load st false 1 v45) fun v46 =>
   callK prog n_impl_checker_declared [a0, v46, (.bool false)] st (fun v47 st =>
   qb (q_ex v47 0) fun v48 =>
   qb (q_ex v47 1) fun v49 =>
   e_alloc st [.int .i64 0, .int .i64 0, .str [], .sl 0 true []] fun v10 st =>
   e_store st 4 v10 v48 fun st =>
   qb (q_un .not v49) fun v51 =>
   cb v51 fun b_4 => br b_4
    (callK prog n_impl_stop [(.int .i64 5), a3] st (fun v53 st =>
    qb (q_load st true 4 v10) fun v54 =>
    e_store st 4 v8 v54 fun st =>
    qb (q_load st true 4 v8) fun r_2 => retR R r_2 st) (panR R))
    (qb (q_load st true 4 v10) fun v54_1 =>
    e_store st 4 v8 v54_1 fun st =>
    qb (q_load st true 4 v8) fun r_3 => retR R r_3 st)) (panR R))
   (callK prog n_impl_stop [(.int .i64 15), a3] st (fun v56 st =>
   qb (q_struct [.int .i64 0, .int .i64 0, .str [], .sl 0 true []] []) fun v57 =>
   e_store st 4 v8 v57 fun st =>
   qb (q_load st true 4 v8) fun r_4 => retR R r_4 st) (panR R)))
theorem e_impl_checker_head : Enters prog n_impl_checker_head := ⟨Go.Proofs.Tryz.f149, by kernel_rfl, by kernel_rfl, by kernel_rfl⟩
theorem c_impl_checker_head {a0 a1 a2 a3 : PV} {st : St} {R : Res → St → Prop} (h : b_impl_checker_head a0 a1 a2 a3 st R) : HCalls prog n_impl_checker_head [a0, a1, a2, a3] st R :=
 hcalls_of_func tyOK mixed (fn := Go.Proofs.Tryz.f149) (by kernel_rfl) (by kernel_rfl) (by kernel_rfl) (ann := [(18, []), (21, [9])])
  (show hFunc prog TT [(18, []), (21, [9])] Go.Proofs.Tryz.f149 [a0, a1, a2, a3] st R from (show hFunc prog TT [(18, []), (21, [9])] Go.Proofs.Tryz.f149 [a0, a1, a2, a3] st R = b_impl_checker_head a0 a1 a2 a3 st R by kernel_rfl) ▸ h)
def b_spec_l00Word (a0 : PV) (st : St) (R : Res → St → Prop) : Prop :=
 qb (q_lenS a0) fun v5 =>
 qb (q_bin .lss v5 (.int .i64 1)) fun v6 =>
 cb v6 fun b => br b
  (retR R (.bool false) st)
  (qb (q_lenS a0) fun v9 =>
  qb (q_bin .gtr v9 (.int .i64 40)) fun v10 =>
  cb v10 fun b_1 => br b_1
   (retR R (.bool false) st)
   (qb (q_ix a0 (.int .i64 0)) fun v14 =>
   callK prog n_spec_l00Letter [v14] st (fun v15 st =>
   qb (q_un .not v15) fun v16 =>
   cb v16 fun b_2 => br b_2
    (retR R (.bool false) st)
    (hFix (fun ls st X =>
     qb (q_lenS a0) fun v20 =>
     qb (q_bin .lss (ls.getD 0 .junk) v20) fun v21 =>
     cb v21 fun b_3 => br b_3
      (qb (q_ix a0 (ls.getD 0 .junk)) fun v26 =>
      callK prog n_spec_l00Letter [v26] st (fun v27 st =>
      qb (q_un .not v27) fun v28 =>
      cb v28 fun b_4 => br b_4
       (qb (q_ix a0 (ls.getD 0 .junk)) fun v32 =>
       callK prog n_spec_l00Digit [v32] st (fun v33 st =>
       qb (q_un .not v33) fun v34 =>
       cb v34 fun b_5 => br b_5
        (retR R (.bool false) st)
        (qb (q_bin .add (ls.getD 0 .junk) (.int .i64 1)) fun v23 =>
        X [v23] st)) (panR R))
       (qb (q_bin .add (ls.getD 0 .junk) (.int .i64 1)) fun v23_1 =>
       X [v23_1] st)) (panR R))
      (retR R (.bool true) st))
     [(.int .i64 1)] st)) (panR R)))
theorem e_spec_l00Word : Enters prog n_spec_l00Word := ⟨Go.Proofs.Tryz.f150, by kernel_rfl, by kernel_rfl, by kernel_rfl⟩
theorem c_spec_l00Word {a0 : PV} {st : St} {R : Res → St → Prop} (h : b_spec_l00Word a0 st R) : HCalls prog n_spec_l00Word [a0] st R :=
 hcalls_of_func tyOK mixed (fn := Go.Proofs.Tryz.f150) (by kernel_rfl) (by kernel_rfl) (by kernel_rfl) (ann := [(16, [3])])
  (show hFunc prog TT [(16, [3])] Go.Proofs.Tryz.f150 [a0] st R from (show hFunc prog TT [(16, [3])] Go.Proofs.Tryz.f150 [a0] st R = b_spec_l00Word a0 st R by kernel_rfl) ▸ h)
def b_spec_l00Digit (a0 : PV) (st : St) (R : Res → St → Prop) : Prop :=
 qb (q_bin .geq a0 (.int .u8 48)) fun v4 =>
 cb v4 fun b => br b
  (qb (q_bin .leq a0 (.int .u8 57)) fun v7 =>
  retR R v7 st)
  (retR R (.bool false) st)
theorem e_spec_l00Digit : Enters prog n_spec_l00Digit := ⟨Go.Proofs.Tryz.f151, by kernel_rfl, by kernel_rfl, by kernel_rfl⟩
theorem c_spec_l00Digit {a0 : PV} {st : St} {R : Res → St → Prop} (h : b_spec_l00Digit a0 st R) : HCalls prog n_spec_l00Digit [a0] st R :=
 hcalls_of_func tyOK mixed (fn := Go.Proofs.Tryz.f151) (by kernel_rfl) (by kernel_rfl) (by kernel_rfl) (ann := [])
  (show hFunc prog TT [] Go.Proofs.Tryz.f151 [a0] st R from (show hFunc prog TT [] Go.Proofs.Tryz.f151 [a0] st R = b_spec_l00Digit a0 st R by kernel_rfl) ▸ h)
def b_impl_isHead (a0 : PV) (st : St) (R : Res → St → Prop) : Prop :=
 callK prog n_strings_IndexByte [(.str [97, 98, 99, 100, 101, 102, 103, 104, 105, 106, 107, 108, 109, 110, 111, 112, 113, 114, 115, 116, 117, 118, 119, 120, 121, 122, 65, 66, 67, 68, 69, 70, 71, 72, 73, 74, 75, 76, 77, 78, 79, 80, 81, 82, 83, 84, 85, 86, 87, 88, 89, 90, 95]), a0] st (fun v4 st =>
 qb (q_bin .geq v4 (.int .i64 0)) fun v5 =>
 retR R v5 st) (panR R)
theorem e_impl_isHead : Enters prog n_impl_isHead := ⟨Go.Proofs.Tryz.f152, by kernel_rfl, by kernel_rfl, by kernel_rfl⟩
theorem c_impl_isHead {a0 : PV} {st : St} {R : Res → St → Prop} (h : b_impl_isHead a0 st R) : HCalls prog n_impl_isHead [a0] st R :=
 hcalls_of_func tyOK mixed (fn := Go.Proofs.Tryz.f152) (by kernel_rfl) (by kernel_rfl) (by kernel_rfl) (ann := [])
  (show hFunc prog TT [] Go.Proofs.Tryz.f152 [a0] st R from (show hFunc prog TT [] Go.Proofs.Tryz.f152 [a0] st R = b_impl_isHead a0 st R by kernel_rfl) ▸ h)
def b_internal_stringslite_CutPrefix (a0 a1 : PV) (st : St) (R : Res → St → Prop) : Prop :=
 callK prog n_internal_stringslite_HasPrefix [a0, a1] st (fun v8 st =>
 qb (q_un .not v8) fun v9 =>
 cb v9 fun b => br b
  (retR R (.tup [a0, (.bool false)]) st)
  (qb (q_lenS a1) fun v13 =>
  qb (q_sliceS a0 (some v13) none none) fun v14 =>
  retR R (.tup [v14, (.bool true)]) st)) (panR R)
theorem e_internal_stringslite_CutPrefix : Enters prog n_internal_stringslite_CutPrefix := ⟨Go.Proofs.Tryz.f153, by kernel_rfl, by kernel_rfl, by kernel_rfl⟩
theorem c_internal_stringslite_CutPrefix {a0 a1 : PV} {st : St} {R : Res → St → Prop} (h : b_internal_stringslite_CutPrefix a0 a1 st R) : HCalls prog n_internal_stringslite_CutPrefix [a0, a1] st R :=
 hcalls_of_func tyOK mixed (fn := Go.Proofs.Tryz.f153) (by kernel_rfl) (by kernel_rfl) (by kernel_rfl) (ann := [])
  (show hFunc prog TT [] Go.Proofs.Tryz.f153 [a0, a1] st R from (show hFunc prog TT [] Go.Proofs.Tryz.f153 [a0, a1] st R = b_internal_stringslite_CutPrefix a0 a1 st R by kernel_rfl) ▸ h)
def b_strings_Trim (a0 a1 : PV) (st : St) (R : Res → St → Prop) : Prop :=
 qb (q_bin .eql a0 (.str [])) fun v8 =>
 cb v8 fun b => br b
  (retR R a0 st)
  (qb (q_bin .eql a1 (.str [])) fun v11 =>
  cb v11 fun b_1 => br b_1
   (retR R a0 st)
   (hJ (fun ls st =>
    cb (ls.getD 0 .junk) fun b_2 => br b_2
     (qb (q_ix a1 (.int .i64 0)) fun v24 =>
     qb (q_ix a1 (.int .i64 0)) fun v27 =>
     callK prog n_strings_trimRightByte [a0, v24] st (fun v25 st =>
     callK prog n_strings_trimLeftByte [v25, v27] st (fun v28 st =>
     retR R v28 st) (panR R)) (panR R))
     (callK prog n_strings_makeASCIISet [a1] st (fun v31 st =>
     qb (q_ex v31 0) fun v32 =>
     qb (q_ex v31 1) fun v33 =>
     e_alloc st [.bool false, .bool false, .bool false, .bool false, .bool false, .bool false, .bool false, .bool false, .bool false, .bool false, .bool false, .bool false, .bool false, .bool false, .bool false, .bool false, .bool false, .bool false, .bool false, .bool false, .bool false, .bool false, .bool false, .bool false, .bool false, .bool false, .bool false, .bool false, .bool false, .bool false, .bool false, .bool false, .bool false, .bool false, .bool false, .bool false, .bool false, .bool false, .bool false, .bool false, .bool false, .bool false, .bool false, .bool false, .bool false, .bool false, .bool false, .bool false, .bool false, .bool false, .bool false, .bool false, .bool false, .bool false, .bool false, .bool false, .bool false, .bool false, .bool false, .bool false, .bool false, .bool false, .bool false, .bool false, .bool false, .bool false, .bool false, .bool false, .bool false, .bool false, .bool false, .bool false, .bool false, .bool false, .bool false, .bool false, .bool false, .bool false, .bool false, .bool false, .bool false, .bool false, .bool false, .bool false, .bool false, .bool false, .bool false, .bool false, .bool false, .bool false, .bool false, .bool false, .bool false, .bool false, .bool false, .bool false, .bool false, .bool false, .bool false, .bool false, .bool false, .bool false, .bool false, .bool false, .bool false, .bool false, .bool false, .bool false, .bool false, .bool false, .bool false, .bool false, .bool false, .bool false, .bool false, .bool false, .bool false, .bool false, .bool false, .bool false, .bool false, .bool false, .bool false, .bool false, .bool false, .bool false, .bool false, .bool false, .bool false, .bool false, .bool false, .bool false, .bool false, .bool false, .bool false, .bool false, .bool false, .bool false, .bool false, .bool false, .bool false, .bool false, .bool false, .bool false, .bool false, .bool false, .bool false, .bool false, .bool false, .bool false, .bool false, .bool false, .bool false, .bool false, .bool false, .bool false, .bool false, .bool false, .bool false, .bool false, .bool false, .bool false, .bool false, .bool false, .bool false, .bool false, .bool false, .bool false, .bool false, .bool false, .bool false, .bool false, .bool false, .bool false, .bool false, .bool false, .bool false, .bool false, .bool false, .bool false, .bool false, .bool false, .bool false, .bool false, .bool false, .bool false, .bool false, .bool false, .bool false, .bool false, .bool false, .bool false, .bool false, .bool false, .bool false, .bool false, .bool false, .bool false, .bool false, .bool false, .bool false, .bool false, .bool false, .bool false, .bool false, .bool false, .bool false, .bool false, .bool false, .bool false, .bool false, .bool false, .bool false, .bool false, .bool false, .bool false, .bool false, .bool false, .bool false, .bool false, .bool false, .bool false, .bool false, .bool false, .bool false, .bool false, .bool false, .bool false, .bool false, .bool false, .bool false, .bool false, .bool false, .bool false, .bool false, .bool false, .bool false, .bool false, .bool false, .bool false, .bool false, .bool false, .bool false, .bool false, .bool false, .bool false, .bool false, .bool false, .bool false, .bool false, .bool false, .bool false, .bool false, .bool false, .bool false, .bool false] fun v5 st =>
     e_store st 256 v5 v32 fun st =>
     cb v33 fun b_3 => br b_3
      (callK prog n_strings_trimRightASCII [a0, v5] st (fun v36 st =>
      callK prog n_strings_trimLeftASCII [v36, v5] st (fun v37 st =>
      retR R v37 st) (panR R)) (panR R))
      (callK prog n_strings_trimRightUnicode [a0, a1] st (fun v40 st =>
      callK prog n_strings_trimLeftUnicode [v40, a1] st (fun v42 st =>
      retR R v42 st) (panR R)) (panR R))) (panR R)))
    (fun k =>
   qb (q_lenS a1) fun v15 =>
   qb (q_bin .eql v15 (.int .i64 1)) fun v16 =>
   cb v16 fun b_4 => br b_4
    (qb (q_ix a1 (.int .i64 0)) fun v19 =>
    qb (q_bin .lss v19 (.int .u8 128)) fun v20 =>
    k [v20] st)
    (k [(.bool false)] st))))
theorem e_strings_Trim : Enters prog n_strings_Trim := ⟨Go.Proofs.Tryz.f154, by kernel_rfl, by kernel_rfl, by kernel_rfl⟩
theorem c_strings_Trim {a0 a1 : PV} {st : St} {R : Res → St → Prop} (h : b_strings_Trim a0 a1 st R) : HCalls prog n_strings_Trim [a0, a1] st R :=
 hcalls_of_func tyOK mixed (fn := Go.Proofs.Tryz.f154) (by kernel_rfl) (by kernel_rfl) (by kernel_rfl) (ann := [(13, [21])])
  (show hFunc prog TT [(13, [21])] Go.Proofs.Tryz.f154 [a0, a1] st R from (show hFunc prog TT [(13, [21])] Go.Proofs.Tryz.f154 [a0, a1] st R = b_strings_Trim a0 a1 st R by kernel_rfl) ▸ h)
def b_impl_declForm (a0 : PV) (st : St) (R : Res → St → Prop) : Prop :=
 e_box st a0 fun v1 st =>
 qb (q_fa 1 v1) fun v3 =>
 qb (q_load st false 1 v3) fun v4 =>
 cb v4 fun b => br b
  (qb (q_fa 0 v1) fun v5 =>
  qb (q_load st false 1 v5) fun v6 =>
  callK prog n_impl_NameOK [v6] st (fun v7 st =>
  cb v7 fun b_1 => br b_1
   (qb (q_fa 2 v1) fun v9 =>
   qb (q_load st true 4 v9) fun v10 =>
   callK prog n_impl_KindOK [v10] st (fun v11 st =>
   retR R v11 st) (panR R))
   (retR R (.bool false) st)) (panR R))
  (qb (q_fa 0 v1) fun v13 =>
  qb (q_load st false 1 v13) fun v14 =>
  callK prog n_impl_NameOK [v14] st (fun v15 st =>
  cb v15 fun b_2 => br b_2
   (qb (q_fa 2 v1) fun v17 =>
   qb (q_load st true 4 v17) fun v18 =>
   callK prog n_impl_FamilyOK [v18] st (fun v19 st =>
   retR R v19 st) (panR R))
   (retR R (.bool false) st)) (panR R))
theorem e_impl_declForm : Enters prog n_impl_declForm := ⟨Go.Proofs.Tryz.f155, by kernel_rfl, by kernel_rfl, by kernel_rfl⟩
theorem c_impl_declForm {a0 : PV} {st : St} {R : Res → St → Prop} (h : b_impl_declForm a0 st R) : HCalls prog n_impl_declForm [a0] st R :=
 hcalls_of_func tyOK mixed (fn := Go.Proofs.Tryz.f155) (by kernel_rfl) (by kernel_rfl) (by kernel_rfl) (ann := [])
  (show hFunc prog TT [] Go.Proofs.Tryz.f155 [a0] st R from (show hFunc prog TT [] Go.Proofs.Tryz.f155 [a0] st R = b_impl_declForm a0 st R by kernel_rfl) ▸ h)
def b_impl_has (a0 a1 : PV) (st : St) (R : Res → St → Prop) : Prop :=
 e_box st a1 fun v3 st =>
 callK prog n_slices_ContainsFunc_impl_Decl_impl_Decl [a0, (.fn (.func n_impl_has_1) [] [v3])] st (fun v7 st =>
 retR R v7 st) (panR R)
theorem e_impl_has : Enters prog n_impl_has := ⟨Go.Proofs.Tryz.f156, by kernel_rfl, by kernel_rfl, by kernel_rfl⟩
theorem c_impl_has {a0 a1 : PV} {st : St} {R : Res → St → Prop} (h : b_impl_has a0 a1 st R) : HCalls prog n_impl_has [a0, a1] st R :=
 hcalls_of_func tyOK mixed (fn := Go.Proofs.Tryz.f156) (by kernel_rfl) (by kernel_rfl) (by kernel_rfl) (ann := [])
  (show hFunc prog TT [] Go.Proofs.Tryz.f156 [a0, a1] st R from (show hFunc prog TT [] Go.Proofs.Tryz.f156 [a0, a1] st R = b_impl_has a0 a1 st R by kernel_rfl) ▸ h)
def b_impl_declFault (a0 a1 : PV) (st : St) (R : Res → St → Prop) : Prop :=
 e_box st a0 fun v2 st =>
 e_box st a1 fun v3 st =>
 e_alloc st [.int .i64 0, .int .i64 0] fun v4 st =>
 callK prog n_impl_caught [(.fn (.func n_impl_declFault_1) [] [v2, v3])] st (fun v6 st =>
 e_store st 2 v4 v6 fun st =>
 qb (q_load st true 2 v4) fun r => retR R r st) (panR R)
theorem e_impl_declFault : Enters prog n_impl_declFault := ⟨Go.Proofs.Tryz.f157, by kernel_rfl, by kernel_rfl, by kernel_rfl⟩
theorem c_impl_declFault {a0 a1 : PV} {st : St} {R : Res → St → Prop} (h : b_impl_declFault a0 a1 st R) : HCalls prog n_impl_declFault [a0, a1] st R :=
 hcalls_of_func tyOK mixed (fn := Go.Proofs.Tryz.f157) (by kernel_rfl) (by kernel_rfl) (by kernel_rfl) (ann := [])
  (show hFunc prog TT [] Go.Proofs.Tryz.f157 [a0, a1] st R from (show hFunc prog TT [] Go.Proofs.Tryz.f157 [a0, a1] st R = b_impl_declFault a0 a1 st R by kernel_rfl) ▸ h)
def b_impl_Size (a0 : PV) (st : St) (R : Res → St → Prop) : Prop :=
 e_box st a0 fun v1 st =>
 qb (q_fa 3 v1) fun v8 =>
 qb (q_load st false 1 v8) fun v9 =>
 qb (q_lit 1 1 0 [] [(0, v9)]) fun v10 =>
 hFix (fun ls st X =>
  qb (q_len (ls.getD 1 .junk)) fun v12 =>
  qb (q_bin .gtr v12 (.int .i64 0)) fun v13 =>
  cb v13 fun b => br b
   (qb (q_len (ls.getD 1 .junk)) fun v16 =>
   qb (q_bin .sub v16 (.int .i64 1)) fun v17 =>
   qb (q_ia 1 (ls.getD 1 .junk) v17) fun v18 =>
   qb (q_load st false 1 v18) fun v19 =>
   qb (q_len (ls.getD 1 .junk)) fun v22 =>
   qb (q_bin .sub v22 (.int .i64 1)) fun v23 =>
   qb (q_sliceE 1 (ls.getD 1 .junk) none (some v23) none) fun v24 =>
   qb (q_len v19) fun v27 =>
   qb (q_bin .add (ls.getD 0 .junk) v27) fun v28 =>
   qb (q_len v19) fun v30 =>
   hFix (fun ls_1 st X_1 =>
    qb (q_bin .lss (ls_1.getD 1 .junk) v30) fun v32 =>
    cb v32 fun b_1 => br b_1
     (qb (q_ia 4 v19 (ls_1.getD 1 .junk)) fun v33 =>
     qb (q_load st true 4 v33) fun v34 =>
     e_alloc st [.int .i64 0, .int .i64 0, .str [], .sl 0 true []] fun v7 st =>
     e_store st 4 v7 v34 fun st =>
     qb (q_fa 3 v7) fun v35 =>
     qb (q_load st false 1 v35) fun v36 =>
     qb (q_len v36) fun v37 =>
     qb (q_bin .gtr v37 (.int .i64 0)) fun v38 =>
     cb v38 fun b_2 => br b_2
      (qb (q_fa 3 v7) fun v40 =>
      qb (q_load st false 1 v40) fun v41 =>
      qb (q_lit 1 1 0 [] [(0, v41)]) fun v42 =>
      e_append st 1 24 (ls_1.getD 0 .junk) v42 (fun v43 st =>
      qb (q_bin .add (ls_1.getD 1 .junk) (.int .i64 1)) fun v44 =>
      X_1 [v43, v44] st))
      (qb (q_bin .add (ls_1.getD 1 .junk) (.int .i64 1)) fun v44_1 =>
      X_1 [(ls_1.getD 0 .junk), v44_1] st))
     (X [v28, (ls_1.getD 0 .junk)] st))
    [v24, (.int .i64 0)] st)
   (retR R (ls.getD 0 .junk) st))
  [(.int .i64 1), v10] st
theorem e_impl_Size : Enters prog n_impl_Size := ⟨Go.Proofs.Tryz.f158, by kernel_rfl, by kernel_rfl, by kernel_rfl⟩
theorem c_impl_Size {a0 : PV} {st : St} {R : Res → St → Prop} (h : b_impl_Size a0 st R) : HCalls prog n_impl_Size [a0] st R :=
 hcalls_of_func tyOK mixed (fn := Go.Proofs.Tryz.f158) (by kernel_rfl) (by kernel_rfl) (by kernel_rfl) (ann := [(28, [4, 31]), (8, [3, 4])])
  (show hFunc prog TT [(28, [4, 31]), (8, [3, 4])] Go.Proofs.Tryz.f158 [a0] st R from (show hFunc prog TT [(28, [4, 31]), (8, [3, 4])] Go.Proofs.Tryz.f158 [a0] st R = b_impl_Size a0 st R by kernel_rfl) ▸ h)
def b_impl_checker_declared (a0 a1 a2 : PV) (st : St) (R : Res → St → Prop) : Prop :=
 e_box st a1 fun v4 st =>
 e_box st a2 fun v5 st =>
 e_alloc st [.int .i64 0, .int .i64 0, .str [], .sl 0 true []] fun v6 st =>
 qb (q_nil a0) fun v10 =>
 qb (q_fa 1 v10) fun v11 =>
 qb (q_load st false 1 v11) fun v12 =>
 callK prog n_slices_IndexFunc_impl_Decl_impl_Decl [v12, (.fn (.func n_impl_checker_declared_1) [] [v4, v5])] st (fun v14 st =>
 qb (q_bin .lss v14 (.int .i64 0)) fun v16 =>
 cb v16 fun b => br b
  (qb (q_struct [.int .i64 0, .int .i64 0, .str [], .sl 0 true []] []) fun v17 =>
  e_store st 4 v6 v17 fun st =>
  qb (q_load st true 4 v6) fun r => retR R (.tup [r, (.bool false)]) st)
  (qb (q_nil a0) fun v19 =>
  qb (q_fa 1 v19) fun v20 =>
  qb (q_load st false 1 v20) fun v21 =>
  qb (q_ia 6 v21 v14) fun v23 =>
  qb (q_fa 2 v23) fun v24 =>
  qb (q_load st true 4 v24) fun v25 =>
  e_store st 4 v6 v25 fun st =>
  qb (q_load st true 4 v6) fun r_1 => retR R (.tup [r_1, (.bool true)]) st)) (panR R)
theorem e_impl_checker_declared : Enters prog n_impl_checker_declared := ⟨Go.Proofs.Tryz.f159, by kernel_rfl, by kernel_rfl, by kernel_rfl⟩
theorem c_impl_checker_declared {a0 a1 a2 : PV} {st : St} {R : Res → St → Prop} (h : b_impl_checker_declared a0 a1 a2 st R) : HCalls prog n_impl_checker_declared [a0, a1, a2] st R :=
 hcalls_of_func tyOK mixed (fn := Go.Proofs.Tryz.f159) (by kernel_rfl) (by kernel_rfl) (by kernel_rfl) (ann := [])
  (show hFunc prog TT [] Go.Proofs.Tryz.f159 [a0, a1, a2] st R from (show hFunc prog TT [] Go.Proofs.Tryz.f159 [a0, a1, a2] st R = b_impl_checker_declared a0 a1 a2 st R by kernel_rfl) ▸ h)
def b_impl_checker_left (a0 a1 a2 a3 : PV) (st : St) (R : Res → St → Prop) : Prop :=
 e_box st a0 fun v4 st =>
 e_box st a1 fun v5 st =>
 e_box st a2 fun v6 st =>
 e_alloc st [.int .i64 0, .int .i64 0, .str [], .sl 0 true []] fun v8 st =>
 qb (q_struct [.int .i64 0, .int .i64 0, .str [], .sl 0 true []] []) fun v10 =>
 e_alloc st [.int .i64 0, .int .i64 0, .str [], .sl 0 true []] fun v9 st =>
 e_store st 4 v9 v10 fun st =>
 callK prog n_impl_at [a3, (.fn (.func n_impl_checker_left_1) [] [v4, v5, v6, v9])] st (fun v13 st =>
 qb (q_load st true 4 v9) fun v14 =>
 e_store st 4 v8 v14 fun st =>
 qb (q_load st true 4 v8) fun r => retR R r st) (panR R)
theorem e_impl_checker_left : Enters prog n_impl_checker_left := ⟨Go.Proofs.Tryz.f160, by kernel_rfl, by kernel_rfl, by kernel_rfl⟩
theorem c_impl_checker_left {a0 a1 a2 a3 : PV} {st : St} {R : Res → St → Prop} (h : b_impl_checker_left a0 a1 a2 a3 st R) : HCalls prog n_impl_checker_left [a0, a1, a2, a3] st R :=
 hcalls_of_func tyOK mixed (fn := Go.Proofs.Tryz.f160) (by kernel_rfl) (by kernel_rfl) (by kernel_rfl) (ann := [])
  (show hFunc prog TT [] Go.Proofs.Tryz.f160 [a0, a1, a2, a3] st R from (show hFunc prog TT [] Go.Proofs.Tryz.f160 [a0, a1, a2, a3] st R = b_impl_checker_left a0 a1 a2 a3 st R by kernel_rfl) ▸ h)
def b_spec_l00Letter (a0 : PV) (st : St) (R : Res → St → Prop) : Prop :=
 qb (q_bin .geq a0 (.int .u8 97)) fun v4 =>
 cb v4 fun b => br b
  (qb (q_bin .leq a0 (.int .u8 122)) fun v7 =>
  cb v7 fun b_1 => br b_1
   (retR R (.bool true) st)
   (qb (q_bin .geq a0 (.int .u8 65)) fun v11 =>
   cb v11 fun b_2 => br b_2
    (qb (q_bin .leq a0 (.int .u8 90)) fun v14 =>
    cb v14 fun b_3 => br b_3
     (retR R (.bool true) st)
     (qb (q_bin .eql a0 (.int .u8 95)) fun v19 =>
     retR R v19 st))
    (qb (q_bin .eql a0 (.int .u8 95)) fun v19_1 =>
    retR R v19_1 st)))
  (qb (q_bin .geq a0 (.int .u8 65)) fun v11_1 =>
  cb v11_1 fun b_4 => br b_4
   (qb (q_bin .leq a0 (.int .u8 90)) fun v14_1 =>
   cb v14_1 fun b_5 => br b_5
    (retR R (.bool true) st)
    (qb (q_bin .eql a0 (.int .u8 95)) fun v19_2 =>
    retR R v19_2 st))
   (qb (q_bin .eql a0 (.int .u8 95)) fun v19_3 =>
   retR R v19_3 st))
theorem e_spec_l00Letter : Enters prog n_spec_l00Letter := ⟨Go.Proofs.Tryz.f161, by kernel_rfl, by kernel_rfl, by kernel_rfl⟩
theorem c_spec_l00Letter {a0 : PV} {st : St} {R : Res → St → Prop} (h : b_spec_l00Letter a0 st R) : HCalls prog n_spec_l00Letter [a0] st R :=
 hcalls_of_func tyOK mixed (fn := Go.Proofs.Tryz.f161) (by kernel_rfl) (by kernel_rfl) (by kernel_rfl) (ann := [])
  (show hFunc prog TT [] Go.Proofs.Tryz.f161 [a0] st R from (show hFunc prog TT [] Go.Proofs.Tryz.f161 [a0] st R = b_spec_l00Letter a0 st R by kernel_rfl) ▸ h)
def b_strings_IndexByte (a0 a1 : PV) (st : St) (R : Res → St → Prop) : Prop :=
 callK prog n_internal_stringslite_IndexByte [a0, a1] st (fun v7 st =>
 retR R v7 st) (panR R)
theorem e_strings_IndexByte : Enters prog n_strings_IndexByte := ⟨Go.Proofs.Tryz.f162, by kernel_rfl, by kernel_rfl, by kernel_rfl⟩
theorem c_strings_IndexByte {a0 a1 : PV} {st : St} {R : Res → St → Prop} (h : b_strings_IndexByte a0 a1 st R) : HCalls prog n_strings_IndexByte [a0, a1] st R :=
 hcalls_of_func tyOK mixed (fn := Go.Proofs.Tryz.f162) (by kernel_rfl) (by kernel_rfl) (by kernel_rfl) (ann := [])
  (show hFunc prog TT [] Go.Proofs.Tryz.f162 [a0, a1] st R from (show hFunc prog TT [] Go.Proofs.Tryz.f162 [a0, a1] st R = b_strings_IndexByte a0 a1 st R by kernel_rfl) ▸ h)
def b_internal_stringslite_HasPrefix (a0 a1 : PV) (st : St) (R : Res → St → Prop) : Prop :=
 qb (q_lenS a0) fun v6 =>
 qb (q_lenS a1) fun v8 =>
 qb (q_bin .geq v6 v8) fun v9 =>
 cb v9 fun b => br b
  (qb (q_lenS a1) fun v13 =>
  qb (q_sliceS a0 none (some v13) none) fun v14 =>
  qb (q_bin .eql v14 a1) fun v16 =>
  retR R v16 st)
  (retR R (.bool false) st)
theorem e_internal_stringslite_HasPrefix : Enters prog n_internal_stringslite_HasPrefix := ⟨Go.Proofs.Tryz.f163, by kernel_rfl, by kernel_rfl, by kernel_rfl⟩
theorem c_internal_stringslite_HasPrefix {a0 a1 : PV} {st : St} {R : Res → St → Prop} (h : b_internal_stringslite_HasPrefix a0 a1 st R) : HCalls prog n_internal_stringslite_HasPrefix [a0, a1] st R :=
 hcalls_of_func tyOK mixed (fn := Go.Proofs.Tryz.f163) (by kernel_rfl) (by kernel_rfl) (by kernel_rfl) (ann := [])
  (show hFunc prog TT [] Go.Proofs.Tryz.f163 [a0, a1] st R from (show hFunc prog TT [] Go.Proofs.Tryz.f163 [a0, a1] st R = b_internal_stringslite_HasPrefix a0 a1 st R by kernel_rfl) ▸ h)
end Go.H.Tryz
