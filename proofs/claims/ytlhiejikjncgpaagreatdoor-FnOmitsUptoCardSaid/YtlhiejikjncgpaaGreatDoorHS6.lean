/- Part of a proof that the program answers as the reference does: EFS6. -/
import Derived.Test.YtlhiejikjncgpaaGreatDoorHT
/- MADE BY PROGRAM (hgen.py): what the functions compute, over pure values. -/
set_option linter.unusedVariables false
set_option maxRecDepth 100000
namespace Go.H.Tryz
open Go Go.H
def b_spec_l01Size (a0 : PV) (st : St) (R : Res → St → Prop) : Prop :=
 e_box st a0 fun v1 st =>
 hFix (fun ls st X =>
  qb (q_fa 3 v1) fun v6 =>
  qb (q_load st false 1 v6) fun v7 =>
  qb (q_len v7) fun v8 =>
  qb (q_bin .lss (ls.getD 1 .junk) v8) fun v9 =>
  cb v9 fun b => br b
   (qb (q_fa 3 v1) fun v13 =>
   qb (q_load st false 1 v13) fun v14 =>
   qb (q_ia 4 v14 (ls.getD 1 .junk)) fun v16 =>
   qb (q_load st true 4 v16) fun v17 =>
   callK prog n_spec_l01Size [v17] st (fun v18 st =>
   qb (q_bin .add (ls.getD 0 .junk) v18) fun v19 =>
   qb (q_bin .add (ls.getD 1 .junk) (.int .i64 1)) fun v11 =>
   X [v19, v11] st) (panR R))
   (retR R (ls.getD 0 .junk) st))
  [(.int .i64 1), (.int .i64 0)] st
theorem c_spec_l01Size {a0 : PV} {st : St} {R : Res → St → Prop} (h : b_spec_l01Size a0 st R) : HCalls prog n_spec_l01Size [a0] st R :=
 hcalls_of_func tyOK mixed (fn := Go.Proofs.Tryz.f122) (by kernel_rfl) (by kernel_rfl) (by kernel_rfl) (ann := [(12, [3, 4])])
  (show hFunc prog TT [(12, [3, 4])] Go.Proofs.Tryz.f122 [a0] st R from (show hFunc prog TT [(12, [3, 4])] Go.Proofs.Tryz.f122 [a0] st R = b_spec_l01Size a0 st R by kernel_rfl) ▸ h)
def b_spec_l04Find (a0 a1 : PV) (st : St) (R : Res → St → Prop) : Prop :=
 hFix (fun ls st X =>
  qb (q_len a0) fun v8 =>
  qb (q_bin .lss (ls.getD 0 .junk) v8) fun v9 =>
  cb v9 fun b => br b
   (qb (q_ia 6 a0 (ls.getD 0 .junk)) fun v14 =>
   qb (q_fa 0 v14) fun v15 =>
   qb (q_load st false 1 v15) fun v16 =>
   qb (q_bin .eql v16 a1) fun v18 =>
   cb v18 fun b_1 => br b_1
    (retR R (ls.getD 0 .junk) st)
    (qb (q_bin .add (ls.getD 0 .junk) (.int .i64 1)) fun v11 =>
    X [v11] st))
   (retR R (.int .i64 (-1)) st))
  [(.int .i64 0)] st
theorem c_spec_l04Find {a0 a1 : PV} {st : St} {R : Res → St → Prop} (h : b_spec_l04Find a0 a1 st R) : HCalls prog n_spec_l04Find [a0, a1] st R :=
 hcalls_of_func tyOK mixed (fn := Go.Proofs.Tryz.f123) (by kernel_rfl) (by kernel_rfl) (by kernel_rfl) (ann := [(8, [5])])
  (show hFunc prog TT [(8, [5])] Go.Proofs.Tryz.f123 [a0, a1] st R from (show hFunc prog TT [(8, [5])] Go.Proofs.Tryz.f123 [a0, a1] st R = b_spec_l04Find a0 a1 st R by kernel_rfl) ▸ h)
def b_spec_l04Run_fail (a0 a1 a2 : PV) (st : St) (R : Res → St → Prop) : Prop :=
 qb (q_nil a0) fun v8 =>
 qb (q_fa 2 v8) fun v9 =>
 qb (q_load st false 1 v9) fun v10 =>
 qb (q_bin .eql v10 (.int .i64 0)) fun v11 =>
 cb v11 fun b => br b
  (qb (q_nil a0) fun v14 =>
  qb (q_fa 2 v14) fun v15 =>
  e_store st 1 v15 a1 fun st =>
  qb (q_nil a0) fun v18 =>
  qb (q_fa 3 v18) fun v19 =>
  e_store st 1 v19 a2 fun st =>
  retR R (.bool false) st)
  (retR R (.bool false) st)
theorem c_spec_l04Run_fail {a0 a1 a2 : PV} {st : St} {R : Res → St → Prop} (h : b_spec_l04Run_fail a0 a1 a2 st R) : HCalls prog n_spec_l04Run_fail [a0, a1, a2] st R :=
 hcalls_of_func tyOK mixed (fn := Go.Proofs.Tryz.f124) (by kernel_rfl) (by kernel_rfl) (by kernel_rfl) (ann := [])
  (show hFunc prog TT [] Go.Proofs.Tryz.f124 [a0, a1, a2] st R from (show hFunc prog TT [] Go.Proofs.Tryz.f124 [a0, a1, a2] st R = b_spec_l04Run_fail a0 a1 a2 st R by kernel_rfl) ▸ h)
def b_spec_l04Run_spine (a0 a1 a2 a3 a4 : PV) (st : St) (R : Res → St → Prop) : Prop :=
 e_box st a2 fun v7 st =>
 e_alloc st [.int .i64 0, .int .i64 0, .str [], .sl 0 true []] fun v10 st =>
 qb (q_bin .add a4 (.int .i64 1)) fun v16 =>
 hFix (fun ls st X =>
  qb (q_len a3) fun v19 =>
  qb (q_bin .lss (ls.getD 1 .junk) v19) fun v20 =>
  cb v20 fun b => br b
   (qb (q_fa 0 v7) fun v23 =>
   qb (q_load st false 1 v23) fun v24 =>
   qb (q_bin .neq v24 (.int .i64 2)) fun v25 =>
   cb v25 fun b_1 => br b_1
    (qb (q_struct [.int .i64 0, .int .i64 0, .str [], .sl 0 true []] []) fun v26 =>
    callK prog n_spec_l04Run_fail [a0, (.int .i64 8), (ls.getD 0 .junk)] st (fun v29 st =>
    e_store st 4 v10 v26 fun st =>
    qb (q_load st true 4 v10) fun r => retR R (.tup [r, v29]) st) (panR R))
    (qb (q_ia 4 a3 (ls.getD 1 .junk)) fun v34 =>
    qb (q_load st true 4 v34) fun v35 =>
    qb (q_fa 3 v7) fun v36 =>
    qb (q_load st false 1 v36) fun v37 =>
    qb (q_ia 4 v37 (.int .i64 0)) fun v38 =>
    qb (q_load st true 4 v38) fun v39 =>
    callK prog n_spec_l04Run_term [a0, a1, v35, v39, (ls.getD 0 .junk)] st (fun v41 st =>
    qb (q_un .not v41) fun v42 =>
    cb v42 fun b_2 => br b_2
     (qb (q_struct [.int .i64 0, .int .i64 0, .str [], .sl 0 true []] []) fun v43 =>
     e_store st 4 v10 v43 fun st =>
     qb (q_load st true 4 v10) fun r_1 => retR R (.tup [r_1, (.bool false)]) st)
     (hJ (fun ls_1 st =>
      qb (q_bin .neq (ls_1.getD 1 .junk) (.int .i64 0)) fun v66 =>
      cb v66 fun b_3 => br b_3
       (qb (q_struct [.int .i64 0, .int .i64 0, .str [], .sl 0 true []] []) fun v67 =>
       callK prog n_spec_l04Run_fail [a0, (ls_1.getD 1 .junk), (ls.getD 0 .junk)] st (fun v71 st =>
       e_store st 4 v10 v67 fun st =>
       qb (q_load st true 4 v10) fun r_2 => retR R (.tup [r_2, v71]) st) (panR R))
       (qb (q_load st true 4 (ls_1.getD 0 .junk)) fun v72 =>
       e_store st 4 v7 v72 fun st =>
       qb (q_ia 4 a3 (ls.getD 1 .junk)) fun v76 =>
       qb (q_load st true 4 v76) fun v77 =>
       callK prog n_spec_l01Size [v77] st (fun v78 st =>
       qb (q_bin .add (ls.getD 0 .junk) v78) fun v79 =>
       qb (q_bin .add (ls.getD 1 .junk) (.int .i64 1)) fun v22 =>
       X [v79, v22] st) (panR R)))
      (fun k =>
     qb (q_nil a0) fun v46 =>
     qb (q_fa 1 v46) fun v47 =>
     qb (q_load st false 1 v47) fun v48 =>
     qb (q_ia 4 a3 (ls.getD 1 .junk)) fun v51 =>
     qb (q_load st true 4 v51) fun v52 =>
     qb (q_fa 3 v7) fun v53 =>
     qb (q_load st false 1 v53) fun v54 =>
     qb (q_ia 4 v54 (.int .i64 0)) fun v55 =>
     qb (q_load st true 4 v55) fun v56 =>
     qb (q_fa 3 v7) fun v58 =>
     qb (q_load st false 1 v58) fun v59 =>
     qb (q_ia 4 v59 (.int .i64 1)) fun v60 =>
     qb (q_load st true 4 v60) fun v61 =>
     (callK prog n_spec_l01Erase [v56] st (fun v57 st =>
     q_load st true 4 v60 = some v61 ∧ q_load st false 1 v58 = some v59 ∧ q_load st true 4 v51 = some v52 ∧ q_load st false 1 v47 = some v48 ∧ ((callK prog n_spec_l03Run_sub [v48, v52, v57, v61, (.int .i64 0)] st (fun v62 st =>
     qb (q_ex v62 0) fun v63 =>
     qb (q_ex v62 1) fun v64 =>
     e_alloc st [.int .i64 0, .int .i64 0, .str [], .sl 0 true []] fun v13 st =>
     q_load st true 4 v60 = some v61 ∧ q_load st false 1 v58 = some v59 ∧ q_load st true 4 v55 = some v56 ∧ q_load st false 1 v53 = some v54 ∧ q_load st true 4 v51 = some v52 ∧ q_load st false 1 v47 = some v48 ∧ (e_store st 4 v13 v63 fun st =>
     k [v13, v64] st)) (panR R)) ∧
     (e_alloc st [.int .i64 0, .int .i64 0, .str [], .sl 0 true []] fun v13_1 st =>
     q_load st true 4 v60 = some v61 ∧ q_load st false 1 v58 = some v59 ∧ q_load st true 4 v55 = some v56 ∧ q_load st false 1 v53 = some v54 ∧ q_load st true 4 v51 = some v52 ∧ q_load st false 1 v47 = some v48 ∧ (callK prog n_spec_l03Run_sub [v48, v52, v57, v61, (.int .i64 0)] st (fun v62_1 st =>
     qb (q_ex v62_1 0) fun v63_1 =>
     qb (q_ex v62_1 1) fun v64_1 =>
     e_store st 4 v13_1 v63_1 fun st =>
     k [v13_1, v64_1] st) (panR R))))) (panR R)) ∧
     (e_alloc st [.int .i64 0, .int .i64 0, .str [], .sl 0 true []] fun v13_2 st =>
     q_load st true 4 v60 = some v61 ∧ q_load st false 1 v58 = some v59 ∧ q_load st true 4 v55 = some v56 ∧ q_load st false 1 v53 = some v54 ∧ q_load st true 4 v51 = some v52 ∧ q_load st false 1 v47 = some v48 ∧ (callK prog n_spec_l01Erase [v56] st (fun v57_1 st =>
     q_load st true 4 v60 = some v61 ∧ q_load st false 1 v58 = some v59 ∧ q_load st true 4 v51 = some v52 ∧ q_load st false 1 v47 = some v48 ∧ (callK prog n_spec_l03Run_sub [v48, v52, v57_1, v61, (.int .i64 0)] st (fun v62_2 st =>
     qb (q_ex v62_2 0) fun v63_2 =>
     qb (q_ex v62_2 1) fun v64_2 =>
     e_store st 4 v13_2 v63_2 fun st =>
     k [v13_2, v64_2] st) (panR R))) (panR R)))))) (panR R)))
   (qb (q_load st true 4 v7) fun v80 =>
   e_store st 4 v10 v80 fun st =>
   qb (q_load st true 4 v10) fun r_3 => retR R (.tup [r_3, (.bool true)]) st))
  [v16, (.int .i64 0)] st
theorem c_spec_l04Run_spine {a0 a1 a2 a3 a4 : PV} {st : St} {R : Res → St → Prop} (h : b_spec_l04Run_spine a0 a1 a2 a3 a4 st R) : HCalls prog n_spec_l04Run_spine [a0, a1, a2, a3, a4] st R :=
 hcalls_of_func tyOK mixed (fn := Go.Proofs.Tryz.f125) (by kernel_rfl) (by kernel_rfl) (by kernel_rfl) (ann := [(12, [4, 12]), (37, [13, 14])])
  (show hFunc prog TT [(12, [4, 12]), (37, [13, 14])] Go.Proofs.Tryz.f125 [a0, a1, a2, a3, a4] st R from (show hFunc prog TT [(12, [4, 12]), (37, [13, 14])] Go.Proofs.Tryz.f125 [a0, a1, a2, a3, a4] st R = b_spec_l04Run_spine a0 a1 a2 a3 a4 st R by kernel_rfl) ▸ h)
def b_spec_l04Run_synth (a0 a1 a2 a3 : PV) (st : St) (R : Res → St → Prop) : Prop :=
 e_box st a2 fun v6 st =>
 e_alloc st [.int .i64 0, .int .i64 0, .str [], .sl 0 true []] fun v8 st =>
 qb (q_load st true 4 v6) fun v15 =>
 callK prog n_spec_l04Run_head [a0, a1, v15, a3] st (fun v17 st =>
 qb (q_ex v17 0) fun v18 =>
 qb (q_ex v17 1) fun v19 =>
 e_alloc st [.int .i64 0, .int .i64 0, .str [], .sl 0 true []] fun v10 st =>
 e_store st 4 v10 v18 fun st =>
 qb (q_un .not v19) fun v21 =>
 cb v21 fun b => br b
  (qb (q_load st true 4 v10) fun v22 =>
  e_store st 4 v8 v22 fun st =>
  qb (q_load st true 4 v8) fun r => retR R (.tup [r, (.bool false)]) st)
  (qb (q_load st true 4 v10) fun v26 =>
  qb (q_fa 3 v6) fun v27 =>
  qb (q_load st false 1 v27) fun v28 =>
  callK prog n_spec_l04Run_spine [a0, a1, v26, v28, a3] st (fun v30 st =>
  qb (q_ex v30 0) fun v31 =>
  qb (q_ex v30 1) fun v32 =>
  e_store st 4 v10 v31 fun st =>
  hJ (fun ls st =>
   cb (ls.getD 0 .junk) fun b_1 => br b_1
    (qb (q_load st true 4 v10) fun v39 =>
    callK prog n_spec_l04Run_fail [a0, (.int .i64 8), a3] st (fun v42 st =>
    q_load st true 4 v10 = some v39 ∧ (e_store st 4 v8 v39 fun st =>
    qb (q_load st true 4 v8) fun r_1 => retR R (.tup [r_1, v42]) st)) (panR R))
    (qb (q_load st true 4 v10) fun v43 =>
    e_store st 4 v8 v43 fun st =>
    qb (q_load st true 4 v8) fun r_2 => retR R (.tup [r_2, v32]) st))
   (fun k =>
  cb v32 fun b_2 => br b_2
   (qb (q_fa 0 v10) fun v35 =>
   qb (q_load st false 1 v35) fun v36 =>
   qb (q_bin .neq v36 (.int .i64 3)) fun v37 =>
   k [v37] st)
   (k [(.bool false)] st))) (panR R))) (panR R)
theorem c_spec_l04Run_synth {a0 a1 a2 a3 : PV} {st : St} {R : Res → St → Prop} (h : b_spec_l04Run_synth a0 a1 a2 a3 st R) : HCalls prog n_spec_l04Run_synth [a0, a1, a2, a3] st R :=
 hcalls_of_func tyOK mixed (fn := Go.Proofs.Tryz.f126) (by kernel_rfl) (by kernel_rfl) (by kernel_rfl) (ann := [(21, [38])])
  (show hFunc prog TT [(21, [38])] Go.Proofs.Tryz.f126 [a0, a1, a2, a3] st R from (show hFunc prog TT [(21, [38])] Go.Proofs.Tryz.f126 [a0, a1, a2, a3] st R = b_spec_l04Run_synth a0 a1 a2 a3 st R by kernel_rfl) ▸ h)
def b_spec_l01Same (a0 a1 : PV) (st : St) (R : Res → St → Prop) : Prop :=
 e_box st a0 fun v2 st =>
 e_box st a1 fun v3 st =>
 qb (q_fa 0 v2) fun v6 =>
 qb (q_load st false 1 v6) fun v7 =>
 qb (q_fa 0 v3) fun v8 =>
 qb (q_load st false 1 v8) fun v9 =>
 qb (q_bin .neq v7 v9) fun v10 =>
 cb v10 fun b => br b
  (retR R (.bool false) st)
  (qb (q_fa 1 v2) fun v12 =>
  qb (q_load st false 1 v12) fun v13 =>
  qb (q_fa 1 v3) fun v14 =>
  qb (q_load st false 1 v14) fun v15 =>
  qb (q_bin .neq v13 v15) fun v16 =>
  cb v16 fun b_1 => br b_1
   (retR R (.bool false) st)
   (qb (q_fa 2 v2) fun v19 =>
   qb (q_load st false 1 v19) fun v20 =>
   qb (q_fa 2 v3) fun v21 =>
   qb (q_load st false 1 v21) fun v22 =>
   qb (q_bin .neq v20 v22) fun v23 =>
   cb v23 fun b_2 => br b_2
    (retR R (.bool false) st)
    (qb (q_fa 3 v2) fun v26 =>
    qb (q_load st false 1 v26) fun v27 =>
    qb (q_len v27) fun v28 =>
    qb (q_fa 3 v3) fun v29 =>
    qb (q_load st false 1 v29) fun v30 =>
    qb (q_len v30) fun v31 =>
    qb (q_bin .neq v28 v31) fun v32 =>
    cb v32 fun b_3 => br b_3
     (retR R (.bool false) st)
     (hFix (fun ls st X =>
      qb (q_fa 3 v2) fun v35 =>
      qb (q_load st false 1 v35) fun v36 =>
      qb (q_len v36) fun v37 =>
      qb (q_bin .lss (ls.getD 0 .junk) v37) fun v38 =>
      cb v38 fun b_4 => br b_4
       (qb (q_fa 3 v2) fun v41 =>
       qb (q_load st false 1 v41) fun v42 =>
       qb (q_ia 4 v42 (ls.getD 0 .junk)) fun v44 =>
       qb (q_load st true 4 v44) fun v45 =>
       qb (q_fa 3 v3) fun v46 =>
       qb (q_load st false 1 v46) fun v47 =>
       qb (q_ia 4 v47 (ls.getD 0 .junk)) fun v49 =>
       qb (q_load st true 4 v49) fun v50 =>
       callK prog n_spec_l01Same [v45, v50] st (fun v51 st =>
       qb (q_un .not v51) fun v52 =>
       cb v52 fun b_5 => br b_5
        (retR R (.bool false) st)
        (qb (q_bin .add (ls.getD 0 .junk) (.int .i64 1)) fun v40 =>
        X [v40] st)) (panR R))
       (retR R (.bool true) st))
      [(.int .i64 0)] st))))
theorem e_spec_l01Same : Enters prog n_spec_l01Same := ⟨Go.Proofs.Tryz.f127, by kernel_rfl, by kernel_rfl, by kernel_rfl⟩
theorem c_spec_l01Same {a0 a1 : PV} {st : St} {R : Res → St → Prop} (h : b_spec_l01Same a0 a1 st R) : HCalls prog n_spec_l01Same [a0, a1] st R :=
 hcalls_of_func tyOK mixed (fn := Go.Proofs.Tryz.f127) (by kernel_rfl) (by kernel_rfl) (by kernel_rfl) (ann := [(16, [5])])
  (show hFunc prog TT [(16, [5])] Go.Proofs.Tryz.f127 [a0, a1] st R from (show hFunc prog TT [(16, [5])] Go.Proofs.Tryz.f127 [a0, a1] st R = b_spec_l01Same a0 a1 st R by kernel_rfl) ▸ h)
def b_impl_checker_args (a0 a1 a2 a3 a4 : PV) (st : St) (R : Res → St → Prop) : Prop :=
 e_box st a3 fun v8 st =>
 e_alloc st [.int .i64 0, .int .i64 0, .str [], .sl 0 true []] fun v10 st =>
 qb (q_len a2) fun v14 =>
 hFix (fun ls st X =>
  qb (q_bin .lss (ls.getD 1 .junk) v14) fun v16 =>
  cb v16 fun b => br b
   (qb (q_ia 4 a2 (ls.getD 1 .junk)) fun v17 =>
   qb (q_load st true 4 v17) fun v18 =>
   e_alloc st [.int .i64 0, .int .i64 0, .str [], .sl 0 true []] fun v12 st =>
   e_store st 4 v12 v18 fun st =>
   qb (q_fa 0 v8) fun v19 =>
   qb (q_load st false 1 v19) fun v20 =>
   qb (q_bin .neq v20 (.int .i64 2)) fun v21 =>
   hJ (fun ls_1 st =>
    qb (q_load st true 4 v12) fun v26 =>
    qb (q_fa 3 v8) fun v27 =>
    qb (q_load st false 1 v27) fun v28 =>
    qb (q_ia 4 v28 (.int .i64 0)) fun v29 =>
    qb (q_load st true 4 v29) fun v30 =>
    callK prog n_impl_checker_term [a0, a1, v26, v30, (ls.getD 0 .junk)] st (fun v32 st =>
    qb (q_load st true 4 v12) fun v34 =>
    qb (q_load st true 4 v8) fun v35 =>
    callK prog n_impl_checker_left [a0, v34, v35, (ls.getD 0 .junk)] st (fun v37 st =>
    e_store st 4 v8 v37 fun st =>
    qb (q_load st true 4 v12) fun v39 =>
    callK prog n_impl_Size [v39] st (fun v40 st =>
    qb (q_bin .add (ls.getD 0 .junk) v40) fun v41 =>
    qb (q_bin .add (ls.getD 1 .junk) (.int .i64 1)) fun v42 =>
    X [v41, v42] st) (panR R)) (panR R)) (panR R))
    (fun k =>
   cb v21 fun b_1 => br b_1
    (callK prog n_impl_stop [(.int .i64 8), (ls.getD 0 .junk)] st (fun v23 st =>
    k [] st) (panR R))
    (k [] st)))
   (qb (q_load st true 4 v8) fun v43 =>
   e_store st 4 v10 v43 fun st =>
   qb (q_load st true 4 v10) fun r => retR R r st))
  [a4, (.int .i64 0)] st
theorem c_impl_checker_args {a0 a1 a2 a3 a4 : PV} {st : St} {R : Res → St → Prop} (h : b_impl_checker_args a0 a1 a2 a3 a4 st R) : HCalls prog n_impl_checker_args [a0, a1, a2, a3, a4] st R :=
 hcalls_of_func tyOK mixed (fn := Go.Proofs.Tryz.f128) (by kernel_rfl) (by kernel_rfl) (by kernel_rfl) (ann := [(8, [4, 15]), (22, [])])
  (show hFunc prog TT [(8, [4, 15]), (22, [])] Go.Proofs.Tryz.f128 [a0, a1, a2, a3, a4] st R from (show hFunc prog TT [(8, [4, 15]), (22, [])] Go.Proofs.Tryz.f128 [a0, a1, a2, a3, a4] st R = b_impl_checker_args a0 a1 a2 a3 a4 st R by kernel_rfl) ▸ h)
def b_impl_checker_head (a0 a1 a2 a3 : PV) (st : St) (R : Res → St → Prop) : Prop :=
 e_box st a2 fun v6 st =>
 e_alloc st [.int .i64 0, .int .i64 0, .str [], .sl 0 true []] fun v8 st =>
 qb (q_fa 0 v6) fun v12 =>
 qb (q_load st false 1 v12) fun v13 =>
 qb (q_bin .eql v13 (.int .i64 5)) fun v15 =>
 cb v15 fun b => br b
  (qb (q_fa 1 v6) fun v16 =>
  qb (q_load st false 1 v16) fun v17 =>
  qb (q_len a1) fun v19 =>
  qb (q_bin .geq v17 v19) fun v20 =>
  hJ (fun ls st =>
   hJ (fun ls_1 st =>
    qb (q_load st true 4 (ls_1.getD 0 .junk)) fun v36 =>
    callK prog n_impl_tooBig [v36] st (fun v37 st =>
    cb v37 fun b_2 => br b_2
     (callK prog n_impl_stop [(.int .i64 11), a3] st (fun v39 st =>
     qb (q_load st true 4 (ls_1.getD 0 .junk)) fun v40 =>
     e_store st 4 v8 v40 fun st =>
     qb (q_load st true 4 v8) fun r => retR R r st) (panR R))
     (qb (q_load st true 4 (ls_1.getD 0 .junk)) fun v40_1 =>
     e_store st 4 v8 v40_1 fun st =>
     qb (q_load st true 4 v8) fun r_1 => retR R r_1 st)) (panR R))
    (fun k_1 =>
   qb (q_len a1) fun v25 =>
   qb (q_bin .sub v25 (.int .i64 1)) fun v26 =>
   qb (q_fa 1 v6) fun v27 =>
   qb (q_load st false 1 v27) fun v28 =>
   qb (q_bin .sub v26 v28) fun v29 =>
   qb (q_ia 4 a1 v29) fun v30 =>
   qb (q_load st true 4 v30) fun v31 =>
   qb (q_fa 1 v6) fun v32 =>
   qb (q_load st false 1 v32) fun v33 =>
   qb (q_bin .add v33 (.int .i64 1)) fun v34 =>
   (callK prog n_impl_lift [v31, (.int .i64 0), v34] st (fun v35 st =>
   e_alloc st [.int .i64 0, .int .i64 0, .str [], .sl 0 true []] fun v9 st =>
   q_load st false 1 v32 = some v33 ∧ q_load st true 4 v30 = some v31 ∧ q_load st false 1 v27 = some v28 ∧ (e_store st 4 v9 v35 fun st =>
   k_1 [v9] st)) (panR R)) ∧
   (e_alloc st [.int .i64 0, .int .i64 0, .str [], .sl 0 true []] fun v9_1 st =>
   q_load st false 1 v32 = some v33 ∧ q_load st true 4 v30 = some v31 ∧ q_load st false 1 v27 = some v28 ∧ (callK prog n_impl_lift [v31, (.int .i64 0), v34] st (fun v35_1 st =>
   e_store st 4 v9_1 v35_1 fun st =>
   k_1 [v9_1] st) (panR R)))))
   (fun k =>
  cb v20 fun b_1 => br b_1
   (callK prog n_impl_stop [(.int .i64 7), a3] st (fun v22 st =>
   k [] st) (panR R))
   (k [] st)))
  (qb (q_bin .eql v13 (.int .i64 6)) fun v42 =>
  cb v42 fun b_3 => br b_3
   (qb (q_fa 2 v6) fun v45 =>
   qb (q_load st false 1 v45) fun v46 =>
   callK prog n_impl_checker_declared [a0, v46, (.bool false)] st (fun v47 st =>
   qb (q_ex v47 0) fun v48 =>
   qb (q_ex v47 1) fun v49 =>
   e_alloc st [.int .i64 0, .int .i64 0, .str [], .sl 0 true []] fun v10 st =>
   e_store st 4 v10 v48 fun st =>
   qb (q_un .not v49) fun v51 =>
   cb v51 fun b_4 => br b_4
    (callK prog n_impl_stop [(.int .i64 5), a3] st (fun v53 st =>
    qb (q_load st true 4 v10) fun v54 =>
    e_store st 4 v8 v54 fun st =>
    qb (q_load st true 4 v8) fun r_2 => retR R r_2 st) (panR R))
    (qb (q_load st true 4 v10) fun v54_1 =>
    e_store st 4 v8 v54_1 fun st =>
    qb (q_load st true 4 v8) fun r_3 => retR R r_3 st)) (panR R))
   (callK prog n_impl_stop [(.int .i64 15), a3] st (fun v56 st =>
   qb (q_struct [.int .i64 0, .int .i64 0, .str [], .sl 0 true []] []) fun v57 =>
   e_store st 4 v8 v57 fun st =>
   qb (q_load st true 4 v8) fun r_4 => retR R r_4 st) (panR R)))
theorem c_impl_checker_head {a0 a1 a2 a3 : PV} {st : St} {R : Res → St → Prop} (h : b_impl_checker_head a0 a1 a2 a3 st R) : HCalls prog n_impl_checker_head [a0, a1, a2, a3] st R :=
 hcalls_of_func tyOK mixed (fn := Go.Proofs.Tryz.f129) (by kernel_rfl) (by kernel_rfl) (by kernel_rfl) (ann := [(18, []), (21, [9])])
  (show hFunc prog TT [(18, []), (21, [9])] Go.Proofs.Tryz.f129 [a0, a1, a2, a3] st R from (show hFunc prog TT [(18, []), (21, [9])] Go.Proofs.Tryz.f129 [a0, a1, a2, a3] st R = b_impl_checker_head a0 a1 a2 a3 st R by kernel_rfl) ▸ h)
def b_impl_cloneAll (a0 : PV) (st : St) (R : Res → St → Prop) : Prop :=
 qb (q_lit 4 0 0 [] []) fun v6 =>
 qb (q_len a0) fun v8 =>
 hFix (fun ls st X =>
  qb (q_bin .lss (ls.getD 1 .junk) v8) fun v10 =>
  cb v10 fun b => br b
   (qb (q_ia 4 a0 (ls.getD 1 .junk)) fun v11 =>
   qb (q_load st true 4 v11) fun v12 =>
   e_alloc st [.int .i64 0, .int .i64 0, .str [], .sl 0 true []] fun v5 st =>
   e_store st 4 v5 v12 fun st =>
   qb (q_load st true 4 v5) fun v14 =>
   callK prog n_impl_clone [v14] st (fun v15 st =>
   qb (q_lit 4 1 0 [] [(0, v15)]) fun v16 =>
   e_append st 4 56 (ls.getD 0 .junk) v16 (fun v17 st =>
   qb (q_bin .add (ls.getD 1 .junk) (.int .i64 1)) fun v18 =>
   X [v17, v18] st)) (panR R))
   (retR R (ls.getD 0 .junk) st))
  [v6, (.int .i64 0)] st
theorem c_impl_cloneAll {a0 : PV} {st : St} {R : Res → St → Prop} (h : b_impl_cloneAll a0 st R) : HCalls prog n_impl_cloneAll [a0] st R :=
 hcalls_of_func tyOK mixed (fn := Go.Proofs.Tryz.f130) (by kernel_rfl) (by kernel_rfl) (by kernel_rfl) (ann := [(12, [3, 9])])
  (show hFunc prog TT [(12, [3, 9])] Go.Proofs.Tryz.f130 [a0] st R from (show hFunc prog TT [(12, [3, 9])] Go.Proofs.Tryz.f130 [a0] st R = b_impl_cloneAll a0 st R by kernel_rfl) ▸ h)
def b_slices_Max_int_int (a0 : PV) (st : St) (R : Res → St → Prop) : Prop :=
 qb (q_len a0) fun v6 =>
 qb (q_bin .lss v6 (.int .i64 1)) fun v7 =>
 cb v7 fun b => br b
  (qb (q_iface ty_string (.str [115, 108, 105, 99, 101, 115, 46, 77, 97, 120, 58, 32, 101, 109, 112, 116, 121, 32, 108, 105, 115, 116])) fun v8 =>
  e_panic v8 st (panR R))
  (qb (q_ia 1 a0 (.int .i64 0)) fun v10 =>
  qb (q_load st false 1 v10) fun v11 =>
  hFix (fun ls st X =>
   qb (q_len a0) fun v14 =>
   qb (q_bin .lss (ls.getD 1 .junk) v14) fun v15 =>
   cb v15 fun b_1 => br b_1
    (qb (q_ia 1 a0 (ls.getD 1 .junk)) fun v21 =>
    qb (q_load st false 1 v21) fun v22 =>
    qb (q_max (ls.getD 0 .junk) v22) fun v23 =>
    qb (q_bin .add (ls.getD 1 .junk) (.int .i64 1)) fun v17 =>
    X [v23, v17] st)
    (retR R (ls.getD 0 .junk) st))
   [v11, (.int .i64 1)] st)
theorem c_slices_Max_int_int {a0 : PV} {st : St} {R : Res → St → Prop} (h : b_slices_Max_int_int a0 st R) : HCalls prog n_slices_Max_int_int [a0] st R :=
 hcalls_of_func tyOK mixed (fn := Go.Proofs.Tryz.f131) (by kernel_rfl) (by kernel_rfl) (by kernel_rfl) (ann := [(20, [3, 4])])
  (show hFunc prog TT [(20, [3, 4])] Go.Proofs.Tryz.f131 [a0] st R from (show hFunc prog TT [(20, [3, 4])] Go.Proofs.Tryz.f131 [a0] st R = b_slices_Max_int_int a0 st R by kernel_rfl) ▸ h)
def b_impl_declForm (a0 : PV) (st : St) (R : Res → St → Prop) : Prop :=
 e_box st a0 fun v1 st =>
 qb (q_fa 1 v1) fun v3 =>
 qb (q_load st false 1 v3) fun v4 =>
 cb v4 fun b => br b
  (qb (q_fa 0 v1) fun v5 =>
  qb (q_load st false 1 v5) fun v6 =>
  callK prog n_impl_NameOK [v6] st (fun v7 st =>
  cb v7 fun b_1 => br b_1
   (qb (q_fa 2 v1) fun v9 =>
   qb (q_load st true 4 v9) fun v10 =>
   callK prog n_impl_KindOK [v10] st (fun v11 st =>
   retR R v11 st) (panR R))
   (retR R (.bool false) st)) (panR R))
  (qb (q_fa 0 v1) fun v13 =>
  qb (q_load st false 1 v13) fun v14 =>
  callK prog n_impl_NameOK [v14] st (fun v15 st =>
  cb v15 fun b_2 => br b_2
   (qb (q_fa 2 v1) fun v17 =>
   qb (q_load st true 4 v17) fun v18 =>
   callK prog n_impl_FamilyOK [v18] st (fun v19 st =>
   retR R v19 st) (panR R))
   (retR R (.bool false) st)) (panR R))
theorem c_impl_declForm {a0 : PV} {st : St} {R : Res → St → Prop} (h : b_impl_declForm a0 st R) : HCalls prog n_impl_declForm [a0] st R :=
 hcalls_of_func tyOK mixed (fn := Go.Proofs.Tryz.f132) (by kernel_rfl) (by kernel_rfl) (by kernel_rfl) (ann := [])
  (show hFunc prog TT [] Go.Proofs.Tryz.f132 [a0] st R from (show hFunc prog TT [] Go.Proofs.Tryz.f132 [a0] st R = b_impl_declForm a0 st R by kernel_rfl) ▸ h)
def b_impl_has (a0 a1 : PV) (st : St) (R : Res → St → Prop) : Prop :=
 e_box st a1 fun v3 st =>
 callK prog n_slices_ContainsFunc_impl_Decl_impl_Decl [a0, (.fn (.func n_impl_has_1) [] [v3])] st (fun v7 st =>
 retR R v7 st) (panR R)
theorem c_impl_has {a0 a1 : PV} {st : St} {R : Res → St → Prop} (h : b_impl_has a0 a1 st R) : HCalls prog n_impl_has [a0, a1] st R :=
 hcalls_of_func tyOK mixed (fn := Go.Proofs.Tryz.f133) (by kernel_rfl) (by kernel_rfl) (by kernel_rfl) (ann := [])
  (show hFunc prog TT [] Go.Proofs.Tryz.f133 [a0, a1] st R from (show hFunc prog TT [] Go.Proofs.Tryz.f133 [a0, a1] st R = b_impl_has a0 a1 st R by kernel_rfl) ▸ h)
def b_impl_declFault (a0 a1 : PV) (st : St) (R : Res → St → Prop) : Prop :=
 e_box st a0 fun v2 st =>
 e_box st a1 fun v3 st =>
 e_alloc st [.int .i64 0, .int .i64 0] fun v4 st =>
 callK prog n_impl_caught [(.fn (.func n_impl_declFault_1) [] [v2, v3])] st (fun v6 st =>
 e_store st 2 v4 v6 fun st =>
 qb (q_load st true 2 v4) fun r => retR R r st) (panR R)
theorem c_impl_declFault {a0 a1 : PV} {st : St} {R : Res → St → Prop} (h : b_impl_declFault a0 a1 st R) : HCalls prog n_impl_declFault [a0, a1] st R :=
 hcalls_of_func tyOK mixed (fn := Go.Proofs.Tryz.f134) (by kernel_rfl) (by kernel_rfl) (by kernel_rfl) (ann := [])
  (show hFunc prog TT [] Go.Proofs.Tryz.f134 [a0, a1] st R from (show hFunc prog TT [] Go.Proofs.Tryz.f134 [a0, a1] st R = b_impl_declFault a0 a1 st R by kernel_rfl) ▸ h)
def b_impl_tells (a0 a1 : PV) (st : St) (R : Res → St → Prop) : Prop :=
 e_box st a1 fun v3 st =>
 callK prog n_slices_ContainsFunc_impl_Tree_impl_Tree [a0, (.fn (.func n_impl_tells_1) [] [v3])] st (fun v7 st =>
 retR R v7 st) (panR R)
theorem c_impl_tells {a0 a1 : PV} {st : St} {R : Res → St → Prop} (h : b_impl_tells a0 a1 st R) : HCalls prog n_impl_tells [a0, a1] st R :=
 hcalls_of_func tyOK mixed (fn := Go.Proofs.Tryz.f135) (by kernel_rfl) (by kernel_rfl) (by kernel_rfl) (ann := [])
  (show hFunc prog TT [] Go.Proofs.Tryz.f135 [a0, a1] st R from (show hFunc prog TT [] Go.Proofs.Tryz.f135 [a0, a1] st R = b_impl_tells a0 a1 st R by kernel_rfl) ▸ h)
def b_impl_longForm (a0 a1 : PV) (st : St) (R : Res → St → Prop) : Prop :=
 e_box st a0 fun v2 st =>
 e_box st a1 fun v3 st =>
 e_alloc st [.int .i64 0, .int .i64 0, .str [], .sl 0 true []] fun v4 st =>
 qb (q_load st true 4 v3) fun v12 =>
 callK prog n_impl_takes [v12] st (fun v13 st =>
 qb (q_ex v13 0) fun v14 =>
 qb (q_ex v13 1) fun v15 =>
 e_alloc st [.int .i64 0, .int .i64 0, .str [], .sl 0 true []] fun v6 st =>
 e_store st 4 v6 v15 fun st =>
 qb (q_len v14) fun v17 =>
 qb (q_load st true 4 v2) fun v18 =>
 callK prog n_impl_lift [v18, (.int .i64 0), v17] st (fun v20 st =>
 e_alloc st [.int .i64 0, .int .i64 0, .str [], .sl 0 true []] fun v8 st =>
 e_store st 4 v8 v20 fun st =>
 qb (q_len v14) fun v22 =>
 hFix (fun ls st X =>
  qb (q_bin .lss (ls.getD 0 .junk) v22) fun v24 =>
  cb v24 fun b => br b
   (qb (q_ia 4 v14 (ls.getD 0 .junk)) fun v26 =>
   qb (q_load st true 4 v26) fun v27 =>
   e_alloc st [.int .i64 0, .int .i64 0, .str [], .sl 0 true []] fun v10 st =>
   e_store st 4 v10 v27 fun st =>
   qb (q_fa 3 v8) fun v28 =>
   qb (q_load st false 1 v28) fun v29 =>
   qb (q_bin .sub v17 (.int .i64 1)) fun v31 =>
   qb (q_bin .sub v31 (ls.getD 0 .junk)) fun v33 =>
   qb (q_load st true 4 v10) fun v35 =>
   callK prog n_impl_variable [v33, (.sl 0 true [])] st (fun v34 st =>
   q_load st true 4 v10 = some v35 ∧ q_load st false 1 v28 = some v29 ∧ (callK prog n_impl_longForm [v34, v35] st (fun v36 st =>
   q_load st false 1 v28 = some v29 ∧ (qb (q_lit 4 1 0 [] [(0, v36)]) fun v37 =>
   e_append st 4 56 v29 v37 (fun v38 st =>
   qb (q_fa 3 v8) fun v39 =>
   e_store st 1 v39 v38 fun st =>
   qb (q_bin .add (ls.getD 0 .junk) (.int .i64 1)) fun v40 =>
   X [v40] st))) (panR R))) (panR R))
   (hFix (fun ls_1 st X_1 =>
    qb (q_bin .lss (ls_1.getD 0 .junk) v17) fun v43 =>
    cb v43 fun b_1 => br b_1
     (qb (q_load st true 4 v8) fun v44 =>
     callK prog n_impl_lam [v44] st (fun v45 st =>
     e_store st 4 v8 v45 fun st =>
     qb (q_bin .add (ls_1.getD 0 .junk) (.int .i64 1)) fun v46 =>
     X_1 [v46] st) (panR R))
     (qb (q_load st true 4 v8) fun v47 =>
     e_store st 4 v4 v47 fun st =>
     qb (q_load st true 4 v4) fun r => retR R r st))
    [(.int .i64 0)] st))
  [(.int .i64 0)] st) (panR R)) (panR R)
theorem c_impl_longForm {a0 a1 : PV} {st : St} {R : Res → St → Prop} (h : b_impl_longForm a0 a1 st R) : HCalls prog n_impl_longForm [a0, a1] st R :=
 hcalls_of_func tyOK mixed (fn := Go.Proofs.Tryz.f136) (by kernel_rfl) (by kernel_rfl) (by kernel_rfl) (ann := [(40, [42]), (20, [23])])
  (show hFunc prog TT [(40, [42]), (20, [23])] Go.Proofs.Tryz.f136 [a0, a1] st R from (show hFunc prog TT [(40, [42]), (20, [23])] Go.Proofs.Tryz.f136 [a0, a1] st R = b_impl_longForm a0 a1 st R by kernel_rfl) ▸ h)
def b_impl_variable (a0 a1 : PV) (st : St) (R : Res → St → Prop) : Prop :=
 e_alloc st [.int .i64 0, .int .i64 0, .str [], .sl 0 true []] fun v4 st =>
 qb (q_struct [.int .i64 0, .int .i64 0, .str [], .sl 0 true []] [(0, 1, (.int .i64 5)), (1, 1, a0), (3, 1, a1)]) fun v7 =>
 e_store st 4 v4 v7 fun st =>
 qb (q_load st true 4 v4) fun r => retR R r st
theorem c_impl_variable {a0 a1 : PV} {st : St} {R : Res → St → Prop} (h : b_impl_variable a0 a1 st R) : HCalls prog n_impl_variable [a0, a1] st R :=
 hcalls_of_func tyOK mixed (fn := Go.Proofs.Tryz.f137) (by kernel_rfl) (by kernel_rfl) (by kernel_rfl) (ann := [])
  (show hFunc prog TT [] Go.Proofs.Tryz.f137 [a0, a1] st R from (show hFunc prog TT [] Go.Proofs.Tryz.f137 [a0, a1] st R = b_impl_variable a0 a1 st R by kernel_rfl) ▸ h)
def b_spec_l07Omittable (a0 : PV) (st : St) (R : Res → St → Prop) : Prop :=
 e_box st a0 fun v1 st =>
 qb (q_lit 4 0 0 [] []) fun v8 =>
 hFix (fun ls st X =>
  qb (q_fa 0 v1) fun v9 =>
  qb (q_load st false 1 v9) fun v10 =>
  qb (q_bin .eql v10 (.int .i64 2)) fun v11 =>
  cb v11 fun b => br b
   (qb (q_fa 3 v1) fun v13 =>
   qb (q_load st false 1 v13) fun v14 =>
   qb (q_ia 4 v14 (.int .i64 0)) fun v15 =>
   qb (q_load st true 4 v15) fun v16 =>
   callK prog n_spec_l01Erase [v16] st (fun v17 st =>
   qb (q_lit 4 1 0 [] [(0, v17)]) fun v18 =>
   e_append st 4 56 (ls.getD 0 .junk) v18 (fun v19 st =>
   qb (q_fa 3 v1) fun v20 =>
   qb (q_load st false 1 v20) fun v21 =>
   qb (q_ia 4 v21 (.int .i64 1)) fun v22 =>
   qb (q_load st true 4 v22) fun v23 =>
   e_store st 4 v1 v23 fun st =>
   X [v19] st)) (panR R))
   (qb (q_lit 1 0 0 [] []) fun v24 =>
   hFix (fun ls_1 st X_1 =>
    qb (q_len (ls.getD 0 .junk)) fun v27 =>
    qb (q_bin .lss (ls_1.getD 1 .junk) v27) fun v28 =>
    cb v28 fun b_1 => br b_1
     (hFix (fun ls_2 st X_2 =>
      qb (q_fa 3 v1) fun v32 =>
      qb (q_load st false 1 v32) fun v33 =>
      qb (q_len v33) fun v34 =>
      qb (q_bin .lss (ls_2.getD 1 .junk) v34) fun v35 =>
      cb v35 fun b_2 => br b_2
       (cb (ls_2.getD 0 .junk) fun b_3 => br b_3
        (qb (q_bin .add (ls_2.getD 1 .junk) (.int .i64 1)) fun v37 =>
        X_2 [(.bool true), v37] st)
        (qb (q_fa 3 v1) fun v40 =>
        qb (q_load st false 1 v40) fun v41 =>
        qb (q_ia 4 v41 (ls_2.getD 1 .junk)) fun v43 =>
        qb (q_load st true 4 v43) fun v44 =>
        qb (q_len (ls.getD 0 .junk)) fun v46 =>
        qb (q_bin .sub v46 (.int .i64 1)) fun v47 =>
        qb (q_bin .sub v47 (ls_1.getD 1 .junk)) fun v49 =>
        qb (q_ia 4 (ls.getD 0 .junk) (ls_1.getD 1 .junk)) fun v52 =>
        qb (q_load st true 4 v52) fun v53 =>
        callK prog n_spec_l07Fixed [v44, v49, v53] st (fun v54 st =>
        qb (q_bin .add (ls_2.getD 1 .junk) (.int .i64 1)) fun v37_1 =>
        X_2 [v54, v37_1] st) (panR R)))
       (qb (q_lit 1 1 0 [] [(0, (ls_2.getD 0 .junk))]) fun v58 =>
       e_append st 1 1 (ls_1.getD 0 .junk) v58 (fun v59 st =>
       qb (q_bin .add (ls_1.getD 1 .junk) (.int .i64 1)) fun v30 =>
       X_1 [v59, v30] st)))
      [(.bool false), (.int .i64 0)] st)
     (retR R (ls_1.getD 0 .junk) st))
    [v24, (.int .i64 0)] st))
  [v8] st
theorem c_spec_l07Omittable {a0 : PV} {st : St} {R : Res → St → Prop} (h : b_spec_l07Omittable a0 st R) : HCalls prog n_spec_l07Omittable [a0] st R :=
 hcalls_of_func tyOK mixed (fn := Go.Proofs.Tryz.f138) (by kernel_rfl) (by kernel_rfl) (by kernel_rfl) (ann := [(44, [6, 7]), (28, [4, 5]), (8, [3])])
  (show hFunc prog TT [(44, [6, 7]), (28, [4, 5]), (8, [3])] Go.Proofs.Tryz.f138 [a0] st R from (show hFunc prog TT [(44, [6, 7]), (28, [4, 5]), (8, [3])] Go.Proofs.Tryz.f138 [a0] st R = b_spec_l07Omittable a0 st R by kernel_rfl) ▸ h)
def b_slices_IndexFunc_impl_Decl_impl_Decl (a0 a1 : PV) (st : St) (R : Res → St → Prop) : Prop :=
 qb (q_len a0) fun v7 =>
 hFix (fun ls st X =>
  qb (q_bin .lss (ls.getD 0 .junk) v7) fun v9 =>
  cb v9 fun b => br b
   (qb (q_ia 6 a0 (ls.getD 0 .junk)) fun v14 =>
   qb (q_load st true 6 v14) fun v15 =>
   e_call prog st a1 [v15] (fun v16 st =>
   cb v16 fun b_1 => br b_1
    (retR R (ls.getD 0 .junk) st)
    (qb (q_bin .add (ls.getD 0 .junk) (.int .i64 1)) fun v18 =>
    X [v18] st)) (panR R))
   (retR R (.int .i64 (-1)) st))
  [(.int .i64 0)] st
theorem c_slices_IndexFunc_impl_Decl_impl_Decl {a0 a1 : PV} {st : St} {R : Res → St → Prop} (h : b_slices_IndexFunc_impl_Decl_impl_Decl a0 a1 st R) : HCalls prog n_slices_IndexFunc_impl_Decl_impl_Decl [a0, a1] st R :=
 hcalls_of_func tyOK mixed (fn := Go.Proofs.Tryz.f139) (by kernel_rfl) (by kernel_rfl) (by kernel_rfl) (ann := [(8, [8])])
  (show hFunc prog TT [(8, [8])] Go.Proofs.Tryz.f139 [a0, a1] st R from (show hFunc prog TT [(8, [8])] Go.Proofs.Tryz.f139 [a0, a1] st R = b_slices_IndexFunc_impl_Decl_impl_Decl a0 a1 st R by kernel_rfl) ▸ h)
def b_impl_checker_declared_1 (a0 a1 a2 : PV) (st : St) (R : Res → St → Prop) : Prop :=
 e_box st a0 fun v3 st =>
 qb (q_fa 0 v3) fun v5 =>
 qb (q_load st false 1 v5) fun v6 =>
 qb (q_load st false 1 a1) fun v7 =>
 qb (q_bin .eql v6 v7) fun v8 =>
 cb v8 fun b => br b
  (qb (q_fa 1 v3) fun v10 =>
  qb (q_load st false 1 v10) fun v11 =>
  qb (q_load st false 1 a2) fun v12 =>
  qb (q_beq .eql v11 v12) fun v13 =>
  retR R v13 st)
  (retR R (.bool false) st)
theorem c_impl_checker_declared_1 {a0 a1 a2 : PV} {st : St} {R : Res → St → Prop} (h : b_impl_checker_declared_1 a0 a1 a2 st R) : HCalls prog n_impl_checker_declared_1 [a0, a1, a2] st R :=
 hcalls_of_func tyOK mixed (fn := Go.Proofs.Tryz.f140) (by kernel_rfl) (by kernel_rfl) (by kernel_rfl) (ann := [])
  (show hFunc prog TT [] Go.Proofs.Tryz.f140 [a0, a1, a2] st R from (show hFunc prog TT [] Go.Proofs.Tryz.f140 [a0, a1, a2] st R = b_impl_checker_declared_1 a0 a1 a2 st R by kernel_rfl) ▸ h)
def b_spec_l00Src_byte (a0 : PV) (st : St) (R : Res → St → Prop) : Prop :=
 qb (q_nil a0) fun v4 =>
 qb (q_fa 1 v4) fun v5 =>
 qb (q_load st false 1 v5) fun v6 =>
 qb (q_bin .add v6 (.int .i64 1)) fun v7 =>
 qb (q_nil a0) fun v8 =>
 qb (q_fa 1 v8) fun v9 =>
 e_store st 1 v9 v7 fun st =>
 qb (q_nil a0) fun v11 =>
 qb (q_fa 1 v11) fun v12 =>
 qb (q_load st false 1 v12) fun v13 =>
 qb (q_nil a0) fun v15 =>
 qb (q_fa 0 v15) fun v16 =>
 qb (q_load st false 1 v16) fun v17 =>
 qb (q_len v17) fun v18 =>
 qb (q_bin .leq v13 v18) fun v19 =>
 cb v19 fun b => br b
  (qb (q_nil a0) fun v22 =>
  qb (q_fa 2 v22) fun v23 =>
  qb (q_load st false 1 v23) fun v24 =>
  qb (q_bin .mul v24 (.int .i64 31)) fun v25 =>
  qb (q_nil a0) fun v27 =>
  qb (q_fa 0 v27) fun v28 =>
  qb (q_load st false 1 v28) fun v29 =>
  qb (q_nil a0) fun v31 =>
  qb (q_fa 1 v31) fun v32 =>
  qb (q_load st false 1 v32) fun v33 =>
  qb (q_bin .sub v33 (.int .i64 1)) fun v34 =>
  qb (q_ia 1 v29 v34) fun v35 =>
  qb (q_load st false 1 v35) fun v36 =>
  qb (q_conv .i64 v36) fun v37 =>
  qb (q_bin .add v25 v37) fun v38 =>
  qb (q_bin .add v38 (.int .i64 7)) fun v39 =>
  qb (q_bin .rem v39 (.int .i64 2147483648)) fun v40 =>
  qb (q_nil a0) fun v41 =>
  qb (q_fa 2 v41) fun v42 =>
  e_store st 1 v42 v40 fun st =>
  qb (q_nil a0) fun v44 =>
  qb (q_fa 0 v44) fun v45 =>
  qb (q_load st false 1 v45) fun v46 =>
  qb (q_nil a0) fun v48 =>
  qb (q_fa 1 v48) fun v49 =>
  qb (q_load st false 1 v49) fun v50 =>
  qb (q_bin .sub v50 (.int .i64 1)) fun v51 =>
  qb (q_ia 1 v46 v51) fun v52 =>
  qb (q_load st false 1 v52) fun v53 =>
  qb (q_conv .i64 v53) fun v54 =>
  retR R v54 st)
  (qb (q_nil a0) fun v56 =>
  qb (q_fa 1 v56) fun v57 =>
  qb (q_load st false 1 v57) fun v58 =>
  qb (q_bin .gtr v58 (.int .i64 3000)) fun v59 =>
  cb v59 fun b_1 => br b_1
   (retR R (.int .i64 0) st)
   (qb (q_nil a0) fun v62 =>
   qb (q_fa 2 v62) fun v63 =>
   qb (q_load st false 1 v63) fun v64 =>
   qb (q_bin .mul v64 (.int .i64 1103515245)) fun v65 =>
   qb (q_bin .add v65 (.int .i64 12345)) fun v66 =>
   qb (q_bin .rem v66 (.int .i64 2147483648)) fun v67 =>
   qb (q_nil a0) fun v68 =>
   qb (q_fa 2 v68) fun v69 =>
   e_store st 1 v69 v67 fun st =>
   qb (q_nil a0) fun v71 =>
   qb (q_fa 2 v71) fun v72 =>
   qb (q_load st false 1 v72) fun v73 =>
   qb (q_bin .quo v73 (.int .i64 65536)) fun v74 =>
   qb (q_bin .rem v74 (.int .i64 256)) fun v75 =>
   retR R v75 st))
theorem c_spec_l00Src_byte {a0 : PV} {st : St} {R : Res → St → Prop} (h : b_spec_l00Src_byte a0 st R) : HCalls prog n_spec_l00Src_byte [a0] st R :=
 hcalls_of_func tyOK mixed (fn := Go.Proofs.Tryz.f141) (by kernel_rfl) (by kernel_rfl) (by kernel_rfl) (ann := [])
  (show hFunc prog TT [] Go.Proofs.Tryz.f141 [a0] st R from (show hFunc prog TT [] Go.Proofs.Tryz.f141 [a0] st R = b_spec_l00Src_byte a0 st R by kernel_rfl) ▸ h)
end Go.H.Tryz
