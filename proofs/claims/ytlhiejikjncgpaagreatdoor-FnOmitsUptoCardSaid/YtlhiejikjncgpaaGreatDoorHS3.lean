/- Part of a proof that the program answers as the reference does: EFS3. -/
import Derived.Test.YtlhiejikjncgpaaGreatDoorHT
/- MADE BY PROGRAM (hgen.py): what the functions compute, over pure values. -/
set_option linter.unusedVariables false
set_option maxRecDepth 100000
namespace Go.H.Tryz
open Go Go.H
def b_spec_l04Check (a0 : PV) (st : St) (R : Res → St → Prop) : Prop :=
 qb (q_struct [.int .i64 0] []) fun v4 =>
 e_box st v4 fun v5 st =>
 qb (q_struct [.sl 0 true [], .nilp, .int .i64 0, .int .i64 0] [(0, 1, a0), (1, 1, v5)]) fun v6 =>
 e_box st v6 fun v7 st =>
 retR R v7 st
theorem c_spec_l04Check {a0 : PV} {st : St} {R : Res → St → Prop} (h : b_spec_l04Check a0 st R) : HCalls prog n_spec_l04Check [a0] st R :=
 hcalls_of_func tyOK mixed (fn := Go.Proofs.Tryz.f63) (by kernel_rfl) (by kernel_rfl) (by kernel_rfl) (ann := [])
  (show hFunc prog TT [] Go.Proofs.Tryz.f63 [a0] st R from (show hFunc prog TT [] Go.Proofs.Tryz.f63 [a0] st R = b_spec_l04Check a0 st R by kernel_rfl) ▸ h)
def b_spec_l04Run_family (a0 a1 a2 a3 : PV) (st : St) (R : Res → St → Prop) : Prop :=
 e_box st a2 fun v6 st =>
 qb (q_fa 0 v6) fun v12 =>
 qb (q_load st false 1 v12) fun v13 =>
 qb (q_bin .eql v13 (.int .i64 2)) fun v14 =>
 cb v14 fun b => br b
  (qb (q_fa 3 v6) fun v17 =>
  qb (q_load st false 1 v17) fun v18 =>
  qb (q_ia 4 v18 (.int .i64 0)) fun v19 =>
  qb (q_load st true 4 v19) fun v20 =>
  qb (q_bin .add a3 (.int .i64 1)) fun v22 =>
  callK prog n_spec_l04Run_family [a0, a1, v20, v22] st (fun v23 st =>
  cb v23 fun b_1 => br b_1
   (qb (q_fa 3 v6) fun v27 =>
   qb (q_load st false 1 v27) fun v28 =>
   qb (q_ia 4 v28 (.int .i64 0)) fun v29 =>
   qb (q_load st true 4 v29) fun v30 =>
   qb (q_fa 3 v6) fun v32 =>
   qb (q_load st false 1 v32) fun v33 =>
   qb (q_ia 4 v33 (.int .i64 1)) fun v34 =>
   qb (q_load st true 4 v34) fun v35 =>
   qb (q_bin .add a3 (.int .i64 1)) fun v37 =>
   qb (q_fa 3 v6) fun v38 =>
   qb (q_load st false 1 v38) fun v39 =>
   qb (q_ia 4 v39 (.int .i64 0)) fun v40 =>
   qb (q_load st true 4 v40) fun v41 =>
   callK prog n_spec_l04More [a1, v30] st (fun v31 st =>
   q_load st true 4 v40 = some v41 ∧ q_load st false 1 v38 = some v39 ∧ q_load st true 4 v34 = some v35 ∧ q_load st false 1 v32 = some v33 ∧ (callK prog n_spec_l01Size [v41] st (fun v42 st =>
   q_load st true 4 v34 = some v35 ∧ q_load st false 1 v32 = some v33 ∧ (qb (q_bin .add v37 v42) fun v43 =>
   callK prog n_spec_l04Run_family [a0, v31, v35, v43] st (fun v44 st =>
   retR R v44 st) (panR R))) (panR R))) (panR R))
   (retR R (.bool false) st)) (panR R))
  (qb (q_nil a0) fun v47 =>
  qb (q_fa 0 v47) fun v48 =>
  qb (q_load st false 1 v48) fun v49 =>
  qb (q_fa 2 v6) fun v50 =>
  qb (q_load st false 1 v50) fun v51 =>
  callK prog n_spec_l04Find [v49, v51] st (fun v52 st =>
  qb (q_bin .lss v52 (.int .i64 0)) fun v54 =>
  cb v54 fun b_2 => br b_2
   (callK prog n_spec_l04Run_fail [a0, (.int .i64 5), a3] st (fun v68 st =>
   retR R v68 st) (panR R))
   (qb (q_nil a0) fun v57 =>
   qb (q_fa 0 v57) fun v58 =>
   qb (q_load st false 1 v58) fun v59 =>
   qb (q_ia 6 v59 v52) fun v61 =>
   qb (q_fa 1 v61) fun v62 =>
   qb (q_load st false 1 v62) fun v63 =>
   qb (q_un .not v63) fun v64 =>
   cb v64 fun b_3 => br b_3
    (callK prog n_spec_l04Run_fail [a0, (.int .i64 5), a3] st (fun v68_1 st =>
    retR R v68_1 st) (panR R))
    (hJ (fun ls st =>
     qb (q_un .not (ls.getD 1 .junk)) fun v87 =>
     cb v87 fun b_4 => br b_4
      (retR R (.bool false) st)
      (qb (q_fa 0 (ls.getD 0 .junk)) fun v88 =>
      qb (q_load st false 1 v88) fun v89 =>
      qb (q_bin .neq v89 (.int .i64 1)) fun v90 =>
      cb v90 fun b_5 => br b_5
       (callK prog n_spec_l04Run_fail [a0, (.int .i64 8), a3] st (fun v93 st =>
       retR R v93 st) (panR R))
       (retR R (.bool true) st)))
     (fun k =>
    qb (q_nil a0) fun v73 =>
    qb (q_fa 0 v73) fun v74 =>
    qb (q_load st false 1 v74) fun v75 =>
    qb (q_ia 6 v75 v52) fun v77 =>
    qb (q_fa 2 v77) fun v78 =>
    qb (q_load st true 4 v78) fun v79 =>
    qb (q_fa 3 v6) fun v80 =>
    qb (q_load st false 1 v80) fun v81 =>
    (callK prog n_spec_l04Run_spine [a0, a1, v79, v81, a3] st (fun v83 st =>
    qb (q_ex v83 0) fun v84 =>
    qb (q_ex v83 1) fun v85 =>
    e_alloc st [.int .i64 0, .int .i64 0, .str [], .sl 0 true []] fun v10 st =>
    q_load st false 1 v80 = some v81 ∧ q_load st true 4 v78 = some v79 ∧ q_load st false 1 v74 = some v75 ∧ (e_store st 4 v10 v84 fun st =>
    k [v10, v85] st)) (panR R)) ∧
    (e_alloc st [.int .i64 0, .int .i64 0, .str [], .sl 0 true []] fun v10_1 st =>
    q_load st false 1 v80 = some v81 ∧ q_load st true 4 v78 = some v79 ∧ q_load st false 1 v74 = some v75 ∧ (callK prog n_spec_l04Run_spine [a0, a1, v79, v81, a3] st (fun v83_1 st =>
    qb (q_ex v83_1 0) fun v84_1 =>
    qb (q_ex v83_1 1) fun v85_1 =>
    e_store st 4 v10_1 v84_1 fun st =>
    k [v10_1, v85_1] st) (panR R))))))) (panR R))
theorem c_spec_l04Run_family {a0 a1 a2 a3 : PV} {st : St} {R : Res → St → Prop} (h : b_spec_l04Run_family a0 a1 a2 a3 st R) : HCalls prog n_spec_l04Run_family [a0, a1, a2, a3] st R :=
 hcalls_of_func tyOK mixed (fn := Go.Proofs.Tryz.f64) (by kernel_rfl) (by kernel_rfl) (by kernel_rfl) (ann := [(25, [10, 11])])
  (show hFunc prog TT [(25, [10, 11])] Go.Proofs.Tryz.f64 [a0, a1, a2, a3] st R from (show hFunc prog TT [(25, [10, 11])] Go.Proofs.Tryz.f64 [a0, a1, a2, a3] st R = b_spec_l04Run_family a0 a1 a2 a3 st R by kernel_rfl) ▸ h)
def b_spec_l04Run_term (a0 a1 a2 a3 a4 : PV) (st : St) (R : Res → St → Prop) : Prop :=
 e_box st a2 fun v7 st =>
 e_box st a3 fun v8 st =>
 qb (q_fa 0 v7) fun v13 =>
 qb (q_load st false 1 v13) fun v14 =>
 qb (q_bin .eql v14 (.int .i64 4)) fun v15 =>
 qb (q_fa 0 v8) fun v16 =>
 qb (q_load st false 1 v16) fun v17 =>
 qb (q_bin .eql v17 (.int .i64 2)) fun v18 =>
 qb (q_beq .neq v15 v18) fun v19 =>
 cb v19 fun b => br b
  (callK prog n_spec_l04Run_fail [a0, (.int .i64 9), a4] st (fun v22 st =>
  retR R v22 st) (panR R))
  (qb (q_fa 0 v7) fun v23 =>
  qb (q_load st false 1 v23) fun v24 =>
  qb (q_bin .eql v24 (.int .i64 4)) fun v25 =>
  cb v25 fun b_1 => br b_1
   (qb (q_fa 3 v8) fun v28 =>
   qb (q_load st false 1 v28) fun v29 =>
   qb (q_ia 4 v29 (.int .i64 0)) fun v30 =>
   qb (q_load st true 4 v30) fun v31 =>
   qb (q_fa 3 v7) fun v33 =>
   qb (q_load st false 1 v33) fun v34 =>
   qb (q_ia 4 v34 (.int .i64 0)) fun v35 =>
   qb (q_load st true 4 v35) fun v36 =>
   qb (q_fa 3 v8) fun v37 =>
   qb (q_load st false 1 v37) fun v38 =>
   qb (q_ia 4 v38 (.int .i64 1)) fun v39 =>
   qb (q_load st true 4 v39) fun v40 =>
   qb (q_bin .add a4 (.int .i64 1)) fun v42 =>
   callK prog n_spec_l04More [a1, v31] st (fun v32 st =>
   q_load st true 4 v39 = some v40 ∧ q_load st false 1 v37 = some v38 ∧ q_load st true 4 v35 = some v36 ∧ q_load st false 1 v33 = some v34 ∧ (callK prog n_spec_l04Run_term [a0, v32, v36, v40, v42] st (fun v43 st =>
   retR R v43 st) (panR R))) (panR R))
   (qb (q_load st true 4 v7) fun v47 =>
   callK prog n_spec_l04Run_synth [a0, a1, v47, a4] st (fun v49 st =>
   qb (q_ex v49 0) fun v50 =>
   qb (q_ex v49 1) fun v51 =>
   e_alloc st [.int .i64 0, .int .i64 0, .str [], .sl 0 true []] fun v11 st =>
   e_store st 4 v11 v50 fun st =>
   qb (q_un .not v51) fun v53 =>
   cb v53 fun b_2 => br b_2
    (retR R (.bool false) st)
    (qb (q_load st true 4 v8) fun v54 =>
    qb (q_load st true 4 v11) fun v55 =>
    callK prog n_spec_l01Same [v54, v55] st (fun v56 st =>
    qb (q_un .not v56) fun v57 =>
    cb v57 fun b_3 => br b_3
     (callK prog n_spec_l04Run_fail [a0, (.int .i64 10), a4] st (fun v60 st =>
     retR R v60 st) (panR R))
     (retR R (.bool true) st)) (panR R))) (panR R)))
theorem c_spec_l04Run_term {a0 a1 a2 a3 a4 : PV} {st : St} {R : Res → St → Prop} (h : b_spec_l04Run_term a0 a1 a2 a3 a4 st R) : HCalls prog n_spec_l04Run_term [a0, a1, a2, a3, a4] st R :=
 hcalls_of_func tyOK mixed (fn := Go.Proofs.Tryz.f65) (by kernel_rfl) (by kernel_rfl) (by kernel_rfl) (ann := [])
  (show hFunc prog TT [] Go.Proofs.Tryz.f65 [a0, a1, a2, a3, a4] st R from (show hFunc prog TT [] Go.Proofs.Tryz.f65 [a0, a1, a2, a3, a4] st R = b_spec_l04Run_term a0 a1 a2 a3 a4 st R by kernel_rfl) ▸ h)
def b_impl_stop (a0 a1 : PV) (st : St) (R : Res → St → Prop) : Prop :=
 qb (q_struct [.int .i64 0, .int .i64 0] [(0, 1, a0), (1, 1, a1)]) fun v6 =>
 qb (q_iface ty_impl_halt v6) fun v7 =>
 e_panic v7 st (panR R)
theorem c_impl_stop {a0 a1 : PV} {st : St} {R : Res → St → Prop} (h : b_impl_stop a0 a1 st R) : HCalls prog n_impl_stop [a0, a1] st R :=
 hcalls_of_func tyOK mixed (fn := Go.Proofs.Tryz.f68) (by kernel_rfl) (by kernel_rfl) (by kernel_rfl) (ann := [])
  (show hFunc prog TT [] Go.Proofs.Tryz.f68 [a0, a1] st R from (show hFunc prog TT [] Go.Proofs.Tryz.f68 [a0, a1] st R = b_impl_stop a0 a1 st R by kernel_rfl) ▸ h)
def b_impl_checker_found (a0 a1 a2 a3 : PV) (st : St) (R : Res → St → Prop) : Prop :=
 e_box st a2 fun v6 st =>
 e_alloc st [.int .i64 0, .int .i64 0, .str [], .sl 0 true []] fun v8 st =>
 hJ (fun ls st =>
  qb (q_fa 0 (ls.getD 0 .junk)) fun v22 =>
  qb (q_load st false 1 v22) fun v23 =>
  qb (q_bin .neq v23 (.int .i64 3)) fun v24 =>
  cb v24 fun b => br b
   (callK prog n_impl_stop [(.int .i64 8), a3] st (fun v26 st =>
   qb (q_load st true 4 (ls.getD 0 .junk)) fun v27 =>
   e_store st 4 v8 v27 fun st =>
   qb (q_load st true 4 v8) fun r => retR R r st) (panR R))
   (qb (q_load st true 4 (ls.getD 0 .junk)) fun v27_1 =>
   e_store st 4 v8 v27_1 fun st =>
   qb (q_load st true 4 v8) fun r_1 => retR R r_1 st))
  (fun k =>
 qb (q_fa 3 v6) fun v12 =>
 qb (q_load st false 1 v12) fun v13 =>
 qb (q_load st true 4 v6) fun v16 =>
 qb (q_bin .add a3 (.int .i64 1)) fun v20 =>
 (callK prog n_impl_checker_head [a0, a1, v16, a3] st (fun v18 st =>
 q_load st false 1 v12 = some v13 ∧ ((callK prog n_impl_checker_args [a0, a1, v13, v18, v20] st (fun v21 st =>
 e_alloc st [.int .i64 0, .int .i64 0, .str [], .sl 0 true []] fun v9 st =>
 q_load st true 4 v6 = some v16 ∧ q_load st false 1 v12 = some v13 ∧ (e_store st 4 v9 v21 fun st =>
 k [v9] st)) (panR R)) ∧
 (e_alloc st [.int .i64 0, .int .i64 0, .str [], .sl 0 true []] fun v9_1 st =>
 q_load st true 4 v6 = some v16 ∧ q_load st false 1 v12 = some v13 ∧ (callK prog n_impl_checker_args [a0, a1, v13, v18, v20] st (fun v21_1 st =>
 e_store st 4 v9_1 v21_1 fun st =>
 k [v9_1] st) (panR R))))) (panR R)) ∧
 (e_alloc st [.int .i64 0, .int .i64 0, .str [], .sl 0 true []] fun v9_2 st =>
 q_load st true 4 v6 = some v16 ∧ q_load st false 1 v12 = some v13 ∧ (callK prog n_impl_checker_head [a0, a1, v16, a3] st (fun v18_1 st =>
 q_load st false 1 v12 = some v13 ∧ (callK prog n_impl_checker_args [a0, a1, v13, v18_1, v20] st (fun v21_2 st =>
 e_store st 4 v9_2 v21_2 fun st =>
 k [v9_2] st) (panR R))) (panR R))))
theorem c_impl_checker_found {a0 a1 a2 a3 : PV} {st : St} {R : Res → St → Prop} (h : b_impl_checker_found a0 a1 a2 a3 st R) : HCalls prog n_impl_checker_found [a0, a1, a2, a3] st R :=
 hcalls_of_func tyOK mixed (fn := Go.Proofs.Tryz.f69) (by kernel_rfl) (by kernel_rfl) (by kernel_rfl) (ann := [(5, [9])])
  (show hFunc prog TT [(5, [9])] Go.Proofs.Tryz.f69 [a0, a1, a2, a3] st R from (show hFunc prog TT [(5, [9])] Go.Proofs.Tryz.f69 [a0, a1, a2, a3] st R = b_impl_checker_found a0 a1 a2 a3 st R by kernel_rfl) ▸ h)
def b_impl_clone (a0 : PV) (st : St) (R : Res → St → Prop) : Prop :=
 e_box st a0 fun v1 st =>
 e_alloc st [.int .i64 0, .int .i64 0, .str [], .sl 0 true []] fun v2 st =>
 qb (q_fa 3 v1) fun v3 =>
 qb (q_load st false 1 v3) fun v4 =>
 callK prog n_impl_cloneAll [v4] st (fun v5 st =>
 qb (q_fa 3 v1) fun v6 =>
 e_store st 1 v6 v5 fun st =>
 qb (q_load st true 4 v1) fun v7 =>
 e_store st 4 v2 v7 fun st =>
 qb (q_load st true 4 v2) fun r => retR R r st) (panR R)
theorem c_impl_clone {a0 : PV} {st : St} {R : Res → St → Prop} (h : b_impl_clone a0 st R) : HCalls prog n_impl_clone [a0] st R :=
 hcalls_of_func tyOK mixed (fn := Go.Proofs.Tryz.f70) (by kernel_rfl) (by kernel_rfl) (by kernel_rfl) (ann := [])
  (show hFunc prog TT [] Go.Proofs.Tryz.f70 [a0] st R from (show hFunc prog TT [] Go.Proofs.Tryz.f70 [a0] st R = b_impl_clone a0 st R by kernel_rfl) ▸ h)
def b_impl_longLists (a0 : PV) (st : St) (R : Res → St → Prop) : Prop :=
 callK prog n_slices_Max_int_int [a0] st (fun v4 st =>
 qb (q_bin .gtr v4 (.int .i64 4096)) fun v5 =>
 retR R v5 st) (panR R)
theorem c_impl_longLists {a0 : PV} {st : St} {R : Res → St → Prop} (h : b_impl_longLists a0 st R) : HCalls prog n_impl_longLists [a0] st R :=
 hcalls_of_func tyOK mixed (fn := Go.Proofs.Tryz.f71) (by kernel_rfl) (by kernel_rfl) (by kernel_rfl) (ann := [])
  (show hFunc prog TT [] Go.Proofs.Tryz.f71 [a0] st R from (show hFunc prog TT [] Go.Proofs.Tryz.f71 [a0] st R = b_impl_longLists a0 st R by kernel_rfl) ▸ h)
def b_impl_SigOK (a0 : PV) (st : St) (R : Res → St → Prop) : Prop :=
 qb (q_len a0) fun v6 =>
 qb (q_bin .gtr v6 (.int .i64 40)) fun v7 =>
 cb v7 fun b => br b
  (retR R (.bool false) st)
  (qb (q_len a0) fun v9 =>
  hFix (fun ls st X =>
   qb (q_bin .lss (ls.getD 0 .junk) v9) fun v11 =>
   cb v11 fun b_1 => br b_1
    (qb (q_ia 6 a0 (ls.getD 0 .junk)) fun v13 =>
    qb (q_load st true 6 v13) fun v14 =>
    e_alloc st [.str [], .bool false, .int .i64 0, .int .i64 0, .str [], .sl 0 true []] fun v4 st =>
    e_store st 6 v4 v14 fun st =>
    qb (q_load st true 6 v4) fun v15 =>
    callK prog n_impl_declForm [v15] st (fun v16 st =>
    qb (q_un .not v16) fun v17 =>
    cb v17 fun b_2 => br b_2
     (retR R (.bool false) st)
     (qb (q_sliceE 6 a0 none (some (ls.getD 0 .junk)) none) fun v21 =>
     qb (q_fa 0 v4) fun v22 =>
     qb (q_load st false 1 v22) fun v23 =>
     callK prog n_impl_has [v21, v23] st (fun v24 st =>
     cb v24 fun b_3 => br b_3
      (retR R (.bool false) st)
      (qb (q_sliceE 6 a0 none (some (ls.getD 0 .junk)) none) fun v29 =>
      qb (q_load st true 6 v4) fun v30 =>
      callK prog n_impl_declFault [v29, v30] st (fun v31 st =>
      qb (q_field false 1 0 v31) fun v32 =>
      qb (q_bin .neq v32 (.int .i64 0)) fun v33 =>
      cb v33 fun b_4 => br b_4
       (retR R (.bool false) st)
       (qb (q_bin .add (ls.getD 0 .junk) (.int .i64 1)) fun v35 =>
       X [v35] st)) (panR R))) (panR R))) (panR R))
    (retR R (.bool true) st))
   [(.int .i64 0)] st)
theorem c_impl_SigOK {a0 : PV} {st : St} {R : Res → St → Prop} (h : b_impl_SigOK a0 st R) : HCalls prog n_impl_SigOK [a0] st R :=
 hcalls_of_func tyOK mixed (fn := Go.Proofs.Tryz.f72) (by kernel_rfl) (by kernel_rfl) (by kernel_rfl) (ann := [(16, [10])])
  (show hFunc prog TT [(16, [10])] Go.Proofs.Tryz.f72 [a0] st R from (show hFunc prog TT [(16, [10])] Go.Proofs.Tryz.f72 [a0] st R = b_impl_SigOK a0 st R by kernel_rfl) ▸ h)
def b_impl_badTerm (a0 : PV) (st : St) (R : Res → St → Prop) : Prop :=
 e_box st a0 fun v1 st =>
 qb (q_load st true 4 v1) fun v3 =>
 callK prog n_impl_TermOK [v3] st (fun v4 st =>
 qb (q_un .not v4) fun v5 =>
 retR R v5 st) (panR R)
theorem c_impl_badTerm {a0 : PV} {st : St} {R : Res → St → Prop} (h : b_impl_badTerm a0 st R) : HCalls prog n_impl_badTerm [a0] st R :=
 hcalls_of_func tyOK mixed (fn := Go.Proofs.Tryz.f73) (by kernel_rfl) (by kernel_rfl) (by kernel_rfl) (ann := [])
  (show hFunc prog TT [] Go.Proofs.Tryz.f73 [a0] st R from (show hFunc prog TT [] Go.Proofs.Tryz.f73 [a0] st R = b_impl_badTerm a0 st R by kernel_rfl) ▸ h)
def b_impl_omittable (a0 : PV) (st : St) (R : Res → St → Prop) : Prop :=
 e_box st a0 fun v1 st =>
 qb (q_lit 4 0 0 [] []) fun v7 =>
 hFix (fun ls st X =>
  qb (q_fa 0 v1) fun v8 =>
  qb (q_load st false 1 v8) fun v9 =>
  qb (q_bin .eql v9 (.int .i64 2)) fun v10 =>
  cb v10 fun b => br b
   (qb (q_fa 3 v1) fun v12 =>
   qb (q_load st false 1 v12) fun v13 =>
   qb (q_ia 4 v13 (.int .i64 0)) fun v14 =>
   qb (q_load st true 4 v14) fun v15 =>
   qb (q_lit 4 1 0 [] [(0, v15)]) fun v16 =>
   qb (q_fa 3 v1) fun v18 =>
   qb (q_load st false 1 v18) fun v19 =>
   qb (q_ia 4 v19 (.int .i64 1)) fun v20 =>
   qb (q_load st true 4 v20) fun v21 =>
   e_append st 4 56 (ls.getD 0 .junk) v16 (fun v17 st =>
   q_load st true 4 v20 = some v21 ∧ q_load st false 1 v18 = some v19 ∧ (e_store st 4 v1 v21 fun st =>
   X [v17] st)))
   (qb (q_lit 1 0 0 [] []) fun v22 =>
   qb (q_len (ls.getD 0 .junk)) fun v24 =>
   hFix (fun ls_1 st X_1 =>
    qb (q_bin .lss (ls_1.getD 1 .junk) v24) fun v26 =>
    cb v26 fun b_1 => br b_1
     (qb (q_ia 4 (ls.getD 0 .junk) (ls_1.getD 1 .junk)) fun v28 =>
     qb (q_load st true 4 v28) fun v29 =>
     e_alloc st [.int .i64 0, .int .i64 0, .str [], .sl 0 true []] fun v6 st =>
     e_store st 4 v6 v29 fun st =>
     qb (q_fa 3 v1) fun v31 =>
     qb (q_load st false 1 v31) fun v32 =>
     qb (q_len (ls.getD 0 .junk)) fun v34 =>
     qb (q_bin .sub v34 (.int .i64 1)) fun v35 =>
     qb (q_bin .sub v35 (ls_1.getD 1 .junk)) fun v37 =>
     qb (q_load st true 4 v6) fun v39 =>
     callK prog n_impl_variable [v37, (.sl 0 true [])] st (fun v38 st =>
     q_load st true 4 v6 = some v39 ∧ q_load st false 1 v31 = some v32 ∧ (callK prog n_impl_erase [v39] st (fun v40 st =>
     q_load st false 1 v31 = some v32 ∧ (callK prog n_impl_longForm [v38, v40] st (fun v41 st =>
     q_load st false 1 v31 = some v32 ∧ (callK prog n_impl_tells [v32, v41] st (fun v42 st =>
     qb (q_lit 1 1 0 [] [(0, v42)]) fun v43 =>
     e_append st 1 1 (ls_1.getD 0 .junk) v43 (fun v44 st =>
     qb (q_bin .add (ls_1.getD 1 .junk) (.int .i64 1)) fun v45 =>
     X_1 [v44, v45] st)) (panR R))) (panR R))) (panR R))) (panR R))
     (retR R (ls_1.getD 0 .junk) st))
    [v22, (.int .i64 0)] st))
  [v7] st
theorem c_impl_omittable {a0 : PV} {st : St} {R : Res → St → Prop} (h : b_impl_omittable a0 st R) : HCalls prog n_impl_omittable [a0] st R :=
 hcalls_of_func tyOK mixed (fn := Go.Proofs.Tryz.f74) (by kernel_rfl) (by kernel_rfl) (by kernel_rfl) (ann := [(24, [4, 25]), (8, [3])])
  (show hFunc prog TT [(24, [4, 25]), (8, [3])] Go.Proofs.Tryz.f74 [a0] st R from (show hFunc prog TT [(24, [4, 25]), (8, [3])] Go.Proofs.Tryz.f74 [a0] st R = b_impl_omittable a0 st R by kernel_rfl) ▸ h)
def b_impl_omitter_term (a0 a1 : PV) (st : St) (R : Res → St → Prop) : Prop :=
 e_box st a1 fun v3 st =>
 e_alloc st [.int .i64 0, .int .i64 0, .str [], .sl 0 true []] fun v4 st =>
 qb (q_nil a0) fun v11 =>
 qb (q_fa 0 v11) fun v12 =>
 qb (q_load st false 1 v12) fun v13 =>
 qb (q_fa 2 v3) fun v14 =>
 qb (q_load st false 1 v14) fun v15 =>
 qb (q_lookup st .string (.sl 0 true []) false v13 v15) fun v16 =>
 qb (q_lit 4 0 0 [] []) fun v17 =>
 qb (q_fa 3 v3) fun v18 =>
 qb (q_load st false 1 v18) fun v19 =>
 qb (q_len v19) fun v20 =>
 hJ (fun ls st =>
  qb (q_fa 3 v3) fun v76 =>
  e_store st 1 v76 (ls.getD 0 .junk) fun st =>
  qb (q_load st true 4 v3) fun v77 =>
  e_store st 4 v4 v77 fun st =>
  qb (q_load st true 4 v4) fun r => retR R r st)
  (fun k =>
 hFix (fun ls_1 st X =>
  qb (q_bin .lss (ls_1.getD 1 .junk) v20) fun v22 =>
  cb v22 fun b => br b
   (qb (q_ia 4 v19 (ls_1.getD 1 .junk)) fun v24 =>
   qb (q_load st true 4 v24) fun v25 =>
   e_alloc st [.int .i64 0, .int .i64 0, .str [], .sl 0 true []] fun v8 st =>
   e_store st 4 v8 v25 fun st =>
   hJ (fun ls_2 st =>
    hJ (fun ls_3 st =>
     qb (q_load st true 4 v8) fun v70 =>
     callK prog n_impl_omitter_term [a0, v70] st (fun v71 st =>
     qb (q_lit 4 1 0 [] [(0, v71)]) fun v72 =>
     e_append st 4 56 (ls_3.getD 0 .junk) v72 (fun v73 st =>
     qb (q_bin .add (ls_1.getD 1 .junk) (.int .i64 1)) fun v74 =>
     X [v73, v74] st)) (panR R))
     (fun k_2 =>
    cb (ls_2.getD 0 .junk) fun b_1 => br b_1
     (qb (q_nil a0) fun v50 =>
     qb (q_fa 1 v50) fun v51 =>
     qb (q_load st false 1 v51) fun v52 =>
     qb (q_ia 1 v52 (.int .i64 0)) fun v53 =>
     qb (q_load st false 1 v53) fun v54 =>
     qb (q_nil a0) fun v57 =>
     qb (q_fa 1 v57) fun v58 =>
     qb (q_load st false 1 v58) fun v59 =>
     qb (q_sliceE 1 v59 (some (.int .i64 1)) none none) fun v60 =>
     qb (q_nil a0) fun v61 =>
     qb (q_fa 1 v61) fun v62 =>
     e_store st 1 v62 v60 fun st =>
     cb v54 fun b_2 => br b_2
      (qb (q_struct [.int .i64 0, .int .i64 0, .str [], .sl 0 true []] [(0, 1, (.int .i64 8))]) fun v65 =>
      qb (q_lit 4 1 0 [] [(0, v65)]) fun v66 =>
      e_append st 4 56 (ls_1.getD 0 .junk) v66 (fun v67 st =>
      qb (q_bin .add (ls_1.getD 1 .junk) (.int .i64 1)) fun v74_1 =>
      X [v67, v74_1] st))
      (k_2 [(ls_1.getD 0 .junk)] st))
     (k_2 [(ls_1.getD 0 .junk)] st)))
    (fun k_1 =>
   qb (q_fa 0 v3) fun v26 =>
   qb (q_load st false 1 v26) fun v27 =>
   qb (q_bin .eql v27 (.int .i64 6)) fun v28 =>
   cb v28 fun b_3 => br b_3
    (qb (q_len v16) fun v32 =>
    qb (q_bin .lss (ls_1.getD 1 .junk) v32) fun v33 =>
    cb v33 fun b_4 => br b_4
     (qb (q_ia 1 v16 (ls_1.getD 1 .junk)) fun v38 =>
     qb (q_load st false 1 v38) fun v39 =>
     cb v39 fun b_5 => br b_5
      (qb (q_nil a0) fun v43 =>
      qb (q_fa 1 v43) fun v44 =>
      qb (q_load st false 1 v44) fun v45 =>
      qb (q_len v45) fun v46 =>
      qb (q_bin .gtr v46 (.int .i64 0)) fun v47 =>
      k_1 [v47] st)
      (k_1 [(.bool false)] st))
     (k_1 [(.bool false)] st))
    (k_1 [(.bool false)] st)))
   (k [(ls_1.getD 0 .junk)] st))
  [v17, (.int .i64 0)] st)
theorem c_impl_omitter_term {a0 a1 : PV} {st : St} {R : Res → St → Prop} (h : b_impl_omitter_term a0 a1 st R) : HCalls prog n_impl_omitter_term [a0, a1] st R :=
 hcalls_of_func tyOK mixed (fn := Go.Proofs.Tryz.f75) (by kernel_rfl) (by kernel_rfl) (by kernel_rfl) (ann := [(12, [6, 21]), (3, [6]), (21, [48]), (26, [6])])
  (show hFunc prog TT [(12, [6, 21]), (3, [6]), (21, [48]), (26, [6])] Go.Proofs.Tryz.f75 [a0, a1] st R from (show hFunc prog TT [(12, [6, 21]), (3, [6]), (21, [48]), (26, [6])] Go.Proofs.Tryz.f75 [a0, a1] st R = b_impl_omitter_term a0 a1 st R by kernel_rfl) ▸ h)
def b_spec_l07Omitter_omit (a0 a1 : PV) (st : St) (R : Res → St → Prop) : Prop :=
 e_box st a1 fun v3 st =>
 e_alloc st [.int .i64 0, .int .i64 0, .str [], .sl 0 true []] fun v4 st =>
 qb (q_lit 1 0 0 [] []) fun v9 =>
 qb (q_nil a0) fun v11 =>
 qb (q_fa 0 v11) fun v12 =>
 qb (q_load st false 1 v12) fun v13 =>
 qb (q_fa 2 v3) fun v14 =>
 qb (q_load st false 1 v14) fun v15 =>
 callK prog n_spec_l04Find [v13, v15] st (fun v16 st =>
 hJ (fun ls st =>
  hJ (fun ls_1 st =>
   qb (q_lit 4 0 0 [] []) fun v44 =>
   hJ (fun ls_2 st =>
    qb (q_load st true 4 v3) fun v106 =>
    callK prog n_spec_l01With [v106, (ls_2.getD 0 .junk)] st (fun v108 st =>
    e_store st 4 v4 v108 fun st =>
    qb (q_load st true 4 v4) fun r => retR R r st) (panR R))
    (fun k_2 =>
   hFix (fun ls_3 st X =>
    qb (q_fa 3 v3) fun v46 =>
    qb (q_load st false 1 v46) fun v47 =>
    qb (q_len v47) fun v48 =>
    qb (q_bin .lss (ls_3.getD 1 .junk) v48) fun v49 =>
    cb v49 fun b_1 => br b_1
     (hJ (fun ls_4 st =>
      hJ (fun ls_5 st =>
       qb (q_fa 3 v3) fun v98 =>
       qb (q_load st false 1 v98) fun v99 =>
       qb (q_ia 4 v99 (ls_3.getD 1 .junk)) fun v101 =>
       qb (q_load st true 4 v101) fun v102 =>
       callK prog n_spec_l07Omitter_omit [a0, v102] st (fun v103 st =>
       qb (q_lit 4 1 0 [] [(0, v103)]) fun v104 =>
       e_append st 4 56 (ls_5.getD 0 .junk) v104 (fun v105 st =>
       qb (q_bin .add (ls_3.getD 1 .junk) (.int .i64 1)) fun v51 =>
       X [v105, v51] st)) (panR R))
       (fun k_4 =>
      cb (ls_4.getD 0 .junk) fun b_2 => br b_2
       (qb (q_nil a0) fun v63 =>
       qb (q_fa 2 v63) fun v64 =>
       qb (q_load st false 1 v64) fun v65 =>
       qb (q_bin .add v65 (.int .i64 1)) fun v66 =>
       qb (q_nil a0) fun v67 =>
       qb (q_fa 2 v67) fun v68 =>
       e_store st 1 v68 v66 fun st =>
       hJ (fun ls_6 st =>
        cb (ls_6.getD 0 .junk) fun b_3 => br b_3
         (qb (q_struct [.int .i64 0, .int .i64 0, .str [], .sl 0 true []] [(0, 1, (.int .i64 8))]) fun v93 =>
         qb (q_lit 4 1 0 [] [(0, v93)]) fun v94 =>
         e_append st 4 56 (ls_3.getD 0 .junk) v94 (fun v95 st =>
         qb (q_bin .add (ls_3.getD 1 .junk) (.int .i64 1)) fun v51_1 =>
         X [v95, v51_1] st))
         (k_4 [(ls_3.getD 0 .junk)] st))
        (fun k_5 =>
       qb (q_nil a0) fun v70 =>
       qb (q_fa 2 v70) fun v71 =>
       qb (q_load st false 1 v71) fun v72 =>
       qb (q_nil a0) fun v74 =>
       qb (q_fa 1 v74) fun v75 =>
       qb (q_load st false 1 v75) fun v76 =>
       qb (q_len v76) fun v77 =>
       qb (q_bin .leq v72 v77) fun v78 =>
       cb v78 fun b_4 => br b_4
        (qb (q_nil a0) fun v81 =>
        qb (q_fa 1 v81) fun v82 =>
        qb (q_load st false 1 v82) fun v83 =>
        qb (q_nil a0) fun v85 =>
        qb (q_fa 2 v85) fun v86 =>
        qb (q_load st false 1 v86) fun v87 =>
        qb (q_bin .sub v87 (.int .i64 1)) fun v88 =>
        qb (q_ia 1 v83 v88) fun v89 =>
        qb (q_load st false 1 v89) fun v90 =>
        k_5 [v90] st)
        (k_5 [(.bool false)] st)))
       (k_4 [(ls_3.getD 0 .junk)] st)))
      (fun k_3 =>
     qb (q_len (ls_1.getD 0 .junk)) fun v54 =>
     qb (q_bin .lss (ls_3.getD 1 .junk) v54) fun v55 =>
     cb v55 fun b_5 => br b_5
      (qb (q_ia 1 (ls_1.getD 0 .junk) (ls_3.getD 1 .junk)) fun v59 =>
      qb (q_load st false 1 v59) fun v60 =>
      k_3 [v60] st)
      (k_3 [(.bool false)] st)))
     (k_2 [(ls_3.getD 0 .junk)] st))
    [v44, (.int .i64 0)] st))
   (fun k_1 =>
  cb (ls.getD 0 .junk) fun b => br b
   (qb (q_nil a0) fun v36 =>
   qb (q_fa 0 v36) fun v37 =>
   qb (q_load st false 1 v37) fun v38 =>
   qb (q_ia 6 v38 v16) fun v40 =>
   qb (q_fa 2 v40) fun v41 =>
   qb (q_load st true 4 v41) fun v42 =>
   callK prog n_spec_l07Omittable [v42] st (fun v43 st =>
   k_1 [v43] st) (panR R))
   (k_1 [v9] st)))
  (fun k =>
 qb (q_fa 0 v3) fun v17 =>
 qb (q_load st false 1 v17) fun v18 =>
 qb (q_bin .eql v18 (.int .i64 6)) fun v19 =>
 cb v19 fun b_6 => br b_6
  (qb (q_bin .geq v16 (.int .i64 0)) fun v22 =>
  cb v22 fun b_7 => br b_7
   (qb (q_nil a0) fun v26 =>
   qb (q_fa 0 v26) fun v27 =>
   qb (q_load st false 1 v27) fun v28 =>
   qb (q_ia 6 v28 v16) fun v30 =>
   qb (q_fa 1 v30) fun v31 =>
   qb (q_load st false 1 v31) fun v32 =>
   qb (q_un .not v32) fun v33 =>
   k [v33] st)
   (k [(.bool false)] st))
  (k [(.bool false)] st))) (panR R)
theorem c_spec_l07Omitter_omit {a0 a1 : PV} {st : St} {R : Res → St → Prop} (h : b_spec_l07Omitter_omit a0 a1 st R) : HCalls prog n_spec_l07Omitter_omit [a0, a1] st R :=
 hcalls_of_func tyOK mixed (fn := Go.Proofs.Tryz.f76) (by kernel_rfl) (by kernel_rfl) (by kernel_rfl) (ann := [(28, [7, 8]), (3, [7]), (13, [34]), (18, [5]), (37, [61]), (42, [7]), (45, [91])])
  (show hFunc prog TT [(28, [7, 8]), (3, [7]), (13, [34]), (18, [5]), (37, [61]), (42, [7]), (45, [91])] Go.Proofs.Tryz.f76 [a0, a1] st R from (show hFunc prog TT [(28, [7, 8]), (3, [7]), (13, [34]), (18, [5]), (37, [61]), (42, [7]), (45, [91])] Go.Proofs.Tryz.f76 [a0, a1] st R = b_spec_l07Omitter_omit a0 a1 st R by kernel_rfl) ▸ h)
def b_impl_sourceTerm (a0 : PV) (st : St) (R : Res → St → Prop) : Prop :=
 e_box st a0 fun v1 st =>
 qb (q_struct [.int .i64 0, .bool false] [(0, 1, (.int .i64 150)), (1, 1, (.bool true))]) fun v3 =>
 e_box st v3 fun v4 st =>
 qb (q_load st true 4 v1) fun v5 =>
 callK prog n_impl_looker_term [v4, v5] st (fun v6 st =>
 retR R v6 st) (panR R)
theorem c_impl_sourceTerm {a0 : PV} {st : St} {R : Res → St → Prop} (h : b_impl_sourceTerm a0 st R) : HCalls prog n_impl_sourceTerm [a0] st R :=
 hcalls_of_func tyOK mixed (fn := Go.Proofs.Tryz.f77) (by kernel_rfl) (by kernel_rfl) (by kernel_rfl) (ann := [])
  (show hFunc prog TT [] Go.Proofs.Tryz.f77 [a0] st R from (show hFunc prog TT [] Go.Proofs.Tryz.f77 [a0] st R = b_impl_sourceTerm a0 st R by kernel_rfl) ▸ h)
def b_impl_Tree_each (a0 a1 a2 : PV) (st : St) (R : Res → St → Prop) : Prop :=
 e_call prog st a2 [a0, a1] (fun v11 st =>
 cb v11 fun b => br b
  (retR R (.bool true) st)
  (qb (q_nil a0) fun v13 =>
  qb (q_fa 3 v13) fun v14 =>
  qb (q_load st false 1 v14) fun v15 =>
  qb (q_len v15) fun v16 =>
  hFix (fun ls st X =>
   qb (q_bin .lss (ls.getD 0 .junk) v16) fun v18 =>
   cb v18 fun b_1 => br b_1
    (qb (q_nil a0) fun v21 =>
    qb (q_fa 3 v21) fun v22 =>
    qb (q_load st false 1 v22) fun v23 =>
    qb (q_ia 4 v23 (ls.getD 0 .junk)) fun v25 =>
    callK prog n_impl_Tree_under [a0, (ls.getD 0 .junk)] st (fun v29 st =>
    q_load st false 1 v22 = some v23 ∧ (qb (q_bin .add a1 v29) fun v30 =>
    callK prog n_impl_Tree_each [v25, v30, a2] st (fun v32 st =>
    cb v32 fun b_2 => br b_2
     (retR R (.bool true) st)
     (qb (q_bin .add (ls.getD 0 .junk) (.int .i64 1)) fun v33 =>
     X [v33] st)) (panR R))) (panR R))
    (retR R (.bool false) st))
   [(.int .i64 0)] st)) (panR R)
theorem c_impl_Tree_each {a0 a1 a2 : PV} {st : St} {R : Res → St → Prop} (h : b_impl_Tree_each a0 a1 a2 st R) : HCalls prog n_impl_Tree_each [a0, a1, a2] st R :=
 hcalls_of_func tyOK mixed (fn := Go.Proofs.Tryz.f78) (by kernel_rfl) (by kernel_rfl) (by kernel_rfl) (ann := [(16, [17])])
  (show hFunc prog TT [(16, [17])] Go.Proofs.Tryz.f78 [a0, a1, a2] st R from (show hFunc prog TT [(16, [17])] Go.Proofs.Tryz.f78 [a0, a1, a2] st R = b_impl_Tree_each a0 a1 a2 st R by kernel_rfl) ▸ h)
def b_impl_SourceOK_1 (a0 a1 : PV) (st : St) (R : Res → St → Prop) : Prop :=
 qb (q_nil a0) fun v6 =>
 qb (q_fa 0 v6) fun v7 =>
 qb (q_load st false 1 v7) fun v8 =>
 qb (q_bin .eql v8 (.int .i64 7)) fun v9 =>
 retR R v9 st
theorem c_impl_SourceOK_1 {a0 a1 : PV} {st : St} {R : Res → St → Prop} (h : b_impl_SourceOK_1 a0 a1 st R) : HCalls prog n_impl_SourceOK_1 [a0, a1] st R :=
 hcalls_of_func tyOK mixed (fn := Go.Proofs.Tryz.f79) (by kernel_rfl) (by kernel_rfl) (by kernel_rfl) (ann := [])
  (show hFunc prog TT [] Go.Proofs.Tryz.f79 [a0, a1] st R from (show hFunc prog TT [] Go.Proofs.Tryz.f79 [a0, a1] st R = b_impl_SourceOK_1 a0 a1 st R by kernel_rfl) ▸ h)
def b_impl_longText (a0 : PV) (st : St) (R : Res → St → Prop) : Prop :=
 qb (q_lenS a0) fun v4 =>
 qb (q_bin .gtr v4 (.int .i64 65536)) fun v5 =>
 retR R v5 st
theorem c_impl_longText {a0 : PV} {st : St} {R : Res → St → Prop} (h : b_impl_longText a0 st R) : HCalls prog n_impl_longText [a0] st R :=
 hcalls_of_func tyOK mixed (fn := Go.Proofs.Tryz.f80) (by kernel_rfl) (by kernel_rfl) (by kernel_rfl) (ann := [])
  (show hFunc prog TT [] Go.Proofs.Tryz.f80 [a0] st R from (show hFunc prog TT [] Go.Proofs.Tryz.f80 [a0] st R = b_impl_longText a0 st R by kernel_rfl) ▸ h)
end Go.H.Tryz
