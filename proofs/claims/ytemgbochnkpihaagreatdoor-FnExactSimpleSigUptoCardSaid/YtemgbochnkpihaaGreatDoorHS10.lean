/- Part of a proof that the program answers as the reference does: FS10. -/
import Derived.Test.YtemgbochnkpihaaGreatDoorHT
/- MADE BY PROGRAM (hgen.py): what the functions compute, over pure values. -/
set_option linter.unusedVariables false
set_option maxRecDepth 100000
namespace Go.H.Tryz
open Go Go.H
def b_impl_behind (a0 a1 : PV) (st : St) (R : Res → St → Prop) : Prop :=
 e_box st a1 fun v3 st =>
 qb (q_load st true 4 v3) fun v7 =>
 qb (q_lit 4 1 0 [] [(0, v7)]) fun v8 =>
 callK prog n_slices_Clip_impl_Tree_impl_Tree [a0] st (fun v6 st =>
 q_load st true 4 v3 = some v7 ∧ (e_append st 4 56 v6 v8 (fun v9 st =>
 retR R v9 st))) (panR R)
theorem c_impl_behind {a0 a1 : PV} {st : St} {R : Res → St → Prop} (h : b_impl_behind a0 a1 st R) : HCalls prog n_impl_behind [a0, a1] st R :=
 hcalls_of_func tyOK mixed (fn := Go.Proofs.Tryz.f207) (by kernel_rfl) (by kernel_rfl) (by kernel_rfl) (ann := [])
  (show hFunc prog TT [] Go.Proofs.Tryz.f207 [a0, a1] st R from (show hFunc prog TT [] Go.Proofs.Tryz.f207 [a0, a1] st R = b_impl_behind a0 a1 st R by kernel_rfl) ▸ h)
def b_impl_checker_declared (a0 a1 a2 : PV) (st : St) (R : Res → St → Prop) : Prop :=
 e_box st a1 fun v4 st =>
 e_box st a2 fun v5 st =>
 e_alloc st [.int .i64 0, .int .i64 0, .str [], .sl 0 true []] fun v6 st =>
 qb (q_nil a0) fun v10 =>
 qb (q_fa 1 v10) fun v11 =>
 qb (q_load st false 1 v11) fun v12 =>
 callK prog n_slices_IndexFunc_impl_Decl_impl_Decl [v12, (.fn (.func n_impl_checker_declared_1) [] [v4, v5])] st (fun v14 st =>
 qb (q_bin .lss v14 (.int .i64 0)) fun v16 =>
 cb v16 fun b => br b
  (qb (q_struct [.int .i64 0, .int .i64 0, .str [], .sl 0 true []] []) fun v17 =>
  e_store st 4 v6 v17 fun st =>
  qb (q_load st true 4 v6) fun r => retR R (.tup [r, (.bool false)]) st)
  (qb (q_nil a0) fun v19 =>
  qb (q_fa 1 v19) fun v20 =>
  qb (q_load st false 1 v20) fun v21 =>
  qb (q_ia 6 v21 v14) fun v23 =>
  qb (q_fa 2 v23) fun v24 =>
  qb (q_load st true 4 v24) fun v25 =>
  e_store st 4 v6 v25 fun st =>
  qb (q_load st true 4 v6) fun r_1 => retR R (.tup [r_1, (.bool true)]) st)) (panR R)
theorem c_impl_checker_declared {a0 a1 a2 : PV} {st : St} {R : Res → St → Prop} (h : b_impl_checker_declared a0 a1 a2 st R) : HCalls prog n_impl_checker_declared [a0, a1, a2] st R :=
 hcalls_of_func tyOK mixed (fn := Go.Proofs.Tryz.f209) (by kernel_rfl) (by kernel_rfl) (by kernel_rfl) (ann := [])
  (show hFunc prog TT [] Go.Proofs.Tryz.f209 [a0, a1, a2] st R from (show hFunc prog TT [] Go.Proofs.Tryz.f209 [a0, a1, a2] st R = b_impl_checker_declared a0 a1 a2 st R by kernel_rfl) ▸ h)
def b_impl_checker_args (a0 a1 a2 a3 a4 : PV) (st : St) (R : Res → St → Prop) : Prop :=
 e_box st a3 fun v8 st =>
 e_alloc st [.int .i64 0, .int .i64 0, .str [], .sl 0 true []] fun v10 st =>
 qb (q_len a2) fun v14 =>
 hFix (fun ls st X =>
  qb (q_bin .lss (ls.getD 1 .junk) v14) fun v16 =>
  cb v16 fun b => br b
   (qb (q_ia 4 a2 (ls.getD 1 .junk)) fun v17 =>
   qb (q_load st true 4 v17) fun v18 =>
   e_alloc st [.int .i64 0, .int .i64 0, .str [], .sl 0 true []] fun v12 st =>
   e_store st 4 v12 v18 fun st =>
   qb (q_fa 0 v8) fun v19 =>
   qb (q_load st false 1 v19) fun v20 =>
   qb (q_bin .neq v20 (.int .i64 2)) fun v21 =>
   hJ (fun ls_1 st =>
    qb (q_load st true 4 v12) fun v26 =>
    qb (q_fa 3 v8) fun v27 =>
    qb (q_load st false 1 v27) fun v28 =>
    qb (q_ia 4 v28 (.int .i64 0)) fun v29 =>
    qb (q_load st true 4 v29) fun v30 =>
    callK prog n_impl_checker_term [a0, a1, v26, v30, (ls.getD 0 .junk)] st (fun v32 st =>
    qb (q_load st true 4 v12) fun v34 =>
    qb (q_load st true 4 v8) fun v35 =>
    callK prog n_impl_checker_left [a0, v34, v35, (ls.getD 0 .junk)] st (fun v37 st =>
    e_store st 4 v8 v37 fun st =>
    qb (q_load st true 4 v12) fun v39 =>
    callK prog n_impl_Size [v39] st (fun v40 st =>
    qb (q_bin .add (ls.getD 0 .junk) v40) fun v41 =>
    qb (q_bin .add (ls.getD 1 .junk) (.int .i64 1)) fun v42 =>
    X [v41, v42] st) (panR R)) (panR R)) (panR R))
    (fun k =>
   cb v21 fun b_1 => br b_1
    (callK prog n_impl_stop [(.int .i64 8), (ls.getD 0 .junk)] st (fun v23 st =>
    k [] st) (panR R))
    (k [] st)))
   (qb (q_load st true 4 v8) fun v43 =>
   e_store st 4 v10 v43 fun st =>
   qb (q_load st true 4 v10) fun r => retR R r st))
  [a4, (.int .i64 0)] st
theorem c_impl_checker_args {a0 a1 a2 a3 a4 : PV} {st : St} {R : Res → St → Prop} (h : b_impl_checker_args a0 a1 a2 a3 a4 st R) : HCalls prog n_impl_checker_args [a0, a1, a2, a3, a4] st R :=
 hcalls_of_func tyOK mixed (fn := Go.Proofs.Tryz.f210) (by kernel_rfl) (by kernel_rfl) (by kernel_rfl) (ann := [(8, [4, 15]), (22, [])])
  (show hFunc prog TT [(8, [4, 15]), (22, [])] Go.Proofs.Tryz.f210 [a0, a1, a2, a3, a4] st R from (show hFunc prog TT [(8, [4, 15]), (22, [])] Go.Proofs.Tryz.f210 [a0, a1, a2, a3, a4] st R = b_impl_checker_args a0 a1 a2 a3 a4 st R by kernel_rfl) ▸ h)
def b_impl_Tree_under (a0 a1 : PV) (st : St) (R : Res → St → Prop) : Prop :=
 callK prog n_impl_Tree_binds [a0, a1] st (fun v7 st =>
 cb v7 fun b => br b
  (retR R (.int .i64 1) st)
  (retR R (.int .i64 0) st)) (panR R)
theorem c_impl_Tree_under {a0 a1 : PV} {st : St} {R : Res → St → Prop} (h : b_impl_Tree_under a0 a1 st R) : HCalls prog n_impl_Tree_under [a0, a1] st R :=
 hcalls_of_func tyOK mixed (fn := Go.Proofs.Tryz.f211) (by kernel_rfl) (by kernel_rfl) (by kernel_rfl) (ann := [])
  (show hFunc prog TT [] Go.Proofs.Tryz.f211 [a0, a1] st R from (show hFunc prog TT [] Go.Proofs.Tryz.f211 [a0, a1] st R = b_impl_Tree_under a0 a1 st R by kernel_rfl) ▸ h)
def b_spec_l01Binds (a0 a1 : PV) (st : St) (R : Res → St → Prop) : Prop :=
 e_box st a0 fun v2 st =>
 qb (q_fa 0 v2) fun v5 =>
 qb (q_load st false 1 v5) fun v6 =>
 qb (q_bin .eql v6 (.int .i64 4)) fun v7 =>
 cb v7 fun b => br b
  (retR R (.bool true) st)
  (qb (q_fa 0 v2) fun v9 =>
  qb (q_load st false 1 v9) fun v10 =>
  qb (q_bin .eql v10 (.int .i64 2)) fun v11 =>
  cb v11 fun b_1 => br b_1
   (qb (q_bin .eql a1 (.int .i64 1)) fun v14 =>
   retR R v14 st)
   (retR R (.bool false) st))
theorem c_spec_l01Binds {a0 a1 : PV} {st : St} {R : Res → St → Prop} (h : b_spec_l01Binds a0 a1 st R) : HCalls prog n_spec_l01Binds [a0, a1] st R :=
 hcalls_of_func tyOK mixed (fn := Go.Proofs.Tryz.f216) (by kernel_rfl) (by kernel_rfl) (by kernel_rfl) (ann := [])
  (show hFunc prog TT [] Go.Proofs.Tryz.f216 [a0, a1] st R from (show hFunc prog TT [] Go.Proofs.Tryz.f216 [a0, a1] st R = b_spec_l01Binds a0 a1 st R by kernel_rfl) ▸ h)
def b_spec_l01Term (a0 a1 : PV) (st : St) (R : Res → St → Prop) : Prop :=
 e_box st a0 fun v2 st =>
 qb (q_fa 0 v2) fun v5 =>
 qb (q_load st false 1 v5) fun v6 =>
 qb (q_bin .eql v6 (.int .i64 4)) fun v8 =>
 cb v8 fun b => br b
  (qb (q_fa 1 v2) fun v9 =>
  qb (q_load st false 1 v9) fun v10 =>
  qb (q_bin .eql v10 (.int .i64 0)) fun v11 =>
  cb v11 fun b_1 => br b_1
   (qb (q_fa 2 v2) fun v13 =>
   qb (q_load st false 1 v13) fun v14 =>
   qb (q_bin .eql v14 (.str [])) fun v15 =>
   cb v15 fun b_2 => br b_2
    (qb (q_fa 3 v2) fun v18 =>
    qb (q_load st false 1 v18) fun v19 =>
    qb (q_len v19) fun v20 =>
    qb (q_bin .eql v20 (.int .i64 1)) fun v21 =>
    cb v21 fun b_3 => br b_3
     (qb (q_fa 3 v2) fun v24 =>
     qb (q_load st false 1 v24) fun v25 =>
     qb (q_ia 4 v25 (.int .i64 0)) fun v26 =>
     qb (q_load st true 4 v26) fun v27 =>
     callK prog n_spec_l01Term [v27, a1] st (fun v29 st =>
     retR R v29 st) (panR R))
     (retR R (.bool false) st))
    (retR R (.bool false) st))
   (retR R (.bool false) st))
  (qb (q_bin .eql v6 (.int .i64 5)) fun v32 =>
  hJ (fun ls st =>
   cb (ls.getD 0 .junk) fun b_5 => br b_5
    (qb (q_fa 1 v2) fun v34 =>
    qb (q_load st false 1 v34) fun v35 =>
    qb (q_bin .geq v35 (.int .i64 0)) fun v36 =>
    cb v36 fun b_6 => br b_6
     (qb (q_fa 1 v2) fun v38 =>
     qb (q_load st false 1 v38) fun v39 =>
     qb (q_bin .leq v39 (.int .i64 100)) fun v40 =>
     cb v40 fun b_7 => br b_7
      (qb (q_fa 2 v2) fun v43 =>
      qb (q_load st false 1 v43) fun v44 =>
      qb (q_bin .eql v44 (.str [])) fun v45 =>
      cb v45 fun b_8 => br b_8
       (qb (q_fa 3 v2) fun v48 =>
       qb (q_load st false 1 v48) fun v49 =>
       callK prog n_spec_l01Terms [v49, a1] st (fun v51 st =>
       retR R v51 st) (panR R))
       (retR R (.bool false) st))
      (retR R (.bool false) st))
     (retR R (.bool false) st))
    (qb (q_bin .eql v6 (.int .i64 6)) fun v54 =>
    cb v54 fun b_9 => br b_9
     (qb (q_fa 1 v2) fun v55 =>
     qb (q_load st false 1 v55) fun v56 =>
     qb (q_bin .eql v56 (.int .i64 0)) fun v57 =>
     cb v57 fun b_10 => br b_10
      (qb (q_fa 2 v2) fun v59 =>
      qb (q_load st false 1 v59) fun v60 =>
      callK prog n_spec_NameOK [v60] st (fun v61 st =>
      cb v61 fun b_11 => br b_11
       (qb (q_fa 3 v2) fun v64 =>
       qb (q_load st false 1 v64) fun v65 =>
       callK prog n_spec_l01Terms [v65, a1] st (fun v67 st =>
       retR R v67 st) (panR R))
       (retR R (.bool false) st)) (panR R))
      (retR R (.bool false) st))
     (retR R (.bool false) st)))
   (fun k =>
  cb v32 fun b_4 => br b_4
   (k [v32] st)
   (qb (q_bin .eql v6 (.int .i64 7)) fun v33 =>
   k [v33] st)))
theorem e_spec_l01Term : Enters prog n_spec_l01Term := ⟨Go.Proofs.Tryz.f220, by kernel_rfl, by kernel_rfl, by kernel_rfl⟩
theorem c_spec_l01Term {a0 a1 : PV} {st : St} {R : Res → St → Prop} (h : b_spec_l01Term a0 a1 st R) : HCalls prog n_spec_l01Term [a0, a1] st R :=
 hcalls_of_func tyOK mixed (fn := Go.Proofs.Tryz.f220) (by kernel_rfl) (by kernel_rfl) (by kernel_rfl) (ann := [(22, [31])])
  (show hFunc prog TT [(22, [31])] Go.Proofs.Tryz.f220 [a0, a1] st R from (show hFunc prog TT [(22, [31])] Go.Proofs.Tryz.f220 [a0, a1] st R = b_spec_l01Term a0 a1 st R by kernel_rfl) ▸ h)
def b_spec_l01Count (a0 a1 : PV) (st : St) (R : Res → St → Prop) : Prop :=
 e_box st a0 fun v2 st =>
 qb (q_bin .sub a1 (.int .i64 1)) fun v7 =>
 hFix (fun ls st X =>
  hJ (fun ls_1 st =>
   cb (ls_1.getD 0 .junk) fun b => br b
    (qb (q_fa 3 v2) fun v19 =>
    qb (q_load st false 1 v19) fun v20 =>
    qb (q_ia 4 v20 (ls.getD 1 .junk)) fun v22 =>
    qb (q_load st true 4 v22) fun v23 =>
    callK prog n_spec_l01Count [v23, (ls.getD 0 .junk)] st (fun v25 st =>
    qb (q_bin .add (ls.getD 1 .junk) (.int .i64 1)) fun v18 =>
    X [v25, v18] st) (panR R))
    (retR R (ls.getD 0 .junk) st))
   (fun k =>
  qb (q_fa 3 v2) fun v9 =>
  qb (q_load st false 1 v9) fun v10 =>
  qb (q_len v10) fun v11 =>
  qb (q_bin .lss (ls.getD 1 .junk) v11) fun v12 =>
  cb v12 fun b_1 => br b_1
   (qb (q_bin .geq (ls.getD 0 .junk) (.int .i64 0)) fun v15 =>
   k [v15] st)
   (k [(.bool false)] st)))
  [v7, (.int .i64 0)] st
theorem e_spec_l01Count : Enters prog n_spec_l01Count := ⟨Go.Proofs.Tryz.f221, by kernel_rfl, by kernel_rfl, by kernel_rfl⟩
theorem c_spec_l01Count {a0 a1 : PV} {st : St} {R : Res → St → Prop} (h : b_spec_l01Count a0 a1 st R) : HCalls prog n_spec_l01Count [a0, a1] st R :=
 hcalls_of_func tyOK mixed (fn := Go.Proofs.Tryz.f221) (by kernel_rfl) (by kernel_rfl) (by kernel_rfl) (ann := [(12, [1, 5]), (13, [16])])
  (show hFunc prog TT [(12, [1, 5]), (13, [16])] Go.Proofs.Tryz.f221 [a0, a1] st R from (show hFunc prog TT [(12, [1, 5]), (13, [16])] Go.Proofs.Tryz.f221 [a0, a1] st R = b_spec_l01Count a0 a1 st R by kernel_rfl) ▸ h)
def b_spec_l04Run_term (a0 a1 a2 a3 a4 : PV) (st : St) (R : Res → St → Prop) : Prop :=
 e_box st a2 fun v7 st =>
 e_box st a3 fun v8 st =>
 qb (q_fa 0 v7) fun v13 =>
 qb (q_load st false 1 v13) fun v14 =>
 qb (q_bin .eql v14 (.int .i64 4)) fun v15 =>
 qb (q_fa 0 v8) fun v16 =>
 qb (q_load st false 1 v16) fun v17 =>
 qb (q_bin .eql v17 (.int .i64 2)) fun v18 =>
 qb (q_beq .neq v15 v18) fun v19 =>
 cb v19 fun b => br b
  (callK prog n_spec_l04Run_fail [a0, (.int .i64 9), a4] st (fun v22 st =>
  retR R v22 st) (panR R))
  (qb (q_fa 0 v7) fun v23 =>
  qb (q_load st false 1 v23) fun v24 =>
  qb (q_bin .eql v24 (.int .i64 4)) fun v25 =>
  cb v25 fun b_1 => br b_1
   (qb (q_fa 3 v8) fun v28 =>
   qb (q_load st false 1 v28) fun v29 =>
   qb (q_ia 4 v29 (.int .i64 0)) fun v30 =>
   qb (q_load st true 4 v30) fun v31 =>
   qb (q_fa 3 v7) fun v33 =>
   qb (q_load st false 1 v33) fun v34 =>
   qb (q_ia 4 v34 (.int .i64 0)) fun v35 =>
   qb (q_load st true 4 v35) fun v36 =>
   qb (q_fa 3 v8) fun v37 =>
   qb (q_load st false 1 v37) fun v38 =>
   qb (q_ia 4 v38 (.int .i64 1)) fun v39 =>
   qb (q_load st true 4 v39) fun v40 =>
   qb (q_bin .add a4 (.int .i64 1)) fun v42 =>
   callK prog n_spec_l04More [a1, v31] st (fun v32 st =>
   q_load st true 4 v39 = some v40 ∧ q_load st false 1 v37 = some v38 ∧ q_load st true 4 v35 = some v36 ∧ q_load st false 1 v33 = some v34 ∧ (callK prog n_spec_l04Run_term [a0, v32, v36, v40, v42] st (fun v43 st =>
   retR R v43 st) (panR R))) (panR R))
   (qb (q_load st true 4 v7) fun v47 =>
   callK prog n_spec_l04Run_synth [a0, a1, v47, a4] st (fun v49 st =>
   qb (q_ex v49 0) fun v50 =>
   qb (q_ex v49 1) fun v51 =>
   e_alloc st [.int .i64 0, .int .i64 0, .str [], .sl 0 true []] fun v11 st =>
   e_store st 4 v11 v50 fun st =>
   qb (q_un .not v51) fun v53 =>
   cb v53 fun b_2 => br b_2
    (retR R (.bool false) st)
    (qb (q_load st true 4 v8) fun v54 =>
    qb (q_load st true 4 v11) fun v55 =>
    callK prog n_spec_l01Same [v54, v55] st (fun v56 st =>
    qb (q_un .not v56) fun v57 =>
    cb v57 fun b_3 => br b_3
     (callK prog n_spec_l04Run_fail [a0, (.int .i64 10), a4] st (fun v60 st =>
     retR R v60 st) (panR R))
     (retR R (.bool true) st)) (panR R))) (panR R)))
theorem c_spec_l04Run_term {a0 a1 a2 a3 a4 : PV} {st : St} {R : Res → St → Prop} (h : b_spec_l04Run_term a0 a1 a2 a3 a4 st R) : HCalls prog n_spec_l04Run_term [a0, a1, a2, a3, a4] st R :=
 hcalls_of_func tyOK mixed (fn := Go.Proofs.Tryz.f222) (by kernel_rfl) (by kernel_rfl) (by kernel_rfl) (ann := [])
  (show hFunc prog TT [] Go.Proofs.Tryz.f222 [a0, a1, a2, a3, a4] st R from (show hFunc prog TT [] Go.Proofs.Tryz.f222 [a0, a1, a2, a3, a4] st R = b_spec_l04Run_term a0 a1 a2 a3 a4 st R by kernel_rfl) ▸ h)
def b_spec_l03Run_sub (a0 a1 a2 a3 a4 : PV) (st : St) (R : Res → St → Prop) : Prop :=
 e_box st a1 fun v6 st =>
 e_box st a2 fun v7 st =>
 e_box st a3 fun v8 st =>
 e_alloc st [.int .i64 0, .int .i64 0, .str [], .sl 0 true []] fun v10 st =>
 qb (q_lit 4 0 0 [] []) fun v18 =>
 hJ (fun ls st =>
  hJ (fun ls_1 st =>
   cb (ls_1.getD 0 .junk) fun b => br b
    (qb (q_load st true 4 v6) fun v60 =>
    callK prog n_spec_l01Lift [v60, (.int .i64 0), a4] st (fun v62 st =>
    e_alloc st [.int .i64 0, .int .i64 0, .str [], .sl 0 true []] fun v16 st =>
    e_store st 4 v16 v62 fun st =>
    qb (q_load st true 4 v16) fun v63 =>
    callK prog n_spec_l03Big [v63] st (fun v64 st =>
    cb v64 fun b_1 => br b_1
     (qb (q_struct [.int .i64 0, .int .i64 0, .str [], .sl 0 true []] []) fun v65 =>
     e_store st 4 v10 v65 fun st =>
     qb (q_load st true 4 v10) fun r => retR R (.tup [r, (.int .i64 11)]) st)
     (qb (q_load st true 4 v16) fun v67 =>
     qb (q_load st true 4 v7) fun v68 =>
     callK prog n_spec_l03Run_reduce [a0, v67, v68, (ls.getD 0 .junk)] st (fun v70 st =>
     qb (q_ex v70 0) fun v71 =>
     qb (q_ex v70 1) fun v72 =>
     e_store st 4 v10 v71 fun st =>
     qb (q_load st true 4 v10) fun r_1 => retR R (.tup [r_1, v72]) st) (panR R))) (panR R)) (panR R))
    (qb (q_load st true 4 v8) fun v73 =>
    callK prog n_spec_l01With [v73, (ls.getD 0 .junk)] st (fun v75 st =>
    e_alloc st [.int .i64 0, .int .i64 0, .str [], .sl 0 true []] fun v17 st =>
    e_store st 4 v17 v75 fun st =>
    hJ (fun ls_2 st =>
     hJ (fun ls_3 st =>
      qb (q_load st true 4 v17) fun v89 =>
      callK prog n_spec_l03Big [v89] st (fun v90 st =>
      cb v90 fun b_3 => br b_3
       (qb (q_struct [.int .i64 0, .int .i64 0, .str [], .sl 0 true []] []) fun v91 =>
       e_store st 4 v10 v91 fun st =>
       qb (q_load st true 4 v10) fun r_2 => retR R (.tup [r_2, (.int .i64 11)]) st)
       (qb (q_load st true 4 v17) fun v92 =>
       e_store st 4 v10 v92 fun st =>
       qb (q_load st true 4 v10) fun r_3 => retR R (.tup [r_3, (.int .i64 0)]) st)) (panR R))
      (fun k_3 =>
     cb (ls_2.getD 0 .junk) fun b_2 => br b_2
      (qb (q_fa 1 v17) fun v85 =>
      qb (q_load st false 1 v85) fun v86 =>
      qb (q_bin .sub v86 (.int .i64 1)) fun v87 =>
      qb (q_fa 1 v17) fun v88 =>
      e_store st 1 v88 v87 fun st =>
      k_3 [] st)
      (k_3 [] st)))
     (fun k_2 =>
    qb (q_fa 0 v8) fun v76 =>
    qb (q_load st false 1 v76) fun v77 =>
    qb (q_bin .eql v77 (.int .i64 5)) fun v78 =>
    cb v78 fun b_4 => br b_4
     (qb (q_fa 1 v8) fun v80 =>
     qb (q_load st false 1 v80) fun v81 =>
     qb (q_bin .gtr v81 a4) fun v83 =>
     k_2 [v83] st)
     (k_2 [(.bool false)] st))) (panR R)))
   (fun k_1 =>
  qb (q_fa 0 v8) fun v51 =>
  qb (q_load st false 1 v51) fun v52 =>
  qb (q_bin .eql v52 (.int .i64 5)) fun v53 =>
  cb v53 fun b_5 => br b_5
   (qb (q_fa 1 v8) fun v55 =>
   qb (q_load st false 1 v55) fun v56 =>
   qb (q_bin .eql v56 a4) fun v58 =>
   k_1 [v58] st)
   (k_1 [(.bool false)] st)))
  (fun k =>
 hFix (fun ls_4 st X =>
  qb (q_fa 3 v8) fun v20 =>
  qb (q_load st false 1 v20) fun v21 =>
  qb (q_len v21) fun v22 =>
  qb (q_bin .lss (ls_4.getD 1 .junk) v22) fun v23 =>
  cb v23 fun b_6 => br b_6
   (hJ (fun ls_5 st =>
    qb (q_bin .neq (ls_5.getD 1 .junk) (.int .i64 0)) fun v44 =>
    cb v44 fun b_7 => br b_7
     (qb (q_struct [.int .i64 0, .int .i64 0, .str [], .sl 0 true []] []) fun v45 =>
     e_store st 4 v10 v45 fun st =>
     qb (q_load st true 4 v10) fun r_4 => retR R (.tup [r_4, (ls_5.getD 1 .junk)]) st)
     (qb (q_load st true 4 (ls_5.getD 0 .junk)) fun v48 =>
     qb (q_lit 4 1 0 [] [(0, v48)]) fun v49 =>
     e_append st 4 56 (ls_4.getD 0 .junk) v49 (fun v50 st =>
     qb (q_bin .add (ls_4.getD 1 .junk) (.int .i64 1)) fun v25 =>
     X [v50, v25] st)))
    (fun k_4 =>
   qb (q_load st true 4 v6) fun v28 =>
   qb (q_load st true 4 v7) fun v29 =>
   qb (q_fa 3 v8) fun v30 =>
   qb (q_load st false 1 v30) fun v31 =>
   qb (q_ia 4 v31 (ls_4.getD 1 .junk)) fun v33 =>
   qb (q_load st true 4 v33) fun v34 =>
   qb (q_load st true 4 v8) fun v36 =>
   (callK prog n_spec_l01Under [v36, (ls_4.getD 1 .junk)] st (fun v38 st =>
   q_load st true 4 v33 = some v34 ∧ q_load st false 1 v30 = some v31 ∧ q_load st true 4 v7 = some v29 ∧ q_load st true 4 v6 = some v28 ∧ (qb (q_bin .add a4 v38) fun v39 =>
   (callK prog n_spec_l03Run_sub [a0, v28, v29, v34, v39] st (fun v40 st =>
   qb (q_ex v40 0) fun v41 =>
   qb (q_ex v40 1) fun v42 =>
   e_alloc st [.int .i64 0, .int .i64 0, .str [], .sl 0 true []] fun v14 st =>
   q_load st true 4 v8 = some v36 ∧ q_load st true 4 v33 = some v34 ∧ q_load st false 1 v30 = some v31 ∧ q_load st true 4 v7 = some v29 ∧ q_load st true 4 v6 = some v28 ∧ (e_store st 4 v14 v41 fun st =>
   k_4 [v14, v42] st)) (panR R)) ∧
   (e_alloc st [.int .i64 0, .int .i64 0, .str [], .sl 0 true []] fun v14_1 st =>
   q_load st true 4 v8 = some v36 ∧ q_load st true 4 v33 = some v34 ∧ q_load st false 1 v30 = some v31 ∧ q_load st true 4 v7 = some v29 ∧ q_load st true 4 v6 = some v28 ∧ (callK prog n_spec_l03Run_sub [a0, v28, v29, v34, v39] st (fun v40_1 st =>
   qb (q_ex v40_1 0) fun v41_1 =>
   qb (q_ex v40_1 1) fun v42_1 =>
   e_store st 4 v14_1 v41_1 fun st =>
   k_4 [v14_1, v42_1] st) (panR R))))) (panR R)) ∧
   (e_alloc st [.int .i64 0, .int .i64 0, .str [], .sl 0 true []] fun v14_2 st =>
   q_load st true 4 v8 = some v36 ∧ q_load st true 4 v33 = some v34 ∧ q_load st false 1 v30 = some v31 ∧ q_load st true 4 v7 = some v29 ∧ q_load st true 4 v6 = some v28 ∧ (callK prog n_spec_l01Under [v36, (ls_4.getD 1 .junk)] st (fun v38_1 st =>
   q_load st true 4 v33 = some v34 ∧ q_load st false 1 v30 = some v31 ∧ q_load st true 4 v7 = some v29 ∧ q_load st true 4 v6 = some v28 ∧ (qb (q_bin .add a4 v38_1) fun v39_1 =>
   callK prog n_spec_l03Run_sub [a0, v28, v29, v34, v39_1] st (fun v40_2 st =>
   qb (q_ex v40_2 0) fun v41_2 =>
   qb (q_ex v40_2 1) fun v42_2 =>
   e_store st 4 v14_2 v41_2 fun st =>
   k_4 [v14_2, v42_2] st) (panR R))) (panR R)))))
   (k [(ls_4.getD 0 .junk)] st))
  [v18, (.int .i64 0)] st)
theorem c_spec_l03Run_sub {a0 a1 a2 a3 a4 : PV} {st : St} {R : Res → St → Prop} (h : b_spec_l03Run_sub a0 a1 a2 a3 a4 st R) : HCalls prog n_spec_l03Run_sub [a0, a1, a2, a3, a4] st R :=
 hcalls_of_func tyOK mixed (fn := Go.Proofs.Tryz.f223) (by kernel_rfl) (by kernel_rfl) (by kernel_rfl) (ann := [(12, [12, 13]), (3, [12]), (21, [14, 15]), (37, [59]), (61, [84]), (66, [])])
  (show hFunc prog TT [(12, [12, 13]), (3, [12]), (21, [14, 15]), (37, [59]), (61, [84]), (66, [])] Go.Proofs.Tryz.f223 [a0, a1, a2, a3, a4] st R from (show hFunc prog TT [(12, [12, 13]), (3, [12]), (21, [14, 15]), (37, [59]), (61, [84]), (66, [])] Go.Proofs.Tryz.f223 [a0, a1, a2, a3, a4] st R = b_spec_l03Run_sub a0 a1 a2 a3 a4 st R by kernel_rfl) ▸ h)
def b_internal_stringslite_CutPrefix (a0 a1 : PV) (st : St) (R : Res → St → Prop) : Prop :=
 callK prog n_internal_stringslite_HasPrefix [a0, a1] st (fun v8 st =>
 qb (q_un .not v8) fun v9 =>
 cb v9 fun b => br b
  (retR R (.tup [a0, (.bool false)]) st)
  (qb (q_lenS a1) fun v13 =>
  qb (q_sliceS a0 (some v13) none none) fun v14 =>
  retR R (.tup [v14, (.bool true)]) st)) (panR R)
theorem c_internal_stringslite_CutPrefix {a0 a1 : PV} {st : St} {R : Res → St → Prop} (h : b_internal_stringslite_CutPrefix a0 a1 st R) : HCalls prog n_internal_stringslite_CutPrefix [a0, a1] st R :=
 hcalls_of_func tyOK mixed (fn := Go.Proofs.Tryz.f225) (by kernel_rfl) (by kernel_rfl) (by kernel_rfl) (ann := [])
  (show hFunc prog TT [] Go.Proofs.Tryz.f225 [a0, a1] st R from (show hFunc prog TT [] Go.Proofs.Tryz.f225 [a0, a1] st R = b_internal_stringslite_CutPrefix a0 a1 st R by kernel_rfl) ▸ h)
theorem e_strings_Trim : Enters prog n_strings_Trim := ⟨Go.Proofs.Tryz.f226, by kernel_rfl, by kernel_rfl, by kernel_rfl⟩
def b_impl_looker_node (a0 : PV) (st : St) (R : Res → St → Prop) : Prop :=
 qb (q_nil a0) fun v4 =>
 qb (q_fa 0 v4) fun v5 =>
 qb (q_load st false 1 v5) fun v6 =>
 qb (q_bin .sub v6 (.int .i64 1)) fun v7 =>
 qb (q_nil a0) fun v8 =>
 qb (q_fa 0 v8) fun v9 =>
 e_store st 1 v9 v7 fun st =>
 qb (q_nil a0) fun v11 =>
 qb (q_fa 0 v11) fun v12 =>
 qb (q_load st false 1 v12) fun v13 =>
 qb (q_bin .geq v13 (.int .i64 0)) fun v14 =>
 retR R v14 st
theorem c_impl_looker_node {a0 : PV} {st : St} {R : Res → St → Prop} (h : b_impl_looker_node a0 st R) : HCalls prog n_impl_looker_node [a0] st R :=
 hcalls_of_func tyOK mixed (fn := Go.Proofs.Tryz.f227) (by kernel_rfl) (by kernel_rfl) (by kernel_rfl) (ann := [])
  (show hFunc prog TT [] Go.Proofs.Tryz.f227 [a0] st R from (show hFunc prog TT [] Go.Proofs.Tryz.f227 [a0] st R = b_impl_looker_node a0 st R by kernel_rfl) ▸ h)
def b_impl_Tree_bare (a0 a1 : PV) (st : St) (R : Res → St → Prop) : Prop :=
 qb (q_nil a0) fun v6 =>
 qb (q_fa 1 v6) fun v7 =>
 qb (q_load st false 1 v7) fun v8 =>
 qb (q_bin .eql v8 (.int .i64 0)) fun v9 =>
 cb v9 fun b => br b
  (qb (q_nil a0) fun v12 =>
  qb (q_fa 2 v12) fun v13 =>
  qb (q_load st false 1 v13) fun v14 =>
  qb (q_bin .eql v14 (.str [])) fun v15 =>
  cb v15 fun b_1 => br b_1
   (qb (q_nil a0) fun v19 =>
   qb (q_fa 3 v19) fun v20 =>
   qb (q_load st false 1 v20) fun v21 =>
   qb (q_len v21) fun v22 =>
   qb (q_bin .eql v22 a1) fun v24 =>
   retR R v24 st)
   (retR R (.bool false) st))
  (retR R (.bool false) st)
theorem c_impl_Tree_bare {a0 a1 : PV} {st : St} {R : Res → St → Prop} (h : b_impl_Tree_bare a0 a1 st R) : HCalls prog n_impl_Tree_bare [a0, a1] st R :=
 hcalls_of_func tyOK mixed (fn := Go.Proofs.Tryz.f228) (by kernel_rfl) (by kernel_rfl) (by kernel_rfl) (ann := [])
  (show hFunc prog TT [] Go.Proofs.Tryz.f228 [a0, a1] st R from (show hFunc prog TT [] Go.Proofs.Tryz.f228 [a0, a1] st R = b_impl_Tree_bare a0 a1 st R by kernel_rfl) ▸ h)
def b_impl_looker_args (a0 a1 : PV) (st : St) (R : Res → St → Prop) : Prop :=
 qb (q_len a1) fun v8 =>
 hFix (fun ls st X =>
  qb (q_bin .lss (ls.getD 0 .junk) v8) fun v10 =>
  cb v10 fun b => br b
   (qb (q_ia 4 a1 (ls.getD 0 .junk)) fun v11 =>
   qb (q_load st true 4 v11) fun v12 =>
   e_alloc st [.int .i64 0, .int .i64 0, .str [], .sl 0 true []] fun v6 st =>
   e_store st 4 v6 v12 fun st =>
   hJ (fun ls_1 st =>
    cb (ls_1.getD 0 .junk) fun b_1 => br b_1
     (callK prog n_impl_Tree_bare [v6, (.int .i64 0)] st (fun v22 st =>
     qb (q_un .not v22) fun v23 =>
     cb v23 fun b_2 => br b_2
      (retR R (.bool false) st)
      (callK prog n_impl_looker_node [a0] st (fun v26 st =>
      qb (q_un .not v26) fun v27 =>
      cb v27 fun b_3 => br b_3
       (retR R (.bool false) st)
       (qb (q_bin .add (ls.getD 0 .junk) (.int .i64 1)) fun v33 =>
       X [v33] st)) (panR R))) (panR R))
     (qb (q_load st true 4 v6) fun v30 =>
     callK prog n_impl_looker_term [a0, v30] st (fun v31 st =>
     qb (q_un .not v31) fun v32 =>
     cb v32 fun b_4 => br b_4
      (retR R (.bool false) st)
      (qb (q_bin .add (ls.getD 0 .junk) (.int .i64 1)) fun v33_1 =>
      X [v33_1] st)) (panR R)))
    (fun k =>
   qb (q_nil a0) fun v14 =>
   qb (q_fa 1 v14) fun v15 =>
   qb (q_load st false 1 v15) fun v16 =>
   cb v16 fun b_5 => br b_5
    (qb (q_fa 0 v6) fun v18 =>
    qb (q_load st false 1 v18) fun v19 =>
    qb (q_bin .eql v19 (.int .i64 8)) fun v20 =>
    k [v20] st)
    (k [(.bool false)] st)))
   (retR R (.bool true) st))
  [(.int .i64 0)] st
theorem e_impl_looker_args : Enters prog n_impl_looker_args := ⟨Go.Proofs.Tryz.f229, by kernel_rfl, by kernel_rfl, by kernel_rfl⟩
theorem c_impl_looker_args {a0 a1 : PV} {st : St} {R : Res → St → Prop} (h : b_impl_looker_args a0 a1 st R) : HCalls prog n_impl_looker_args [a0, a1] st R :=
 hcalls_of_func tyOK mixed (fn := Go.Proofs.Tryz.f229) (by kernel_rfl) (by kernel_rfl) (by kernel_rfl) (ann := [(8, [9]), (17, [21])])
  (show hFunc prog TT [(8, [9]), (17, [21])] Go.Proofs.Tryz.f229 [a0, a1] st R from (show hFunc prog TT [(8, [9]), (17, [21])] Go.Proofs.Tryz.f229 [a0, a1] st R = b_impl_looker_args a0 a1 st R by kernel_rfl) ▸ h)
end Go.H.Tryz
