/- Part of a proof that the program answers as the reference does: ZFS3. -/
import Derived.Test.YtakcoedklmoboaaGreatDoorHT
/- MADE BY PROGRAM (hgen.py): what the functions compute, over pure values. -/
set_option linter.unusedVariables false
set_option maxRecDepth 100000
namespace Go.H.Tryz
open Go Go.H
def b_impl_Subst_1 (a0 a1 a2 : PV) (st : St) (R : Res → St → Prop) : Prop :=
 e_alloc st [.int .i64 0, .int .i64 0, .str [], .sl 0 true []] fun v3 st =>
 qb (q_struct [.int .i64 0] []) fun v4 =>
 e_box st v4 fun v5 st =>
 qb (q_load st true 4 a0) fun v6 =>
 qb (q_load st true 4 a1) fun v7 =>
 qb (q_load st true 4 a2) fun v8 =>
 callK prog n_impl_work_put [v5, v6, v7, (.int .i64 0), v8] st (fun v9 st =>
 e_store st 4 v3 v9 fun st =>
 qb (q_load st true 4 v3) fun r => retR R r st) (panR R)
theorem c_impl_Subst_1 {a0 a1 a2 : PV} {st : St} {R : Res → St → Prop} (h : b_impl_Subst_1 a0 a1 a2 st R) : HCalls prog n_impl_Subst_1 [a0, a1, a2] st R :=
 hcalls_of_func tyOK mixed (fn := Go.Proofs.Tryz.f63) (by kernel_rfl) (by kernel_rfl) (by kernel_rfl) (ann := [])
  (show hFunc prog TT [] Go.Proofs.Tryz.f63 [a0, a1, a2] st R from (show hFunc prog TT [] Go.Proofs.Tryz.f63 [a0, a1, a2] st R = b_impl_Subst_1 a0 a1 a2 st R by kernel_rfl) ▸ h)
def b_impl_work_put (a0 a1 a2 a3 a4 : PV) (st : St) (R : Res → St → Prop) : Prop :=
 e_box st a1 fun v6 st =>
 e_box st a2 fun v7 st =>
 e_box st a4 fun v9 st =>
 e_alloc st [.int .i64 0, .int .i64 0, .str [], .sl 0 true []] fun v10 st =>
 qb (q_lit 4 0 0 [] []) fun v14 =>
 qb (q_fa 3 v9) fun v15 =>
 qb (q_load st false 1 v15) fun v16 =>
 qb (q_len v16) fun v17 =>
 hJ (fun ls st =>
  hJ (fun ls_1 st =>
   cb (ls_1.getD 0 .junk) fun b => br b
    (qb (q_load st true 4 v6) fun v46 =>
    qb (q_load st true 4 v7) fun v50 =>
    callK prog n_impl_lift [v46, (.int .i64 0), a3] st (fun v48 st =>
    q_load st true 4 v7 = some v50 ∧ (callK prog n_impl_formed [v48] st (fun v49 st =>
    q_load st true 4 v7 = some v50 ∧ (callK prog n_impl_work_apply [a0, v49, v50, (ls.getD 0 .junk)] st (fun v52 st =>
    e_store st 4 v10 v52 fun st =>
    qb (q_load st true 4 v10) fun r => retR R r st) (panR R))) (panR R))) (panR R))
    (hJ (fun ls_2 st =>
     hJ (fun ls_3 st =>
      qb (q_fa 3 v9) fun v67 =>
      e_store st 1 v67 (ls.getD 0 .junk) fun st =>
      qb (q_load st true 4 v9) fun v68 =>
      callK prog n_impl_formed [v68] st (fun v69 st =>
      e_store st 4 v10 v69 fun st =>
      qb (q_load st true 4 v10) fun r_1 => retR R r_1 st) (panR R))
      (fun k_3 =>
     cb (ls_2.getD 0 .junk) fun b_1 => br b_1
      (qb (q_fa 1 v9) fun v62 =>
      qb (q_load st false 1 v62) fun v63 =>
      qb (q_bin .sub v63 (.int .i64 1)) fun v64 =>
      qb (q_fa 1 v9) fun v65 =>
      e_store st 1 v65 v64 fun st =>
      k_3 [] st)
      (k_3 [] st)))
     (fun k_2 =>
    qb (q_fa 0 v9) fun v53 =>
    qb (q_load st false 1 v53) fun v54 =>
    qb (q_bin .eql v54 (.int .i64 5)) fun v55 =>
    cb v55 fun b_2 => br b_2
     (qb (q_fa 1 v9) fun v57 =>
     qb (q_load st false 1 v57) fun v58 =>
     qb (q_bin .gtr v58 a3) fun v60 =>
     k_2 [v60] st)
     (k_2 [(.bool false)] st))))
   (fun k_1 =>
  qb (q_fa 0 v9) fun v36 =>
  qb (q_load st false 1 v36) fun v37 =>
  qb (q_bin .eql v37 (.int .i64 5)) fun v38 =>
  cb v38 fun b_3 => br b_3
   (qb (q_fa 1 v9) fun v40 =>
   qb (q_load st false 1 v40) fun v41 =>
   qb (q_bin .eql v41 a3) fun v43 =>
   k_1 [v43] st)
   (k_1 [(.bool false)] st)))
  (fun k =>
 hFix (fun ls_4 st X =>
  qb (q_bin .lss (ls_4.getD 1 .junk) v17) fun v19 =>
  cb v19 fun b_4 => br b_4
   (qb (q_ia 4 v16 (ls_4.getD 1 .junk)) fun v21 =>
   qb (q_load st true 4 v21) fun v22 =>
   e_alloc st [.int .i64 0, .int .i64 0, .str [], .sl 0 true []] fun v13 st =>
   e_store st 4 v13 v22 fun st =>
   qb (q_load st true 4 v6) fun v25 =>
   qb (q_load st true 4 v7) fun v26 =>
   qb (q_load st true 4 v13) fun v31 =>
   callK prog n_impl_Tree_under [v9, (ls_4.getD 1 .junk)] st (fun v29 st =>
   q_load st true 4 v13 = some v31 ∧ q_load st true 4 v7 = some v26 ∧ q_load st true 4 v6 = some v25 ∧ (qb (q_bin .add a3 v29) fun v30 =>
   callK prog n_impl_work_put [a0, v25, v26, v30, v31] st (fun v32 st =>
   qb (q_lit 4 1 0 [] [(0, v32)]) fun v33 =>
   e_append st 4 56 (ls_4.getD 0 .junk) v33 (fun v34 st =>
   qb (q_bin .add (ls_4.getD 1 .junk) (.int .i64 1)) fun v35 =>
   X [v34, v35] st)) (panR R))) (panR R))
   (k [(ls_4.getD 0 .junk)] st))
  [v14, (.int .i64 0)] st)
theorem c_impl_work_put {a0 a1 a2 a3 a4 : PV} {st : St} {R : Res → St → Prop} (h : b_impl_work_put a0 a1 a2 a3 a4 st R) : HCalls prog n_impl_work_put [a0, a1, a2, a3, a4] st R :=
 hcalls_of_func tyOK mixed (fn := Go.Proofs.Tryz.f64) (by kernel_rfl) (by kernel_rfl) (by kernel_rfl) (ann := [(12, [11, 18]), (3, [11]), (29, [44]), (37, [61]), (42, [])])
  (show hFunc prog TT [(12, [11, 18]), (3, [11]), (29, [44]), (37, [61]), (42, [])] Go.Proofs.Tryz.f64 [a0, a1, a2, a3, a4] st R from (show hFunc prog TT [(12, [11, 18]), (3, [11]), (29, [44]), (37, [61]), (42, [])] Go.Proofs.Tryz.f64 [a0, a1, a2, a3, a4] st R = b_impl_work_put a0 a1 a2 a3 a4 st R by kernel_rfl) ▸ h)
def b_spec_l00Src_chance (a0 a1 : PV) (st : St) (R : Res → St → Prop) : Prop :=
 callK prog n_spec_l00Src_next [a0, a1] st (fun v7 st =>
 qb (q_bin .sub a1 (.int .i64 1)) fun v9 =>
 qb (q_bin .eql v7 v9) fun v10 =>
 retR R v10 st) (panR R)
theorem c_spec_l00Src_chance {a0 a1 : PV} {st : St} {R : Res → St → Prop} (h : b_spec_l00Src_chance a0 a1 st R) : HCalls prog n_spec_l00Src_chance [a0, a1] st R :=
 hcalls_of_func tyOK mixed (fn := Go.Proofs.Tryz.f65) (by kernel_rfl) (by kernel_rfl) (by kernel_rfl) (ann := [])
  (show hFunc prog TT [] Go.Proofs.Tryz.f65 [a0, a1] st R from (show hFunc prog TT [] Go.Proofs.Tryz.f65 [a0, a1] st R = b_spec_l00Src_chance a0 a1 st R by kernel_rfl) ▸ h)
def b_spec_l08Two (a0 a1 a2 : PV) (st : St) (R : Res → St → Prop) : Prop :=
 e_box st a1 fun v4 st =>
 e_box st a2 fun v5 st =>
 e_alloc st [.int .i64 0, .int .i64 0, .sl 0 true []] fun v6 st =>
 qb (q_load st true 3 v4) fun v8 =>
 qb (q_load st true 3 v5) fun v9 =>
 qb (q_lit 3 2 0 [] [(0, v8), (1, v9)]) fun v10 =>
 qb (q_struct [.int .i64 0, .int .i64 0, .sl 0 true []] [(0, 1, a0), (2, 1, v10)]) fun v11 =>
 e_store st 3 v6 v11 fun st =>
 qb (q_load st true 3 v6) fun r => retR R r st
theorem c_spec_l08Two {a0 a1 a2 : PV} {st : St} {R : Res → St → Prop} (h : b_spec_l08Two a0 a1 a2 st R) : HCalls prog n_spec_l08Two [a0, a1, a2] st R :=
 hcalls_of_func tyOK mixed (fn := Go.Proofs.Tryz.f66) (by kernel_rfl) (by kernel_rfl) (by kernel_rfl) (ann := [])
  (show hFunc prog TT [] Go.Proofs.Tryz.f66 [a0, a1, a2] st R from (show hFunc prog TT [] Go.Proofs.Tryz.f66 [a0, a1, a2] st R = b_spec_l08Two a0 a1 a2 st R by kernel_rfl) ▸ h)
def b_spec_l00Src_byte (a0 : PV) (st : St) (R : Res → St → Prop) : Prop :=
 qb (q_nil a0) fun v4 =>
 qb (q_fa 1 v4) fun v5 =>
 qb (q_load st false 1 v5) fun v6 =>
 qb (q_bin .add v6 (.int .i64 1)) fun v7 =>
 qb (q_nil a0) fun v8 =>
 qb (q_fa 1 v8) fun v9 =>
 e_store st 1 v9 v7 fun st =>
 qb (q_nil a0) fun v11 =>
 qb (q_fa 1 v11) fun v12 =>
 qb (q_load st false 1 v12) fun v13 =>
 qb (q_nil a0) fun v15 =>
 qb (q_fa 0 v15) fun v16 =>
 qb (q_load st false 1 v16) fun v17 =>
 qb (q_len v17) fun v18 =>
 qb (q_bin .leq v13 v18) fun v19 =>
 cb v19 fun b => br b
  (qb (q_nil a0) fun v22 =>
  qb (q_fa 2 v22) fun v23 =>
  qb (q_load st false 1 v23) fun v24 =>
  qb (q_bin .mul v24 (.int .i64 31)) fun v25 =>
  qb (q_nil a0) fun v27 =>
  qb (q_fa 0 v27) fun v28 =>
  qb (q_load st false 1 v28) fun v29 =>
  qb (q_nil a0) fun v31 =>
  qb (q_fa 1 v31) fun v32 =>
  qb (q_load st false 1 v32) fun v33 =>
  qb (q_bin .sub v33 (.int .i64 1)) fun v34 =>
  qb (q_ia 1 v29 v34) fun v35 =>
  qb (q_load st false 1 v35) fun v36 =>
  qb (q_conv .i64 v36) fun v37 =>
  qb (q_bin .add v25 v37) fun v38 =>
  qb (q_bin .add v38 (.int .i64 7)) fun v39 =>
  qb (q_bin .rem v39 (.int .i64 2147483648)) fun v40 =>
  qb (q_nil a0) fun v41 =>
  qb (q_fa 2 v41) fun v42 =>
  e_store st 1 v42 v40 fun st =>
  qb (q_nil a0) fun v44 =>
  qb (q_fa 0 v44) fun v45 =>
  qb (q_load st false 1 v45) fun v46 =>
  qb (q_nil a0) fun v48 =>
  qb (q_fa 1 v48) fun v49 =>
  qb (q_load st false 1 v49) fun v50 =>
  qb (q_bin .sub v50 (.int .i64 1)) fun v51 =>
  qb (q_ia 1 v46 v51) fun v52 =>
  qb (q_load st false 1 v52) fun v53 =>
  qb (q_conv .i64 v53) fun v54 =>
  retR R v54 st)
  (qb (q_nil a0) fun v56 =>
  qb (q_fa 1 v56) fun v57 =>
  qb (q_load st false 1 v57) fun v58 =>
  qb (q_bin .gtr v58 (.int .i64 3000)) fun v59 =>
  cb v59 fun b_1 => br b_1
   (retR R (.int .i64 0) st)
   (qb (q_nil a0) fun v62 =>
   qb (q_fa 2 v62) fun v63 =>
   qb (q_load st false 1 v63) fun v64 =>
   qb (q_bin .mul v64 (.int .i64 1103515245)) fun v65 =>
   qb (q_bin .add v65 (.int .i64 12345)) fun v66 =>
   qb (q_bin .rem v66 (.int .i64 2147483648)) fun v67 =>
   qb (q_nil a0) fun v68 =>
   qb (q_fa 2 v68) fun v69 =>
   e_store st 1 v69 v67 fun st =>
   qb (q_nil a0) fun v71 =>
   qb (q_fa 2 v71) fun v72 =>
   qb (q_load st false 1 v72) fun v73 =>
   qb (q_bin .quo v73 (.int .i64 65536)) fun v74 =>
   qb (q_bin .rem v74 (.int .i64 256)) fun v75 =>
   retR R v75 st))
theorem c_spec_l00Src_byte {a0 : PV} {st : St} {R : Res → St → Prop} (h : b_spec_l00Src_byte a0 st R) : HCalls prog n_spec_l00Src_byte [a0] st R :=
 hcalls_of_func tyOK mixed (fn := Go.Proofs.Tryz.f67) (by kernel_rfl) (by kernel_rfl) (by kernel_rfl) (ann := [])
  (show hFunc prog TT [] Go.Proofs.Tryz.f67 [a0] st R from (show hFunc prog TT [] Go.Proofs.Tryz.f67 [a0] st R = b_spec_l00Src_byte a0 st R by kernel_rfl) ▸ h)
def b_impl_tooBig (a0 : PV) (st : St) (R : Res → St → Prop) : Prop :=
 e_box st a0 fun v1 st =>
 e_alloc st [.int .i64 0] fun v3 st =>
 e_store st 1 v3 (.int .i64 0) fun st =>
 callK prog n_impl_Tree_each [v1, (.int .i64 0), (.fn (.func n_impl_tooBig_1) [] [v3])] st (fun v5 st =>
 retR R v5 st) (panR R)
theorem c_impl_tooBig {a0 : PV} {st : St} {R : Res → St → Prop} (h : b_impl_tooBig a0 st R) : HCalls prog n_impl_tooBig [a0] st R :=
 hcalls_of_func tyOK mixed (fn := Go.Proofs.Tryz.f68) (by kernel_rfl) (by kernel_rfl) (by kernel_rfl) (ann := [])
  (show hFunc prog TT [] Go.Proofs.Tryz.f68 [a0] st R from (show hFunc prog TT [] Go.Proofs.Tryz.f68 [a0] st R = b_impl_tooBig a0 st R by kernel_rfl) ▸ h)
def b_impl_fresh (st : St) (R : Res → St → Prop) : Prop :=
 qb (q_struct [.int .i64 0, .bool false] [(0, 1, (.int .i64 150))]) fun v1 =>
 e_box st v1 fun v2 st =>
 retR R v2 st
theorem c_impl_fresh {st : St} {R : Res → St → Prop} (h : b_impl_fresh  st R) : HCalls prog n_impl_fresh [] st R :=
 hcalls_of_func tyOK mixed (fn := Go.Proofs.Tryz.f69) (by kernel_rfl) (by kernel_rfl) (by kernel_rfl) (ann := [])
  (show hFunc prog TT [] Go.Proofs.Tryz.f69 [] st R from (show hFunc prog TT [] Go.Proofs.Tryz.f69 [] st R = b_impl_fresh  st R by kernel_rfl) ▸ h)
def b_impl_looker_form (a0 a1 : PV) (st : St) (R : Res → St → Prop) : Prop :=
 e_box st a1 fun v3 st =>
 callK prog n_impl_looker_node [a0] st (fun v6 st =>
 qb (q_un .not v6) fun v7 =>
 cb v7 fun b => br b
  (retR R (.bool false) st)
  (qb (q_fa 0 v3) fun v8 =>
  qb (q_load st false 1 v8) fun v9 =>
  qb (q_bin .eql v9 (.int .i64 1)) fun v11 =>
  cb v11 fun b_1 => br b_1
   (qb (q_fa 1 v3) fun v12 =>
   qb (q_load st false 1 v12) fun v13 =>
   callK prog n_impl_in [v13, (.int .i64 0), (.int .i64 5)] st (fun v14 st =>
   cb v14 fun b_2 => br b_2
    (qb (q_fa 2 v3) fun v16 =>
    qb (q_load st false 1 v16) fun v17 =>
    qb (q_len v17) fun v18 =>
    qb (q_bin .eql v18 (.int .i64 0)) fun v19 =>
    retR R v19 st)
    (retR R (.bool false) st)) (panR R))
   (qb (q_bin .eql v9 (.int .i64 4)) fun v22 =>
   cb v22 fun b_3 => br b_3
    (qb (q_fa 1 v3) fun v23 =>
    qb (q_load st false 1 v23) fun v24 =>
    qb (q_bin .eql v24 (.int .i64 0)) fun v25 =>
    cb v25 fun b_4 => br b_4
     (qb (q_fa 2 v3) fun v27 =>
     qb (q_load st false 1 v27) fun v28 =>
     qb (q_len v28) fun v29 =>
     qb (q_bin .eql v29 (.int .i64 0)) fun v30 =>
     retR R v30 st)
     (retR R (.bool false) st))
    (qb (q_bin .eql v9 (.int .i64 2)) fun v33 =>
    hJ (fun ls st =>
     cb (ls.getD 0 .junk) fun b_6 => br b_6
      (qb (q_fa 1 v3) fun v35 =>
      qb (q_load st false 1 v35) fun v36 =>
      qb (q_bin .eql v36 (.int .i64 0)) fun v37 =>
      cb v37 fun b_7 => br b_7
       (qb (q_fa 2 v3) fun v39 =>
       qb (q_load st false 1 v39) fun v40 =>
       qb (q_len v40) fun v41 =>
       qb (q_bin .eql v41 (.int .i64 2)) fun v42 =>
       cb v42 fun b_8 => br b_8
        (qb (q_fa 2 v3) fun v46 =>
        qb (q_load st false 1 v46) fun v47 =>
        qb (q_ia 3 v47 (.int .i64 0)) fun v48 =>
        qb (q_load st true 3 v48) fun v49 =>
        callK prog n_impl_looker_form [a0, v49] st (fun v50 st =>
        cb v50 fun b_9 => br b_9
         (qb (q_fa 2 v3) fun v54 =>
         qb (q_load st false 1 v54) fun v55 =>
         qb (q_ia 3 v55 (.int .i64 1)) fun v56 =>
         qb (q_load st true 3 v56) fun v57 =>
         callK prog n_impl_looker_form [a0, v57] st (fun v58 st =>
         retR R v58 st) (panR R))
         (retR R (.bool false) st)) (panR R))
        (retR R (.bool false) st))
       (retR R (.bool false) st))
      (retR R (.bool false) st))
     (fun k =>
    cb v33 fun b_5 => br b_5
     (k [v33] st)
     (qb (q_bin .eql v9 (.int .i64 3)) fun v34 =>
     k [v34] st)))))) (panR R)
theorem c_impl_looker_form {a0 a1 : PV} {st : St} {R : Res → St → Prop} (h : b_impl_looker_form a0 a1 st R) : HCalls prog n_impl_looker_form [a0, a1] st R :=
 hcalls_of_func tyOK mixed (fn := Go.Proofs.Tryz.f70) (by kernel_rfl) (by kernel_rfl) (by kernel_rfl) (ann := [(38, [32])])
  (show hFunc prog TT [(38, [32])] Go.Proofs.Tryz.f70 [a0, a1] st R from (show hFunc prog TT [(38, [32])] Go.Proofs.Tryz.f70 [a0, a1] st R = b_impl_looker_form a0 a1 st R by kernel_rfl) ▸ h)
def b_impl_constant (a0 a1 : PV) (st : St) (R : Res → St → Prop) : Prop :=
 e_alloc st [.int .i64 0, .int .i64 0, .str [], .sl 0 true []] fun v4 st =>
 qb (q_struct [.int .i64 0, .int .i64 0, .str [], .sl 0 true []] [(0, 1, (.int .i64 6)), (2, 1, a0), (3, 1, a1)]) fun v7 =>
 e_store st 4 v4 v7 fun st =>
 qb (q_load st true 4 v4) fun r => retR R r st
theorem c_impl_constant {a0 a1 : PV} {st : St} {R : Res → St → Prop} (h : b_impl_constant a0 a1 st R) : HCalls prog n_impl_constant [a0, a1] st R :=
 hcalls_of_func tyOK mixed (fn := Go.Proofs.Tryz.f71) (by kernel_rfl) (by kernel_rfl) (by kernel_rfl) (ann := [])
  (show hFunc prog TT [] Go.Proofs.Tryz.f71 [a0, a1] st R from (show hFunc prog TT [] Go.Proofs.Tryz.f71 [a0, a1] st R = b_impl_constant a0 a1 st R by kernel_rfl) ▸ h)
def b_impl_bottom (st : St) (R : Res → St → Prop) : Prop :=
 e_alloc st [.int .i64 0, .int .i64 0, .sl 0 true []] fun v0 st =>
 qb (q_struct [.int .i64 0, .int .i64 0, .sl 0 true []] [(0, 1, (.int .i64 4))]) fun v1 =>
 e_store st 3 v0 v1 fun st =>
 qb (q_load st true 3 v0) fun r => retR R r st
theorem c_impl_bottom {st : St} {R : Res → St → Prop} (h : b_impl_bottom  st R) : HCalls prog n_impl_bottom [] st R :=
 hcalls_of_func tyOK mixed (fn := Go.Proofs.Tryz.f73) (by kernel_rfl) (by kernel_rfl) (by kernel_rfl) (ann := [])
  (show hFunc prog TT [] Go.Proofs.Tryz.f73 [] st R from (show hFunc prog TT [] Go.Proofs.Tryz.f73 [] st R = b_impl_bottom  st R by kernel_rfl) ▸ h)
def b_impl_stop (a0 a1 : PV) (st : St) (R : Res → St → Prop) : Prop :=
 qb (q_struct [.int .i64 0, .int .i64 0] [(0, 1, a0), (1, 1, a1)]) fun v6 =>
 qb (q_iface ty_impl_halt v6) fun v7 =>
 e_panic v7 st (panR R)
theorem c_impl_stop {a0 a1 : PV} {st : St} {R : Res → St → Prop} (h : b_impl_stop a0 a1 st R) : HCalls prog n_impl_stop [a0, a1] st R :=
 hcalls_of_func tyOK mixed (fn := Go.Proofs.Tryz.f74) (by kernel_rfl) (by kernel_rfl) (by kernel_rfl) (ann := [])
  (show hFunc prog TT [] Go.Proofs.Tryz.f74 [a0, a1] st R from (show hFunc prog TT [] Go.Proofs.Tryz.f74 [a0, a1] st R = b_impl_stop a0 a1 st R by kernel_rfl) ▸ h)
def b_impl_and (a0 a1 : PV) (st : St) (R : Res → St → Prop) : Prop :=
 e_box st a0 fun v2 st =>
 e_box st a1 fun v3 st =>
 e_alloc st [.int .i64 0, .int .i64 0, .sl 0 true []] fun v4 st =>
 qb (q_load st true 3 v2) fun v5 =>
 qb (q_load st true 3 v3) fun v6 =>
 qb (q_lit 3 2 0 [] [(0, v5), (1, v6)]) fun v7 =>
 qb (q_struct [.int .i64 0, .int .i64 0, .sl 0 true []] [(0, 1, (.int .i64 2)), (2, 1, v7)]) fun v8 =>
 e_store st 3 v4 v8 fun st =>
 qb (q_load st true 3 v4) fun r => retR R r st
theorem c_impl_and {a0 a1 : PV} {st : St} {R : Res → St → Prop} (h : b_impl_and a0 a1 st R) : HCalls prog n_impl_and [a0, a1] st R :=
 hcalls_of_func tyOK mixed (fn := Go.Proofs.Tryz.f75) (by kernel_rfl) (by kernel_rfl) (by kernel_rfl) (ann := [])
  (show hFunc prog TT [] Go.Proofs.Tryz.f75 [a0, a1] st R from (show hFunc prog TT [] Go.Proofs.Tryz.f75 [a0, a1] st R = b_impl_and a0 a1 st R by kernel_rfl) ▸ h)
def b_impl_implies (a0 a1 : PV) (st : St) (R : Res → St → Prop) : Prop :=
 e_box st a0 fun v2 st =>
 e_box st a1 fun v3 st =>
 e_alloc st [.int .i64 0, .int .i64 0, .sl 0 true []] fun v4 st =>
 qb (q_load st true 3 v2) fun v5 =>
 qb (q_load st true 3 v3) fun v6 =>
 qb (q_lit 3 2 0 [] [(0, v5), (1, v6)]) fun v7 =>
 qb (q_struct [.int .i64 0, .int .i64 0, .sl 0 true []] [(0, 1, (.int .i64 3)), (2, 1, v7)]) fun v8 =>
 e_store st 3 v4 v8 fun st =>
 qb (q_load st true 3 v4) fun r => retR R r st
theorem c_impl_implies {a0 a1 : PV} {st : St} {R : Res → St → Prop} (h : b_impl_implies a0 a1 st R) : HCalls prog n_impl_implies [a0, a1] st R :=
 hcalls_of_func tyOK mixed (fn := Go.Proofs.Tryz.f76) (by kernel_rfl) (by kernel_rfl) (by kernel_rfl) (ann := [])
  (show hFunc prog TT [] Go.Proofs.Tryz.f76 [a0, a1] st R from (show hFunc prog TT [] Go.Proofs.Tryz.f76 [a0, a1] st R = b_impl_implies a0 a1 st R by kernel_rfl) ▸ h)
def b_impl_looker_term (a0 a1 : PV) (st : St) (R : Res → St → Prop) : Prop :=
 e_box st a1 fun v3 st =>
 callK prog n_impl_looker_node [a0] st (fun v6 st =>
 qb (q_un .not v6) fun v7 =>
 cb v7 fun b => br b
  (retR R (.bool false) st)
  (qb (q_fa 0 v3) fun v8 =>
  qb (q_load st false 1 v8) fun v9 =>
  qb (q_bin .eql v9 (.int .i64 4)) fun v11 =>
  cb v11 fun b_1 => br b_1
   (callK prog n_impl_Tree_bare [v3, (.int .i64 1)] st (fun v12 st =>
   cb v12 fun b_2 => br b_2
    (qb (q_fa 3 v3) fun v15 =>
    qb (q_load st false 1 v15) fun v16 =>
    qb (q_ia 4 v16 (.int .i64 0)) fun v17 =>
    qb (q_load st true 4 v17) fun v18 =>
    callK prog n_impl_looker_term [a0, v18] st (fun v19 st =>
    retR R v19 st) (panR R))
    (retR R (.bool false) st)) (panR R))
   (qb (q_bin .eql v9 (.int .i64 5)) fun v22 =>
   hJ (fun ls st =>
    cb (ls.getD 0 .junk) fun b_4 => br b_4
     (qb (q_fa 1 v3) fun v24 =>
     qb (q_load st false 1 v24) fun v25 =>
     callK prog n_impl_in [v25, (.int .i64 0), (.int .i64 100)] st (fun v26 st =>
     cb v26 fun b_5 => br b_5
      (qb (q_fa 2 v3) fun v28 =>
      qb (q_load st false 1 v28) fun v29 =>
      qb (q_bin .eql v29 (.str [])) fun v30 =>
      cb v30 fun b_6 => br b_6
       (qb (q_fa 3 v3) fun v34 =>
       qb (q_load st false 1 v34) fun v35 =>
       callK prog n_impl_looker_args [a0, v35] st (fun v36 st =>
       retR R v36 st) (panR R))
       (retR R (.bool false) st))
      (retR R (.bool false) st)) (panR R))
     (qb (q_bin .eql v9 (.int .i64 6)) fun v39 =>
     cb v39 fun b_7 => br b_7
      (qb (q_fa 1 v3) fun v40 =>
      qb (q_load st false 1 v40) fun v41 =>
      qb (q_bin .eql v41 (.int .i64 0)) fun v42 =>
      cb v42 fun b_8 => br b_8
       (qb (q_fa 2 v3) fun v44 =>
       qb (q_load st false 1 v44) fun v45 =>
       callK prog n_impl_NameOK [v45] st (fun v46 st =>
       cb v46 fun b_9 => br b_9
        (qb (q_fa 3 v3) fun v50 =>
        qb (q_load st false 1 v50) fun v51 =>
        callK prog n_impl_looker_args [a0, v51] st (fun v52 st =>
        retR R v52 st) (panR R))
        (retR R (.bool false) st)) (panR R))
       (retR R (.bool false) st))
      (retR R (.bool false) st)))
    (fun k =>
   cb v22 fun b_3 => br b_3
    (k [v22] st)
    (qb (q_bin .eql v9 (.int .i64 7)) fun v23 =>
    k [v23] st))))) (panR R)
theorem e_impl_looker_term : Enters prog n_impl_looker_term := ⟨Go.Proofs.Tryz.f79, by kernel_rfl, by kernel_rfl, by kernel_rfl⟩
theorem c_impl_looker_term {a0 a1 : PV} {st : St} {R : Res → St → Prop} (h : b_impl_looker_term a0 a1 st R) : HCalls prog n_impl_looker_term [a0, a1] st R :=
 hcalls_of_func tyOK mixed (fn := Go.Proofs.Tryz.f79) (by kernel_rfl) (by kernel_rfl) (by kernel_rfl) (ann := [(30, [21])])
  (show hFunc prog TT [(30, [21])] Go.Proofs.Tryz.f79 [a0, a1] st R from (show hFunc prog TT [(30, [21])] Go.Proofs.Tryz.f79 [a0, a1] st R = b_impl_looker_term a0 a1 st R by kernel_rfl) ▸ h)
def b_impl_FamilyOK (a0 : PV) (st : St) (R : Res → St → Prop) : Prop :=
 e_box st a0 fun v1 st =>
 qb (q_load st true 4 v1) fun v4 =>
 callK prog n_impl_fresh [] st (fun v3 st =>
 q_load st true 4 v1 = some v4 ∧ (callK prog n_impl_looker_family [v3, v4, (.bool false)] st (fun v5 st =>
 retR R v5 st) (panR R))) (panR R)
theorem c_impl_FamilyOK {a0 : PV} {st : St} {R : Res → St → Prop} (h : b_impl_FamilyOK a0 st R) : HCalls prog n_impl_FamilyOK [a0] st R :=
 hcalls_of_func tyOK mixed (fn := Go.Proofs.Tryz.f80) (by kernel_rfl) (by kernel_rfl) (by kernel_rfl) (ann := [])
  (show hFunc prog TT [] Go.Proofs.Tryz.f80 [a0] st R from (show hFunc prog TT [] Go.Proofs.Tryz.f80 [a0] st R = b_impl_FamilyOK a0 st R by kernel_rfl) ▸ h)
end Go.H.Tryz
