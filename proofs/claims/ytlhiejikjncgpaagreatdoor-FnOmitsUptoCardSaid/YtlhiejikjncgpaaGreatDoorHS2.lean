/- Part of a proof that the program answers as the reference does: EFS2. -/
import Derived.Test.YtlhiejikjncgpaaGreatDoorHT
/- MADE BY PROGRAM (hgen.py): what the functions compute, over pure values. -/
set_option linter.unusedVariables false
set_option maxRecDepth 100000
namespace Go.H.Tryz
open Go Go.H
def b_spec_l03Run_sub (a0 a1 a2 a3 a4 : PV) (st : St) (R : Res → St → Prop) : Prop :=
 e_box st a1 fun v6 st =>
 e_box st a2 fun v7 st =>
 e_box st a3 fun v8 st =>
 e_alloc st [.int .i64 0, .int .i64 0, .str [], .sl 0 true []] fun v10 st =>
 qb (q_lit 4 0 0 [] []) fun v18 =>
 hJ (fun ls st =>
  hJ (fun ls_1 st =>
   cb (ls_1.getD 0 .junk) fun b => br b
    (qb (q_load st true 4 v6) fun v60 =>
    callK prog n_spec_l01Lift [v60, (.int .i64 0), a4] st (fun v62 st =>
    e_alloc st [.int .i64 0, .int .i64 0, .str [], .sl 0 true []] fun v16 st =>
    e_store st 4 v16 v62 fun st =>
    qb (q_load st true 4 v16) fun v63 =>
    callK prog n_spec_l03Big [v63] st (fun v64 st =>
    cb v64 fun b_1 => br b_1
     (qb (q_struct [.int .i64 0, .int .i64 0, .str [], .sl 0 true []] []) fun v65 =>
     e_store st 4 v10 v65 fun st =>
     qb (q_load st true 4 v10) fun r => retR R (.tup [r, (.int .i64 11)]) st)
     (qb (q_load st true 4 v16) fun v67 =>
     qb (q_load st true 4 v7) fun v68 =>
     callK prog n_spec_l03Run_reduce [a0, v67, v68, (ls.getD 0 .junk)] st (fun v70 st =>
     qb (q_ex v70 0) fun v71 =>
     qb (q_ex v70 1) fun v72 =>
     e_store st 4 v10 v71 fun st =>
     qb (q_load st true 4 v10) fun r_1 => retR R (.tup [r_1, v72]) st) (panR R))) (panR R)) (panR R))
    (qb (q_load st true 4 v8) fun v73 =>
    callK prog n_spec_l01With [v73, (ls.getD 0 .junk)] st (fun v75 st =>
    e_alloc st [.int .i64 0, .int .i64 0, .str [], .sl 0 true []] fun v17 st =>
    e_store st 4 v17 v75 fun st =>
    hJ (fun ls_2 st =>
     hJ (fun ls_3 st =>
      qb (q_load st true 4 v17) fun v89 =>
      callK prog n_spec_l03Big [v89] st (fun v90 st =>
      cb v90 fun b_3 => br b_3
       (qb (q_struct [.int .i64 0, .int .i64 0, .str [], .sl 0 true []] []) fun v91 =>
       e_store st 4 v10 v91 fun st =>
       qb (q_load st true 4 v10) fun r_2 => retR R (.tup [r_2, (.int .i64 11)]) st)
       (qb (q_load st true 4 v17) fun v92 =>
       e_store st 4 v10 v92 fun st =>
       qb (q_load st true 4 v10) fun r_3 => retR R (.tup [r_3, (.int .i64 0)]) st)) (panR R))
      (fun k_3 =>
     cb (ls_2.getD 0 .junk) fun b_2 => br b_2
      (qb (q_fa 1 v17) fun v85 =>
      qb (q_load st false 1 v85) fun v86 =>
      qb (q_bin .sub v86 (.int .i64 1)) fun v87 =>
      qb (q_fa 1 v17) fun v88 =>
      e_store st 1 v88 v87 fun st =>
      k_3 [] st)
      (k_3 [] st)))
     (fun k_2 =>
    qb (q_fa 0 v8) fun v76 =>
    qb (q_load st false 1 v76) fun v77 =>
    qb (q_bin .eql v77 (.int .i64 5)) fun v78 =>
    cb v78 fun b_4 => br b_4
     (qb (q_fa 1 v8) fun v80 =>
     qb (q_load st false 1 v80) fun v81 =>
     qb (q_bin .gtr v81 a4) fun v83 =>
     k_2 [v83] st)
     (k_2 [(.bool false)] st))) (panR R)))
   (fun k_1 =>
  qb (q_fa 0 v8) fun v51 =>
  qb (q_load st false 1 v51) fun v52 =>
  qb (q_bin .eql v52 (.int .i64 5)) fun v53 =>
  cb v53 fun b_5 => br b_5
   (qb (q_fa 1 v8) fun v55 =>
   qb (q_load st false 1 v55) fun v56 =>
   qb (q_bin .eql v56 a4) fun v58 =>
   k_1 [v58] st)
   (k_1 [(.bool false)] st)))
  (fun k =>
 hFix (fun ls_4 st X =>
  qb (q_fa 3 v8) fun v20 =>
  qb (q_load st false 1 v20) fun v21 =>
  qb (q_len v21) fun v22 =>
  qb (q_bin .lss (ls_4.getD 1 .junk) v22) fun v23 =>
  cb v23 fun b_6 => br b_6
   (hJ (fun ls_5 st =>
    qb (q_bin .neq (ls_5.getD 1 .junk) (.int .i64 0)) fun v44 =>
    cb v44 fun b_7 => br b_7
     (qb (q_struct [.int .i64 0, .int .i64 0, .str [], .sl 0 true []] []) fun v45 =>
     e_store st 4 v10 v45 fun st =>
     qb (q_load st true 4 v10) fun r_4 => retR R (.tup [r_4, (ls_5.getD 1 .junk)]) st)
     (qb (q_load st true 4 (ls_5.getD 0 .junk)) fun v48 =>
     qb (q_lit 4 1 0 [] [(0, v48)]) fun v49 =>
     e_append st 4 56 (ls_4.getD 0 .junk) v49 (fun v50 st =>
     qb (q_bin .add (ls_4.getD 1 .junk) (.int .i64 1)) fun v25 =>
     X [v50, v25] st)))
    (fun k_4 =>
   qb (q_load st true 4 v6) fun v28 =>
   qb (q_load st true 4 v7) fun v29 =>
   qb (q_fa 3 v8) fun v30 =>
   qb (q_load st false 1 v30) fun v31 =>
   qb (q_ia 4 v31 (ls_4.getD 1 .junk)) fun v33 =>
   qb (q_load st true 4 v33) fun v34 =>
   qb (q_load st true 4 v8) fun v36 =>
   (callK prog n_spec_l01Under [v36, (ls_4.getD 1 .junk)] st (fun v38 st =>
   q_load st true 4 v33 = some v34 ∧ q_load st false 1 v30 = some v31 ∧ q_load st true 4 v7 = some v29 ∧ q_load st true 4 v6 = some v28 ∧ (qb (q_bin .add a4 v38) fun v39 =>
   (callK prog n_spec_l03Run_sub [a0, v28, v29, v34, v39] st (fun v40 st =>
   qb (q_ex v40 0) fun v41 =>
   qb (q_ex v40 1) fun v42 =>
   e_alloc st [.int .i64 0, .int .i64 0, .str [], .sl 0 true []] fun v14 st =>
   q_load st true 4 v8 = some v36 ∧ q_load st true 4 v33 = some v34 ∧ q_load st false 1 v30 = some v31 ∧ q_load st true 4 v7 = some v29 ∧ q_load st true 4 v6 = some v28 ∧ (e_store st 4 v14 v41 fun st =>
   k_4 [v14, v42] st)) (panR R)) ∧
   (e_alloc st [.int .i64 0, .int .i64 0, .str [], .sl 0 true []] fun v14_1 st =>
   q_load st true 4 v8 = some v36 ∧ q_load st true 4 v33 = some v34 ∧ q_load st false 1 v30 = some v31 ∧ q_load st true 4 v7 = some v29 ∧ q_load st true 4 v6 = some v28 ∧ (callK prog n_spec_l03Run_sub [a0, v28, v29, v34, v39] st (fun v40_1 st =>
   qb (q_ex v40_1 0) fun v41_1 =>
   qb (q_ex v40_1 1) fun v42_1 =>
   e_store st 4 v14_1 v41_1 fun st =>
   k_4 [v14_1, v42_1] st) (panR R))))) (panR R)) ∧
   (e_alloc st [.int .i64 0, .int .i64 0, .str [], .sl 0 true []] fun v14_2 st =>
   q_load st true 4 v8 = some v36 ∧ q_load st true 4 v33 = some v34 ∧ q_load st false 1 v30 = some v31 ∧ q_load st true 4 v7 = some v29 ∧ q_load st true 4 v6 = some v28 ∧ (callK prog n_spec_l01Under [v36, (ls_4.getD 1 .junk)] st (fun v38_1 st =>
   q_load st true 4 v33 = some v34 ∧ q_load st false 1 v30 = some v31 ∧ q_load st true 4 v7 = some v29 ∧ q_load st true 4 v6 = some v28 ∧ (qb (q_bin .add a4 v38_1) fun v39_1 =>
   callK prog n_spec_l03Run_sub [a0, v28, v29, v34, v39_1] st (fun v40_2 st =>
   qb (q_ex v40_2 0) fun v41_2 =>
   qb (q_ex v40_2 1) fun v42_2 =>
   e_store st 4 v14_2 v41_2 fun st =>
   k_4 [v14_2, v42_2] st) (panR R))) (panR R)))))
   (k [(ls_4.getD 0 .junk)] st))
  [v18, (.int .i64 0)] st)
theorem c_spec_l03Run_sub {a0 a1 a2 a3 a4 : PV} {st : St} {R : Res → St → Prop} (h : b_spec_l03Run_sub a0 a1 a2 a3 a4 st R) : HCalls prog n_spec_l03Run_sub [a0, a1, a2, a3, a4] st R :=
 hcalls_of_func tyOK mixed (fn := Go.Proofs.Tryz.f43) (by kernel_rfl) (by kernel_rfl) (by kernel_rfl) (ann := [(12, [12, 13]), (3, [12]), (21, [14, 15]), (37, [59]), (61, [84]), (66, [])])
  (show hFunc prog TT [(12, [12, 13]), (3, [12]), (21, [14, 15]), (37, [59]), (61, [84]), (66, [])] Go.Proofs.Tryz.f43 [a0, a1, a2, a3, a4] st R from (show hFunc prog TT [(12, [12, 13]), (3, [12]), (21, [14, 15]), (37, [59]), (61, [84]), (66, [])] Go.Proofs.Tryz.f43 [a0, a1, a2, a3, a4] st R = b_spec_l03Run_sub a0 a1 a2 a3 a4 st R by kernel_rfl) ▸ h)
def b_impl_FamilyOK (a0 : PV) (st : St) (R : Res → St → Prop) : Prop :=
 e_box st a0 fun v1 st =>
 qb (q_load st true 4 v1) fun v4 =>
 callK prog n_impl_fresh [] st (fun v3 st =>
 q_load st true 4 v1 = some v4 ∧ (callK prog n_impl_looker_family [v3, v4, (.bool false)] st (fun v5 st =>
 retR R v5 st) (panR R))) (panR R)
theorem c_impl_FamilyOK {a0 : PV} {st : St} {R : Res → St → Prop} (h : b_impl_FamilyOK a0 st R) : HCalls prog n_impl_FamilyOK [a0] st R :=
 hcalls_of_func tyOK mixed (fn := Go.Proofs.Tryz.f44) (by kernel_rfl) (by kernel_rfl) (by kernel_rfl) (ann := [])
  (show hFunc prog TT [] Go.Proofs.Tryz.f44 [a0] st R from (show hFunc prog TT [] Go.Proofs.Tryz.f44 [a0] st R = b_impl_FamilyOK a0 st R by kernel_rfl) ▸ h)
def b_impl_erase (a0 : PV) (st : St) (R : Res → St → Prop) : Prop :=
 e_box st a0 fun v1 st =>
 e_alloc st [.int .i64 0, .int .i64 0, .str [], .sl 0 true []] fun v2 st =>
 qb (q_fa 0 v1) fun v3 =>
 qb (q_load st false 1 v3) fun v4 =>
 qb (q_bin .eql v4 (.int .i64 2)) fun v5 =>
 cb v5 fun b => br b
  (qb (q_fa 3 v1) fun v6 =>
  qb (q_load st false 1 v6) fun v7 =>
  qb (q_ia 4 v7 (.int .i64 0)) fun v8 =>
  qb (q_load st true 4 v8) fun v9 =>
  qb (q_fa 3 v1) fun v11 =>
  qb (q_load st false 1 v11) fun v12 =>
  qb (q_ia 4 v12 (.int .i64 1)) fun v13 =>
  qb (q_load st true 4 v13) fun v14 =>
  callK prog n_impl_erase [v9] st (fun v10 st =>
  q_load st true 4 v13 = some v14 ∧ q_load st false 1 v11 = some v12 ∧ (callK prog n_impl_erase [v14] st (fun v15 st =>
  qb (q_lit 4 2 0 [] [(0, v10), (1, v15)]) fun v16 =>
  qb (q_struct [.int .i64 0, .int .i64 0, .str [], .sl 0 true []] [(0, 1, (.int .i64 10)), (3, 1, v16)]) fun v17 =>
  e_store st 4 v2 v17 fun st =>
  qb (q_load st true 4 v2) fun r => retR R r st) (panR R))) (panR R))
  (qb (q_fa 2 v1) fun v18 =>
  qb (q_load st false 1 v18) fun v19 =>
  qb (q_struct [.int .i64 0, .int .i64 0, .str [], .sl 0 true []] [(0, 1, (.int .i64 9)), (2, 1, v19)]) fun v20 =>
  e_store st 4 v2 v20 fun st =>
  qb (q_load st true 4 v2) fun r_1 => retR R r_1 st)
theorem c_impl_erase {a0 : PV} {st : St} {R : Res → St → Prop} (h : b_impl_erase a0 st R) : HCalls prog n_impl_erase [a0] st R :=
 hcalls_of_func tyOK mixed (fn := Go.Proofs.Tryz.f45) (by kernel_rfl) (by kernel_rfl) (by kernel_rfl) (ann := [])
  (show hFunc prog TT [] Go.Proofs.Tryz.f45 [a0] st R from (show hFunc prog TT [] Go.Proofs.Tryz.f45 [a0] st R = b_impl_erase a0 st R by kernel_rfl) ▸ h)
def b_spec_l04Some (st : St) (R : Res → St → Prop) : Prop :=
 callK prog n_spec_l01Fam [(.str [110, 97, 116]), (.sl 0 true [])] st (fun v6 st =>
 e_alloc st [.int .i64 0, .int .i64 0, .str [], .sl 0 true []] fun v1 st =>
 e_store st 4 v1 v6 fun st =>
 callK prog n_spec_l01Const [(.str [122]), (.sl 0 true [])] st (fun v7 st =>
 e_alloc st [.int .i64 0, .int .i64 0, .str [], .sl 0 true []] fun v2 st =>
 e_store st 4 v2 v7 fun st =>
 callK prog n_spec_l01Var [(.int .i64 0), (.sl 0 true [])] st (fun v8 st =>
 e_alloc st [.int .i64 0, .int .i64 0, .str [], .sl 0 true []] fun v3 st =>
 e_store st 4 v3 v8 fun st =>
 callK prog n_spec_l01Var [(.int .i64 1), (.sl 0 true [])] st (fun v9 st =>
 e_alloc st [.int .i64 0, .int .i64 0, .str [], .sl 0 true []] fun v4 st =>
 e_store st 4 v4 v9 fun st =>
 callK prog n_spec_l01Var [(.int .i64 2), (.sl 0 true [])] st (fun v10 st =>
 e_alloc st [.int .i64 0, .int .i64 0, .str [], .sl 0 true []] fun v5 st =>
 e_store st 4 v5 v10 fun st =>
 qb (q_load st true 4 v1) fun v13 =>
 qb (q_struct [.str [], .bool false, .int .i64 0, .int .i64 0, .str [], .sl 0 true []] [(0, 1, (.str [122])), (2, 4, v13)]) fun v14 =>
 qb (q_load st true 4 v1) fun v15 =>
 qb (q_load st true 4 v1) fun v16 =>
 qb (q_load st true 4 v1) fun v19 =>
 qb (q_load st true 4 v2) fun v23 =>
 qb (q_lit 4 1 0 [] [(0, v23)]) fun v24 =>
 qb (q_load st true 4 v1) fun v27 =>
 qb (q_load st true 4 v1) fun v28 =>
 qb (q_load st true 4 v4) fun v29 =>
 qb (q_lit 4 1 0 [] [(0, v29)]) fun v30 =>
 qb (q_load st true 4 v5) fun v32 =>
 qb (q_lit 4 1 0 [] [(0, v32)]) fun v33 =>
 qb (q_load st true 4 v1) fun v41 =>
 qb (q_load st true 4 v1) fun v42 =>
 qb (q_load st true 4 v1) fun v43 =>
 qb (q_load st true 4 v1) fun v49 =>
 qb (q_load st true 4 v2) fun v50 =>
 qb (q_load st true 4 v3) fun v51 =>
 qb (q_load st true 4 v3) fun v52 =>
 qb (q_lit 4 3 0 [] [(0, v50), (1, v51), (2, v52)]) fun v53 =>
 qb (q_load st true 4 v1) fun v57 =>
 qb (q_load st true 4 v1) fun v58 =>
 qb (q_load st true 4 v1) fun v59 =>
 qb (q_load st true 4 v5) fun v60 =>
 qb (q_load st true 4 v4) fun v61 =>
 qb (q_load st true 4 v3) fun v62 =>
 qb (q_lit 4 3 0 [] [(0, v60), (1, v61), (2, v62)]) fun v63 =>
 qb (q_load st true 4 v5) fun v68 =>
 qb (q_load st true 4 v4) fun v69 =>
 qb (q_lit 4 1 0 [] [(0, v69)]) fun v70 =>
 qb (q_load st true 4 v1) fun v79 =>
 qb (q_load st true 4 v1) fun v80 =>
 qb (q_load st true 4 v1) fun v82 =>
 qb (q_load st true 4 v1) fun v83 =>
 qb (q_load st true 4 v1) fun v87 =>
 qb (q_load st true 4 v1) fun v88 =>
 qb (q_load st true 4 v1) fun v93 =>
 qb (q_load st true 4 v1) fun v94 =>
 qb (q_load st true 4 v3) fun v96 =>
 qb (q_lit 4 1 0 [] [(0, v96)]) fun v97 =>
 callK prog n_spec_l01Type [] st (fun v11 st =>
 q_load st true 4 v3 = some v96 ∧ q_load st true 4 v1 = some v94 ∧ q_load st true 4 v1 = some v93 ∧ q_load st true 4 v1 = some v88 ∧ q_load st true 4 v1 = some v87 ∧ q_load st true 4 v1 = some v83 ∧ q_load st true 4 v1 = some v82 ∧ q_load st true 4 v1 = some v80 ∧ q_load st true 4 v1 = some v79 ∧ q_load st true 4 v4 = some v69 ∧ q_load st true 4 v5 = some v68 ∧ q_load st true 4 v3 = some v62 ∧ q_load st true 4 v4 = some v61 ∧ q_load st true 4 v5 = some v60 ∧ q_load st true 4 v1 = some v59 ∧ q_load st true 4 v1 = some v58 ∧ q_load st true 4 v1 = some v57 ∧ q_load st true 4 v3 = some v52 ∧ q_load st true 4 v3 = some v51 ∧ q_load st true 4 v2 = some v50 ∧ q_load st true 4 v1 = some v49 ∧ q_load st true 4 v1 = some v43 ∧ q_load st true 4 v1 = some v42 ∧ q_load st true 4 v1 = some v41 ∧ q_load st true 4 v5 = some v32 ∧ q_load st true 4 v4 = some v29 ∧ q_load st true 4 v1 = some v28 ∧ q_load st true 4 v1 = some v27 ∧ q_load st true 4 v2 = some v23 ∧ q_load st true 4 v1 = some v19 ∧ q_load st true 4 v1 = some v16 ∧ q_load st true 4 v1 = some v15 ∧ q_load st true 4 v1 = some v13 ∧ (qb (q_struct [.str [], .bool false, .int .i64 0, .int .i64 0, .str [], .sl 0 true []] [(0, 1, (.str [110, 97, 116])), (1, 1, (.bool true)), (2, 4, v11)]) fun v12 =>
 callK prog n_spec_l01Pi [v15, v16] st (fun v17 st =>
 q_load st true 4 v3 = some v96 ∧ q_load st true 4 v1 = some v94 ∧ q_load st true 4 v1 = some v93 ∧ q_load st true 4 v1 = some v88 ∧ q_load st true 4 v1 = some v87 ∧ q_load st true 4 v1 = some v83 ∧ q_load st true 4 v1 = some v82 ∧ q_load st true 4 v1 = some v80 ∧ q_load st true 4 v1 = some v79 ∧ q_load st true 4 v4 = some v69 ∧ q_load st true 4 v5 = some v68 ∧ q_load st true 4 v3 = some v62 ∧ q_load st true 4 v4 = some v61 ∧ q_load st true 4 v5 = some v60 ∧ q_load st true 4 v1 = some v59 ∧ q_load st true 4 v1 = some v58 ∧ q_load st true 4 v1 = some v57 ∧ q_load st true 4 v3 = some v52 ∧ q_load st true 4 v3 = some v51 ∧ q_load st true 4 v2 = some v50 ∧ q_load st true 4 v1 = some v49 ∧ q_load st true 4 v1 = some v43 ∧ q_load st true 4 v1 = some v42 ∧ q_load st true 4 v1 = some v41 ∧ q_load st true 4 v5 = some v32 ∧ q_load st true 4 v4 = some v29 ∧ q_load st true 4 v1 = some v28 ∧ q_load st true 4 v1 = some v27 ∧ q_load st true 4 v2 = some v23 ∧ q_load st true 4 v1 = some v19 ∧ q_load st true 4 v1 = some v13 ∧ (qb (q_struct [.str [], .bool false, .int .i64 0, .int .i64 0, .str [], .sl 0 true []] [(0, 1, (.str [115])), (2, 4, v17)]) fun v18 =>
 callK prog n_spec_l01Type [] st (fun v20 st =>
 q_load st true 4 v3 = some v96 ∧ q_load st true 4 v1 = some v94 ∧ q_load st true 4 v1 = some v93 ∧ q_load st true 4 v1 = some v88 ∧ q_load st true 4 v1 = some v87 ∧ q_load st true 4 v1 = some v83 ∧ q_load st true 4 v1 = some v82 ∧ q_load st true 4 v1 = some v80 ∧ q_load st true 4 v1 = some v79 ∧ q_load st true 4 v4 = some v69 ∧ q_load st true 4 v5 = some v68 ∧ q_load st true 4 v3 = some v62 ∧ q_load st true 4 v4 = some v61 ∧ q_load st true 4 v5 = some v60 ∧ q_load st true 4 v1 = some v59 ∧ q_load st true 4 v1 = some v58 ∧ q_load st true 4 v1 = some v57 ∧ q_load st true 4 v3 = some v52 ∧ q_load st true 4 v3 = some v51 ∧ q_load st true 4 v2 = some v50 ∧ q_load st true 4 v1 = some v49 ∧ q_load st true 4 v1 = some v43 ∧ q_load st true 4 v1 = some v42 ∧ q_load st true 4 v1 = some v41 ∧ q_load st true 4 v5 = some v32 ∧ q_load st true 4 v4 = some v29 ∧ q_load st true 4 v1 = some v28 ∧ q_load st true 4 v1 = some v27 ∧ q_load st true 4 v2 = some v23 ∧ q_load st true 4 v1 = some v19 ∧ q_load st true 4 v1 = some v13 ∧ (callK prog n_spec_l01Pi [v19, v20] st (fun v21 st =>
 q_load st true 4 v3 = some v96 ∧ q_load st true 4 v1 = some v94 ∧ q_load st true 4 v1 = some v93 ∧ q_load st true 4 v1 = some v88 ∧ q_load st true 4 v1 = some v87 ∧ q_load st true 4 v1 = some v83 ∧ q_load st true 4 v1 = some v82 ∧ q_load st true 4 v1 = some v80 ∧ q_load st true 4 v1 = some v79 ∧ q_load st true 4 v4 = some v69 ∧ q_load st true 4 v5 = some v68 ∧ q_load st true 4 v3 = some v62 ∧ q_load st true 4 v4 = some v61 ∧ q_load st true 4 v5 = some v60 ∧ q_load st true 4 v1 = some v59 ∧ q_load st true 4 v1 = some v58 ∧ q_load st true 4 v1 = some v57 ∧ q_load st true 4 v3 = some v52 ∧ q_load st true 4 v3 = some v51 ∧ q_load st true 4 v2 = some v50 ∧ q_load st true 4 v1 = some v49 ∧ q_load st true 4 v1 = some v43 ∧ q_load st true 4 v1 = some v42 ∧ q_load st true 4 v1 = some v41 ∧ q_load st true 4 v5 = some v32 ∧ q_load st true 4 v4 = some v29 ∧ q_load st true 4 v1 = some v28 ∧ q_load st true 4 v1 = some v27 ∧ q_load st true 4 v2 = some v23 ∧ q_load st true 4 v1 = some v13 ∧ (qb (q_struct [.str [], .bool false, .int .i64 0, .int .i64 0, .str [], .sl 0 true []] [(0, 1, (.str [118, 101, 99])), (1, 1, (.bool true)), (2, 4, v21)]) fun v22 =>
 callK prog n_spec_l04Fam [(.str [118, 101, 99]), v24] st (fun v25 st =>
 q_load st true 4 v3 = some v96 ∧ q_load st true 4 v1 = some v94 ∧ q_load st true 4 v1 = some v93 ∧ q_load st true 4 v1 = some v88 ∧ q_load st true 4 v1 = some v87 ∧ q_load st true 4 v1 = some v83 ∧ q_load st true 4 v1 = some v82 ∧ q_load st true 4 v1 = some v80 ∧ q_load st true 4 v1 = some v79 ∧ q_load st true 4 v4 = some v69 ∧ q_load st true 4 v5 = some v68 ∧ q_load st true 4 v3 = some v62 ∧ q_load st true 4 v4 = some v61 ∧ q_load st true 4 v5 = some v60 ∧ q_load st true 4 v1 = some v59 ∧ q_load st true 4 v1 = some v58 ∧ q_load st true 4 v1 = some v57 ∧ q_load st true 4 v3 = some v52 ∧ q_load st true 4 v3 = some v51 ∧ q_load st true 4 v2 = some v50 ∧ q_load st true 4 v1 = some v49 ∧ q_load st true 4 v1 = some v43 ∧ q_load st true 4 v1 = some v42 ∧ q_load st true 4 v1 = some v41 ∧ q_load st true 4 v5 = some v32 ∧ q_load st true 4 v4 = some v29 ∧ q_load st true 4 v1 = some v28 ∧ q_load st true 4 v1 = some v27 ∧ q_load st true 4 v1 = some v13 ∧ (qb (q_struct [.str [], .bool false, .int .i64 0, .int .i64 0, .str [], .sl 0 true []] [(0, 1, (.str [110, 105, 108])), (2, 4, v25)]) fun v26 =>
 callK prog n_spec_l04Fam [(.str [118, 101, 99]), v30] st (fun v31 st =>
 q_load st true 4 v3 = some v96 ∧ q_load st true 4 v1 = some v94 ∧ q_load st true 4 v1 = some v93 ∧ q_load st true 4 v1 = some v88 ∧ q_load st true 4 v1 = some v87 ∧ q_load st true 4 v1 = some v83 ∧ q_load st true 4 v1 = some v82 ∧ q_load st true 4 v1 = some v80 ∧ q_load st true 4 v1 = some v79 ∧ q_load st true 4 v4 = some v69 ∧ q_load st true 4 v5 = some v68 ∧ q_load st true 4 v3 = some v62 ∧ q_load st true 4 v4 = some v61 ∧ q_load st true 4 v5 = some v60 ∧ q_load st true 4 v1 = some v59 ∧ q_load st true 4 v1 = some v58 ∧ q_load st true 4 v1 = some v57 ∧ q_load st true 4 v3 = some v52 ∧ q_load st true 4 v3 = some v51 ∧ q_load st true 4 v2 = some v50 ∧ q_load st true 4 v1 = some v49 ∧ q_load st true 4 v1 = some v43 ∧ q_load st true 4 v1 = some v42 ∧ q_load st true 4 v1 = some v41 ∧ q_load st true 4 v5 = some v32 ∧ q_load st true 4 v1 = some v28 ∧ q_load st true 4 v1 = some v27 ∧ q_load st true 4 v1 = some v13 ∧ (callK prog n_spec_l04Neutral [(.str [115]), v33] st (fun v34 st =>
 q_load st true 4 v3 = some v96 ∧ q_load st true 4 v1 = some v94 ∧ q_load st true 4 v1 = some v93 ∧ q_load st true 4 v1 = some v88 ∧ q_load st true 4 v1 = some v87 ∧ q_load st true 4 v1 = some v83 ∧ q_load st true 4 v1 = some v82 ∧ q_load st true 4 v1 = some v80 ∧ q_load st true 4 v1 = some v79 ∧ q_load st true 4 v4 = some v69 ∧ q_load st true 4 v5 = some v68 ∧ q_load st true 4 v3 = some v62 ∧ q_load st true 4 v4 = some v61 ∧ q_load st true 4 v5 = some v60 ∧ q_load st true 4 v1 = some v59 ∧ q_load st true 4 v1 = some v58 ∧ q_load st true 4 v1 = some v57 ∧ q_load st true 4 v3 = some v52 ∧ q_load st true 4 v3 = some v51 ∧ q_load st true 4 v2 = some v50 ∧ q_load st true 4 v1 = some v49 ∧ q_load st true 4 v1 = some v43 ∧ q_load st true 4 v1 = some v42 ∧ q_load st true 4 v1 = some v41 ∧ q_load st true 4 v1 = some v28 ∧ q_load st true 4 v1 = some v27 ∧ q_load st true 4 v1 = some v13 ∧ (qb (q_lit 4 1 0 [] [(0, v34)]) fun v35 =>
 callK prog n_spec_l04Fam [(.str [118, 101, 99]), v35] st (fun v36 st =>
 q_load st true 4 v3 = some v96 ∧ q_load st true 4 v1 = some v94 ∧ q_load st true 4 v1 = some v93 ∧ q_load st true 4 v1 = some v88 ∧ q_load st true 4 v1 = some v87 ∧ q_load st true 4 v1 = some v83 ∧ q_load st true 4 v1 = some v82 ∧ q_load st true 4 v1 = some v80 ∧ q_load st true 4 v1 = some v79 ∧ q_load st true 4 v4 = some v69 ∧ q_load st true 4 v5 = some v68 ∧ q_load st true 4 v3 = some v62 ∧ q_load st true 4 v4 = some v61 ∧ q_load st true 4 v5 = some v60 ∧ q_load st true 4 v1 = some v59 ∧ q_load st true 4 v1 = some v58 ∧ q_load st true 4 v1 = some v57 ∧ q_load st true 4 v3 = some v52 ∧ q_load st true 4 v3 = some v51 ∧ q_load st true 4 v2 = some v50 ∧ q_load st true 4 v1 = some v49 ∧ q_load st true 4 v1 = some v43 ∧ q_load st true 4 v1 = some v42 ∧ q_load st true 4 v1 = some v41 ∧ q_load st true 4 v1 = some v28 ∧ q_load st true 4 v1 = some v27 ∧ q_load st true 4 v1 = some v13 ∧ (callK prog n_spec_l01Pi [v31, v36] st (fun v37 st =>
 q_load st true 4 v3 = some v96 ∧ q_load st true 4 v1 = some v94 ∧ q_load st true 4 v1 = some v93 ∧ q_load st true 4 v1 = some v88 ∧ q_load st true 4 v1 = some v87 ∧ q_load st true 4 v1 = some v83 ∧ q_load st true 4 v1 = some v82 ∧ q_load st true 4 v1 = some v80 ∧ q_load st true 4 v1 = some v79 ∧ q_load st true 4 v4 = some v69 ∧ q_load st true 4 v5 = some v68 ∧ q_load st true 4 v3 = some v62 ∧ q_load st true 4 v4 = some v61 ∧ q_load st true 4 v5 = some v60 ∧ q_load st true 4 v1 = some v59 ∧ q_load st true 4 v1 = some v58 ∧ q_load st true 4 v1 = some v57 ∧ q_load st true 4 v3 = some v52 ∧ q_load st true 4 v3 = some v51 ∧ q_load st true 4 v2 = some v50 ∧ q_load st true 4 v1 = some v49 ∧ q_load st true 4 v1 = some v43 ∧ q_load st true 4 v1 = some v42 ∧ q_load st true 4 v1 = some v41 ∧ q_load st true 4 v1 = some v28 ∧ q_load st true 4 v1 = some v27 ∧ q_load st true 4 v1 = some v13 ∧ (callK prog n_spec_l01Pi [v28, v37] st (fun v38 st =>
 q_load st true 4 v3 = some v96 ∧ q_load st true 4 v1 = some v94 ∧ q_load st true 4 v1 = some v93 ∧ q_load st true 4 v1 = some v88 ∧ q_load st true 4 v1 = some v87 ∧ q_load st true 4 v1 = some v83 ∧ q_load st true 4 v1 = some v82 ∧ q_load st true 4 v1 = some v80 ∧ q_load st true 4 v1 = some v79 ∧ q_load st true 4 v4 = some v69 ∧ q_load st true 4 v5 = some v68 ∧ q_load st true 4 v3 = some v62 ∧ q_load st true 4 v4 = some v61 ∧ q_load st true 4 v5 = some v60 ∧ q_load st true 4 v1 = some v59 ∧ q_load st true 4 v1 = some v58 ∧ q_load st true 4 v1 = some v57 ∧ q_load st true 4 v3 = some v52 ∧ q_load st true 4 v3 = some v51 ∧ q_load st true 4 v2 = some v50 ∧ q_load st true 4 v1 = some v49 ∧ q_load st true 4 v1 = some v43 ∧ q_load st true 4 v1 = some v42 ∧ q_load st true 4 v1 = some v41 ∧ q_load st true 4 v1 = some v27 ∧ q_load st true 4 v1 = some v13 ∧ (callK prog n_spec_l01Pi [v27, v38] st (fun v39 st =>
 q_load st true 4 v3 = some v96 ∧ q_load st true 4 v1 = some v94 ∧ q_load st true 4 v1 = some v93 ∧ q_load st true 4 v1 = some v88 ∧ q_load st true 4 v1 = some v87 ∧ q_load st true 4 v1 = some v83 ∧ q_load st true 4 v1 = some v82 ∧ q_load st true 4 v1 = some v80 ∧ q_load st true 4 v1 = some v79 ∧ q_load st true 4 v4 = some v69 ∧ q_load st true 4 v5 = some v68 ∧ q_load st true 4 v3 = some v62 ∧ q_load st true 4 v4 = some v61 ∧ q_load st true 4 v5 = some v60 ∧ q_load st true 4 v1 = some v59 ∧ q_load st true 4 v1 = some v58 ∧ q_load st true 4 v1 = some v57 ∧ q_load st true 4 v3 = some v52 ∧ q_load st true 4 v3 = some v51 ∧ q_load st true 4 v2 = some v50 ∧ q_load st true 4 v1 = some v49 ∧ q_load st true 4 v1 = some v43 ∧ q_load st true 4 v1 = some v42 ∧ q_load st true 4 v1 = some v41 ∧ q_load st true 4 v1 = some v13 ∧ (qb (q_struct [.str [], .bool false, .int .i64 0, .int .i64 0, .str [], .sl 0 true []] [(0, 1, (.str [99, 111, 110, 115])), (2, 4, v39)]) fun v40 =>
 callK prog n_spec_l01Type [] st (fun v44 st =>
 q_load st true 4 v3 = some v96 ∧ q_load st true 4 v1 = some v94 ∧ q_load st true 4 v1 = some v93 ∧ q_load st true 4 v1 = some v88 ∧ q_load st true 4 v1 = some v87 ∧ q_load st true 4 v1 = some v83 ∧ q_load st true 4 v1 = some v82 ∧ q_load st true 4 v1 = some v80 ∧ q_load st true 4 v1 = some v79 ∧ q_load st true 4 v4 = some v69 ∧ q_load st true 4 v5 = some v68 ∧ q_load st true 4 v3 = some v62 ∧ q_load st true 4 v4 = some v61 ∧ q_load st true 4 v5 = some v60 ∧ q_load st true 4 v1 = some v59 ∧ q_load st true 4 v1 = some v58 ∧ q_load st true 4 v1 = some v57 ∧ q_load st true 4 v3 = some v52 ∧ q_load st true 4 v3 = some v51 ∧ q_load st true 4 v2 = some v50 ∧ q_load st true 4 v1 = some v49 ∧ q_load st true 4 v1 = some v43 ∧ q_load st true 4 v1 = some v42 ∧ q_load st true 4 v1 = some v41 ∧ q_load st true 4 v1 = some v13 ∧ (callK prog n_spec_l01Pi [v43, v44] st (fun v45 st =>
 q_load st true 4 v3 = some v96 ∧ q_load st true 4 v1 = some v94 ∧ q_load st true 4 v1 = some v93 ∧ q_load st true 4 v1 = some v88 ∧ q_load st true 4 v1 = some v87 ∧ q_load st true 4 v1 = some v83 ∧ q_load st true 4 v1 = some v82 ∧ q_load st true 4 v1 = some v80 ∧ q_load st true 4 v1 = some v79 ∧ q_load st true 4 v4 = some v69 ∧ q_load st true 4 v5 = some v68 ∧ q_load st true 4 v3 = some v62 ∧ q_load st true 4 v4 = some v61 ∧ q_load st true 4 v5 = some v60 ∧ q_load st true 4 v1 = some v59 ∧ q_load st true 4 v1 = some v58 ∧ q_load st true 4 v1 = some v57 ∧ q_load st true 4 v3 = some v52 ∧ q_load st true 4 v3 = some v51 ∧ q_load st true 4 v2 = some v50 ∧ q_load st true 4 v1 = some v49 ∧ q_load st true 4 v1 = some v42 ∧ q_load st true 4 v1 = some v41 ∧ q_load st true 4 v1 = some v13 ∧ (callK prog n_spec_l01Pi [v42, v45] st (fun v46 st =>
 q_load st true 4 v3 = some v96 ∧ q_load st true 4 v1 = some v94 ∧ q_load st true 4 v1 = some v93 ∧ q_load st true 4 v1 = some v88 ∧ q_load st true 4 v1 = some v87 ∧ q_load st true 4 v1 = some v83 ∧ q_load st true 4 v1 = some v82 ∧ q_load st true 4 v1 = some v80 ∧ q_load st true 4 v1 = some v79 ∧ q_load st true 4 v4 = some v69 ∧ q_load st true 4 v5 = some v68 ∧ q_load st true 4 v3 = some v62 ∧ q_load st true 4 v4 = some v61 ∧ q_load st true 4 v5 = some v60 ∧ q_load st true 4 v1 = some v59 ∧ q_load st true 4 v1 = some v58 ∧ q_load st true 4 v1 = some v57 ∧ q_load st true 4 v3 = some v52 ∧ q_load st true 4 v3 = some v51 ∧ q_load st true 4 v2 = some v50 ∧ q_load st true 4 v1 = some v49 ∧ q_load st true 4 v1 = some v41 ∧ q_load st true 4 v1 = some v13 ∧ (callK prog n_spec_l01Pi [v41, v46] st (fun v47 st =>
 q_load st true 4 v3 = some v96 ∧ q_load st true 4 v1 = some v94 ∧ q_load st true 4 v1 = some v93 ∧ q_load st true 4 v1 = some v88 ∧ q_load st true 4 v1 = some v87 ∧ q_load st true 4 v1 = some v83 ∧ q_load st true 4 v1 = some v82 ∧ q_load st true 4 v1 = some v80 ∧ q_load st true 4 v1 = some v79 ∧ q_load st true 4 v4 = some v69 ∧ q_load st true 4 v5 = some v68 ∧ q_load st true 4 v3 = some v62 ∧ q_load st true 4 v4 = some v61 ∧ q_load st true 4 v5 = some v60 ∧ q_load st true 4 v1 = some v59 ∧ q_load st true 4 v1 = some v58 ∧ q_load st true 4 v1 = some v57 ∧ q_load st true 4 v3 = some v52 ∧ q_load st true 4 v3 = some v51 ∧ q_load st true 4 v2 = some v50 ∧ q_load st true 4 v1 = some v49 ∧ q_load st true 4 v1 = some v13 ∧ (qb (q_struct [.str [], .bool false, .int .i64 0, .int .i64 0, .str [], .sl 0 true []] [(0, 1, (.str [112, 108, 117, 115])), (1, 1, (.bool true)), (2, 4, v47)]) fun v48 =>
 callK prog n_spec_l04Fam [(.str [112, 108, 117, 115]), v53] st (fun v54 st =>
 q_load st true 4 v3 = some v96 ∧ q_load st true 4 v1 = some v94 ∧ q_load st true 4 v1 = some v93 ∧ q_load st true 4 v1 = some v88 ∧ q_load st true 4 v1 = some v87 ∧ q_load st true 4 v1 = some v83 ∧ q_load st true 4 v1 = some v82 ∧ q_load st true 4 v1 = some v80 ∧ q_load st true 4 v1 = some v79 ∧ q_load st true 4 v4 = some v69 ∧ q_load st true 4 v5 = some v68 ∧ q_load st true 4 v3 = some v62 ∧ q_load st true 4 v4 = some v61 ∧ q_load st true 4 v5 = some v60 ∧ q_load st true 4 v1 = some v59 ∧ q_load st true 4 v1 = some v58 ∧ q_load st true 4 v1 = some v57 ∧ q_load st true 4 v1 = some v49 ∧ q_load st true 4 v1 = some v13 ∧ (callK prog n_spec_l01Pi [v49, v54] st (fun v55 st =>
 q_load st true 4 v3 = some v96 ∧ q_load st true 4 v1 = some v94 ∧ q_load st true 4 v1 = some v93 ∧ q_load st true 4 v1 = some v88 ∧ q_load st true 4 v1 = some v87 ∧ q_load st true 4 v1 = some v83 ∧ q_load st true 4 v1 = some v82 ∧ q_load st true 4 v1 = some v80 ∧ q_load st true 4 v1 = some v79 ∧ q_load st true 4 v4 = some v69 ∧ q_load st true 4 v5 = some v68 ∧ q_load st true 4 v3 = some v62 ∧ q_load st true 4 v4 = some v61 ∧ q_load st true 4 v5 = some v60 ∧ q_load st true 4 v1 = some v59 ∧ q_load st true 4 v1 = some v58 ∧ q_load st true 4 v1 = some v57 ∧ q_load st true 4 v1 = some v13 ∧ (qb (q_struct [.str [], .bool false, .int .i64 0, .int .i64 0, .str [], .sl 0 true []] [(0, 1, (.str [112, 122])), (2, 4, v55)]) fun v56 =>
 callK prog n_spec_l04Fam [(.str [112, 108, 117, 115]), v63] st (fun v64 st =>
 q_load st true 4 v3 = some v96 ∧ q_load st true 4 v1 = some v94 ∧ q_load st true 4 v1 = some v93 ∧ q_load st true 4 v1 = some v88 ∧ q_load st true 4 v1 = some v87 ∧ q_load st true 4 v1 = some v83 ∧ q_load st true 4 v1 = some v82 ∧ q_load st true 4 v1 = some v80 ∧ q_load st true 4 v1 = some v79 ∧ q_load st true 4 v4 = some v69 ∧ q_load st true 4 v5 = some v68 ∧ q_load st true 4 v1 = some v59 ∧ q_load st true 4 v1 = some v58 ∧ q_load st true 4 v1 = some v57 ∧ q_load st true 4 v1 = some v13 ∧ (callK prog n_spec_l01Var [(.int .i64 3), (.sl 0 true [])] st (fun v65 st =>
 q_load st true 4 v3 = some v96 ∧ q_load st true 4 v1 = some v94 ∧ q_load st true 4 v1 = some v93 ∧ q_load st true 4 v1 = some v88 ∧ q_load st true 4 v1 = some v87 ∧ q_load st true 4 v1 = some v83 ∧ q_load st true 4 v1 = some v82 ∧ q_load st true 4 v1 = some v80 ∧ q_load st true 4 v1 = some v79 ∧ q_load st true 4 v4 = some v69 ∧ q_load st true 4 v5 = some v68 ∧ q_load st true 4 v1 = some v59 ∧ q_load st true 4 v1 = some v58 ∧ q_load st true 4 v1 = some v57 ∧ q_load st true 4 v1 = some v13 ∧ (qb (q_lit 4 1 0 [] [(0, v65)]) fun v66 =>
 callK prog n_spec_l04Neutral [(.str [115]), v66] st (fun v67 st =>
 q_load st true 4 v3 = some v96 ∧ q_load st true 4 v1 = some v94 ∧ q_load st true 4 v1 = some v93 ∧ q_load st true 4 v1 = some v88 ∧ q_load st true 4 v1 = some v87 ∧ q_load st true 4 v1 = some v83 ∧ q_load st true 4 v1 = some v82 ∧ q_load st true 4 v1 = some v80 ∧ q_load st true 4 v1 = some v79 ∧ q_load st true 4 v4 = some v69 ∧ q_load st true 4 v5 = some v68 ∧ q_load st true 4 v1 = some v59 ∧ q_load st true 4 v1 = some v58 ∧ q_load st true 4 v1 = some v57 ∧ q_load st true 4 v1 = some v13 ∧ (callK prog n_spec_l04Neutral [(.str [115]), v70] st (fun v71 st =>
 q_load st true 4 v3 = some v96 ∧ q_load st true 4 v1 = some v94 ∧ q_load st true 4 v1 = some v93 ∧ q_load st true 4 v1 = some v88 ∧ q_load st true 4 v1 = some v87 ∧ q_load st true 4 v1 = some v83 ∧ q_load st true 4 v1 = some v82 ∧ q_load st true 4 v1 = some v80 ∧ q_load st true 4 v1 = some v79 ∧ q_load st true 4 v5 = some v68 ∧ q_load st true 4 v1 = some v59 ∧ q_load st true 4 v1 = some v58 ∧ q_load st true 4 v1 = some v57 ∧ q_load st true 4 v1 = some v13 ∧ (qb (q_lit 4 3 0 [] [(0, v67), (1, v68), (2, v71)]) fun v72 =>
 callK prog n_spec_l04Fam [(.str [112, 108, 117, 115]), v72] st (fun v73 st =>
 q_load st true 4 v3 = some v96 ∧ q_load st true 4 v1 = some v94 ∧ q_load st true 4 v1 = some v93 ∧ q_load st true 4 v1 = some v88 ∧ q_load st true 4 v1 = some v87 ∧ q_load st true 4 v1 = some v83 ∧ q_load st true 4 v1 = some v82 ∧ q_load st true 4 v1 = some v80 ∧ q_load st true 4 v1 = some v79 ∧ q_load st true 4 v1 = some v59 ∧ q_load st true 4 v1 = some v58 ∧ q_load st true 4 v1 = some v57 ∧ q_load st true 4 v1 = some v13 ∧ (callK prog n_spec_l01Pi [v64, v73] st (fun v74 st =>
 q_load st true 4 v3 = some v96 ∧ q_load st true 4 v1 = some v94 ∧ q_load st true 4 v1 = some v93 ∧ q_load st true 4 v1 = some v88 ∧ q_load st true 4 v1 = some v87 ∧ q_load st true 4 v1 = some v83 ∧ q_load st true 4 v1 = some v82 ∧ q_load st true 4 v1 = some v80 ∧ q_load st true 4 v1 = some v79 ∧ q_load st true 4 v1 = some v59 ∧ q_load st true 4 v1 = some v58 ∧ q_load st true 4 v1 = some v57 ∧ q_load st true 4 v1 = some v13 ∧ (callK prog n_spec_l01Pi [v59, v74] st (fun v75 st =>
 q_load st true 4 v3 = some v96 ∧ q_load st true 4 v1 = some v94 ∧ q_load st true 4 v1 = some v93 ∧ q_load st true 4 v1 = some v88 ∧ q_load st true 4 v1 = some v87 ∧ q_load st true 4 v1 = some v83 ∧ q_load st true 4 v1 = some v82 ∧ q_load st true 4 v1 = some v80 ∧ q_load st true 4 v1 = some v79 ∧ q_load st true 4 v1 = some v58 ∧ q_load st true 4 v1 = some v57 ∧ q_load st true 4 v1 = some v13 ∧ (callK prog n_spec_l01Pi [v58, v75] st (fun v76 st =>
 q_load st true 4 v3 = some v96 ∧ q_load st true 4 v1 = some v94 ∧ q_load st true 4 v1 = some v93 ∧ q_load st true 4 v1 = some v88 ∧ q_load st true 4 v1 = some v87 ∧ q_load st true 4 v1 = some v83 ∧ q_load st true 4 v1 = some v82 ∧ q_load st true 4 v1 = some v80 ∧ q_load st true 4 v1 = some v79 ∧ q_load st true 4 v1 = some v57 ∧ q_load st true 4 v1 = some v13 ∧ (callK prog n_spec_l01Pi [v57, v76] st (fun v77 st =>
 q_load st true 4 v3 = some v96 ∧ q_load st true 4 v1 = some v94 ∧ q_load st true 4 v1 = some v93 ∧ q_load st true 4 v1 = some v88 ∧ q_load st true 4 v1 = some v87 ∧ q_load st true 4 v1 = some v83 ∧ q_load st true 4 v1 = some v82 ∧ q_load st true 4 v1 = some v80 ∧ q_load st true 4 v1 = some v79 ∧ q_load st true 4 v1 = some v13 ∧ (qb (q_struct [.str [], .bool false, .int .i64 0, .int .i64 0, .str [], .sl 0 true []] [(0, 1, (.str [112, 115])), (2, 4, v77)]) fun v78 =>
 callK prog n_spec_l01Pi [v79, v80] st (fun v81 st =>
 q_load st true 4 v3 = some v96 ∧ q_load st true 4 v1 = some v94 ∧ q_load st true 4 v1 = some v93 ∧ q_load st true 4 v1 = some v88 ∧ q_load st true 4 v1 = some v87 ∧ q_load st true 4 v1 = some v83 ∧ q_load st true 4 v1 = some v82 ∧ q_load st true 4 v1 = some v13 ∧ (callK prog n_spec_l01Pi [v82, v83] st (fun v84 st =>
 q_load st true 4 v3 = some v96 ∧ q_load st true 4 v1 = some v94 ∧ q_load st true 4 v1 = some v93 ∧ q_load st true 4 v1 = some v88 ∧ q_load st true 4 v1 = some v87 ∧ q_load st true 4 v1 = some v13 ∧ (callK prog n_spec_l01Pi [v81, v84] st (fun v85 st =>
 q_load st true 4 v3 = some v96 ∧ q_load st true 4 v1 = some v94 ∧ q_load st true 4 v1 = some v93 ∧ q_load st true 4 v1 = some v88 ∧ q_load st true 4 v1 = some v87 ∧ q_load st true 4 v1 = some v13 ∧ (qb (q_struct [.str [], .bool false, .int .i64 0, .int .i64 0, .str [], .sl 0 true []] [(0, 1, (.str [105, 116])), (2, 4, v85)]) fun v86 =>
 callK prog n_spec_l01Pi [v87, v88] st (fun v89 st =>
 q_load st true 4 v3 = some v96 ∧ q_load st true 4 v1 = some v94 ∧ q_load st true 4 v1 = some v93 ∧ q_load st true 4 v1 = some v13 ∧ (callK prog n_spec_l01Type [] st (fun v90 st =>
 q_load st true 4 v3 = some v96 ∧ q_load st true 4 v1 = some v94 ∧ q_load st true 4 v1 = some v93 ∧ q_load st true 4 v1 = some v13 ∧ (callK prog n_spec_l01Pi [v89, v90] st (fun v91 st =>
 q_load st true 4 v3 = some v96 ∧ q_load st true 4 v1 = some v94 ∧ q_load st true 4 v1 = some v93 ∧ q_load st true 4 v1 = some v13 ∧ (qb (q_struct [.str [], .bool false, .int .i64 0, .int .i64 0, .str [], .sl 0 true []] [(0, 1, (.str [97, 108, 108])), (1, 1, (.bool true)), (2, 4, v91)]) fun v92 =>
 callK prog n_spec_l01Pi [v93, v94] st (fun v95 st =>
 q_load st true 4 v3 = some v96 ∧ q_load st true 4 v1 = some v13 ∧ (callK prog n_spec_l01Var [(.int .i64 1), v97] st (fun v98 st =>
 q_load st true 4 v1 = some v13 ∧ (callK prog n_spec_l01Lam [v98] st (fun v99 st =>
 q_load st true 4 v1 = some v13 ∧ (qb (q_lit 4 1 0 [] [(0, v99)]) fun v100 =>
 callK prog n_spec_l04Fam [(.str [97, 108, 108]), v100] st (fun v101 st =>
 q_load st true 4 v1 = some v13 ∧ (callK prog n_spec_l01Pi [v95, v101] st (fun v102 st =>
 q_load st true 4 v1 = some v13 ∧ (qb (q_struct [.str [], .bool false, .int .i64 0, .int .i64 0, .str [], .sl 0 true []] [(0, 1, (.str [109, 107])), (2, 4, v102)]) fun v103 =>
 qb (q_lit 6 12 0 [] [(0, v12), (1, v14), (2, v18), (3, v22), (4, v26), (5, v40), (6, v48), (7, v56), (8, v78), (9, v86), (10, v92), (11, v103)]) fun v104 =>
 retR R v104 st)) (panR R))) (panR R))) (panR R))) (panR R))) (panR R))) (panR R))) (panR R))) (panR R))) (panR R))) (panR R))) (panR R))) (panR R))) (panR R))) (panR R))) (panR R))) (panR R))) (panR R))) (panR R))) (panR R))) (panR R))) (panR R))) (panR R))) (panR R))) (panR R))) (panR R))) (panR R))) (panR R))) (panR R))) (panR R))) (panR R))) (panR R))) (panR R))) (panR R))) (panR R))) (panR R))) (panR R))) (panR R)) (panR R)) (panR R)) (panR R)) (panR R)) (panR R)
theorem c_spec_l04Some {st : St} {R : Res → St → Prop} (h : b_spec_l04Some  st R) : HCalls prog n_spec_l04Some [] st R :=
 hcalls_of_func tyOK mixed (fn := Go.Proofs.Tryz.f46) (by kernel_rfl) (by kernel_rfl) (by kernel_rfl) (ann := [])
  (show hFunc prog TT [] Go.Proofs.Tryz.f46 [] st R from (show hFunc prog TT [] Go.Proofs.Tryz.f46 [] st R = b_spec_l04Some  st R by kernel_rfl) ▸ h)
def b_impl_checker_term (a0 a1 a2 a3 a4 : PV) (st : St) (R : Res → St → Prop) : Prop :=
 e_box st a2 fun v7 st =>
 e_box st a3 fun v8 st =>
 qb (q_fa 0 v7) fun v10 =>
 qb (q_load st false 1 v10) fun v11 =>
 qb (q_bin .eql v11 (.int .i64 4)) fun v12 =>
 qb (q_fa 0 v8) fun v13 =>
 qb (q_load st false 1 v13) fun v14 =>
 qb (q_bin .eql v14 (.int .i64 2)) fun v15 =>
 qb (q_beq .neq v12 v15) fun v16 =>
 hJ (fun ls st =>
  qb (q_fa 0 v7) fun v19 =>
  qb (q_load st false 1 v19) fun v20 =>
  qb (q_bin .eql v20 (.int .i64 4)) fun v21 =>
  cb v21 fun b_1 => br b_1
   (qb (q_fa 3 v8) fun v24 =>
   qb (q_load st false 1 v24) fun v25 =>
   qb (q_ia 4 v25 (.int .i64 0)) fun v26 =>
   qb (q_load st true 4 v26) fun v27 =>
   qb (q_fa 3 v7) fun v29 =>
   qb (q_load st false 1 v29) fun v30 =>
   qb (q_ia 4 v30 (.int .i64 0)) fun v31 =>
   qb (q_load st true 4 v31) fun v32 =>
   qb (q_fa 3 v8) fun v33 =>
   qb (q_load st false 1 v33) fun v34 =>
   qb (q_ia 4 v34 (.int .i64 1)) fun v35 =>
   qb (q_load st true 4 v35) fun v36 =>
   qb (q_bin .add a4 (.int .i64 1)) fun v38 =>
   callK prog n_impl_behind [a1, v27] st (fun v28 st =>
   q_load st true 4 v35 = some v36 ∧ q_load st false 1 v33 = some v34 ∧ q_load st true 4 v31 = some v32 ∧ q_load st false 1 v29 = some v30 ∧ (callK prog n_impl_checker_term [a0, v28, v32, v36, v38] st (fun v39 st =>
   retR R (.tup []) st) (panR R))) (panR R))
   (qb (q_load st true 4 v7) fun v42 =>
   qb (q_load st true 4 v8) fun v45 =>
   callK prog n_impl_checker_found [a0, a1, v42, a4] st (fun v44 st =>
   q_load st true 4 v8 = some v45 ∧ (callK prog n_impl_same [v44, v45] st (fun v46 st =>
   qb (q_un .not v46) fun v47 =>
   cb v47 fun b_2 => br b_2
    (callK prog n_impl_stop [(.int .i64 10), a4] st (fun v49 st =>
    retR R (.tup []) st) (panR R))
    (retR R (.tup []) st)) (panR R))) (panR R)))
  (fun k =>
 cb v16 fun b => br b
  (callK prog n_impl_stop [(.int .i64 9), a4] st (fun v18 st =>
  k [] st) (panR R))
  (k [] st))
theorem c_impl_checker_term {a0 a1 a2 a3 a4 : PV} {st : St} {R : Res → St → Prop} (h : b_impl_checker_term a0 a1 a2 a3 a4 st R) : HCalls prog n_impl_checker_term [a0, a1, a2, a3, a4] st R :=
 hcalls_of_func tyOK mixed (fn := Go.Proofs.Tryz.f51) (by kernel_rfl) (by kernel_rfl) (by kernel_rfl) (ann := [(10, [])])
  (show hFunc prog TT [(10, [])] Go.Proofs.Tryz.f51 [a0, a1, a2, a3, a4] st R from (show hFunc prog TT [(10, [])] Go.Proofs.Tryz.f51 [a0, a1, a2, a3, a4] st R = b_impl_checker_term a0 a1 a2 a3 a4 st R by kernel_rfl) ▸ h)
def b_impl_lift (a0 a1 a2 : PV) (st : St) (R : Res → St → Prop) : Prop :=
 e_box st a0 fun v3 st =>
 e_box st a1 fun v4 st =>
 e_box st a2 fun v5 st =>
 e_alloc st [.int .i64 0, .int .i64 0, .str [], .sl 0 true []] fun v6 st =>
 qb (q_load st true 4 v3) fun v7 =>
 callK prog n_impl_turned [v7, (.int .i64 0), (.fn (.func n_impl_lift_1) [] [v4, v5])] st (fun v9 st =>
 e_store st 4 v6 v9 fun st =>
 qb (q_load st true 4 v6) fun r => retR R r st) (panR R)
theorem c_impl_lift {a0 a1 a2 : PV} {st : St} {R : Res → St → Prop} (h : b_impl_lift a0 a1 a2 st R) : HCalls prog n_impl_lift [a0, a1, a2] st R :=
 hcalls_of_func tyOK mixed (fn := Go.Proofs.Tryz.f53) (by kernel_rfl) (by kernel_rfl) (by kernel_rfl) (ann := [])
  (show hFunc prog TT [] Go.Proofs.Tryz.f53 [a0, a1, a2] st R from (show hFunc prog TT [] Go.Proofs.Tryz.f53 [a0, a1, a2] st R = b_impl_lift a0 a1 a2 st R by kernel_rfl) ▸ h)
def b_impl_tooBig (a0 : PV) (st : St) (R : Res → St → Prop) : Prop :=
 e_box st a0 fun v1 st =>
 e_alloc st [.int .i64 0] fun v3 st =>
 e_store st 1 v3 (.int .i64 0) fun st =>
 callK prog n_impl_Tree_each [v1, (.int .i64 0), (.fn (.func n_impl_tooBig_1) [] [v3])] st (fun v5 st =>
 retR R v5 st) (panR R)
theorem c_impl_tooBig {a0 : PV} {st : St} {R : Res → St → Prop} (h : b_impl_tooBig a0 st R) : HCalls prog n_impl_tooBig [a0] st R :=
 hcalls_of_func tyOK mixed (fn := Go.Proofs.Tryz.f54) (by kernel_rfl) (by kernel_rfl) (by kernel_rfl) (ann := [])
  (show hFunc prog TT [] Go.Proofs.Tryz.f54 [a0] st R from (show hFunc prog TT [] Go.Proofs.Tryz.f54 [a0] st R = b_impl_tooBig a0 st R by kernel_rfl) ▸ h)
def b_spec_l01Lift (a0 a1 a2 : PV) (st : St) (R : Res → St → Prop) : Prop :=
 e_box st a0 fun v3 st =>
 e_alloc st [.int .i64 0, .int .i64 0, .str [], .sl 0 true []] fun v6 st =>
 qb (q_lit 4 0 0 [] []) fun v10 =>
 hJ (fun ls st =>
  qb (q_load st true 4 v3) fun v33 =>
  callK prog n_spec_l01With [v33, (ls.getD 0 .junk)] st (fun v35 st =>
  e_alloc st [.int .i64 0, .int .i64 0, .str [], .sl 0 true []] fun v9 st =>
  e_store st 4 v9 v35 fun st =>
  hJ (fun ls_1 st =>
   cb (ls_1.getD 0 .junk) fun b => br b
    (qb (q_fa 1 v9) fun v45 =>
    qb (q_load st false 1 v45) fun v46 =>
    qb (q_bin .add v46 a2) fun v48 =>
    qb (q_fa 1 v9) fun v49 =>
    e_store st 1 v49 v48 fun st =>
    qb (q_load st true 4 v9) fun v50 =>
    e_store st 4 v6 v50 fun st =>
    qb (q_load st true 4 v6) fun r => retR R r st)
    (qb (q_load st true 4 v9) fun v50_1 =>
    e_store st 4 v6 v50_1 fun st =>
    qb (q_load st true 4 v6) fun r_1 => retR R r_1 st))
   (fun k_1 =>
  qb (q_fa 0 v3) fun v36 =>
  qb (q_load st false 1 v36) fun v37 =>
  qb (q_bin .eql v37 (.int .i64 5)) fun v38 =>
  cb v38 fun b_1 => br b_1
   (qb (q_fa 1 v3) fun v40 =>
   qb (q_load st false 1 v40) fun v41 =>
   qb (q_bin .geq v41 a1) fun v43 =>
   k_1 [v43] st)
   (k_1 [(.bool false)] st))) (panR R))
  (fun k =>
 hFix (fun ls_2 st X =>
  qb (q_fa 3 v3) fun v12 =>
  qb (q_load st false 1 v12) fun v13 =>
  qb (q_len v13) fun v14 =>
  qb (q_bin .lss (ls_2.getD 1 .junk) v14) fun v15 =>
  cb v15 fun b_2 => br b_2
   (qb (q_fa 3 v3) fun v19 =>
   qb (q_load st false 1 v19) fun v20 =>
   qb (q_ia 4 v20 (ls_2.getD 1 .junk)) fun v22 =>
   qb (q_load st true 4 v22) fun v23 =>
   qb (q_load st true 4 v3) fun v25 =>
   callK prog n_spec_l01Under [v25, (ls_2.getD 1 .junk)] st (fun v27 st =>
   q_load st true 4 v22 = some v23 ∧ q_load st false 1 v19 = some v20 ∧ (qb (q_bin .add a1 v27) fun v28 =>
   callK prog n_spec_l01Lift [v23, v28, a2] st (fun v30 st =>
   qb (q_lit 4 1 0 [] [(0, v30)]) fun v31 =>
   e_append st 4 56 (ls_2.getD 0 .junk) v31 (fun v32 st =>
   qb (q_bin .add (ls_2.getD 1 .junk) (.int .i64 1)) fun v17 =>
   X [v32, v17] st)) (panR R))) (panR R))
   (k [(ls_2.getD 0 .junk)] st))
  [v10, (.int .i64 0)] st)
theorem e_spec_l01Lift : Enters prog n_spec_l01Lift := ⟨Go.Proofs.Tryz.f55, by kernel_rfl, by kernel_rfl, by kernel_rfl⟩
theorem c_spec_l01Lift {a0 a1 a2 : PV} {st : St} {R : Res → St → Prop} (h : b_spec_l01Lift a0 a1 a2 st R) : HCalls prog n_spec_l01Lift [a0, a1, a2] st R :=
 hcalls_of_func tyOK mixed (fn := Go.Proofs.Tryz.f55) (by kernel_rfl) (by kernel_rfl) (by kernel_rfl) (ann := [(12, [7, 8]), (3, [7]), (29, [44])])
  (show hFunc prog TT [(12, [7, 8]), (3, [7]), (29, [44])] Go.Proofs.Tryz.f55 [a0, a1, a2] st R from (show hFunc prog TT [(12, [7, 8]), (3, [7]), (29, [44])] Go.Proofs.Tryz.f55 [a0, a1, a2] st R = b_spec_l01Lift a0 a1 a2 st R by kernel_rfl) ▸ h)
def b_spec_l01High (a0 : PV) (st : St) (R : Res → St → Prop) : Prop :=
 e_box st a0 fun v1 st =>
 hJ (fun ls st =>
  cb (ls.getD 0 .junk) fun b => br b
   (retR R (.bool true) st)
   (hFix (fun ls_1 st X =>
    qb (q_fa 3 v1) fun v13 =>
    qb (q_load st false 1 v13) fun v14 =>
    qb (q_len v14) fun v15 =>
    qb (q_bin .lss (ls_1.getD 0 .junk) v15) fun v16 =>
    cb v16 fun b_1 => br b_1
     (qb (q_fa 3 v1) fun v19 =>
     qb (q_load st false 1 v19) fun v20 =>
     qb (q_ia 4 v20 (ls_1.getD 0 .junk)) fun v22 =>
     qb (q_load st true 4 v22) fun v23 =>
     callK prog n_spec_l01High [v23] st (fun v24 st =>
     cb v24 fun b_2 => br b_2
      (retR R (.bool true) st)
      (qb (q_bin .add (ls_1.getD 0 .junk) (.int .i64 1)) fun v18 =>
      X [v18] st)) (panR R))
     (retR R (.bool false) st))
    [(.int .i64 0)] st))
  (fun k =>
 qb (q_fa 0 v1) fun v4 =>
 qb (q_load st false 1 v4) fun v5 =>
 qb (q_bin .eql v5 (.int .i64 5)) fun v6 =>
 cb v6 fun b_3 => br b_3
  (qb (q_fa 1 v1) fun v8 =>
  qb (q_load st false 1 v8) fun v9 =>
  qb (q_bin .gtr v9 (.int .i64 100)) fun v10 =>
  k [v10] st)
  (k [(.bool false)] st))
theorem e_spec_l01High : Enters prog n_spec_l01High := ⟨Go.Proofs.Tryz.f56, by kernel_rfl, by kernel_rfl, by kernel_rfl⟩
theorem c_spec_l01High {a0 : PV} {st : St} {R : Res → St → Prop} (h : b_spec_l01High a0 st R) : HCalls prog n_spec_l01High [a0] st R :=
 hcalls_of_func tyOK mixed (fn := Go.Proofs.Tryz.f56) (by kernel_rfl) (by kernel_rfl) (by kernel_rfl) (ann := [(16, [3]), (5, [11])])
  (show hFunc prog TT [(16, [3]), (5, [11])] Go.Proofs.Tryz.f56 [a0] st R from (show hFunc prog TT [(16, [3]), (5, [11])] Go.Proofs.Tryz.f56 [a0] st R = b_spec_l01High a0 st R by kernel_rfl) ▸ h)
def b_spec_l01Small (a0 : PV) (st : St) (R : Res → St → Prop) : Prop :=
 e_box st a0 fun v1 st =>
 qb (q_load st true 4 v1) fun v3 =>
 callK prog n_spec_l01Count [v3, (.int .i64 150)] st (fun v4 st =>
 qb (q_bin .geq v4 (.int .i64 0)) fun v5 =>
 retR R v5 st) (panR R)
theorem c_spec_l01Small {a0 : PV} {st : St} {R : Res → St → Prop} (h : b_spec_l01Small a0 st R) : HCalls prog n_spec_l01Small [a0] st R :=
 hcalls_of_func tyOK mixed (fn := Go.Proofs.Tryz.f57) (by kernel_rfl) (by kernel_rfl) (by kernel_rfl) (ann := [])
  (show hFunc prog TT [] Go.Proofs.Tryz.f57 [a0] st R from (show hFunc prog TT [] Go.Proofs.Tryz.f57 [a0] st R = b_spec_l01Small a0 st R by kernel_rfl) ▸ h)
def b_spec_l01Term (a0 a1 : PV) (st : St) (R : Res → St → Prop) : Prop :=
 e_box st a0 fun v2 st =>
 qb (q_fa 0 v2) fun v5 =>
 qb (q_load st false 1 v5) fun v6 =>
 qb (q_bin .eql v6 (.int .i64 4)) fun v8 =>
 cb v8 fun b => br b
  (qb (q_fa 1 v2) fun v9 =>
  qb (q_load st false 1 v9) fun v10 =>
  qb (q_bin .eql v10 (.int .i64 0)) fun v11 =>
  cb v11 fun b_1 => br b_1
   (qb (q_fa 2 v2) fun v13 =>
   qb (q_load st false 1 v13) fun v14 =>
   qb (q_bin .eql v14 (.str [])) fun v15 =>
   cb v15 fun b_2 => br b_2
    (qb (q_fa 3 v2) fun v18 =>
    qb (q_load st false 1 v18) fun v19 =>
    qb (q_len v19) fun v20 =>
    qb (q_bin .eql v20 (.int .i64 1)) fun v21 =>
    cb v21 fun b_3 => br b_3
     (qb (q_fa 3 v2) fun v24 =>
     qb (q_load st false 1 v24) fun v25 =>
     qb (q_ia 4 v25 (.int .i64 0)) fun v26 =>
     qb (q_load st true 4 v26) fun v27 =>
     callK prog n_spec_l01Term [v27, a1] st (fun v29 st =>
     retR R v29 st) (panR R))
     (retR R (.bool false) st))
    (retR R (.bool false) st))
   (retR R (.bool false) st))
  (qb (q_bin .eql v6 (.int .i64 5)) fun v32 =>
  hJ (fun ls st =>
   cb (ls.getD 0 .junk) fun b_5 => br b_5
    (qb (q_fa 1 v2) fun v34 =>
    qb (q_load st false 1 v34) fun v35 =>
    qb (q_bin .geq v35 (.int .i64 0)) fun v36 =>
    cb v36 fun b_6 => br b_6
     (qb (q_fa 1 v2) fun v38 =>
     qb (q_load st false 1 v38) fun v39 =>
     qb (q_bin .leq v39 (.int .i64 100)) fun v40 =>
     cb v40 fun b_7 => br b_7
      (qb (q_fa 2 v2) fun v43 =>
      qb (q_load st false 1 v43) fun v44 =>
      qb (q_bin .eql v44 (.str [])) fun v45 =>
      cb v45 fun b_8 => br b_8
       (qb (q_fa 3 v2) fun v48 =>
       qb (q_load st false 1 v48) fun v49 =>
       callK prog n_spec_l01Terms [v49, a1] st (fun v51 st =>
       retR R v51 st) (panR R))
       (retR R (.bool false) st))
      (retR R (.bool false) st))
     (retR R (.bool false) st))
    (qb (q_bin .eql v6 (.int .i64 6)) fun v54 =>
    cb v54 fun b_9 => br b_9
     (qb (q_fa 1 v2) fun v55 =>
     qb (q_load st false 1 v55) fun v56 =>
     qb (q_bin .eql v56 (.int .i64 0)) fun v57 =>
     cb v57 fun b_10 => br b_10
      (qb (q_fa 2 v2) fun v59 =>
      qb (q_load st false 1 v59) fun v60 =>
      callK prog n_spec_NameOK [v60] st (fun v61 st =>
      cb v61 fun b_11 => br b_11
       (qb (q_fa 3 v2) fun v64 =>
       qb (q_load st false 1 v64) fun v65 =>
       callK prog n_spec_l01Terms [v65, a1] st (fun v67 st =>
       retR R v67 st) (panR R))
       (retR R (.bool false) st)) (panR R))
      (retR R (.bool false) st))
     (retR R (.bool false) st)))
   (fun k =>
  cb v32 fun b_4 => br b_4
   (k [v32] st)
   (qb (q_bin .eql v6 (.int .i64 7)) fun v33 =>
   k [v33] st)))
theorem e_spec_l01Term : Enters prog n_spec_l01Term := ⟨Go.Proofs.Tryz.f58, by kernel_rfl, by kernel_rfl, by kernel_rfl⟩
theorem c_spec_l01Term {a0 a1 : PV} {st : St} {R : Res → St → Prop} (h : b_spec_l01Term a0 a1 st R) : HCalls prog n_spec_l01Term [a0, a1] st R :=
 hcalls_of_func tyOK mixed (fn := Go.Proofs.Tryz.f58) (by kernel_rfl) (by kernel_rfl) (by kernel_rfl) (ann := [(22, [31])])
  (show hFunc prog TT [(22, [31])] Go.Proofs.Tryz.f58 [a0, a1] st R from (show hFunc prog TT [(22, [31])] Go.Proofs.Tryz.f58 [a0, a1] st R = b_spec_l01Term a0 a1 st R by kernel_rfl) ▸ h)
def b_spec_l01Family (a0 : PV) (st : St) (R : Res → St → Prop) : Prop :=
 e_box st a0 fun v1 st =>
 qb (q_fa 0 v1) fun v3 =>
 qb (q_load st false 1 v3) fun v4 =>
 qb (q_bin .eql v4 (.int .i64 2)) fun v6 =>
 cb v6 fun b => br b
  (qb (q_fa 1 v1) fun v7 =>
  qb (q_load st false 1 v7) fun v8 =>
  qb (q_bin .eql v8 (.int .i64 0)) fun v9 =>
  cb v9 fun b_1 => br b_1
   (qb (q_fa 2 v1) fun v11 =>
   qb (q_load st false 1 v11) fun v12 =>
   qb (q_bin .eql v12 (.str [])) fun v13 =>
   cb v13 fun b_2 => br b_2
    (qb (q_fa 3 v1) fun v16 =>
    qb (q_load st false 1 v16) fun v17 =>
    qb (q_len v17) fun v18 =>
    qb (q_bin .eql v18 (.int .i64 2)) fun v19 =>
    cb v19 fun b_3 => br b_3
     (qb (q_fa 3 v1) fun v22 =>
     qb (q_load st false 1 v22) fun v23 =>
     qb (q_ia 4 v23 (.int .i64 0)) fun v24 =>
     qb (q_load st true 4 v24) fun v25 =>
     callK prog n_spec_l01Family [v25] st (fun v26 st =>
     cb v26 fun b_4 => br b_4
      (qb (q_fa 3 v1) fun v29 =>
      qb (q_load st false 1 v29) fun v30 =>
      qb (q_ia 4 v30 (.int .i64 1)) fun v31 =>
      qb (q_load st true 4 v31) fun v32 =>
      callK prog n_spec_l01Family [v32] st (fun v33 st =>
      retR R v33 st) (panR R))
      (retR R (.bool false) st)) (panR R))
     (retR R (.bool false) st))
    (retR R (.bool false) st))
   (retR R (.bool false) st))
  (qb (q_bin .eql v4 (.int .i64 3)) fun v36 =>
  cb v36 fun b_5 => br b_5
   (qb (q_fa 1 v1) fun v37 =>
   qb (q_load st false 1 v37) fun v38 =>
   qb (q_bin .eql v38 (.int .i64 0)) fun v39 =>
   cb v39 fun b_6 => br b_6
    (qb (q_fa 2 v1) fun v41 =>
    qb (q_load st false 1 v41) fun v42 =>
    callK prog n_spec_NameOK [v42] st (fun v43 st =>
    cb v43 fun b_7 => br b_7
     (qb (q_fa 3 v1) fun v46 =>
     qb (q_load st false 1 v46) fun v47 =>
     callK prog n_spec_l01Terms [v47, (.bool false)] st (fun v48 st =>
     retR R v48 st) (panR R))
     (retR R (.bool false) st)) (panR R))
    (retR R (.bool false) st))
   (retR R (.bool false) st))
theorem c_spec_l01Family {a0 : PV} {st : St} {R : Res → St → Prop} (h : b_spec_l01Family a0 st R) : HCalls prog n_spec_l01Family [a0] st R :=
 hcalls_of_func tyOK mixed (fn := Go.Proofs.Tryz.f59) (by kernel_rfl) (by kernel_rfl) (by kernel_rfl) (ann := [])
  (show hFunc prog TT [] Go.Proofs.Tryz.f59 [a0] st R from (show hFunc prog TT [] Go.Proofs.Tryz.f59 [a0] st R = b_spec_l01Family a0 st R by kernel_rfl) ▸ h)
def b_spec_SigOK (a0 : PV) (st : St) (R : Res → St → Prop) : Prop :=
 qb (q_len a0) fun v7 =>
 qb (q_bin .gtr v7 (.int .i64 40)) fun v8 =>
 cb v8 fun b => br b
  (retR R (.bool false) st)
  (hFix (fun ls st X =>
   qb (q_len a0) fun v11 =>
   qb (q_bin .lss (ls.getD 0 .junk) v11) fun v12 =>
   cb v12 fun b_1 => br b_1
    (qb (q_sliceE 6 a0 none (some (ls.getD 0 .junk)) none) fun v18 =>
    qb (q_ia 6 a0 (ls.getD 0 .junk)) fun v21 =>
    qb (q_load st true 6 v21) fun v22 =>
    callK prog n_spec_l04Decl [v18, v22] st (fun v23 st =>
    qb (q_ex v23 0) fun v24 =>
    qb (q_ex v23 1) fun v25 =>
    qb (q_bin .neq v24 (.int .i64 0)) fun v27 =>
    cb v27 fun b_2 => br b_2
     (retR R (.bool false) st)
     (qb (q_bin .add (ls.getD 0 .junk) (.int .i64 1)) fun v14 =>
     X [v14] st)) (panR R))
    (retR R (.bool true) st))
   [(.int .i64 0)] st)
theorem c_spec_SigOK {a0 : PV} {st : St} {R : Res → St → Prop} (h : b_spec_SigOK a0 st R) : HCalls prog n_spec_SigOK [a0] st R :=
 hcalls_of_func tyOK mixed (fn := Go.Proofs.Tryz.f60) (by kernel_rfl) (by kernel_rfl) (by kernel_rfl) (ann := [(16, [3])])
  (show hFunc prog TT [(16, [3])] Go.Proofs.Tryz.f60 [a0] st R from (show hFunc prog TT [(16, [3])] Go.Proofs.Tryz.f60 [a0] st R = b_spec_SigOK a0 st R by kernel_rfl) ▸ h)
end Go.H.Tryz
