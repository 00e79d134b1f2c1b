/- Part of a proof that the program answers as the reference does: EDS8. -/
import Derived.Test.YtcgobhgnoobifaaGreatDoorHT
/- MADE BY PROGRAM (hgen.py): what the functions compute, over pure values. -/
set_option linter.unusedVariables false
set_option maxRecDepth 100000
namespace Go.H.Tryz
open Go Go.H
def b_impl_wordOK (a0 : PV) (st : St) (R : Res → St → Prop) : Prop :=
 qb (q_lenS a0) fun v4 =>
 callK prog n_impl_in [v4, (.int .i64 1), (.int .i64 40)] st (fun v5 st =>
 cb v5 fun b => br b
  (qb (q_ix a0 (.int .i64 0)) fun v8 =>
  callK prog n_impl_isHead [v8] st (fun v9 st =>
  cb v9 fun b_1 => br b_1
   (callK prog n_impl_over [a0, (.str [97, 98, 99, 100, 101, 102, 103, 104, 105, 106, 107, 108, 109, 110, 111, 112, 113, 114, 115, 116, 117, 118, 119, 120, 121, 122, 65, 66, 67, 68, 69, 70, 71, 72, 73, 74, 75, 76, 77, 78, 79, 80, 81, 82, 83, 84, 85, 86, 87, 88, 89, 90, 95, 48, 49, 50, 51, 52, 53, 54, 55, 56, 57])] st (fun v13 st =>
   retR R v13 st) (panR R))
   (retR R (.bool false) st)) (panR R))
  (retR R (.bool false) st)) (panR R)
theorem c_impl_wordOK {a0 : PV} {st : St} {R : Res → St → Prop} (h : b_impl_wordOK a0 st R) : HCalls prog n_impl_wordOK [a0] st R :=
 hcalls_of_func tyOK mixed (fn := Go.Proofs.Tryz.f164) (by kernel_rfl) (by kernel_rfl) (by kernel_rfl) (ann := [])
  (show hFunc prog TT [] Go.Proofs.Tryz.f164 [a0] st R from (show hFunc prog TT [] Go.Proofs.Tryz.f164 [a0] st R = b_impl_wordOK a0 st R by kernel_rfl) ▸ h)
def b_strings_CutPrefix (a0 a1 : PV) (st : St) (R : Res → St → Prop) : Prop :=
 callK prog n_internal_stringslite_CutPrefix [a0, a1] st (fun v8 st =>
 qb (q_ex v8 0) fun v9 =>
 qb (q_ex v8 1) fun v10 =>
 retR R (.tup [v9, v10]) st) (panR R)
theorem c_strings_CutPrefix {a0 a1 : PV} {st : St} {R : Res → St → Prop} (h : b_strings_CutPrefix a0 a1 st R) : HCalls prog n_strings_CutPrefix [a0, a1] st R :=
 hcalls_of_func tyOK mixed (fn := Go.Proofs.Tryz.f165) (by kernel_rfl) (by kernel_rfl) (by kernel_rfl) (ann := [])
  (show hFunc prog TT [] Go.Proofs.Tryz.f165 [a0, a1] st R from (show hFunc prog TT [] Go.Proofs.Tryz.f165 [a0, a1] st R = b_strings_CutPrefix a0 a1 st R by kernel_rfl) ▸ h)
def b_impl_over (a0 a1 : PV) (st : St) (R : Res → St → Prop) : Prop :=
 callK prog n_strings_Trim [a0, a1] st (fun v7 st =>
 qb (q_bin .eql v7 (.str [])) fun v8 =>
 retR R v8 st) (panR R)
theorem c_impl_over {a0 a1 : PV} {st : St} {R : Res → St → Prop} (h : b_impl_over a0 a1 st R) : HCalls prog n_impl_over [a0, a1] st R :=
 hcalls_of_func tyOK mixed (fn := Go.Proofs.Tryz.f166) (by kernel_rfl) (by kernel_rfl) (by kernel_rfl) (ann := [])
  (show hFunc prog TT [] Go.Proofs.Tryz.f166 [a0, a1] st R from (show hFunc prog TT [] Go.Proofs.Tryz.f166 [a0, a1] st R = b_impl_over a0 a1 st R by kernel_rfl) ▸ h)
def b_impl_looker_node (a0 : PV) (st : St) (R : Res → St → Prop) : Prop :=
 qb (q_nil a0) fun v4 =>
 qb (q_fa 0 v4) fun v5 =>
 qb (q_load st false 1 v5) fun v6 =>
 qb (q_bin .sub v6 (.int .i64 1)) fun v7 =>
 qb (q_nil a0) fun v8 =>
 qb (q_fa 0 v8) fun v9 =>
 e_store st 1 v9 v7 fun st =>
 qb (q_nil a0) fun v11 =>
 qb (q_fa 0 v11) fun v12 =>
 qb (q_load st false 1 v12) fun v13 =>
 qb (q_bin .geq v13 (.int .i64 0)) fun v14 =>
 retR R v14 st
theorem c_impl_looker_node {a0 : PV} {st : St} {R : Res → St → Prop} (h : b_impl_looker_node a0 st R) : HCalls prog n_impl_looker_node [a0] st R :=
 hcalls_of_func tyOK mixed (fn := Go.Proofs.Tryz.f168) (by kernel_rfl) (by kernel_rfl) (by kernel_rfl) (ann := [])
  (show hFunc prog TT [] Go.Proofs.Tryz.f168 [a0] st R from (show hFunc prog TT [] Go.Proofs.Tryz.f168 [a0] st R = b_impl_looker_node a0 st R by kernel_rfl) ▸ h)
def b_impl_Tree_bare (a0 a1 : PV) (st : St) (R : Res → St → Prop) : Prop :=
 qb (q_nil a0) fun v6 =>
 qb (q_fa 1 v6) fun v7 =>
 qb (q_load st false 1 v7) fun v8 =>
 qb (q_bin .eql v8 (.int .i64 0)) fun v9 =>
 cb v9 fun b => br b
  (qb (q_nil a0) fun v12 =>
  qb (q_fa 2 v12) fun v13 =>
  qb (q_load st false 1 v13) fun v14 =>
  qb (q_bin .eql v14 (.str [])) fun v15 =>
  cb v15 fun b_1 => br b_1
   (qb (q_nil a0) fun v19 =>
   qb (q_fa 3 v19) fun v20 =>
   qb (q_load st false 1 v20) fun v21 =>
   qb (q_len v21) fun v22 =>
   qb (q_bin .eql v22 a1) fun v24 =>
   retR R v24 st)
   (retR R (.bool false) st))
  (retR R (.bool false) st)
theorem c_impl_Tree_bare {a0 a1 : PV} {st : St} {R : Res → St → Prop} (h : b_impl_Tree_bare a0 a1 st R) : HCalls prog n_impl_Tree_bare [a0, a1] st R :=
 hcalls_of_func tyOK mixed (fn := Go.Proofs.Tryz.f169) (by kernel_rfl) (by kernel_rfl) (by kernel_rfl) (ann := [])
  (show hFunc prog TT [] Go.Proofs.Tryz.f169 [a0, a1] st R from (show hFunc prog TT [] Go.Proofs.Tryz.f169 [a0, a1] st R = b_impl_Tree_bare a0 a1 st R by kernel_rfl) ▸ h)
def b_impl_looker_args (a0 a1 : PV) (st : St) (R : Res → St → Prop) : Prop :=
 qb (q_len a1) fun v8 =>
 hFix (fun ls st X =>
  qb (q_bin .lss (ls.getD 0 .junk) v8) fun v10 =>
  cb v10 fun b => br b
   (qb (q_ia 4 a1 (ls.getD 0 .junk)) fun v11 =>
   qb (q_load st true 4 v11) fun v12 =>
   e_alloc st [.int .i64 0, .int .i64 0, .str [], .sl 0 true []] fun v6 st =>
   e_store st 4 v6 v12 fun st =>
   hJ (fun ls_1 st =>
    cb (ls_1.getD 0 .junk) fun b_1 => br b_1
     (callK prog n_impl_Tree_bare [v6, (.int .i64 0)] st (fun v22 st =>
     qb (q_un .not v22) fun v23 =>
     cb v23 fun b_2 => br b_2
      (retR R (.bool false) st)
      (callK prog n_impl_looker_node [a0] st (fun v26 st =>
      qb (q_un .not v26) fun v27 =>
      cb v27 fun b_3 => br b_3
       (retR R (.bool false) st)
       (qb (q_bin .add (ls.getD 0 .junk) (.int .i64 1)) fun v33 =>
       X [v33] st)) (panR R))) (panR R))
     (qb (q_load st true 4 v6) fun v30 =>
     callK prog n_impl_looker_term [a0, v30] st (fun v31 st =>
     qb (q_un .not v31) fun v32 =>
     cb v32 fun b_4 => br b_4
      (retR R (.bool false) st)
      (qb (q_bin .add (ls.getD 0 .junk) (.int .i64 1)) fun v33_1 =>
      X [v33_1] st)) (panR R)))
    (fun k =>
   qb (q_nil a0) fun v14 =>
   qb (q_fa 1 v14) fun v15 =>
   qb (q_load st false 1 v15) fun v16 =>
   cb v16 fun b_5 => br b_5
    (qb (q_fa 0 v6) fun v18 =>
    qb (q_load st false 1 v18) fun v19 =>
    qb (q_bin .eql v19 (.int .i64 8)) fun v20 =>
    k [v20] st)
    (k [(.bool false)] st)))
   (retR R (.bool true) st))
  [(.int .i64 0)] st
theorem e_impl_looker_args : Enters prog n_impl_looker_args := ⟨Go.Proofs.Tryz.f170, by kernel_rfl, by kernel_rfl, by kernel_rfl⟩
theorem c_impl_looker_args {a0 a1 : PV} {st : St} {R : Res → St → Prop} (h : b_impl_looker_args a0 a1 st R) : HCalls prog n_impl_looker_args [a0, a1] st R :=
 hcalls_of_func tyOK mixed (fn := Go.Proofs.Tryz.f170) (by kernel_rfl) (by kernel_rfl) (by kernel_rfl) (ann := [(8, [9]), (17, [21])])
  (show hFunc prog TT [(8, [9]), (17, [21])] Go.Proofs.Tryz.f170 [a0, a1] st R from (show hFunc prog TT [(8, [9]), (17, [21])] Go.Proofs.Tryz.f170 [a0, a1] st R = b_impl_looker_args a0 a1 st R by kernel_rfl) ▸ h)
def b_spec_l01Count (a0 a1 : PV) (st : St) (R : Res → St → Prop) : Prop :=
 e_box st a0 fun v2 st =>
 qb (q_bin .sub a1 (.int .i64 1)) fun v7 =>
 hFix (fun ls st X =>
  hJ (fun ls_1 st =>
   cb (ls_1.getD 0 .junk) fun b => br b
    (qb (q_fa 3 v2) fun v19 =>
    qb (q_load st false 1 v19) fun v20 =>
    qb (q_ia 4 v20 (ls.getD 1 .junk)) fun v22 =>
    qb (q_load st true 4 v22) fun v23 =>
    callK prog n_spec_l01Count [v23, (ls.getD 0 .junk)] st (fun v25 st =>
    qb (q_bin .add (ls.getD 1 .junk) (.int .i64 1)) fun v18 =>
    X [v25, v18] st) (panR R))
    (retR R (ls.getD 0 .junk) st))
   (fun k =>
  qb (q_fa 3 v2) fun v9 =>
  qb (q_load st false 1 v9) fun v10 =>
  qb (q_len v10) fun v11 =>
  qb (q_bin .lss (ls.getD 1 .junk) v11) fun v12 =>
  cb v12 fun b_1 => br b_1
   (qb (q_bin .geq (ls.getD 0 .junk) (.int .i64 0)) fun v15 =>
   k [v15] st)
   (k [(.bool false)] st)))
  [v7, (.int .i64 0)] st
theorem e_spec_l01Count : Enters prog n_spec_l01Count := ⟨Go.Proofs.Tryz.f171, by kernel_rfl, by kernel_rfl, by kernel_rfl⟩
theorem c_spec_l01Count {a0 a1 : PV} {st : St} {R : Res → St → Prop} (h : b_spec_l01Count a0 a1 st R) : HCalls prog n_spec_l01Count [a0, a1] st R :=
 hcalls_of_func tyOK mixed (fn := Go.Proofs.Tryz.f171) (by kernel_rfl) (by kernel_rfl) (by kernel_rfl) (ann := [(12, [1, 5]), (13, [16])])
  (show hFunc prog TT [(12, [1, 5]), (13, [16])] Go.Proofs.Tryz.f171 [a0, a1] st R from (show hFunc prog TT [(12, [1, 5]), (13, [16])] Go.Proofs.Tryz.f171 [a0, a1] st R = b_spec_l01Count a0 a1 st R by kernel_rfl) ▸ h)
def b_spec_l01Terms (a0 a1 : PV) (st : St) (R : Res → St → Prop) : Prop :=
 hFix (fun ls st X =>
  qb (q_len a0) fun v8 =>
  qb (q_bin .lss (ls.getD 0 .junk) v8) fun v9 =>
  cb v9 fun b => br b
   (hJ (fun ls_1 st =>
    cb (ls_1.getD 0 .junk) fun b_1 => br b_1
     (qb (q_ia 4 a0 (ls.getD 0 .junk)) fun v23 =>
     qb (q_fa 1 v23) fun v24 =>
     qb (q_load st false 1 v24) fun v25 =>
     qb (q_bin .neq v25 (.int .i64 0)) fun v26 =>
     cb v26 fun b_2 => br b_2
      (retR R (.bool false) st)
      (qb (q_ia 4 a0 (ls.getD 0 .junk)) fun v30 =>
      qb (q_fa 2 v30) fun v31 =>
      qb (q_load st false 1 v31) fun v32 =>
      qb (q_bin .neq v32 (.str [])) fun v33 =>
      cb v33 fun b_3 => br b_3
       (retR R (.bool false) st)
       (qb (q_ia 4 a0 (ls.getD 0 .junk)) fun v38 =>
       qb (q_fa 3 v38) fun v39 =>
       qb (q_load st false 1 v39) fun v40 =>
       qb (q_len v40) fun v41 =>
       qb (q_bin .neq v41 (.int .i64 0)) fun v42 =>
       cb v42 fun b_4 => br b_4
        (retR R (.bool false) st)
        (qb (q_bin .add (ls.getD 0 .junk) (.int .i64 1)) fun v11 =>
        X [v11] st))))
     (qb (q_ia 4 a0 (ls.getD 0 .junk)) fun v46 =>
     qb (q_load st true 4 v46) fun v47 =>
     callK prog n_spec_l01Term [v47, a1] st (fun v49 st =>
     qb (q_un .not v49) fun v50 =>
     cb v50 fun b_5 => br b_5
      (retR R (.bool false) st)
      (qb (q_bin .add (ls.getD 0 .junk) (.int .i64 1)) fun v11_1 =>
      X [v11_1] st)) (panR R)))
    (fun k =>
   cb a1 fun b_6 => br b_6
    (qb (q_ia 4 a0 (ls.getD 0 .junk)) fun v16 =>
    qb (q_fa 0 v16) fun v17 =>
    qb (q_load st false 1 v17) fun v18 =>
    qb (q_bin .eql v18 (.int .i64 8)) fun v19 =>
    k [v19] st)
    (k [(.bool false)] st)))
   (retR R (.bool true) st))
  [(.int .i64 0)] st
theorem e_spec_l01Terms : Enters prog n_spec_l01Terms := ⟨Go.Proofs.Tryz.f172, by kernel_rfl, by kernel_rfl, by kernel_rfl⟩
theorem c_spec_l01Terms {a0 a1 : PV} {st : St} {R : Res → St → Prop} (h : b_spec_l01Terms a0 a1 st R) : HCalls prog n_spec_l01Terms [a0, a1] st R :=
 hcalls_of_func tyOK mixed (fn := Go.Proofs.Tryz.f172) (by kernel_rfl) (by kernel_rfl) (by kernel_rfl) (ann := [(8, [5]), (17, [20])])
  (show hFunc prog TT [(8, [5]), (17, [20])] Go.Proofs.Tryz.f172 [a0, a1] st R from (show hFunc prog TT [(8, [5]), (17, [20])] Go.Proofs.Tryz.f172 [a0, a1] st R = b_spec_l01Terms a0 a1 st R by kernel_rfl) ▸ h)
def b_spec_l03Run_sub (a0 a1 a2 a3 a4 : PV) (st : St) (R : Res → St → Prop) : Prop :=
 e_box st a1 fun v6 st =>
 e_box st a2 fun v7 st =>
 e_box st a3 fun v8 st =>
 e_alloc st [.int .i64 0, .int .i64 0, .str [], .sl 0 true []] fun v10 st =>
 qb (q_lit 4 0 0 [] []) fun v18 =>
 hJ (fun ls st =>
  hJ (fun ls_1 st =>
   cb (ls_1.getD 0 .junk) fun b => br b
    (qb (q_load st true 4 v6) fun v60 =>
    callK prog n_spec_l01Lift [v60, (.int .i64 0), a4] st (fun v62 st =>
    e_alloc st [.int .i64 0, .int .i64 0, .str [], .sl 0 true []] fun v16 st =>
    e_store st 4 v16 v62 fun st =>
    qb (q_load st true 4 v16) fun v63 =>
    callK prog n_spec_l03Big [v63] st (fun v64 st =>
    cb v64 fun b_1 => br b_1
     (qb (q_struct [.int .i64 0, .int .i64 0, .str [], .sl 0 true []] []) fun v65 =>
     e_store st 4 v10 v65 fun st =>
     qb (q_load st true 4 v10) fun r => retR R (.tup [r, (.int .i64 11)]) st)
     (qb (q_load st true 4 v16) fun v67 =>
     qb (q_load st true 4 v7) fun v68 =>
     callK prog n_spec_l03Run_reduce [a0, v67, v68, (ls.getD 0 .junk)] st (fun v70 st =>
     qb (q_ex v70 0) fun v71 =>
     qb (q_ex v70 1) fun v72 =>
     e_store st 4 v10 v71 fun st =>
     qb (q_load st true 4 v10) fun r_1 => retR R (.tup [r_1, v72]) st) (panR R))) (panR R)) (panR R))
    (qb (q_load st true 4 v8) fun v73 =>
    callK prog n_spec_l01With [v73, (ls.getD 0 .junk)] st (fun v75 st =>
    e_alloc st [.int .i64 0, .int .i64 0, .str [], .sl 0 true []] fun v17 st =>
    e_store st 4 v17 v75 fun st =>
    hJ (fun ls_2 st =>
     hJ (fun ls_3 st =>
      qb (q_load st true 4 v17) fun v89 =>
      callK prog n_spec_l03Big [v89] st (fun v90 st =>
      cb v90 fun b_3 => br b_3
       (qb (q_struct [.int .i64 0, .int .i64 0, .str [], .sl 0 true []] []) fun v91 =>
       e_store st 4 v10 v91 fun st =>
       qb (q_load st true 4 v10) fun r_2 => retR R (.tup [r_2, (.int .i64 11)]) st)
       (qb (q_load st true 4 v17) fun v92 =>
       e_store st 4 v10 v92 fun st =>
       qb (q_load st true 4 v10) fun r_3 => retR R (.tup [r_3, (.int .i64 0)]) st)) (panR R))
      (fun k_3 =>
     cb (ls_2.getD 0 .junk) fun b_2 => br b_2
      (qb (q_fa 1 v17) fun v85 =>
      qb (q_load st false 1 v85) fun v86 =>
      qb (q_bin .sub v86 (.int .i64 1)) fun v87 =>
      qb (q_fa 1 v17) fun v88 =>
      e_store st 1 v88 v87 fun st =>
      k_3 [] st)
      (k_3 [] st)))
     (fun k_2 =>
    qb (q_fa 0 v8) fun v76 =>
    qb (q_load st false 1 v76) fun v77 =>
    qb (q_bin .eql v77 (.int .i64 5)) fun v78 =>
    cb v78 fun b_4 => br b_4
     (qb (q_fa 1 v8) fun v80 =>
     qb (q_load st false 1 v80) fun v81 =>
     qb (q_bin .gtr v81 a4) fun v83 =>
     k_2 [v83] st)
     (k_2 [(.bool false)] st))) (panR R)))
   (fun k_1 =>
  qb (q_fa 0 v8) fun v51 =>
  qb (q_load st false 1 v51) fun v52 =>
  qb (q_bin .eql v52 (.int .i64 5)) fun v53 =>
  cb v53 fun b_5 => br b_5
   (qb (q_fa 1 v8) fun v55 =>
   qb (q_load st false 1 v55) fun v56 =>
   qb (q_bin .eql v56 a4) fun v58 =>
   k_1 [v58] st)
   (k_1 [(.bool false)] st)))
  (fun k =>
 hFix (fun ls_4 st X =>
  qb (q_fa 3 v8) fun v20 =>
  qb (q_load st false 1 v20) fun v21 =>
  qb (q_len v21) fun v22 =>
  qb (q_bin .lss (ls_4.getD 1 .junk) v22) fun v23 =>
  cb v23 fun b_6 => br b_6
   (hJ (fun ls_5 st =>
    qb (q_bin .neq (ls_5.getD 1 .junk) (.int .i64 0)) fun v44 =>
    cb v44 fun b_7 => br b_7
     (qb (q_struct [.int .i64 0, .int .i64 0, .str [], .sl 0 true []] []) fun v45 =>
     e_store st 4 v10 v45 fun st =>
     qb (q_load st true 4 v10) fun r_4 => retR R (.tup [r_4, (ls_5.getD 1 .junk)]) st)
     (qb (q_load st true 4 (ls_5.getD 0 .junk)) fun v48 =>
     qb (q_lit 4 1 0 [] [(0, v48)]) fun v49 =>
     e_append st 4 56 (ls_4.getD 0 .junk) v49 (fun v50 st =>
     qb (q_bin .add (ls_4.getD 1 .junk) (.int .i64 1)) fun v25 =>
     X [v50, v25] st)))
    (fun k_4 =>
   qb (q_load st true 4 v6) fun v28 =>
   qb (q_load st true 4 v7) fun v29 =>
   qb (q_fa 3 v8) fun v30 =>
   qb (q_load st false 1 v30) fun v31 =>
   qb (q_ia 4 v31 (ls_4.getD 1 .junk)) fun v33 =>
   qb (q_load st true 4 v33) fun v34 =>
   qb (q_load st true 4 v8) fun v36 =>
   (callK prog n_spec_l01Under [v36, (ls_4.getD 1 .junk)] st (fun v38 st =>
   q_load st true 4 v33 = some v34 ∧ q_load st false 1 v30 = some v31 ∧ q_load st true 4 v7 = some v29 ∧ q_load st true 4 v6 = some v28 ∧ (qb (q_bin .add a4 v38) fun v39 =>
   (callK prog n_spec_l03Run_sub [a0, v28, v29, v34, v39] st (fun v40 st =>
   qb (q_ex v40 0) fun v41 =>
   qb (q_ex v40 1) fun v42 =>
   e_alloc st [.int .i64 0, .int .i64 0, .str [], .sl 0 true []] fun v14 st =>
   q_load st true 4 v8 = some v36 ∧ q_load st true 4 v33 = some v34 ∧ q_load st false 1 v30 = some v31 ∧ q_load st true 4 v7 = some v29 ∧ q_load st true 4 v6 = some v28 ∧ (e_store st 4 v14 v41 fun st =>
   k_4 [v14, v42] st)) (panR R)) ∧
   (e_alloc st [.int .i64 0, .int .i64 0, .str [], .sl 0 true []] fun v14_1 st =>
   q_load st true 4 v8 = some v36 ∧ q_load st true 4 v33 = some v34 ∧ q_load st false 1 v30 = some v31 ∧ q_load st true 4 v7 = some v29 ∧ q_load st true 4 v6 = some v28 ∧ (callK prog n_spec_l03Run_sub [a0, v28, v29, v34, v39] st (fun v40_1 st =>
   qb (q_ex v40_1 0) fun v41_1 =>
   qb (q_ex v40_1 1) fun v42_1 =>
   e_store st 4 v14_1 v41_1 fun st =>
   k_4 [v14_1, v42_1] st) (panR R))))) (panR R)) ∧
   (e_alloc st [.int .i64 0, .int .i64 0, .str [], .sl 0 true []] fun v14_2 st =>
   q_load st true 4 v8 = some v36 ∧ q_load st true 4 v33 = some v34 ∧ q_load st false 1 v30 = some v31 ∧ q_load st true 4 v7 = some v29 ∧ q_load st true 4 v6 = some v28 ∧ (callK prog n_spec_l01Under [v36, (ls_4.getD 1 .junk)] st (fun v38_1 st =>
   q_load st true 4 v33 = some v34 ∧ q_load st false 1 v30 = some v31 ∧ q_load st true 4 v7 = some v29 ∧ q_load st true 4 v6 = some v28 ∧ (qb (q_bin .add a4 v38_1) fun v39_1 =>
   callK prog n_spec_l03Run_sub [a0, v28, v29, v34, v39_1] st (fun v40_2 st =>
   qb (q_ex v40_2 0) fun v41_2 =>
   qb (q_ex v40_2 1) fun v42_2 =>
   e_store st 4 v14_2 v41_2 fun st =>
   k_4 [v14_2, v42_2] st) (panR R))) (panR R)))))
   (k [(ls_4.getD 0 .junk)] st))
  [v18, (.int .i64 0)] st)
theorem c_spec_l03Run_sub {a0 a1 a2 a3 a4 : PV} {st : St} {R : Res → St → Prop} (h : b_spec_l03Run_sub a0 a1 a2 a3 a4 st R) : HCalls prog n_spec_l03Run_sub [a0, a1, a2, a3, a4] st R :=
 hcalls_of_func tyOK mixed (fn := Go.Proofs.Tryz.f173) (by kernel_rfl) (by kernel_rfl) (by kernel_rfl) (ann := [(12, [12, 13]), (3, [12]), (21, [14, 15]), (37, [59]), (61, [84]), (66, [])])
  (show hFunc prog TT [(12, [12, 13]), (3, [12]), (21, [14, 15]), (37, [59]), (61, [84]), (66, [])] Go.Proofs.Tryz.f173 [a0, a1, a2, a3, a4] st R from (show hFunc prog TT [(12, [12, 13]), (3, [12]), (21, [14, 15]), (37, [59]), (61, [84]), (66, [])] Go.Proofs.Tryz.f173 [a0, a1, a2, a3, a4] st R = b_spec_l03Run_sub a0 a1 a2 a3 a4 st R by kernel_rfl) ▸ h)
def b_slices_Clip_impl_Tree_impl_Tree (a0 : PV) (st : St) (R : Res → St → Prop) : Prop :=
 qb (q_len a0) fun v5 =>
 qb (q_len a0) fun v7 =>
 qb (q_sliceE 4 a0 none (some v5) (some v7)) fun v8 =>
 retR R v8 st
theorem c_slices_Clip_impl_Tree_impl_Tree {a0 : PV} {st : St} {R : Res → St → Prop} (h : b_slices_Clip_impl_Tree_impl_Tree a0 st R) : HCalls prog n_slices_Clip_impl_Tree_impl_Tree [a0] st R :=
 hcalls_of_func tyOK mixed (fn := Go.Proofs.Tryz.f174) (by kernel_rfl) (by kernel_rfl) (by kernel_rfl) (ann := [])
  (show hFunc prog TT [] Go.Proofs.Tryz.f174 [a0] st R from (show hFunc prog TT [] Go.Proofs.Tryz.f174 [a0] st R = b_slices_Clip_impl_Tree_impl_Tree a0 st R by kernel_rfl) ▸ h)
def b_impl_checker_left (a0 a1 a2 a3 : PV) (st : St) (R : Res → St → Prop) : Prop :=
 e_box st a0 fun v4 st =>
 e_box st a1 fun v5 st =>
 e_box st a2 fun v6 st =>
 e_alloc st [.int .i64 0, .int .i64 0, .str [], .sl 0 true []] fun v8 st =>
 qb (q_struct [.int .i64 0, .int .i64 0, .str [], .sl 0 true []] []) fun v10 =>
 e_alloc st [.int .i64 0, .int .i64 0, .str [], .sl 0 true []] fun v9 st =>
 e_store st 4 v9 v10 fun st =>
 callK prog n_impl_at [a3, (.fn (.func n_impl_checker_left_1) [] [v4, v5, v6, v9])] st (fun v13 st =>
 qb (q_load st true 4 v9) fun v14 =>
 e_store st 4 v8 v14 fun st =>
 qb (q_load st true 4 v8) fun r => retR R r st) (panR R)
theorem c_impl_checker_left {a0 a1 a2 a3 : PV} {st : St} {R : Res → St → Prop} (h : b_impl_checker_left a0 a1 a2 a3 st R) : HCalls prog n_impl_checker_left [a0, a1, a2, a3] st R :=
 hcalls_of_func tyOK mixed (fn := Go.Proofs.Tryz.f175) (by kernel_rfl) (by kernel_rfl) (by kernel_rfl) (ann := [])
  (show hFunc prog TT [] Go.Proofs.Tryz.f175 [a0, a1, a2, a3] st R from (show hFunc prog TT [] Go.Proofs.Tryz.f175 [a0, a1, a2, a3] st R = b_impl_checker_left a0 a1 a2 a3 st R by kernel_rfl) ▸ h)
def b_impl_in (a0 a1 a2 : PV) (st : St) (R : Res → St → Prop) : Prop :=
 qb (q_bin .geq a0 a1) fun v9 =>
 cb v9 fun b => br b
  (qb (q_bin .leq a0 a2) fun v13 =>
  retR R v13 st)
  (retR R (.bool false) st)
theorem c_impl_in {a0 a1 a2 : PV} {st : St} {R : Res → St → Prop} (h : b_impl_in a0 a1 a2 st R) : HCalls prog n_impl_in [a0, a1, a2] st R :=
 hcalls_of_func tyOK mixed (fn := Go.Proofs.Tryz.f176) (by kernel_rfl) (by kernel_rfl) (by kernel_rfl) (ann := [])
  (show hFunc prog TT [] Go.Proofs.Tryz.f176 [a0, a1, a2] st R from (show hFunc prog TT [] Go.Proofs.Tryz.f176 [a0, a1, a2] st R = b_impl_in a0 a1 a2 st R by kernel_rfl) ▸ h)
def b_spec_l01Arrow (a0 a1 : PV) (st : St) (R : Res → St → Prop) : Prop :=
 e_box st a0 fun v2 st =>
 e_box st a1 fun v3 st =>
 e_alloc st [.int .i64 0, .int .i64 0, .str [], .sl 0 true []] fun v4 st =>
 qb (q_load st true 4 v2) fun v5 =>
 qb (q_load st true 4 v3) fun v6 =>
 qb (q_lit 4 2 0 [] [(0, v5), (1, v6)]) fun v7 =>
 qb (q_struct [.int .i64 0, .int .i64 0, .str [], .sl 0 true []] [(0, 1, (.int .i64 10)), (3, 1, v7)]) fun v8 =>
 e_store st 4 v4 v8 fun st =>
 qb (q_load st true 4 v4) fun r => retR R r st
theorem c_spec_l01Arrow {a0 a1 : PV} {st : St} {R : Res → St → Prop} (h : b_spec_l01Arrow a0 a1 st R) : HCalls prog n_spec_l01Arrow [a0, a1] st R :=
 hcalls_of_func tyOK mixed (fn := Go.Proofs.Tryz.f177) (by kernel_rfl) (by kernel_rfl) (by kernel_rfl) (ann := [])
  (show hFunc prog TT [] Go.Proofs.Tryz.f177 [a0, a1] st R from (show hFunc prog TT [] Go.Proofs.Tryz.f177 [a0, a1] st R = b_spec_l01Arrow a0 a1 st R by kernel_rfl) ▸ h)
def b_spec_l01Base (a0 : PV) (st : St) (R : Res → St → Prop) : Prop :=
 e_alloc st [.int .i64 0, .int .i64 0, .str [], .sl 0 true []] fun v2 st =>
 qb (q_struct [.int .i64 0, .int .i64 0, .str [], .sl 0 true []] [(0, 1, (.int .i64 9)), (2, 1, a0)]) fun v4 =>
 e_store st 4 v2 v4 fun st =>
 qb (q_load st true 4 v2) fun r => retR R r st
theorem c_spec_l01Base {a0 : PV} {st : St} {R : Res → St → Prop} (h : b_spec_l01Base a0 st R) : HCalls prog n_spec_l01Base [a0] st R :=
 hcalls_of_func tyOK mixed (fn := Go.Proofs.Tryz.f178) (by kernel_rfl) (by kernel_rfl) (by kernel_rfl) (ann := [])
  (show hFunc prog TT [] Go.Proofs.Tryz.f178 [a0] st R from (show hFunc prog TT [] Go.Proofs.Tryz.f178 [a0] st R = b_spec_l01Base a0 st R by kernel_rfl) ▸ h)
def b_impl_Tree_each (a0 a1 a2 : PV) (st : St) (R : Res → St → Prop) : Prop :=
 e_call prog st a2 [a0, a1] (fun v11 st =>
 cb v11 fun b => br b
  (retR R (.bool true) st)
  (qb (q_nil a0) fun v13 =>
  qb (q_fa 3 v13) fun v14 =>
  qb (q_load st false 1 v14) fun v15 =>
  qb (q_len v15) fun v16 =>
  hFix (fun ls st X =>
   qb (q_bin .lss (ls.getD 0 .junk) v16) fun v18 =>
   cb v18 fun b_1 => br b_1
    (qb (q_nil a0) fun v21 =>
    qb (q_fa 3 v21) fun v22 =>
    qb (q_load st false 1 v22) fun v23 =>
    qb (q_ia 4 v23 (ls.getD 0 .junk)) fun v25 =>
    callK prog n_impl_Tree_under [a0, (ls.getD 0 .junk)] st (fun v29 st =>
    q_load st false 1 v22 = some v23 ∧ (qb (q_bin .add a1 v29) fun v30 =>
    callK prog n_impl_Tree_each [v25, v30, a2] st (fun v32 st =>
    cb v32 fun b_2 => br b_2
     (retR R (.bool true) st)
     (qb (q_bin .add (ls.getD 0 .junk) (.int .i64 1)) fun v33 =>
     X [v33] st)) (panR R))) (panR R))
    (retR R (.bool false) st))
   [(.int .i64 0)] st)) (panR R)
theorem c_impl_Tree_each {a0 a1 a2 : PV} {st : St} {R : Res → St → Prop} (h : b_impl_Tree_each a0 a1 a2 st R) : HCalls prog n_impl_Tree_each [a0, a1, a2] st R :=
 hcalls_of_func tyOK mixed (fn := Go.Proofs.Tryz.f179) (by kernel_rfl) (by kernel_rfl) (by kernel_rfl) (ann := [(16, [17])])
  (show hFunc prog TT [(16, [17])] Go.Proofs.Tryz.f179 [a0, a1, a2] st R from (show hFunc prog TT [(16, [17])] Go.Proofs.Tryz.f179 [a0, a1, a2] st R = b_impl_Tree_each a0 a1 a2 st R by kernel_rfl) ▸ h)
def b_spec_l01Lift (a0 a1 a2 : PV) (st : St) (R : Res → St → Prop) : Prop :=
 e_box st a0 fun v3 st =>
 e_alloc st [.int .i64 0, .int .i64 0, .str [], .sl 0 true []] fun v6 st =>
 qb (q_lit 4 0 0 [] []) fun v10 =>
 hJ (fun ls st =>
  qb (q_load st true 4 v3) fun v33 =>
  callK prog n_spec_l01With [v33, (ls.getD 0 .junk)] st (fun v35 st =>
  e_alloc st [.int .i64 0, .int .i64 0, .str [], .sl 0 true []] fun v9 st =>
  e_store st 4 v9 v35 fun st =>
  hJ (fun ls_1 st =>
   cb (ls_1.getD 0 .junk) fun b => br b
    (qb (q_fa 1 v9) fun v45 =>
    qb (q_load st false 1 v45) fun v46 =>
    qb (q_bin .add v46 a2) fun v48 =>
    qb (q_fa 1 v9) fun v49 =>
    e_store st 1 v49 v48 fun st =>
    qb (q_load st true 4 v9) fun v50 =>
    e_store st 4 v6 v50 fun st =>
    qb (q_load st true 4 v6) fun r => retR R r st)
    (qb (q_load st true 4 v9) fun v50_1 =>
    e_store st 4 v6 v50_1 fun st =>
    qb (q_load st true 4 v6) fun r_1 => retR R r_1 st))
   (fun k_1 =>
  qb (q_fa 0 v3) fun v36 =>
  qb (q_load st false 1 v36) fun v37 =>
  qb (q_bin .eql v37 (.int .i64 5)) fun v38 =>
  cb v38 fun b_1 => br b_1
   (qb (q_fa 1 v3) fun v40 =>
   qb (q_load st false 1 v40) fun v41 =>
   qb (q_bin .geq v41 a1) fun v43 =>
   k_1 [v43] st)
   (k_1 [(.bool false)] st))) (panR R))
  (fun k =>
 hFix (fun ls_2 st X =>
  qb (q_fa 3 v3) fun v12 =>
  qb (q_load st false 1 v12) fun v13 =>
  qb (q_len v13) fun v14 =>
  qb (q_bin .lss (ls_2.getD 1 .junk) v14) fun v15 =>
  cb v15 fun b_2 => br b_2
   (qb (q_fa 3 v3) fun v19 =>
   qb (q_load st false 1 v19) fun v20 =>
   qb (q_ia 4 v20 (ls_2.getD 1 .junk)) fun v22 =>
   qb (q_load st true 4 v22) fun v23 =>
   qb (q_load st true 4 v3) fun v25 =>
   callK prog n_spec_l01Under [v25, (ls_2.getD 1 .junk)] st (fun v27 st =>
   q_load st true 4 v22 = some v23 ∧ q_load st false 1 v19 = some v20 ∧ (qb (q_bin .add a1 v27) fun v28 =>
   callK prog n_spec_l01Lift [v23, v28, a2] st (fun v30 st =>
   qb (q_lit 4 1 0 [] [(0, v30)]) fun v31 =>
   e_append st 4 56 (ls_2.getD 0 .junk) v31 (fun v32 st =>
   qb (q_bin .add (ls_2.getD 1 .junk) (.int .i64 1)) fun v17 =>
   X [v32, v17] st)) (panR R))) (panR R))
   (k [(ls_2.getD 0 .junk)] st))
  [v10, (.int .i64 0)] st)
theorem e_spec_l01Lift : Enters prog n_spec_l01Lift := ⟨Go.Proofs.Tryz.f182, by kernel_rfl, by kernel_rfl, by kernel_rfl⟩
theorem c_spec_l01Lift {a0 a1 a2 : PV} {st : St} {R : Res → St → Prop} (h : b_spec_l01Lift a0 a1 a2 st R) : HCalls prog n_spec_l01Lift [a0, a1, a2] st R :=
 hcalls_of_func tyOK mixed (fn := Go.Proofs.Tryz.f182) (by kernel_rfl) (by kernel_rfl) (by kernel_rfl) (ann := [(12, [7, 8]), (3, [7]), (29, [44])])
  (show hFunc prog TT [(12, [7, 8]), (3, [7]), (29, [44])] Go.Proofs.Tryz.f182 [a0, a1, a2] st R from (show hFunc prog TT [(12, [7, 8]), (3, [7]), (29, [44])] Go.Proofs.Tryz.f182 [a0, a1, a2] st R = b_spec_l01Lift a0 a1 a2 st R by kernel_rfl) ▸ h)
def b_spec_l03Big (a0 : PV) (st : St) (R : Res → St → Prop) : Prop :=
 e_box st a0 fun v1 st =>
 qb (q_load st true 4 v1) fun v3 =>
 callK prog n_spec_l01Small [v3] st (fun v4 st =>
 qb (q_un .not v4) fun v5 =>
 cb v5 fun b => br b
  (retR R (.bool true) st)
  (qb (q_load st true 4 v1) fun v7 =>
  callK prog n_spec_l01High [v7] st (fun v8 st =>
  retR R v8 st) (panR R))) (panR R)
theorem c_spec_l03Big {a0 : PV} {st : St} {R : Res → St → Prop} (h : b_spec_l03Big a0 st R) : HCalls prog n_spec_l03Big [a0] st R :=
 hcalls_of_func tyOK mixed (fn := Go.Proofs.Tryz.f183) (by kernel_rfl) (by kernel_rfl) (by kernel_rfl) (ann := [])
  (show hFunc prog TT [] Go.Proofs.Tryz.f183 [a0] st R from (show hFunc prog TT [] Go.Proofs.Tryz.f183 [a0] st R = b_spec_l03Big a0 st R by kernel_rfl) ▸ h)
def b_impl_lift (a0 a1 a2 : PV) (st : St) (R : Res → St → Prop) : Prop :=
 e_box st a0 fun v3 st =>
 e_box st a1 fun v4 st =>
 e_box st a2 fun v5 st =>
 e_alloc st [.int .i64 0, .int .i64 0, .str [], .sl 0 true []] fun v6 st =>
 qb (q_load st true 4 v3) fun v7 =>
 callK prog n_impl_turned [v7, (.int .i64 0), (.fn (.func n_impl_lift_1) [] [v4, v5])] st (fun v9 st =>
 e_store st 4 v6 v9 fun st =>
 qb (q_load st true 4 v6) fun r => retR R r st) (panR R)
theorem c_impl_lift {a0 a1 a2 : PV} {st : St} {R : Res → St → Prop} (h : b_impl_lift a0 a1 a2 st R) : HCalls prog n_impl_lift [a0, a1, a2] st R :=
 hcalls_of_func tyOK mixed (fn := Go.Proofs.Tryz.f184) (by kernel_rfl) (by kernel_rfl) (by kernel_rfl) (ann := [])
  (show hFunc prog TT [] Go.Proofs.Tryz.f184 [a0, a1, a2] st R from (show hFunc prog TT [] Go.Proofs.Tryz.f184 [a0, a1, a2] st R = b_impl_lift a0 a1 a2 st R by kernel_rfl) ▸ h)
end Go.H.Tryz
