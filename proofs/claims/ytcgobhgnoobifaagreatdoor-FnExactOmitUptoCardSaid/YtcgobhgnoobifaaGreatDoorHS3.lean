/- Part of a proof that the program answers as the reference does: EDS3. -/
import Derived.Test.YtcgobhgnoobifaaGreatDoorHT
/- MADE BY PROGRAM (hgen.py): what the functions compute, over pure values. -/
set_option linter.unusedVariables false
set_option maxRecDepth 100000
namespace Go.H.Tryz
open Go Go.H
def b_laws_markBoolS (a0 a1 : PV) (st : St) (R : Res → St → Prop) : Prop :=
 hFix (fun ls st X =>
  qb (q_len a0) fun v8 =>
  qb (q_bin .lss (ls.getD 1 .junk) v8) fun v9 =>
  cb v9 fun b => br b
   (qb (q_bin .rem (ls.getD 0 .junk) (.int .i64 3)) fun v15 =>
   qb (q_bin .eql v15 (.int .i64 0)) fun v16 =>
   qb (q_ia 1 a0 (ls.getD 1 .junk)) fun v17 =>
   e_store st 1 v17 v16 fun st =>
   qb (q_bin .add (ls.getD 0 .junk) (.int .i64 1)) fun v19 =>
   qb (q_bin .add (ls.getD 1 .junk) (.int .i64 1)) fun v11 =>
   X [v19, v11] st)
   (retR R (ls.getD 0 .junk) st))
  [a1, (.int .i64 0)] st
theorem c_laws_markBoolS {a0 a1 : PV} {st : St} {R : Res → St → Prop} (h : b_laws_markBoolS a0 a1 st R) : HCalls prog n_laws_markBoolS [a0, a1] st R :=
 hcalls_of_func tyOK mixed (fn := Go.Proofs.Tryz.f62) (by kernel_rfl) (by kernel_rfl) (by kernel_rfl) (ann := [(8, [1, 5])])
  (show hFunc prog TT [(8, [1, 5])] Go.Proofs.Tryz.f62 [a0, a1] st R from (show hFunc prog TT [(8, [1, 5])] Go.Proofs.Tryz.f62 [a0, a1] st R = b_laws_markBoolS a0 a1 st R by kernel_rfl) ▸ h)
def b_spec_Omit (a0 a1 a2 : PV) (st : St) (R : Res → St → Prop) : Prop :=
 e_box st a1 fun v4 st =>
 e_alloc st [.int .i64 0, .int .i64 0, .str [], .sl 0 true []] fun v6 st =>
 hJ (fun ls st =>
  cb (ls.getD 0 .junk) fun b => br b
   (qb (q_struct [.int .i64 0, .int .i64 0, .str [], .sl 0 true []] []) fun v17 =>
   e_store st 4 v6 v17 fun st =>
   qb (q_load st true 4 v6) fun r => retR R (.tup [r, (.int .i64 2)]) st)
   (hJ (fun ls_1 st =>
    cb (ls_1.getD 0 .junk) fun b_1 => br b_1
     (qb (q_struct [.int .i64 0, .int .i64 0, .str [], .sl 0 true []] []) fun v26 =>
     e_store st 4 v6 v26 fun st =>
     qb (q_load st true 4 v6) fun r_1 => retR R (.tup [r_1, (.int .i64 1)]) st)
     (qb (q_struct [.sl 0 true [], .sl 0 true [], .int .i64 0] [(0, 1, a0), (1, 1, a2)]) fun v29 =>
     e_box st v29 fun v30 st =>
     qb (q_load st true 4 v4) fun v32 =>
     callK prog n_spec_l07Omitter_omit [v30, v32] st (fun v33 st =>
     e_store st 4 v6 v33 fun st =>
     qb (q_load st true 4 v6) fun r_2 => retR R (.tup [r_2, (.int .i64 0)]) st) (panR R)))
    (fun k_1 =>
   callK prog n_spec_SigOK [a0] st (fun v19 st =>
   qb (q_un .not v19) fun v20 =>
   cb v20 fun b_2 => br b_2
    (k_1 [(.bool true)] st)
    (qb (q_load st true 4 v4) fun v22 =>
    callK prog n_spec_TermOK [v22] st (fun v23 st =>
    qb (q_un .not v23) fun v24 =>
    k_1 [v24] st) (panR R))) (panR R))))
  (fun k =>
 qb (q_len a0) fun v10 =>
 qb (q_bin .gtr v10 (.int .i64 4096)) fun v11 =>
 cb v11 fun b_3 => br b_3
  (k [(.bool true)] st)
  (qb (q_len a2) fun v14 =>
  qb (q_bin .gtr v14 (.int .i64 4096)) fun v15 =>
  k [v15] st))
theorem e_spec_Omit : Enters prog n_spec_Omit := ⟨Go.Proofs.Tryz.f64, by kernel_rfl, by kernel_rfl, by kernel_rfl⟩
theorem c_spec_Omit {a0 a1 a2 : PV} {st : St} {R : Res → St → Prop} (h : b_spec_Omit a0 a1 a2 st R) : HCalls prog n_spec_Omit [a0, a1, a2] st R :=
 hcalls_of_func tyOK mixed (fn := Go.Proofs.Tryz.f64) (by kernel_rfl) (by kernel_rfl) (by kernel_rfl) (ann := [(5, [16]), (13, [25])])
  (show hFunc prog TT [(5, [16]), (13, [25])] Go.Proofs.Tryz.f64 [a0, a1, a2] st R from (show hFunc prog TT [(5, [16]), (13, [25])] Go.Proofs.Tryz.f64 [a0, a1, a2] st R = b_spec_Omit a0 a1 a2 st R by kernel_rfl) ▸ h)
def b_laws_toBoolS (a0 : PV) (st : St) (R : Res → St → Prop) : Prop :=
 qb (q_len a0) fun v6 =>
 e_make st 1 1 (.bool false) v6 v6 fun v7 st =>
 hFix (fun ls st X =>
  qb (q_len a0) fun v10 =>
  qb (q_bin .lss (ls.getD 0 .junk) v10) fun v11 =>
  cb v11 fun b => br b
   (qb (q_ia 1 a0 (ls.getD 0 .junk)) fun v18 =>
   qb (q_load st false 1 v18) fun v19 =>
   qb (q_ia 1 v7 (ls.getD 0 .junk)) fun v20 =>
   e_store st 1 v20 v19 fun st =>
   qb (q_bin .add (ls.getD 0 .junk) (.int .i64 1)) fun v13 =>
   X [v13] st)
   (retR R v7 st))
  [(.int .i64 0)] st
theorem c_laws_toBoolS {a0 : PV} {st : St} {R : Res → St → Prop} (h : b_laws_toBoolS a0 st R) : HCalls prog n_laws_toBoolS [a0] st R :=
 hcalls_of_func tyOK mixed (fn := Go.Proofs.Tryz.f65) (by kernel_rfl) (by kernel_rfl) (by kernel_rfl) (ann := [(12, [4])])
  (show hFunc prog TT [(12, [4])] Go.Proofs.Tryz.f65 [a0] st R from (show hFunc prog TT [(12, [4])] Go.Proofs.Tryz.f65 [a0] st R = b_laws_toBoolS a0 st R by kernel_rfl) ▸ h)
def b_impl_Omit (a0 a1 a2 : PV) (st : St) (R : Res → St → Prop) : Prop :=
 e_box st a1 fun v4 st =>
 e_alloc st [.int .i64 0, .int .i64 0, .str [], .sl 0 true []] fun v6 st =>
 qb (q_len a0) fun v13 =>
 qb (q_len a2) fun v15 =>
 qb (q_lit 1 2 0 [] [(0, v13), (1, v15)]) fun v16 =>
 callK prog n_impl_longLists [v16] st (fun v17 st =>
 cb v17 fun b => br b
  (qb (q_struct [.int .i64 0, .int .i64 0, .str [], .sl 0 true []] []) fun v18 =>
  e_store st 4 v6 v18 fun st =>
  qb (q_load st true 4 v6) fun r => retR R (.tup [r, (.int .i64 2)]) st)
  (hJ (fun ls st =>
   cb (ls.getD 0 .junk) fun b_1 => br b_1
    (qb (q_struct [.int .i64 0, .int .i64 0, .str [], .sl 0 true []] []) fun v27 =>
    e_store st 4 v6 v27 fun st =>
    qb (q_load st true 4 v6) fun r_1 => retR R (.tup [r_1, (.int .i64 1)]) st)
    (e_mkmap st fun v28 st =>
    qb (q_struct [.nilmap, .sl 0 true []] [(0, 1, v28), (1, 1, a2)]) fun v30 =>
    e_box st v30 fun v31 st =>
    qb (q_len a0) fun v33 =>
    hJ (fun ls_1 st =>
     qb (q_load st true 4 v4) fun v52 =>
     callK prog n_impl_omitter_term [v31, v52] st (fun v53 st =>
     callK prog n_impl_clone [v53] st (fun v54 st =>
     e_store st 4 v6 v54 fun st =>
     qb (q_load st true 4 v6) fun r_2 => retR R (.tup [r_2, (.int .i64 0)]) st) (panR R)) (panR R))
     (fun k_1 =>
    hFix (fun ls_2 st X =>
     qb (q_bin .lss (ls_2.getD 0 .junk) v33) fun v35 =>
     cb v35 fun b_2 => br b_2
      (qb (q_ia 6 a0 (ls_2.getD 0 .junk)) fun v36 =>
      qb (q_load st true 6 v36) fun v37 =>
      e_alloc st [.str [], .bool false, .int .i64 0, .int .i64 0, .str [], .sl 0 true []] fun v10 st =>
      e_store st 6 v10 v37 fun st =>
      qb (q_fa 1 v10) fun v38 =>
      qb (q_load st false 1 v38) fun v39 =>
      qb (q_un .not v39) fun v40 =>
      cb v40 fun b_3 => br b_3
       (qb (q_nil v31) fun v42 =>
       qb (q_fa 0 v42) fun v43 =>
       qb (q_load st false 1 v43) fun v44 =>
       qb (q_fa 0 v10) fun v45 =>
       qb (q_load st false 1 v45) fun v46 =>
       qb (q_fa 2 v10) fun v47 =>
       qb (q_load st true 4 v47) fun v48 =>
       callK prog n_impl_omittable [v48] st (fun v49 st =>
       q_load st false 1 v45 = some v46 ∧ q_load st false 1 v43 = some v44 ∧ (e_mapset st .string v44 v46 v49 fun st =>
       qb (q_bin .add (ls_2.getD 0 .junk) (.int .i64 1)) fun v50 =>
       X [v50] st)) (panR R))
       (qb (q_bin .add (ls_2.getD 0 .junk) (.int .i64 1)) fun v50_1 =>
       X [v50_1] st))
      (k_1 [] st))
     [(.int .i64 0)] st)))
   (fun k =>
  callK prog n_impl_SigOK [a0] st (fun v21 st =>
  qb (q_un .not v21) fun v22 =>
  cb v22 fun b_4 => br b_4
   (k [(.bool true)] st)
   (qb (q_load st true 4 v4) fun v24 =>
   callK prog n_impl_badTerm [v24] st (fun v25 st =>
   k [v25] st) (panR R))) (panR R)))) (panR R)
theorem e_impl_Omit : Enters prog n_impl_Omit := ⟨Go.Proofs.Tryz.f66, by kernel_rfl, by kernel_rfl, by kernel_rfl⟩
theorem c_impl_Omit {a0 a1 a2 : PV} {st : St} {R : Res → St → Prop} (h : b_impl_Omit a0 a1 a2 st R) : HCalls prog n_impl_Omit [a0, a1, a2] st R :=
 hcalls_of_func tyOK mixed (fn := Go.Proofs.Tryz.f66) (by kernel_rfl) (by kernel_rfl) (by kernel_rfl) (ann := [(28, [34]), (7, []), (13, [19])])
  (show hFunc prog TT [(28, [34]), (7, []), (13, [19])] Go.Proofs.Tryz.f66 [a0, a1, a2] st R from (show hFunc prog TT [(28, [34]), (7, []), (13, [19])] Go.Proofs.Tryz.f66 [a0, a1, a2] st R = b_impl_Omit a0 a1 a2 st R by kernel_rfl) ▸ h)
def b_spec_l04Decl (a0 a1 : PV) (st : St) (R : Res → St → Prop) : Prop :=
 e_box st a1 fun v3 st =>
 qb (q_fa 0 v3) fun v7 =>
 qb (q_load st false 1 v7) fun v8 =>
 callK prog n_spec_NameOK [v8] st (fun v9 st =>
 qb (q_un .not v9) fun v10 =>
 cb v10 fun b => br b
  (retR R (.tup [(.int .i64 1), (.int .i64 0)]) st)
  (qb (q_fa 1 v3) fun v12 =>
  qb (q_load st false 1 v12) fun v13 =>
  cb v13 fun b_1 => br b_1
   (qb (q_fa 2 v3) fun v15 =>
   qb (q_load st true 4 v15) fun v16 =>
   callK prog n_spec_KindOK [v16] st (fun v17 st =>
   qb (q_un .not v17) fun v18 =>
   cb v18 fun b_2 => br b_2
    (retR R (.tup [(.int .i64 1), (.int .i64 0)]) st)
    (qb (q_fa 1 v3) fun v22 =>
    qb (q_load st false 1 v22) fun v23 =>
    qb (q_un .not v23) fun v24 =>
    cb v24 fun b_3 => br b_3
     (qb (q_fa 2 v3) fun v26 =>
     qb (q_load st true 4 v26) fun v27 =>
     callK prog n_spec_FamilyOK [v27] st (fun v28 st =>
     qb (q_un .not v28) fun v29 =>
     cb v29 fun b_4 => br b_4
      (retR R (.tup [(.int .i64 1), (.int .i64 0)]) st)
      (qb (q_fa 0 v3) fun v33 =>
      qb (q_load st false 1 v33) fun v34 =>
      callK prog n_spec_l04Find [a0, v34] st (fun v35 st =>
      qb (q_bin .geq v35 (.int .i64 0)) fun v36 =>
      cb v36 fun b_5 => br b_5
       (retR R (.tup [(.int .i64 6), (.int .i64 0)]) st)
       (callK prog n_spec_l04Check [a0] st (fun v38 st =>
       qb (q_fa 1 v3) fun v39 =>
       qb (q_load st false 1 v39) fun v40 =>
       hJ (fun ls st =>
        qb (q_nil v38) fun v50 =>
        qb (q_fa 2 v50) fun v51 =>
        qb (q_load st false 1 v51) fun v52 =>
        qb (q_nil v38) fun v54 =>
        qb (q_fa 3 v54) fun v55 =>
        qb (q_load st false 1 v55) fun v56 =>
        retR R (.tup [v52, v56]) st)
        (fun k =>
       cb v40 fun b_6 => br b_6
        (qb (q_fa 2 v3) fun v42 =>
        qb (q_load st true 4 v42) fun v43 =>
        callK prog n_spec_l04Run_kind [v38, (.sl 0 true []), v43, (.int .i64 0)] st (fun v44 st =>
        k [] st) (panR R))
        (qb (q_fa 2 v3) fun v46 =>
        qb (q_load st true 4 v46) fun v47 =>
        callK prog n_spec_l04Run_family [v38, (.sl 0 true []), v47, (.int .i64 0)] st (fun v48 st =>
        k [] st) (panR R)))) (panR R))) (panR R))) (panR R))
     (qb (q_fa 0 v3) fun v33_1 =>
     qb (q_load st false 1 v33_1) fun v34_1 =>
     callK prog n_spec_l04Find [a0, v34_1] st (fun v35_1 st =>
     qb (q_bin .geq v35_1 (.int .i64 0)) fun v36_1 =>
     cb v36_1 fun b_7 => br b_7
      (retR R (.tup [(.int .i64 6), (.int .i64 0)]) st)
      (callK prog n_spec_l04Check [a0] st (fun v38_1 st =>
      qb (q_fa 1 v3) fun v39_1 =>
      qb (q_load st false 1 v39_1) fun v40_1 =>
      hJ (fun ls_1 st =>
       qb (q_nil v38_1) fun v50_1 =>
       qb (q_fa 2 v50_1) fun v51_1 =>
       qb (q_load st false 1 v51_1) fun v52_1 =>
       qb (q_nil v38_1) fun v54_1 =>
       qb (q_fa 3 v54_1) fun v55_1 =>
       qb (q_load st false 1 v55_1) fun v56_1 =>
       retR R (.tup [v52_1, v56_1]) st)
       (fun k_1 =>
      cb v40_1 fun b_8 => br b_8
       (qb (q_fa 2 v3) fun v42_1 =>
       qb (q_load st true 4 v42_1) fun v43_1 =>
       callK prog n_spec_l04Run_kind [v38_1, (.sl 0 true []), v43_1, (.int .i64 0)] st (fun v44_1 st =>
       k_1 [] st) (panR R))
       (qb (q_fa 2 v3) fun v46_1 =>
       qb (q_load st true 4 v46_1) fun v47_1 =>
       callK prog n_spec_l04Run_family [v38_1, (.sl 0 true []), v47_1, (.int .i64 0)] st (fun v48_1 st =>
       k_1 [] st) (panR R)))) (panR R))) (panR R)))) (panR R))
   (qb (q_fa 1 v3) fun v22_1 =>
   qb (q_load st false 1 v22_1) fun v23_1 =>
   qb (q_un .not v23_1) fun v24_1 =>
   cb v24_1 fun b_9 => br b_9
    (qb (q_fa 2 v3) fun v26_1 =>
    qb (q_load st true 4 v26_1) fun v27_1 =>
    callK prog n_spec_FamilyOK [v27_1] st (fun v28_1 st =>
    qb (q_un .not v28_1) fun v29_1 =>
    cb v29_1 fun b_10 => br b_10
     (retR R (.tup [(.int .i64 1), (.int .i64 0)]) st)
     (qb (q_fa 0 v3) fun v33_2 =>
     qb (q_load st false 1 v33_2) fun v34_2 =>
     callK prog n_spec_l04Find [a0, v34_2] st (fun v35_2 st =>
     qb (q_bin .geq v35_2 (.int .i64 0)) fun v36_2 =>
     cb v36_2 fun b_11 => br b_11
      (retR R (.tup [(.int .i64 6), (.int .i64 0)]) st)
      (callK prog n_spec_l04Check [a0] st (fun v38_2 st =>
      qb (q_fa 1 v3) fun v39_2 =>
      qb (q_load st false 1 v39_2) fun v40_2 =>
      hJ (fun ls_2 st =>
       qb (q_nil v38_2) fun v50_2 =>
       qb (q_fa 2 v50_2) fun v51_2 =>
       qb (q_load st false 1 v51_2) fun v52_2 =>
       qb (q_nil v38_2) fun v54_2 =>
       qb (q_fa 3 v54_2) fun v55_2 =>
       qb (q_load st false 1 v55_2) fun v56_2 =>
       retR R (.tup [v52_2, v56_2]) st)
       (fun k_2 =>
      cb v40_2 fun b_12 => br b_12
       (qb (q_fa 2 v3) fun v42_2 =>
       qb (q_load st true 4 v42_2) fun v43_2 =>
       callK prog n_spec_l04Run_kind [v38_2, (.sl 0 true []), v43_2, (.int .i64 0)] st (fun v44_2 st =>
       k_2 [] st) (panR R))
       (qb (q_fa 2 v3) fun v46_2 =>
       qb (q_load st true 4 v46_2) fun v47_2 =>
       callK prog n_spec_l04Run_family [v38_2, (.sl 0 true []), v47_2, (.int .i64 0)] st (fun v48_2 st =>
       k_2 [] st) (panR R)))) (panR R))) (panR R))) (panR R))
    (qb (q_fa 0 v3) fun v33_3 =>
    qb (q_load st false 1 v33_3) fun v34_3 =>
    callK prog n_spec_l04Find [a0, v34_3] st (fun v35_3 st =>
    qb (q_bin .geq v35_3 (.int .i64 0)) fun v36_3 =>
    cb v36_3 fun b_13 => br b_13
     (retR R (.tup [(.int .i64 6), (.int .i64 0)]) st)
     (callK prog n_spec_l04Check [a0] st (fun v38_3 st =>
     qb (q_fa 1 v3) fun v39_3 =>
     qb (q_load st false 1 v39_3) fun v40_3 =>
     hJ (fun ls_3 st =>
      qb (q_nil v38_3) fun v50_3 =>
      qb (q_fa 2 v50_3) fun v51_3 =>
      qb (q_load st false 1 v51_3) fun v52_3 =>
      qb (q_nil v38_3) fun v54_3 =>
      qb (q_fa 3 v54_3) fun v55_3 =>
      qb (q_load st false 1 v55_3) fun v56_3 =>
      retR R (.tup [v52_3, v56_3]) st)
      (fun k_3 =>
     cb v40_3 fun b_14 => br b_14
      (qb (q_fa 2 v3) fun v42_3 =>
      qb (q_load st true 4 v42_3) fun v43_3 =>
      callK prog n_spec_l04Run_kind [v38_3, (.sl 0 true []), v43_3, (.int .i64 0)] st (fun v44_3 st =>
      k_3 [] st) (panR R))
      (qb (q_fa 2 v3) fun v46_3 =>
      qb (q_load st true 4 v46_3) fun v47_3 =>
      callK prog n_spec_l04Run_family [v38_3, (.sl 0 true []), v47_3, (.int .i64 0)] st (fun v48_3 st =>
      k_3 [] st) (panR R)))) (panR R))) (panR R))))) (panR R)
theorem c_spec_l04Decl {a0 a1 : PV} {st : St} {R : Res → St → Prop} (h : b_spec_l04Decl a0 a1 st R) : HCalls prog n_spec_l04Decl [a0, a1] st R :=
 hcalls_of_func tyOK mixed (fn := Go.Proofs.Tryz.f67) (by kernel_rfl) (by kernel_rfl) (by kernel_rfl) (ann := [(30, [])])
  (show hFunc prog TT [(30, [])] Go.Proofs.Tryz.f67 [a0, a1] st R from (show hFunc prog TT [(30, [])] Go.Proofs.Tryz.f67 [a0, a1] st R = b_spec_l04Decl a0 a1 st R by kernel_rfl) ▸ h)
def b_impl_declForm (a0 : PV) (st : St) (R : Res → St → Prop) : Prop :=
 e_box st a0 fun v1 st =>
 qb (q_fa 1 v1) fun v3 =>
 qb (q_load st false 1 v3) fun v4 =>
 cb v4 fun b => br b
  (qb (q_fa 0 v1) fun v5 =>
  qb (q_load st false 1 v5) fun v6 =>
  callK prog n_impl_NameOK [v6] st (fun v7 st =>
  cb v7 fun b_1 => br b_1
   (qb (q_fa 2 v1) fun v9 =>
   qb (q_load st true 4 v9) fun v10 =>
   callK prog n_impl_KindOK [v10] st (fun v11 st =>
   retR R v11 st) (panR R))
   (retR R (.bool false) st)) (panR R))
  (qb (q_fa 0 v1) fun v13 =>
  qb (q_load st false 1 v13) fun v14 =>
  callK prog n_impl_NameOK [v14] st (fun v15 st =>
  cb v15 fun b_2 => br b_2
   (qb (q_fa 2 v1) fun v17 =>
   qb (q_load st true 4 v17) fun v18 =>
   callK prog n_impl_FamilyOK [v18] st (fun v19 st =>
   retR R v19 st) (panR R))
   (retR R (.bool false) st)) (panR R))
theorem c_impl_declForm {a0 : PV} {st : St} {R : Res → St → Prop} (h : b_impl_declForm a0 st R) : HCalls prog n_impl_declForm [a0] st R :=
 hcalls_of_func tyOK mixed (fn := Go.Proofs.Tryz.f68) (by kernel_rfl) (by kernel_rfl) (by kernel_rfl) (ann := [])
  (show hFunc prog TT [] Go.Proofs.Tryz.f68 [a0] st R from (show hFunc prog TT [] Go.Proofs.Tryz.f68 [a0] st R = b_impl_declForm a0 st R by kernel_rfl) ▸ h)
def b_impl_has (a0 a1 : PV) (st : St) (R : Res → St → Prop) : Prop :=
 e_box st a1 fun v3 st =>
 callK prog n_slices_ContainsFunc_impl_Decl_impl_Decl [a0, (.fn (.func n_impl_has_1) [] [v3])] st (fun v7 st =>
 retR R v7 st) (panR R)
theorem c_impl_has {a0 a1 : PV} {st : St} {R : Res → St → Prop} (h : b_impl_has a0 a1 st R) : HCalls prog n_impl_has [a0, a1] st R :=
 hcalls_of_func tyOK mixed (fn := Go.Proofs.Tryz.f69) (by kernel_rfl) (by kernel_rfl) (by kernel_rfl) (ann := [])
  (show hFunc prog TT [] Go.Proofs.Tryz.f69 [a0, a1] st R from (show hFunc prog TT [] Go.Proofs.Tryz.f69 [a0, a1] st R = b_impl_has a0 a1 st R by kernel_rfl) ▸ h)
def b_impl_declFault (a0 a1 : PV) (st : St) (R : Res → St → Prop) : Prop :=
 e_box st a0 fun v2 st =>
 e_box st a1 fun v3 st =>
 e_alloc st [.int .i64 0, .int .i64 0] fun v4 st =>
 callK prog n_impl_caught [(.fn (.func n_impl_declFault_1) [] [v2, v3])] st (fun v6 st =>
 e_store st 2 v4 v6 fun st =>
 qb (q_load st true 2 v4) fun r => retR R r st) (panR R)
theorem c_impl_declFault {a0 a1 : PV} {st : St} {R : Res → St → Prop} (h : b_impl_declFault a0 a1 st R) : HCalls prog n_impl_declFault [a0, a1] st R :=
 hcalls_of_func tyOK mixed (fn := Go.Proofs.Tryz.f70) (by kernel_rfl) (by kernel_rfl) (by kernel_rfl) (ann := [])
  (show hFunc prog TT [] Go.Proofs.Tryz.f70 [a0, a1] st R from (show hFunc prog TT [] Go.Proofs.Tryz.f70 [a0, a1] st R = b_impl_declFault a0 a1 st R by kernel_rfl) ▸ h)
def b_impl_FamilyOK (a0 : PV) (st : St) (R : Res → St → Prop) : Prop :=
 e_box st a0 fun v1 st =>
 qb (q_load st true 4 v1) fun v4 =>
 callK prog n_impl_fresh [] st (fun v3 st =>
 q_load st true 4 v1 = some v4 ∧ (callK prog n_impl_looker_family [v3, v4, (.bool false)] st (fun v5 st =>
 retR R v5 st) (panR R))) (panR R)
theorem c_impl_FamilyOK {a0 : PV} {st : St} {R : Res → St → Prop} (h : b_impl_FamilyOK a0 st R) : HCalls prog n_impl_FamilyOK [a0] st R :=
 hcalls_of_func tyOK mixed (fn := Go.Proofs.Tryz.f72) (by kernel_rfl) (by kernel_rfl) (by kernel_rfl) (ann := [])
  (show hFunc prog TT [] Go.Proofs.Tryz.f72 [a0] st R from (show hFunc prog TT [] Go.Proofs.Tryz.f72 [a0] st R = b_impl_FamilyOK a0 st R by kernel_rfl) ▸ h)
def b_spec_FamilyOK (a0 : PV) (st : St) (R : Res → St → Prop) : Prop :=
 e_box st a0 fun v1 st =>
 qb (q_load st true 4 v1) fun v3 =>
 callK prog n_spec_l01Small [v3] st (fun v4 st =>
 cb v4 fun b => br b
  (qb (q_load st true 4 v1) fun v6 =>
  callK prog n_spec_l01Family [v6] st (fun v7 st =>
  retR R v7 st) (panR R))
  (retR R (.bool false) st)) (panR R)
theorem c_spec_FamilyOK {a0 : PV} {st : St} {R : Res → St → Prop} (h : b_spec_FamilyOK a0 st R) : HCalls prog n_spec_FamilyOK [a0] st R :=
 hcalls_of_func tyOK mixed (fn := Go.Proofs.Tryz.f75) (by kernel_rfl) (by kernel_rfl) (by kernel_rfl) (ann := [])
  (show hFunc prog TT [] Go.Proofs.Tryz.f75 [a0] st R from (show hFunc prog TT [] Go.Proofs.Tryz.f75 [a0] st R = b_spec_FamilyOK a0 st R by kernel_rfl) ▸ h)
def b_spec_l04Check (a0 : PV) (st : St) (R : Res → St → Prop) : Prop :=
 qb (q_struct [.int .i64 0] []) fun v4 =>
 e_box st v4 fun v5 st =>
 qb (q_struct [.sl 0 true [], .nilp, .int .i64 0, .int .i64 0] [(0, 1, a0), (1, 1, v5)]) fun v6 =>
 e_box st v6 fun v7 st =>
 retR R v7 st
theorem c_spec_l04Check {a0 : PV} {st : St} {R : Res → St → Prop} (h : b_spec_l04Check a0 st R) : HCalls prog n_spec_l04Check [a0] st R :=
 hcalls_of_func tyOK mixed (fn := Go.Proofs.Tryz.f76) (by kernel_rfl) (by kernel_rfl) (by kernel_rfl) (ann := [])
  (show hFunc prog TT [] Go.Proofs.Tryz.f76 [a0] st R from (show hFunc prog TT [] Go.Proofs.Tryz.f76 [a0] st R = b_spec_l04Check a0 st R by kernel_rfl) ▸ h)
def b_spec_l04Run_family (a0 a1 a2 a3 : PV) (st : St) (R : Res → St → Prop) : Prop :=
 e_box st a2 fun v6 st =>
 qb (q_fa 0 v6) fun v12 =>
 qb (q_load st false 1 v12) fun v13 =>
 qb (q_bin .eql v13 (.int .i64 2)) fun v14 =>
 cb v14 fun b => br b
  (qb (q_fa 3 v6) fun v17 =>
  qb (q_load st false 1 v17) fun v18 =>
  qb (q_ia 4 v18 (.int .i64 0)) fun v19 =>
  qb (q_load st true 4 v19) fun v20 =>
  qb (q_bin .add a3 (.int .i64 1)) fun v22 =>
  callK prog n_spec_l04Run_family [a0, a1, v20, v22] st (fun v23 st =>
  cb v23 fun b_1 => br b_1
   (qb (q_fa 3 v6) fun v27 =>
   qb (q_load st false 1 v27) fun v28 =>
   qb (q_ia 4 v28 (.int .i64 0)) fun v29 =>
   qb (q_load st true 4 v29) fun v30 =>
   qb (q_fa 3 v6) fun v32 =>
   qb (q_load st false 1 v32) fun v33 =>
   qb (q_ia 4 v33 (.int .i64 1)) fun v34 =>
   qb (q_load st true 4 v34) fun v35 =>
   qb (q_bin .add a3 (.int .i64 1)) fun v37 =>
   qb (q_fa 3 v6) fun v38 =>
   qb (q_load st false 1 v38) fun v39 =>
   qb (q_ia 4 v39 (.int .i64 0)) fun v40 =>
   qb (q_load st true 4 v40) fun v41 =>
   callK prog n_spec_l04More [a1, v30] st (fun v31 st =>
   q_load st true 4 v40 = some v41 ∧ q_load st false 1 v38 = some v39 ∧ q_load st true 4 v34 = some v35 ∧ q_load st false 1 v32 = some v33 ∧ (callK prog n_spec_l01Size [v41] st (fun v42 st =>
   q_load st true 4 v34 = some v35 ∧ q_load st false 1 v32 = some v33 ∧ (qb (q_bin .add v37 v42) fun v43 =>
   callK prog n_spec_l04Run_family [a0, v31, v35, v43] st (fun v44 st =>
   retR R v44 st) (panR R))) (panR R))) (panR R))
   (retR R (.bool false) st)) (panR R))
  (qb (q_nil a0) fun v47 =>
  qb (q_fa 0 v47) fun v48 =>
  qb (q_load st false 1 v48) fun v49 =>
  qb (q_fa 2 v6) fun v50 =>
  qb (q_load st false 1 v50) fun v51 =>
  callK prog n_spec_l04Find [v49, v51] st (fun v52 st =>
  qb (q_bin .lss v52 (.int .i64 0)) fun v54 =>
  cb v54 fun b_2 => br b_2
   (callK prog n_spec_l04Run_fail [a0, (.int .i64 5), a3] st (fun v68 st =>
   retR R v68 st) (panR R))
   (qb (q_nil a0) fun v57 =>
   qb (q_fa 0 v57) fun v58 =>
   qb (q_load st false 1 v58) fun v59 =>
   qb (q_ia 6 v59 v52) fun v61 =>
   qb (q_fa 1 v61) fun v62 =>
   qb (q_load st false 1 v62) fun v63 =>
   qb (q_un .not v63) fun v64 =>
   cb v64 fun b_3 => br b_3
    (callK prog n_spec_l04Run_fail [a0, (.int .i64 5), a3] st (fun v68_1 st =>
    retR R v68_1 st) (panR R))
    (hJ (fun ls st =>
     qb (q_un .not (ls.getD 1 .junk)) fun v87 =>
     cb v87 fun b_4 => br b_4
      (retR R (.bool false) st)
      (qb (q_fa 0 (ls.getD 0 .junk)) fun v88 =>
      qb (q_load st false 1 v88) fun v89 =>
      qb (q_bin .neq v89 (.int .i64 1)) fun v90 =>
      cb v90 fun b_5 => br b_5
       (callK prog n_spec_l04Run_fail [a0, (.int .i64 8), a3] st (fun v93 st =>
       retR R v93 st) (panR R))
       (retR R (.bool true) st)))
     (fun k =>
    qb (q_nil a0) fun v73 =>
    qb (q_fa 0 v73) fun v74 =>
    qb (q_load st false 1 v74) fun v75 =>
    qb (q_ia 6 v75 v52) fun v77 =>
    qb (q_fa 2 v77) fun v78 =>
    qb (q_load st true 4 v78) fun v79 =>
    qb (q_fa 3 v6) fun v80 =>
    qb (q_load st false 1 v80) fun v81 =>
    (callK prog n_spec_l04Run_spine [a0, a1, v79, v81, a3] st (fun v83 st =>
    qb (q_ex v83 0) fun v84 =>
    qb (q_ex v83 1) fun v85 =>
    e_alloc st [.int .i64 0, .int .i64 0, .str [], .sl 0 true []] fun v10 st =>
    q_load st false 1 v80 = some v81 ∧ q_load st true 4 v78 = some v79 ∧ q_load st false 1 v74 = some v75 ∧ (e_store st 4 v10 v84 fun st =>
    k [v10, v85] st)) (panR R)) ∧
    (e_alloc st [.int .i64 0, .int .i64 0, .str [], .sl 0 true []] fun v10_1 st =>
    q_load st false 1 v80 = some v81 ∧ q_load st true 4 v78 = some v79 ∧ q_load st false 1 v74 = some v75 ∧ (callK prog n_spec_l04Run_spine [a0, a1, v79, v81, a3] st (fun v83_1 st =>
    qb (q_ex v83_1 0) fun v84_1 =>
    qb (q_ex v83_1 1) fun v85_1 =>
    e_store st 4 v10_1 v84_1 fun st =>
    k [v10_1, v85_1] st) (panR R))))))) (panR R))
theorem c_spec_l04Run_family {a0 a1 a2 a3 : PV} {st : St} {R : Res → St → Prop} (h : b_spec_l04Run_family a0 a1 a2 a3 st R) : HCalls prog n_spec_l04Run_family [a0, a1, a2, a3] st R :=
 hcalls_of_func tyOK mixed (fn := Go.Proofs.Tryz.f77) (by kernel_rfl) (by kernel_rfl) (by kernel_rfl) (ann := [(25, [10, 11])])
  (show hFunc prog TT [(25, [10, 11])] Go.Proofs.Tryz.f77 [a0, a1, a2, a3] st R from (show hFunc prog TT [(25, [10, 11])] Go.Proofs.Tryz.f77 [a0, a1, a2, a3] st R = b_spec_l04Run_family a0 a1 a2 a3 st R by kernel_rfl) ▸ h)
def b_impl_checker_family (a0 a1 a2 a3 : PV) (st : St) (R : Res → St → Prop) : Prop :=
 e_box st a2 fun v6 st =>
 qb (q_fa 0 v6) fun v11 =>
 qb (q_load st false 1 v11) fun v12 =>
 qb (q_bin .eql v12 (.int .i64 2)) fun v14 =>
 cb v14 fun b => br b
  (qb (q_fa 3 v6) fun v17 =>
  qb (q_load st false 1 v17) fun v18 =>
  qb (q_ia 4 v18 (.int .i64 0)) fun v19 =>
  qb (q_load st true 4 v19) fun v20 =>
  qb (q_bin .add a3 (.int .i64 1)) fun v22 =>
  callK prog n_impl_checker_family [a0, a1, v20, v22] st (fun v23 st =>
  qb (q_fa 3 v6) fun v26 =>
  qb (q_load st false 1 v26) fun v27 =>
  qb (q_ia 4 v27 (.int .i64 0)) fun v28 =>
  qb (q_load st true 4 v28) fun v29 =>
  qb (q_fa 3 v6) fun v31 =>
  qb (q_load st false 1 v31) fun v32 =>
  qb (q_ia 4 v32 (.int .i64 1)) fun v33 =>
  qb (q_load st true 4 v33) fun v34 =>
  qb (q_bin .add a3 (.int .i64 1)) fun v36 =>
  qb (q_fa 3 v6) fun v37 =>
  qb (q_load st false 1 v37) fun v38 =>
  qb (q_ia 4 v38 (.int .i64 0)) fun v39 =>
  qb (q_load st true 4 v39) fun v40 =>
  callK prog n_impl_behind [a1, v29] st (fun v30 st =>
  q_load st true 4 v39 = some v40 ∧ q_load st false 1 v37 = some v38 ∧ q_load st true 4 v33 = some v34 ∧ q_load st false 1 v31 = some v32 ∧ (callK prog n_impl_Size [v40] st (fun v41 st =>
  q_load st true 4 v33 = some v34 ∧ q_load st false 1 v31 = some v32 ∧ (qb (q_bin .add v36 v41) fun v42 =>
  callK prog n_impl_checker_family [a0, v30, v34, v42] st (fun v43 st =>
  retR R (.tup []) st) (panR R))) (panR R))) (panR R)) (panR R))
  (qb (q_bin .eql v12 (.int .i64 3)) fun v45 =>
  cb v45 fun b_1 => br b_1
   (qb (q_fa 2 v6) fun v48 =>
   qb (q_load st false 1 v48) fun v49 =>
   callK prog n_impl_checker_declared [a0, v49, (.bool true)] st (fun v50 st =>
   qb (q_ex v50 0) fun v51 =>
   qb (q_ex v50 1) fun v52 =>
   e_alloc st [.int .i64 0, .int .i64 0, .str [], .sl 0 true []] fun v8 st =>
   e_store st 4 v8 v51 fun st =>
   qb (q_un .not v52) fun v54 =>
   hJ (fun ls st =>
    qb (q_fa 3 v6) fun v59 =>
    qb (q_load st false 1 v59) fun v60 =>
    qb (q_load st true 4 v8) fun v61 =>
    qb (q_bin .add a3 (.int .i64 1)) fun v63 =>
    callK prog n_impl_checker_args [a0, a1, v60, v61, v63] st (fun v64 st =>
    e_alloc st [.int .i64 0, .int .i64 0, .str [], .sl 0 true []] fun v10 st =>
    e_store st 4 v10 v64 fun st =>
    qb (q_fa 0 v10) fun v65 =>
    qb (q_load st false 1 v65) fun v66 =>
    qb (q_bin .neq v66 (.int .i64 1)) fun v67 =>
    cb v67 fun b_3 => br b_3
     (callK prog n_impl_stop [(.int .i64 8), a3] st (fun v69 st =>
     retR R (.tup []) st) (panR R))
     (retR R (.tup []) st)) (panR R))
    (fun k =>
   cb v54 fun b_2 => br b_2
    (callK prog n_impl_stop [(.int .i64 5), a3] st (fun v56 st =>
    k [] st) (panR R))
    (k [] st))) (panR R))
   (retR R (.tup []) st))
theorem c_impl_checker_family {a0 a1 a2 a3 : PV} {st : St} {R : Res → St → Prop} (h : b_impl_checker_family a0 a1 a2 a3 st R) : HCalls prog n_impl_checker_family [a0, a1, a2, a3] st R :=
 hcalls_of_func tyOK mixed (fn := Go.Proofs.Tryz.f81) (by kernel_rfl) (by kernel_rfl) (by kernel_rfl) (ann := [(34, [])])
  (show hFunc prog TT [(34, [])] Go.Proofs.Tryz.f81 [a0, a1, a2, a3] st R from (show hFunc prog TT [(34, [])] Go.Proofs.Tryz.f81 [a0, a1, a2, a3] st R = b_impl_checker_family a0 a1 a2 a3 st R by kernel_rfl) ▸ h)
end Go.H.Tryz
