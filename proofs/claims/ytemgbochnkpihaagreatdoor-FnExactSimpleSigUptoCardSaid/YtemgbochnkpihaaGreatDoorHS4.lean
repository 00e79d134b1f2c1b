/- Part of a proof that the program answers as the reference does: FS4. -/
import Derived.Test.YtemgbochnkpihaaGreatDoorHT
/- MADE BY PROGRAM (hgen.py): what the functions compute, over pure values. -/
set_option linter.unusedVariables false
set_option maxRecDepth 100000
namespace Go.H.Tryz
open Go Go.H
def b_spec_l04Decl (a0 a1 : PV) (st : St) (R : Res → St → Prop) : Prop :=
 e_box st a1 fun v3 st =>
 qb (q_fa 0 v3) fun v7 =>
 qb (q_load st false 1 v7) fun v8 =>
 callK prog n_spec_NameOK [v8] st (fun v9 st =>
 qb (q_un .not v9) fun v10 =>
 cb v10 fun b => br b
  (retR R (.tup [(.int .i64 1), (.int .i64 0)]) st)
  (qb (q_fa 1 v3) fun v12 =>
  qb (q_load st false 1 v12) fun v13 =>
  cb v13 fun b_1 => br b_1
   (qb (q_fa 2 v3) fun v15 =>
   qb (q_load st true 4 v15) fun v16 =>
   callK prog n_spec_KindOK [v16] st (fun v17 st =>
   qb (q_un .not v17) fun v18 =>
   cb v18 fun b_2 => br b_2
    (retR R (.tup [(.int .i64 1), (.int .i64 0)]) st)
    (qb (q_fa 1 v3) fun v22 =>
    qb (q_load st false 1 v22) fun v23 =>
    qb (q_un .not v23) fun v24 =>
    cb v24 fun b_3 => br b_3
     (qb (q_fa 2 v3) fun v26 =>
     qb (q_load st true 4 v26) fun v27 =>
     callK prog n_spec_FamilyOK [v27] st (fun v28 st =>
     qb (q_un .not v28) fun v29 =>
     cb v29 fun b_4 => br b_4
      (retR R (.tup [(.int .i64 1), (.int .i64 0)]) st)
      (qb (q_fa 0 v3) fun v33 =>
      qb (q_load st false 1 v33) fun v34 =>
      callK prog n_spec_l04Find [a0, v34] st (fun v35 st =>
      qb (q_bin .geq v35 (.int .i64 0)) fun v36 =>
      cb v36 fun b_5 => br b_5
       (retR R (.tup [(.int .i64 6), (.int .i64 0)]) st)
       (callK prog n_spec_l04Check [a0] st (fun v38 st =>
       qb (q_fa 1 v3) fun v39 =>
       qb (q_load st false 1 v39) fun v40 =>
       hJ (fun ls st =>
        qb (q_nil v38) fun v50 =>
        qb (q_fa 2 v50) fun v51 =>
        qb (q_load st false 1 v51) fun v52 =>
        qb (q_nil v38) fun v54 =>
        qb (q_fa 3 v54) fun v55 =>
        qb (q_load st false 1 v55) fun v56 =>
        retR R (.tup [v52, v56]) st)
        (fun k =>
       cb v40 fun b_6 => br b_6
        (qb (q_fa 2 v3) fun v42 =>
        qb (q_load st true 4 v42) fun v43 =>
        callK prog n_spec_l04Run_kind [v38, (.sl 0 true []), v43, (.int .i64 0)] st (fun v44 st =>
        k [] st) (panR R))
        (qb (q_fa 2 v3) fun v46 =>
        qb (q_load st true 4 v46) fun v47 =>
        callK prog n_spec_l04Run_family [v38, (.sl 0 true []), v47, (.int .i64 0)] st (fun v48 st =>
        k [] st) (panR R)))) (panR R))) (panR R))) (panR R))
     (qb (q_fa 0 v3) fun v33_1 =>
     qb (q_load st false 1 v33_1) fun v34_1 =>
     callK prog n_spec_l04Find [a0, v34_1] st (fun v35_1 st =>
     qb (q_bin .geq v35_1 (.int .i64 0)) fun v36_1 =>
     cb v36_1 fun b_7 => br b_7
      (retR R (.tup [(.int .i64 6), (.int .i64 0)]) st)
      (callK prog n_spec_l04Check [a0] st (fun v38_1 st =>
      qb (q_fa 1 v3) fun v39_1 =>
      qb (q_load st false 1 v39_1) fun v40_1 =>
      hJ (fun ls_1 st =>
       qb (q_nil v38_1) fun v50_1 =>
       qb (q_fa 2 v50_1) fun v51_1 =>
       qb (q_load st false 1 v51_1) fun v52_1 =>
       qb (q_nil v38_1) fun v54_1 =>
       qb (q_fa 3 v54_1) fun v55_1 =>
       qb (q_load st false 1 v55_1) fun v56_1 =>
       retR R (.tup [v52_1, v56_1]) st)
       (fun k_1 =>
      cb v40_1 fun b_8 => br b_8
       (qb (q_fa 2 v3) fun v42_1 =>
       qb (q_load st true 4 v42_1) fun v43_1 =>
       callK prog n_spec_l04Run_kind [v38_1, (.sl 0 true []), v43_1, (.int .i64 0)] st (fun v44_1 st =>
       k_1 [] st) (panR R))
       (qb (q_fa 2 v3) fun v46_1 =>
       qb (q_load st true 4 v46_1) fun v47_1 =>
       callK prog n_spec_l04Run_family [v38_1, (.sl 0 true []), v47_1, (.int .i64 0)] st (fun v48_1 st =>
       k_1 [] st) (panR R)))) (panR R))) (panR R)))) (panR R))
   (qb (q_fa 1 v3) fun v22_1 =>
   qb (q_load st false 1 v22_1) fun v23_1 =>
   qb (q_un .not v23_1) fun v24_1 =>
   cb v24_1 fun b_9 => br b_9
    (qb (q_fa 2 v3) fun v26_1 =>
    qb (q_load st true 4 v26_1) fun v27_1 =>
    callK prog n_spec_FamilyOK [v27_1] st (fun v28_1 st =>
    qb (q_un .not v28_1) fun v29_1 =>
    cb v29_1 fun b_10 => br b_10
     (retR R (.tup [(.int .i64 1), (.int .i64 0)]) st)
     (qb (q_fa 0 v3) fun v33_2 =>
     qb (q_load st false 1 v33_2) fun v34_2 =>
     callK prog n_spec_l04Find [a0, v34_2] st (fun v35_2 st =>
     qb (q_bin .geq v35_2 (.int .i64 0)) fun v36_2 =>
     cb v36_2 fun b_11 => br b_11
      (retR R (.tup [(.int .i64 6), (.int .i64 0)]) st)
      (callK prog n_spec_l04Check [a0] st (fun v38_2 st =>
      qb (q_fa 1 v3) fun v39_2 =>
      qb (q_load st false 1 v39_2) fun v40_2 =>
      hJ (fun ls_2 st =>
       qb (q_nil v38_2) fun v50_2 =>
       qb (q_fa 2 v50_2) fun v51_2 =>
       qb (q_load st false 1 v51_2) fun v52_2 =>
       qb (q_nil v38_2) fun v54_2 =>
       qb (q_fa 3 v54_2) fun v55_2 =>
       qb (q_load st false 1 v55_2) fun v56_2 =>
       retR R (.tup [v52_2, v56_2]) st)
       (fun k_2 =>
      cb v40_2 fun b_12 => br b_12
       (qb (q_fa 2 v3) fun v42_2 =>
       qb (q_load st true 4 v42_2) fun v43_2 =>
       callK prog n_spec_l04Run_kind [v38_2, (.sl 0 true []), v43_2, (.int .i64 0)] st (fun v44_2 st =>
       k_2 [] st) (panR R))
       (qb (q_fa 2 v3) fun v46_2 =>
       qb (q_load st true 4 v46_2) fun v47_2 =>
       callK prog n_spec_l04Run_family [v38_2, (.sl 0 true []), v47_2, (.int .i64 0)] st (fun v48_2 st =>
       k_2 [] st) (panR R)))) (panR R))) (panR R))) (panR R))
    (qb (q_fa 0 v3) fun v33_3 =>
    qb (q_load st false 1 v33_3) fun v34_3 =>
    callK prog n_spec_l04Find [a0, v34_3] st (fun v35_3 st =>
    qb (q_bin .geq v35_3 (.int .i64 0)) fun v36_3 =>
    cb v36_3 fun b_13 => br b_13
     (retR R (.tup [(.int .i64 6), (.int .i64 0)]) st)
     (callK prog n_spec_l04Check [a0] st (fun v38_3 st =>
     qb (q_fa 1 v3) fun v39_3 =>
     qb (q_load st false 1 v39_3) fun v40_3 =>
     hJ (fun ls_3 st =>
      qb (q_nil v38_3) fun v50_3 =>
      qb (q_fa 2 v50_3) fun v51_3 =>
      qb (q_load st false 1 v51_3) fun v52_3 =>
      qb (q_nil v38_3) fun v54_3 =>
      qb (q_fa 3 v54_3) fun v55_3 =>
      qb (q_load st false 1 v55_3) fun v56_3 =>
      retR R (.tup [v52_3, v56_3]) st)
      (fun k_3 =>
     cb v40_3 fun b_14 => br b_14
      (qb (q_fa 2 v3) fun v42_3 =>
      qb (q_load st true 4 v42_3) fun v43_3 =>
      callK prog n_spec_l04Run_kind [v38_3, (.sl 0 true []), v43_3, (.int .i64 0)] st (fun v44_3 st =>
      k_3 [] st) (panR R))
      (qb (q_fa 2 v3) fun v46_3 =>
      qb (q_load st true 4 v46_3) fun v47_3 =>
      callK prog n_spec_l04Run_family [v38_3, (.sl 0 true []), v47_3, (.int .i64 0)] st (fun v48_3 st =>
      k_3 [] st) (panR R)))) (panR R))) (panR R))))) (panR R)
theorem c_spec_l04Decl {a0 a1 : PV} {st : St} {R : Res → St → Prop} (h : b_spec_l04Decl a0 a1 st R) : HCalls prog n_spec_l04Decl [a0, a1] st R :=
 hcalls_of_func tyOK mixed (fn := Go.Proofs.Tryz.f82) (by kernel_rfl) (by kernel_rfl) (by kernel_rfl) (ann := [(30, [])])
  (show hFunc prog TT [(30, [])] Go.Proofs.Tryz.f82 [a0, a1] st R from (show hFunc prog TT [(30, [])] Go.Proofs.Tryz.f82 [a0, a1] st R = b_spec_l04Decl a0 a1 st R by kernel_rfl) ▸ h)
def b_laws_szTree (a0 a1 : PV) (st : St) (R : Res → St → Prop) : Prop :=
 e_box st a0 fun v2 st =>
 qb (q_fa 2 v2) fun v6 =>
 qb (q_load st false 1 v6) fun v7 =>
 qb (q_lenS v7) fun v8 =>
 qb (q_bin .sub a1 v8) fun v9 =>
 qb (q_bin .lss v9 (.int .i64 0)) fun v11 =>
 cb v11 fun b => br b
  (retR R (.int .i64 (-1)) st)
  (qb (q_fa 3 v2) fun v12 =>
  qb (q_load st false 1 v12) fun v13 =>
  callK prog n_laws_szTreeS [v13, v9] st (fun v15 st =>
  qb (q_bin .lss v15 (.int .i64 0)) fun v17 =>
  cb v17 fun b_1 => br b_1
   (retR R (.int .i64 (-1)) st)
   (retR R v15 st)) (panR R))
theorem c_laws_szTree {a0 a1 : PV} {st : St} {R : Res → St → Prop} (h : b_laws_szTree a0 a1 st R) : HCalls prog n_laws_szTree [a0, a1] st R :=
 hcalls_of_func tyOK mixed (fn := Go.Proofs.Tryz.f89) (by kernel_rfl) (by kernel_rfl) (by kernel_rfl) (ann := [])
  (show hFunc prog TT [] Go.Proofs.Tryz.f89 [a0, a1] st R from (show hFunc prog TT [] Go.Proofs.Tryz.f89 [a0, a1] st R = b_laws_szTree a0 a1 st R by kernel_rfl) ▸ h)
def b_spec_l01Erase (a0 : PV) (st : St) (R : Res → St → Prop) : Prop :=
 e_box st a0 fun v1 st =>
 e_alloc st [.int .i64 0, .int .i64 0, .str [], .sl 0 true []] fun v2 st =>
 qb (q_fa 0 v1) fun v3 =>
 qb (q_load st false 1 v3) fun v4 =>
 qb (q_bin .eql v4 (.int .i64 2)) fun v5 =>
 cb v5 fun b => br b
  (qb (q_fa 3 v1) fun v6 =>
  qb (q_load st false 1 v6) fun v7 =>
  qb (q_ia 4 v7 (.int .i64 0)) fun v8 =>
  qb (q_load st true 4 v8) fun v9 =>
  qb (q_fa 3 v1) fun v11 =>
  qb (q_load st false 1 v11) fun v12 =>
  qb (q_ia 4 v12 (.int .i64 1)) fun v13 =>
  qb (q_load st true 4 v13) fun v14 =>
  callK prog n_spec_l01Erase [v9] st (fun v10 st =>
  q_load st true 4 v13 = some v14 ∧ q_load st false 1 v11 = some v12 ∧ (callK prog n_spec_l01Erase [v14] st (fun v15 st =>
  callK prog n_spec_l01Arrow [v10, v15] st (fun v16 st =>
  e_store st 4 v2 v16 fun st =>
  qb (q_load st true 4 v2) fun r => retR R r st) (panR R)) (panR R))) (panR R))
  (qb (q_fa 2 v1) fun v17 =>
  qb (q_load st false 1 v17) fun v18 =>
  callK prog n_spec_l01Base [v18] st (fun v19 st =>
  e_store st 4 v2 v19 fun st =>
  qb (q_load st true 4 v2) fun r_1 => retR R r_1 st) (panR R))
theorem c_spec_l01Erase {a0 : PV} {st : St} {R : Res → St → Prop} (h : b_spec_l01Erase a0 st R) : HCalls prog n_spec_l01Erase [a0] st R :=
 hcalls_of_func tyOK mixed (fn := Go.Proofs.Tryz.f90) (by kernel_rfl) (by kernel_rfl) (by kernel_rfl) (ann := [])
  (show hFunc prog TT [] Go.Proofs.Tryz.f90 [a0] st R from (show hFunc prog TT [] Go.Proofs.Tryz.f90 [a0] st R = b_spec_l01Erase a0 st R by kernel_rfl) ▸ h)
def b_laws_toTree (a0 : PV) (st : St) (R : Res → St → Prop) : Prop :=
 e_box st a0 fun v1 st =>
 e_alloc st [.int .i64 0, .int .i64 0, .str [], .sl 0 true []] fun v2 st =>
 e_alloc st [.int .i64 0, .int .i64 0, .str [], .sl 0 true []] fun v3 st =>
 qb (q_fa 0 v1) fun v4 =>
 qb (q_load st false 1 v4) fun v5 =>
 qb (q_fa 0 v3) fun v6 =>
 e_store st 1 v6 v5 fun st =>
 qb (q_fa 1 v1) fun v7 =>
 qb (q_load st false 1 v7) fun v8 =>
 qb (q_fa 1 v3) fun v9 =>
 e_store st 1 v9 v8 fun st =>
 qb (q_fa 2 v1) fun v10 =>
 qb (q_load st false 1 v10) fun v11 =>
 qb (q_fa 2 v3) fun v12 =>
 e_store st 1 v12 v11 fun st =>
 qb (q_fa 3 v1) fun v13 =>
 qb (q_load st false 1 v13) fun v14 =>
 callK prog n_laws_toTreeS [v14] st (fun v15 st =>
 qb (q_fa 3 v3) fun v16 =>
 e_store st 1 v16 v15 fun st =>
 qb (q_load st true 4 v3) fun v17 =>
 e_store st 4 v2 v17 fun st =>
 qb (q_load st true 4 v2) fun r => retR R r st) (panR R)
theorem c_laws_toTree {a0 : PV} {st : St} {R : Res → St → Prop} (h : b_laws_toTree a0 st R) : HCalls prog n_laws_toTree [a0] st R :=
 hcalls_of_func tyOK mixed (fn := Go.Proofs.Tryz.f91) (by kernel_rfl) (by kernel_rfl) (by kernel_rfl) (ann := [])
  (show hFunc prog TT [] Go.Proofs.Tryz.f91 [a0] st R from (show hFunc prog TT [] Go.Proofs.Tryz.f91 [a0] st R = b_laws_toTree a0 st R by kernel_rfl) ▸ h)
def b_slices_Max_int_int (a0 : PV) (st : St) (R : Res → St → Prop) : Prop :=
 qb (q_len a0) fun v6 =>
 qb (q_bin .lss v6 (.int .i64 1)) fun v7 =>
 cb v7 fun b => br b
  (qb (q_iface ty_string (.str [115, 108, 105, 99, 101, 115, 46, 77, 97, 120, 58, 32, 101, 109, 112, 116, 121, 32, 108, 105, 115, 116])) fun v8 =>
  e_panic v8 st (panR R))
  (qb (q_ia 1 a0 (.int .i64 0)) fun v10 =>
  qb (q_load st false 1 v10) fun v11 =>
  hFix (fun ls st X =>
   qb (q_len a0) fun v14 =>
   qb (q_bin .lss (ls.getD 1 .junk) v14) fun v15 =>
   cb v15 fun b_1 => br b_1
    (qb (q_ia 1 a0 (ls.getD 1 .junk)) fun v21 =>
    qb (q_load st false 1 v21) fun v22 =>
    qb (q_max (ls.getD 0 .junk) v22) fun v23 =>
    qb (q_bin .add (ls.getD 1 .junk) (.int .i64 1)) fun v17 =>
    X [v23, v17] st)
    (retR R (ls.getD 0 .junk) st))
   [v11, (.int .i64 1)] st)
theorem c_slices_Max_int_int {a0 : PV} {st : St} {R : Res → St → Prop} (h : b_slices_Max_int_int a0 st R) : HCalls prog n_slices_Max_int_int [a0] st R :=
 hcalls_of_func tyOK mixed (fn := Go.Proofs.Tryz.f92) (by kernel_rfl) (by kernel_rfl) (by kernel_rfl) (ann := [(20, [3, 4])])
  (show hFunc prog TT [(20, [3, 4])] Go.Proofs.Tryz.f92 [a0] st R from (show hFunc prog TT [(20, [3, 4])] Go.Proofs.Tryz.f92 [a0] st R = b_slices_Max_int_int a0 st R by kernel_rfl) ▸ h)
def b_impl_declForm (a0 : PV) (st : St) (R : Res → St → Prop) : Prop :=
 e_box st a0 fun v1 st =>
 qb (q_fa 1 v1) fun v3 =>
 qb (q_load st false 1 v3) fun v4 =>
 cb v4 fun b => br b
  (qb (q_fa 0 v1) fun v5 =>
  qb (q_load st false 1 v5) fun v6 =>
  callK prog n_impl_NameOK [v6] st (fun v7 st =>
  cb v7 fun b_1 => br b_1
   (qb (q_fa 2 v1) fun v9 =>
   qb (q_load st true 4 v9) fun v10 =>
   callK prog n_impl_KindOK [v10] st (fun v11 st =>
   retR R v11 st) (panR R))
   (retR R (.bool false) st)) (panR R))
  (qb (q_fa 0 v1) fun v13 =>
  qb (q_load st false 1 v13) fun v14 =>
  callK prog n_impl_NameOK [v14] st (fun v15 st =>
  cb v15 fun b_2 => br b_2
   (qb (q_fa 2 v1) fun v17 =>
   qb (q_load st true 4 v17) fun v18 =>
   callK prog n_impl_FamilyOK [v18] st (fun v19 st =>
   retR R v19 st) (panR R))
   (retR R (.bool false) st)) (panR R))
theorem c_impl_declForm {a0 : PV} {st : St} {R : Res → St → Prop} (h : b_impl_declForm a0 st R) : HCalls prog n_impl_declForm [a0] st R :=
 hcalls_of_func tyOK mixed (fn := Go.Proofs.Tryz.f93) (by kernel_rfl) (by kernel_rfl) (by kernel_rfl) (ann := [])
  (show hFunc prog TT [] Go.Proofs.Tryz.f93 [a0] st R from (show hFunc prog TT [] Go.Proofs.Tryz.f93 [a0] st R = b_impl_declForm a0 st R by kernel_rfl) ▸ h)
def b_impl_declFault (a0 a1 : PV) (st : St) (R : Res → St → Prop) : Prop :=
 e_box st a0 fun v2 st =>
 e_box st a1 fun v3 st =>
 e_alloc st [.int .i64 0, .int .i64 0] fun v4 st =>
 callK prog n_impl_caught [(.fn (.func n_impl_declFault_1) [] [v2, v3])] st (fun v6 st =>
 e_store st 2 v4 v6 fun st =>
 qb (q_load st true 2 v4) fun r => retR R r st) (panR R)
theorem c_impl_declFault {a0 a1 : PV} {st : St} {R : Res → St → Prop} (h : b_impl_declFault a0 a1 st R) : HCalls prog n_impl_declFault [a0, a1] st R :=
 hcalls_of_func tyOK mixed (fn := Go.Proofs.Tryz.f94) (by kernel_rfl) (by kernel_rfl) (by kernel_rfl) (ann := [])
  (show hFunc prog TT [] Go.Proofs.Tryz.f94 [a0, a1] st R from (show hFunc prog TT [] Go.Proofs.Tryz.f94 [a0, a1] st R = b_impl_declFault a0 a1 st R by kernel_rfl) ▸ h)
def b_slices_ContainsFunc_impl_Decl_impl_Decl (a0 a1 : PV) (st : St) (R : Res → St → Prop) : Prop :=
 callK prog n_slices_IndexFunc_impl_Decl_impl_Decl [a0, a1] st (fun v7 st =>
 qb (q_bin .geq v7 (.int .i64 0)) fun v8 =>
 retR R v8 st) (panR R)
theorem c_slices_ContainsFunc_impl_Decl_impl_Decl {a0 a1 : PV} {st : St} {R : Res → St → Prop} (h : b_slices_ContainsFunc_impl_Decl_impl_Decl a0 a1 st R) : HCalls prog n_slices_ContainsFunc_impl_Decl_impl_Decl [a0, a1] st R :=
 hcalls_of_func tyOK mixed (fn := Go.Proofs.Tryz.f95) (by kernel_rfl) (by kernel_rfl) (by kernel_rfl) (ann := [])
  (show hFunc prog TT [] Go.Proofs.Tryz.f95 [a0, a1] st R from (show hFunc prog TT [] Go.Proofs.Tryz.f95 [a0, a1] st R = b_slices_ContainsFunc_impl_Decl_impl_Decl a0 a1 st R by kernel_rfl) ▸ h)
def b_impl_has_1 (a0 a1 : PV) (st : St) (R : Res → St → Prop) : Prop :=
 e_box st a0 fun v2 st =>
 qb (q_fa 0 v2) fun v4 =>
 qb (q_load st false 1 v4) fun v5 =>
 qb (q_load st false 1 a1) fun v6 =>
 qb (q_bin .eql v5 v6) fun v7 =>
 retR R v7 st
theorem c_impl_has_1 {a0 a1 : PV} {st : St} {R : Res → St → Prop} (h : b_impl_has_1 a0 a1 st R) : HCalls prog n_impl_has_1 [a0, a1] st R :=
 hcalls_of_func tyOK mixed (fn := Go.Proofs.Tryz.f96) (by kernel_rfl) (by kernel_rfl) (by kernel_rfl) (ann := [])
  (show hFunc prog TT [] Go.Proofs.Tryz.f96 [a0, a1] st R from (show hFunc prog TT [] Go.Proofs.Tryz.f96 [a0, a1] st R = b_impl_has_1 a0 a1 st R by kernel_rfl) ▸ h)
def b_slices_IndexFunc_impl_Decl_impl_Decl (a0 a1 : PV) (st : St) (R : Res → St → Prop) : Prop :=
 qb (q_len a0) fun v7 =>
 hFix (fun ls st X =>
  qb (q_bin .lss (ls.getD 0 .junk) v7) fun v9 =>
  cb v9 fun b => br b
   (qb (q_ia 6 a0 (ls.getD 0 .junk)) fun v14 =>
   qb (q_load st true 6 v14) fun v15 =>
   e_call prog st a1 [v15] (fun v16 st =>
   cb v16 fun b_1 => br b_1
    (retR R (ls.getD 0 .junk) st)
    (qb (q_bin .add (ls.getD 0 .junk) (.int .i64 1)) fun v18 =>
    X [v18] st)) (panR R))
   (retR R (.int .i64 (-1)) st))
  [(.int .i64 0)] st
theorem c_slices_IndexFunc_impl_Decl_impl_Decl {a0 a1 : PV} {st : St} {R : Res → St → Prop} (h : b_slices_IndexFunc_impl_Decl_impl_Decl a0 a1 st R) : HCalls prog n_slices_IndexFunc_impl_Decl_impl_Decl [a0, a1] st R :=
 hcalls_of_func tyOK mixed (fn := Go.Proofs.Tryz.f97) (by kernel_rfl) (by kernel_rfl) (by kernel_rfl) (ann := [(8, [8])])
  (show hFunc prog TT [(8, [8])] Go.Proofs.Tryz.f97 [a0, a1] st R from (show hFunc prog TT [(8, [8])] Go.Proofs.Tryz.f97 [a0, a1] st R = b_slices_IndexFunc_impl_Decl_impl_Decl a0 a1 st R by kernel_rfl) ▸ h)
end Go.H.Tryz
