/- Part of a proof that the program answers as the reference does: ZGS4. -/
import Derived.Test.YtipmjpjaklmpfaaGreatDoorHT
set_option linter.unusedVariables false
set_option maxRecDepth 100000
namespace Go.H.Tryz
open Go Go.H
def b_spec_l01With (a0 a1 : PV) (st : St) (R : Res → St → Prop) : Prop :=
 e_box st a0 fun v2 st =>
 e_alloc st [.int .i64 0, .int .i64 0, .str [], .sl 0 true []] fun v4 st =>
 qb (q_fa 0 v2) fun v5 =>
 qb (q_load st false 1 v5) fun v6 =>
 qb (q_fa 1 v2) fun v7 =>
 qb (q_load st false 1 v7) fun v8 =>
 qb (q_fa 2 v2) fun v9 =>
 qb (q_load st false 1 v9) fun v10 =>
 qb (q_struct [.int .i64 0, .int .i64 0, .str [], .sl 0 true []] [(0, 1, v6), (1, 1, v8), (2, 1, v10), (3, 1, a1)]) fun v12 =>
 e_store st 4 v4 v12 fun st =>
 qb (q_load st true 4 v4) fun r => retR R r st
theorem c_spec_l01With {a0 a1 : PV} {st : St} {R : Res → St → Prop} (h : b_spec_l01With a0 a1 st R) : HCalls prog n_spec_l01With [a0, a1] st R :=
 hcalls_of_func tyOK mixed (fn := Go.Proofs.Tryz.f83) (by kernel_rfl) (by kernel_rfl) (by kernel_rfl) (ann := [])
  (show hFunc prog TT [] Go.Proofs.Tryz.f83 [a0, a1] st R from (show hFunc prog TT [] Go.Proofs.Tryz.f83 [a0, a1] st R = b_spec_l01With a0 a1 st R by kernel_rfl) ▸ h)
def b_slices_Max_int_int (a0 : PV) (st : St) (R : Res → St → Prop) : Prop :=
 qb (q_len a0) fun v6 =>
 qb (q_bin .lss v6 (.int .i64 1)) fun v7 =>
 cb v7 fun b => br b
  (qb (q_iface ty_string (.str [115, 108, 105, 99, 101, 115, 46, 77, 97, 120, 58, 32, 101, 109, 112, 116, 121, 32, 108, 105, 115, 116])) fun v8 =>
  e_panic v8 st (panR R))
  (qb (q_ia 1 a0 (.int .i64 0)) fun v10 =>
  qb (q_load st false 1 v10) fun v11 =>
  hFix (fun ls st X =>
   qb (q_len a0) fun v14 =>
   qb (q_bin .lss (ls.getD 1 .junk) v14) fun v15 =>
   cb v15 fun b_1 => br b_1
    (qb (q_ia 1 a0 (ls.getD 1 .junk)) fun v21 =>
    qb (q_load st false 1 v21) fun v22 =>
    qb (q_max (ls.getD 0 .junk) v22) fun v23 =>
    qb (q_bin .add (ls.getD 1 .junk) (.int .i64 1)) fun v17 =>
    X [v23, v17] st)
    (retR R (ls.getD 0 .junk) st))
   [v11, (.int .i64 1)] st)
theorem c_slices_Max_int_int {a0 : PV} {st : St} {R : Res → St → Prop} (h : b_slices_Max_int_int a0 st R) : HCalls prog n_slices_Max_int_int [a0] st R :=
 hcalls_of_func tyOK mixed (fn := Go.Proofs.Tryz.f84) (by kernel_rfl) (by kernel_rfl) (by kernel_rfl) (ann := [(20, [3, 4])])
  (show hFunc prog TT [(20, [3, 4])] Go.Proofs.Tryz.f84 [a0] st R from (show hFunc prog TT [(20, [3, 4])] Go.Proofs.Tryz.f84 [a0] st R = b_slices_Max_int_int a0 st R by kernel_rfl) ▸ h)
def b_impl_NameOK (a0 : PV) (st : St) (R : Res → St → Prop) : Prop :=
 callK prog n_impl_wordOK [a0] st (fun v6 st =>
 qb (q_un .not v6) fun v7 =>
 cb v7 fun b => br b
  (retR R (.bool false) st)
  (qb (q_bin .eql a0 (.str [116, 121, 112, 101])) fun v10 =>
  cb v10 fun b_1 => br b_1
   (retR R (.bool false) st)
   (qb (q_bin .eql a0 (.str [95])) fun v14 =>
   cb v14 fun b_2 => br b_2
    (retR R (.bool false) st)
    (callK prog n_strings_CutPrefix [a0, (.str [120])] st (fun v18 st =>
    qb (q_ex v18 0) fun v19 =>
    qb (q_ex v18 1) fun v20 =>
    qb (q_un .not v20) fun v22 =>
    cb v22 fun b_3 => br b_3
     (retR R (.bool true) st)
     (qb (q_bin .eql v19 (.str [])) fun v25 =>
     cb v25 fun b_4 => br b_4
      (retR R (.bool true) st)
      (callK prog n_impl_over [v19, (.str [48, 49, 50, 51, 52, 53, 54, 55, 56, 57])] st (fun v29 st =>
      qb (q_un .not v29) fun v30 =>
      retR R v30 st) (panR R)))) (panR R))))) (panR R)
theorem c_impl_NameOK {a0 : PV} {st : St} {R : Res → St → Prop} (h : b_impl_NameOK a0 st R) : HCalls prog n_impl_NameOK [a0] st R :=
 hcalls_of_func tyOK mixed (fn := Go.Proofs.Tryz.f85) (by kernel_rfl) (by kernel_rfl) (by kernel_rfl) (ann := [])
  (show hFunc prog TT [] Go.Proofs.Tryz.f85 [a0] st R from (show hFunc prog TT [] Go.Proofs.Tryz.f85 [a0] st R = b_impl_NameOK a0 st R by kernel_rfl) ▸ h)
def b_impl_stop (a0 a1 : PV) (st : St) (R : Res → St → Prop) : Prop :=
 qb (q_struct [.int .i64 0, .int .i64 0] [(0, 1, a0), (1, 1, a1)]) fun v6 =>
 qb (q_iface ty_impl_halt v6) fun v7 =>
 e_panic v7 st (panR R)
theorem c_impl_stop {a0 a1 : PV} {st : St} {R : Res → St → Prop} (h : b_impl_stop a0 a1 st R) : HCalls prog n_impl_stop [a0, a1] st R :=
 hcalls_of_func tyOK mixed (fn := Go.Proofs.Tryz.f87) (by kernel_rfl) (by kernel_rfl) (by kernel_rfl) (ann := [])
  (show hFunc prog TT [] Go.Proofs.Tryz.f87 [a0, a1] st R from (show hFunc prog TT [] Go.Proofs.Tryz.f87 [a0, a1] st R = b_impl_stop a0 a1 st R by kernel_rfl) ▸ h)
def b_impl_simpler_typeOf (a0 a1 a2 : PV) (st : St) (R : Res → St → Prop) : Prop :=
 e_box st a2 fun v5 st =>
 e_alloc st [.int .i64 0, .int .i64 0, .str [], .sl 0 true []] fun v6 st =>
 qb (q_fa 0 v5) fun v8 =>
 qb (q_load st false 1 v8) fun v9 =>
 qb (q_bin .eql v9 (.int .i64 5)) fun v11 =>
 cb v11 fun b => br b
  (qb (q_fa 1 v5) fun v12 =>
  qb (q_load st false 1 v12) fun v13 =>
  qb (q_len a1) fun v15 =>
  qb (q_bin .geq v13 v15) fun v16 =>
  hJ (fun ls st =>
   qb (q_len a1) fun v20 =>
   qb (q_bin .sub v20 (.int .i64 1)) fun v21 =>
   qb (q_fa 1 v5) fun v22 =>
   qb (q_load st false 1 v22) fun v23 =>
   qb (q_bin .sub v21 v23) fun v24 =>
   qb (q_ia 4 a1 v24) fun v25 =>
   qb (q_load st true 4 v25) fun v26 =>
   e_store st 4 v6 v26 fun st =>
   qb (q_load st true 4 v6) fun r => retR R r st)
   (fun k =>
  cb v16 fun b_1 => br b_1
   (callK prog n_impl_stop [(.int .i64 7), (.int .i64 0)] st (fun v17 st =>
   k [] st) (panR R))
   (k [] st)))
  (qb (q_bin .eql v9 (.int .i64 7)) fun v28 =>
  cb v28 fun b_2 => br b_2
   (qb (q_fa 1 v5) fun v29 =>
   qb (q_load st false 1 v29) fun v30 =>
   qb (q_nil a0) fun v32 =>
   qb (q_fa 1 v32) fun v33 =>
   qb (q_load st false 1 v33) fun v34 =>
   qb (q_len v34) fun v35 =>
   qb (q_bin .geq v30 v35) fun v36 =>
   hJ (fun ls_1 st =>
    qb (q_nil a0) fun v39 =>
    qb (q_fa 1 v39) fun v40 =>
    qb (q_load st false 1 v40) fun v41 =>
    qb (q_fa 1 v5) fun v42 =>
    qb (q_load st false 1 v42) fun v43 =>
    qb (q_ia 4 v41 v43) fun v44 =>
    qb (q_load st true 4 v44) fun v45 =>
    e_store st 4 v6 v45 fun st =>
    qb (q_load st true 4 v6) fun r_1 => retR R r_1 st)
    (fun k_1 =>
   cb v36 fun b_3 => br b_3
    (callK prog n_impl_stop [(.int .i64 15), (.int .i64 0)] st (fun v37 st =>
    k_1 [] st) (panR R))
    (k_1 [] st)))
   (qb (q_nil a0) fun v47 =>
   qb (q_fa 0 v47) fun v48 =>
   qb (q_load st false 1 v48) fun v49 =>
   callK prog n_slices_IndexFunc_impl_Typed_impl_Typed [v49, (.fn (.func n_impl_simpler_typeOf_1) [] [v5])] st (fun v51 st =>
   qb (q_bin .lss v51 (.int .i64 0)) fun v53 =>
   hJ (fun ls_2 st =>
    qb (q_nil a0) fun v56 =>
    qb (q_fa 0 v56) fun v57 =>
    qb (q_load st false 1 v57) fun v58 =>
    qb (q_ia 5 v58 v51) fun v60 =>
    qb (q_fa 1 v60) fun v61 =>
    qb (q_load st true 4 v61) fun v62 =>
    e_store st 4 v6 v62 fun st =>
    qb (q_load st true 4 v6) fun r_2 => retR R r_2 st)
    (fun k_2 =>
   cb v53 fun b_4 => br b_4
    (callK prog n_impl_stop [(.int .i64 5), (.int .i64 0)] st (fun v54 st =>
    k_2 [] st) (panR R))
    (k_2 [] st))) (panR R)))
theorem c_impl_simpler_typeOf {a0 a1 a2 : PV} {st : St} {R : Res → St → Prop} (h : b_impl_simpler_typeOf a0 a1 a2 st R) : HCalls prog n_impl_simpler_typeOf [a0, a1, a2] st R :=
 hcalls_of_func tyOK mixed (fn := Go.Proofs.Tryz.f88) (by kernel_rfl) (by kernel_rfl) (by kernel_rfl) (ann := [(18, []), (34, []), (50, [])])
  (show hFunc prog TT [(18, []), (34, []), (50, [])] Go.Proofs.Tryz.f88 [a0, a1, a2] st R from (show hFunc prog TT [(18, []), (34, []), (50, [])] Go.Proofs.Tryz.f88 [a0, a1, a2] st R = b_impl_simpler_typeOf a0 a1 a2 st R by kernel_rfl) ▸ h)
def b_impl_same (a0 a1 : PV) (st : St) (R : Res → St → Prop) : Prop :=
 e_box st a0 fun v2 st =>
 e_box st a1 fun v3 st =>
 qb (q_fa 0 v2) fun v6 =>
 qb (q_load st false 1 v6) fun v7 =>
 qb (q_fa 0 v3) fun v8 =>
 qb (q_load st false 1 v8) fun v9 =>
 qb (q_bin .neq v7 v9) fun v10 =>
 cb v10 fun b => br b
  (retR R (.bool false) st)
  (qb (q_fa 1 v2) fun v12 =>
  qb (q_load st false 1 v12) fun v13 =>
  qb (q_fa 1 v3) fun v14 =>
  qb (q_load st false 1 v14) fun v15 =>
  qb (q_bin .neq v13 v15) fun v16 =>
  cb v16 fun b_1 => br b_1
   (retR R (.bool false) st)
   (qb (q_fa 2 v2) fun v19 =>
   qb (q_load st false 1 v19) fun v20 =>
   qb (q_fa 2 v3) fun v21 =>
   qb (q_load st false 1 v21) fun v22 =>
   qb (q_bin .neq v20 v22) fun v23 =>
   cb v23 fun b_2 => br b_2
    (retR R (.bool false) st)
    (qb (q_fa 3 v2) fun v26 =>
    qb (q_load st false 1 v26) fun v27 =>
    qb (q_len v27) fun v28 =>
    qb (q_fa 3 v3) fun v29 =>
    qb (q_load st false 1 v29) fun v30 =>
    qb (q_len v30) fun v31 =>
    qb (q_bin .neq v28 v31) fun v32 =>
    cb v32 fun b_3 => br b_3
     (retR R (.bool false) st)
     (qb (q_fa 3 v2) fun v34 =>
     qb (q_load st false 1 v34) fun v35 =>
     qb (q_len v35) fun v36 =>
     hFix (fun ls st X =>
      qb (q_bin .lss (ls.getD 0 .junk) v36) fun v38 =>
      cb v38 fun b_4 => br b_4
       (qb (q_fa 3 v2) fun v40 =>
       qb (q_load st false 1 v40) fun v41 =>
       qb (q_ia 4 v41 (ls.getD 0 .junk)) fun v43 =>
       qb (q_load st true 4 v43) fun v44 =>
       qb (q_fa 3 v3) fun v45 =>
       qb (q_load st false 1 v45) fun v46 =>
       qb (q_ia 4 v46 (ls.getD 0 .junk)) fun v48 =>
       qb (q_load st true 4 v48) fun v49 =>
       callK prog n_impl_same [v44, v49] st (fun v50 st =>
       qb (q_un .not v50) fun v51 =>
       cb v51 fun b_5 => br b_5
        (retR R (.bool false) st)
        (qb (q_bin .add (ls.getD 0 .junk) (.int .i64 1)) fun v52 =>
        X [v52] st)) (panR R))
       (retR R (.bool true) st))
      [(.int .i64 0)] st))))
theorem e_impl_same : Enters prog n_impl_same := ⟨Go.Proofs.Tryz.f89, by kernel_rfl, by kernel_rfl, by kernel_rfl⟩
theorem c_impl_same {a0 a1 : PV} {st : St} {R : Res → St → Prop} (h : b_impl_same a0 a1 st R) : HCalls prog n_impl_same [a0, a1] st R :=
 hcalls_of_func tyOK mixed (fn := Go.Proofs.Tryz.f89) (by kernel_rfl) (by kernel_rfl) (by kernel_rfl) (ann := [(16, [37])])
  (show hFunc prog TT [(16, [37])] Go.Proofs.Tryz.f89 [a0, a1] st R from (show hFunc prog TT [(16, [37])] Go.Proofs.Tryz.f89 [a0, a1] st R = b_impl_same a0 a1 st R by kernel_rfl) ▸ h)
def b_spec_l00Src_varTypes (a0 : PV) (st : St) (R : Res → St → Prop) : Prop :=
 callK prog n_spec_l01Base [(.str [110, 97, 116])] st (fun v6 st =>
 e_alloc st [.int .i64 0, .int .i64 0, .str [], .sl 0 true []] fun v3 st =>
 e_store st 4 v3 v6 fun st =>
 qb (q_lit 4 0 0 [] []) fun v7 =>
 callK prog n_spec_l00Src_next [a0, (.int .i64 4)] st (fun v9 st =>
 hFix (fun ls st X =>
  qb (q_bin .gtr (ls.getD 1 .junk) (.int .i64 0)) fun v11 =>
  cb v11 fun b => br b
   (qb (q_load st true 4 v3) fun v15 =>
   qb (q_load st true 4 v3) fun v16 =>
   qb (q_load st true 4 v3) fun v17 =>
   qb (q_load st true 4 v3) fun v18 =>
   callK prog n_spec_l01Arrow [v17, v18] st (fun v19 st =>
   q_load st true 4 v3 = some v16 ∧ q_load st true 4 v3 = some v15 ∧ (callK prog n_spec_l01Base [(.str [111])] st (fun v20 st =>
   q_load st true 4 v3 = some v16 ∧ q_load st true 4 v3 = some v15 ∧ (qb (q_lit 4 4 0 [] [(0, v15), (1, v16), (2, v19), (3, v20)]) fun v21 =>
   callK prog n_spec_l00Src_next [a0, (.int .i64 4)] st (fun v23 st =>
   q_load st true 4 v3 = some v16 ∧ q_load st true 4 v3 = some v15 ∧ (qb (q_ia 4 v21 v23) fun v24 =>
   qb (q_load st true 4 v24) fun v25 =>
   qb (q_lit 4 1 0 [] [(0, v25)]) fun v26 =>
   e_append st 4 56 (ls.getD 0 .junk) v26 (fun v27 st =>
   qb (q_bin .sub (ls.getD 1 .junk) (.int .i64 1)) fun v13 =>
   X [v27, v13] st))) (panR R))) (panR R))) (panR R))
   (retR R (ls.getD 0 .junk) st))
  [v7, v9] st) (panR R)) (panR R)
theorem c_spec_l00Src_varTypes {a0 : PV} {st : St} {R : Res → St → Prop} (h : b_spec_l00Src_varTypes a0 st R) : HCalls prog n_spec_l00Src_varTypes [a0] st R :=
 hcalls_of_func tyOK mixed (fn := Go.Proofs.Tryz.f90) (by kernel_rfl) (by kernel_rfl) (by kernel_rfl) (ann := [(16, [4, 5])])
  (show hFunc prog TT [(16, [4, 5])] Go.Proofs.Tryz.f90 [a0] st R from (show hFunc prog TT [(16, [4, 5])] Go.Proofs.Tryz.f90 [a0] st R = b_spec_l00Src_varTypes a0 st R by kernel_rfl) ▸ h)
def b_spec_l00Src_holeTypes (a0 : PV) (st : St) (R : Res → St → Prop) : Prop :=
 callK prog n_spec_l01Base [(.str [110, 97, 116])] st (fun v8 st =>
 e_alloc st [.int .i64 0, .int .i64 0, .str [], .sl 0 true []] fun v3 st =>
 e_store st 4 v3 v8 fun st =>
 callK prog n_spec_l01Base [(.str [111])] st (fun v9 st =>
 e_alloc st [.int .i64 0, .int .i64 0, .str [], .sl 0 true []] fun v4 st =>
 e_store st 4 v4 v9 fun st =>
 qb (q_load st true 4 v3) fun v10 =>
 qb (q_load st true 4 v3) fun v11 =>
 qb (q_load st true 4 v3) fun v12 =>
 qb (q_load st true 4 v3) fun v14 =>
 qb (q_load st true 4 v3) fun v15 =>
 qb (q_load st true 4 v3) fun v16 =>
 qb (q_load st true 4 v4) fun v19 =>
 qb (q_load st true 4 v3) fun v20 =>
 qb (q_load st true 4 v4) fun v21 =>
 qb (q_load st true 4 v3) fun v23 =>
 qb (q_load st true 4 v3) fun v24 =>
 qb (q_load st true 4 v3) fun v26 =>
 callK prog n_spec_l01Arrow [v11, v12] st (fun v13 st =>
 q_load st true 4 v3 = some v26 ∧ q_load st true 4 v3 = some v24 ∧ q_load st true 4 v3 = some v23 ∧ q_load st true 4 v4 = some v21 ∧ q_load st true 4 v3 = some v20 ∧ q_load st true 4 v4 = some v19 ∧ q_load st true 4 v3 = some v16 ∧ q_load st true 4 v3 = some v15 ∧ q_load st true 4 v3 = some v14 ∧ q_load st true 4 v3 = some v10 ∧ (callK prog n_spec_l01Arrow [v15, v16] st (fun v17 st =>
 q_load st true 4 v3 = some v26 ∧ q_load st true 4 v3 = some v24 ∧ q_load st true 4 v3 = some v23 ∧ q_load st true 4 v4 = some v21 ∧ q_load st true 4 v3 = some v20 ∧ q_load st true 4 v4 = some v19 ∧ q_load st true 4 v3 = some v14 ∧ q_load st true 4 v3 = some v10 ∧ (callK prog n_spec_l01Arrow [v14, v17] st (fun v18 st =>
 q_load st true 4 v3 = some v26 ∧ q_load st true 4 v3 = some v24 ∧ q_load st true 4 v3 = some v23 ∧ q_load st true 4 v4 = some v21 ∧ q_load st true 4 v3 = some v20 ∧ q_load st true 4 v4 = some v19 ∧ q_load st true 4 v3 = some v10 ∧ (callK prog n_spec_l01Arrow [v20, v21] st (fun v22 st =>
 q_load st true 4 v3 = some v26 ∧ q_load st true 4 v3 = some v24 ∧ q_load st true 4 v3 = some v23 ∧ q_load st true 4 v4 = some v19 ∧ q_load st true 4 v3 = some v10 ∧ (callK prog n_spec_l01Arrow [v23, v24] st (fun v25 st =>
 q_load st true 4 v3 = some v26 ∧ q_load st true 4 v4 = some v19 ∧ q_load st true 4 v3 = some v10 ∧ (callK prog n_spec_l01Arrow [v25, v26] st (fun v27 st =>
 q_load st true 4 v4 = some v19 ∧ q_load st true 4 v3 = some v10 ∧ (qb (q_lit 4 6 0 [] [(0, v10), (1, v13), (2, v18), (3, v19), (4, v22), (5, v27)]) fun v28 =>
 qb (q_lit 4 0 0 [] []) fun v29 =>
 callK prog n_spec_l00Src_next [a0, (.int .i64 4)] st (fun v31 st =>
 hFix (fun ls st X =>
  qb (q_bin .geq (ls.getD 1 .junk) (.int .i64 0)) fun v33 =>
  cb v33 fun b => br b
   (callK prog n_spec_l00Src_next [a0, (.int .i64 6)] st (fun v39 st =>
   qb (q_ia 4 v28 v39) fun v40 =>
   qb (q_load st true 4 v40) fun v41 =>
   qb (q_lit 4 1 0 [] [(0, v41)]) fun v42 =>
   e_append st 4 56 (ls.getD 0 .junk) v42 (fun v43 st =>
   qb (q_bin .sub (ls.getD 1 .junk) (.int .i64 1)) fun v35 =>
   X [v43, v35] st)) (panR R))
   (retR R (ls.getD 0 .junk) st))
  [v29, v31] st) (panR R))) (panR R))) (panR R))) (panR R))) (panR R))) (panR R))) (panR R)) (panR R)) (panR R)
theorem c_spec_l00Src_holeTypes {a0 : PV} {st : St} {R : Res → St → Prop} (h : b_spec_l00Src_holeTypes a0 st R) : HCalls prog n_spec_l00Src_holeTypes [a0] st R :=
 hcalls_of_func tyOK mixed (fn := Go.Proofs.Tryz.f91) (by kernel_rfl) (by kernel_rfl) (by kernel_rfl) (ann := [(24, [6, 7])])
  (show hFunc prog TT [(24, [6, 7])] Go.Proofs.Tryz.f91 [a0] st R from (show hFunc prog TT [(24, [6, 7])] Go.Proofs.Tryz.f91 [a0] st R = b_spec_l00Src_holeTypes a0 st R by kernel_rfl) ▸ h)
def b_spec_l00Src_pattern (a0 a1 a2 a3 a4 : PV) (st : St) (R : Res → St → Prop) : Prop :=
 e_box st a3 fun v8 st =>
 e_alloc st [.int .i64 0, .int .i64 0, .str [], .sl 0 true []] fun v10 st =>
 qb (q_fa 0 v8) fun v23 =>
 qb (q_load st false 1 v23) fun v24 =>
 qb (q_bin .eql v24 (.int .i64 10)) fun v25 =>
 cb v25 fun b => br b
  (qb (q_fa 3 v8) fun v28 =>
  qb (q_load st false 1 v28) fun v29 =>
  qb (q_ia 4 v29 (.int .i64 0)) fun v30 =>
  qb (q_load st true 4 v30) fun v31 =>
  qb (q_fa 3 v8) fun v34 =>
  qb (q_load st false 1 v34) fun v35 =>
  qb (q_ia 4 v35 (.int .i64 1)) fun v36 =>
  qb (q_load st true 4 v36) fun v37 =>
  callK prog n_spec_l04More [a1, v31] st (fun v32 st =>
  q_load st true 4 v36 = some v37 ∧ q_load st false 1 v34 = some v35 ∧ (callK prog n_spec_l00Src_pattern [a0, v32, a2, v37, a4] st (fun v39 st =>
  callK prog n_spec_l01Lam [v39] st (fun v40 st =>
  e_store st 4 v10 v40 fun st =>
  qb (q_load st true 4 v10) fun r => retR R r st) (panR R)) (panR R))) (panR R))
  (hJ (fun ls st =>
   hJ (fun ls_1 st =>
    qb (q_load st true 4 v8) fun v147 =>
    qb (q_min a4 (.int .i64 1)) fun v149 =>
    callK prog n_spec_l00Src_typed [a0, a1, (.sl 0 true []), v147, v149] st (fun v150 st =>
    e_alloc st [.int .i64 0, .int .i64 0, .str [], .sl 0 true []] fun v19 st =>
    e_store st 4 v19 v150 fun st =>
    qb (q_lit 4 0 0 [] []) fun v151 =>
    qb (q_fa 0 v19) fun v152 =>
    qb (q_load st false 1 v152) fun v153 =>
    qb (q_bin .eql v153 (.int .i64 5)) fun v154 =>
    hJ (fun ls_2 st =>
     qb (q_lit 4 0 0 [] []) fun v174 =>
     hFix (fun ls_3 st X =>
      qb (q_len (ls_2.getD 0 .junk)) fun v177 =>
      qb (q_bin .lss (ls_3.getD 1 .junk) v177) fun v178 =>
      cb v178 fun b_3 => br b_3
       (qb (q_bin .gtr a4 (.int .i64 0)) fun v182 =>
       cb v182 fun b_4 => br b_4
        (qb (q_ia 4 (ls_2.getD 0 .junk) (ls_3.getD 1 .junk)) fun v189 =>
        qb (q_load st true 4 v189) fun v190 =>
        qb (q_bin .sub a4 (.int .i64 1)) fun v192 =>
        callK prog n_spec_l00Src_pattern [a0, a1, a2, v190, v192] st (fun v193 st =>
        qb (q_lit 4 1 0 [] [(0, v193)]) fun v194 =>
        e_append st 4 56 (ls_3.getD 0 .junk) v194 (fun v195 st =>
        qb (q_bin .add (ls_3.getD 1 .junk) (.int .i64 1)) fun v180 =>
        X [v195, v180] st)) (panR R))
        (qb (q_ia 4 (ls_2.getD 0 .junk) (ls_3.getD 1 .junk)) fun v201 =>
        qb (q_load st true 4 v201) fun v202 =>
        callK prog n_spec_l00Src_typed [a0, a1, (.sl 0 true []), v202, (.int .i64 0)] st (fun v203 st =>
        qb (q_lit 4 1 0 [] [(0, v203)]) fun v204 =>
        e_append st 4 56 (ls_3.getD 0 .junk) v204 (fun v205 st =>
        qb (q_bin .add (ls_3.getD 1 .junk) (.int .i64 1)) fun v180_1 =>
        X [v205, v180_1] st)) (panR R)))
       (qb (q_load st true 4 v19) fun v206 =>
       callK prog n_spec_l01With [v206, (ls_3.getD 0 .junk)] st (fun v208 st =>
       e_store st 4 v10 v208 fun st =>
       qb (q_load st true 4 v10) fun r_1 => retR R r_1 st) (panR R)))
      [v174, (.int .i64 0)] st)
     (fun k_2 =>
    cb v154 fun b_2 => br b_2
     (qb (q_len a1) fun v157 =>
     qb (q_bin .sub v157 (.int .i64 1)) fun v158 =>
     qb (q_fa 1 v19) fun v159 =>
     qb (q_load st false 1 v159) fun v160 =>
     qb (q_bin .sub v158 v160) fun v161 =>
     qb (q_ia 4 a1 v161) fun v162 =>
     qb (q_load st true 4 v162) fun v163 =>
     callK prog n_spec_l06Args [v163] st (fun v164 st =>
     k_2 [v164] st) (panR R))
     (qb (q_fa 2 v19) fun v167 =>
     qb (q_load st false 1 v167) fun v168 =>
     callK prog n_spec_l03Some [] st (fun v165 st =>
     q_load st false 1 v167 = some v168 ∧ (callK prog n_spec_l03Some [] st (fun v166 st =>
     q_load st false 1 v167 = some v168 ∧ (callK prog n_spec_l03Const [v166, v168] st (fun v169 st =>
     qb (q_ia 5 v165 v169) fun v170 =>
     qb (q_fa 1 v170) fun v171 =>
     qb (q_load st true 4 v171) fun v172 =>
     callK prog n_spec_l06Args [v172] st (fun v173 st =>
     k_2 [v173] st) (panR R)) (panR R))) (panR R))) (panR R)))) (panR R))
    (fun k_1 =>
   cb (ls.getD 0 .junk) fun b_1 => br b_1
    (qb (q_len a2) fun v50 =>
    callK prog n_spec_l00Src_next [a0, v50] st (fun v51 st =>
    qb (q_ia 4 a2 v51) fun v54 =>
    qb (q_load st true 4 v54) fun v55 =>
    callK prog n_spec_l06Args [v55] st (fun v56 st =>
    qb (q_lit 4 0 0 [] []) fun v57 =>
    qb (q_lit 1 0 0 [] []) fun v58 =>
    hJ (fun ls_4 st =>
     hJ (fun ls_5 st =>
      cb (ls_5.getD 0 .junk) fun b_5 => br b_5
       (qb (q_struct [.int .i64 0, .int .i64 0, .str [], .sl 0 true []] [(0, 1, (.int .i64 7)), (1, 1, v51), (3, 1, (ls_4.getD 0 .junk))]) fun v144 =>
       e_store st 4 v10 v144 fun st =>
       qb (q_load st true 4 v10) fun r_2 => retR R r_2 st)
       (k_1 [] st))
      (fun k_4 =>
     qb (q_len (ls_4.getD 0 .junk)) fun v127 =>
     qb (q_len v56) fun v129 =>
     qb (q_bin .eql v127 v129) fun v130 =>
     cb v130 fun b_6 => br b_6
      (qb (q_ia 4 a2 v51) fun v134 =>
      qb (q_load st true 4 v134) fun v135 =>
      qb (q_fa 2 v8) fun v138 =>
      qb (q_load st false 1 v138) fun v139 =>
      callK prog n_spec_l03Target [v135] st (fun v136 st =>
      q_load st false 1 v138 = some v139 ∧ (qb (q_field false 1 2 v136) fun v137 =>
      qb (q_bin .eql v137 v139) fun v140 =>
      k_4 [v140] st)) (panR R))
      (k_4 [(.bool false)] st)))
     (fun k_3 =>
    hFix (fun ls_6 st X_1 =>
     hJ (fun ls_7 st =>
      cb (ls_7.getD 0 .junk) fun b_7 => br b_7
       (qb (q_len a1) fun v78 =>
       qb (q_bin .add v78 (.int .i64 1)) fun v79 =>
       callK prog n_spec_l00Src_next [a0, v79] st (fun v80 st =>
       hFix (fun ls_8 st X_2 =>
        qb (q_len a1) fun v83 =>
        qb (q_bin .lss (ls_8.getD 2 .junk) v83) fun v84 =>
        cb v84 fun b_8 => br b_8
         (qb (q_bin .add v80 (ls_8.getD 2 .junk)) fun v89 =>
         qb (q_len a1) fun v91 =>
         qb (q_bin .rem v89 v91) fun v92 =>
         hJ (fun ls_9 st =>
          cb (ls_9.getD 0 .junk) fun b_9 => br b_9
           (qb (q_lit 1 1 0 [] [(0, v92)]) fun v114 =>
           e_append st 1 8 (ls_8.getD 1 .junk) v114 (fun v115 st =>
           qb (q_ia 4 v56 (ls_6.getD 2 .junk)) fun v121 =>
           qb (q_load st true 4 v121) fun v122 =>
           callK prog n_spec_l01Var [v92, (.sl 0 true [])] st (fun v118 st =>
           q_load st true 4 v121 = some v122 ∧ (callK prog n_spec_l03Long [v118, v122] st (fun v123 st =>
           qb (q_lit 4 1 0 [] [(0, v123)]) fun v124 =>
           e_append st 4 56 (ls_8.getD 0 .junk) v124 (fun v125 st =>
           qb (q_bin .add (ls_6.getD 2 .junk) (.int .i64 1)) fun v75 =>
           X_1 [v125, v115, v75] st)) (panR R))) (panR R)))
           (qb (q_bin .add (ls_8.getD 2 .junk) (.int .i64 1)) fun v86 =>
           X_2 [(ls_8.getD 0 .junk), (ls_8.getD 1 .junk), v86] st))
          (fun k_6 =>
         callK prog n_spec_l06Place [(ls_8.getD 1 .junk), v92] st (fun v95 st =>
         qb (q_bin .lss v95 (.int .i64 0)) fun v96 =>
         cb v96 fun b_10 => br b_10
          (qb (q_len a1) fun v100 =>
          qb (q_bin .sub v100 (.int .i64 1)) fun v101 =>
          qb (q_bin .sub v101 v92) fun v103 =>
          qb (q_ia 4 a1 v103) fun v104 =>
          qb (q_load st true 4 v104) fun v105 =>
          qb (q_ia 4 v56 (ls_6.getD 2 .junk)) fun v108 =>
          qb (q_load st true 4 v108) fun v109 =>
          callK prog n_spec_l01Same [v105, v109] st (fun v110 st =>
          k_6 [v110] st) (panR R))
          (k_6 [(.bool false)] st)) (panR R)))
         (qb (q_bin .add (ls_6.getD 2 .junk) (.int .i64 1)) fun v75_1 =>
         X_1 [(ls_8.getD 0 .junk), (ls_8.getD 1 .junk), v75_1] st))
        [(ls_6.getD 0 .junk), (ls_6.getD 1 .junk), (.int .i64 0)] st) (panR R))
       (k_3 [(ls_6.getD 0 .junk)] st))
      (fun k_5 =>
     qb (q_len v56) fun v61 =>
     qb (q_bin .lss (ls_6.getD 2 .junk) v61) fun v62 =>
     cb v62 fun b_11 => br b_11
      (qb (q_ia 4 a2 v51) fun v66 =>
      qb (q_load st true 4 v66) fun v67 =>
      qb (q_fa 2 v8) fun v70 =>
      qb (q_load st false 1 v70) fun v71 =>
      callK prog n_spec_l03Target [v67] st (fun v68 st =>
      q_load st false 1 v70 = some v71 ∧ (qb (q_field false 1 2 v68) fun v69 =>
      qb (q_bin .eql v69 v71) fun v72 =>
      k_5 [v72] st)) (panR R))
      (k_5 [(.bool false)] st)))
     [v57, v58, (.int .i64 0)] st)) (panR R)) (panR R))
    (k_1 [] st)))
   (fun k =>
  qb (q_len a2) fun v42 =>
  qb (q_bin .gtr v42 (.int .i64 0)) fun v43 =>
  cb v43 fun b_12 => br b_12
   (callK prog n_spec_l00Src_chance [a0, (.int .i64 3)] st (fun v46 st =>
   k [v46] st) (panR R))
   (k [(.bool false)] st)))
theorem c_spec_l00Src_pattern {a0 a1 a2 a3 a4 : PV} {st : St} {R : Res → St → Prop} (h : b_spec_l00Src_pattern a0 a1 a2 a3 a4 st R) : HCalls prog n_spec_l00Src_pattern [a0, a1, a2, a3, a4] st R :=
 hcalls_of_func tyOK mixed (fn := Go.Proofs.Tryz.f92) (by kernel_rfl) (by kernel_rfl) (by kernel_rfl) (ann := [(112, [21, 22]), (52, [13, 14, 17]), (36, [13, 14, 15]), (3, [13]), (13, [47]), (18, []), (37, [73]), (65, [111]), (77, [141]), (98, [20])])
  (show hFunc prog TT [(112, [21, 22]), (52, [13, 14, 17]), (36, [13, 14, 15]), (3, [13]), (13, [47]), (18, []), (37, [73]), (65, [111]), (77, [141]), (98, [20])] Go.Proofs.Tryz.f92 [a0, a1, a2, a3, a4] st R from (show hFunc prog TT [(112, [21, 22]), (52, [13, 14, 17]), (36, [13, 14, 15]), (3, [13]), (13, [47]), (18, []), (37, [73]), (65, [111]), (77, [141]), (98, [20])] Go.Proofs.Tryz.f92 [a0, a1, a2, a3, a4] st R = b_spec_l00Src_pattern a0 a1 a2 a3 a4 st R by kernel_rfl) ▸ h)
def b_spec_l00Src_varied (a0 a1 a2 a3 a4 a5 : PV) (st : St) (R : Res → St → Prop) : Prop :=
 e_box st a3 fun v9 st =>
 e_box st a4 fun v10 st =>
 e_alloc st [.int .i64 0, .int .i64 0, .str [], .sl 0 true []] fun v12 st =>
 callK prog n_spec_l00Src_chance [a0, (.int .i64 5)] st (fun v17 st =>
 cb v17 fun b => br b
  (qb (q_load st true 4 v10) fun v21 =>
  callK prog n_spec_l00Src_pattern [a0, a1, a2, v21, a5] st (fun v23 st =>
  e_store st 4 v12 v23 fun st =>
  qb (q_load st true 4 v12) fun r => retR R r st) (panR R))
  (qb (q_fa 0 v9) fun v24 =>
  qb (q_load st false 1 v24) fun v25 =>
  qb (q_bin .eql v25 (.int .i64 4)) fun v26 =>
  cb v26 fun b_1 => br b_1
   (qb (q_fa 3 v10) fun v29 =>
   qb (q_load st false 1 v29) fun v30 =>
   qb (q_ia 4 v30 (.int .i64 0)) fun v31 =>
   qb (q_load st true 4 v31) fun v32 =>
   qb (q_fa 3 v9) fun v35 =>
   qb (q_load st false 1 v35) fun v36 =>
   qb (q_ia 4 v36 (.int .i64 0)) fun v37 =>
   qb (q_load st true 4 v37) fun v38 =>
   qb (q_fa 3 v10) fun v39 =>
   qb (q_load st false 1 v39) fun v40 =>
   qb (q_ia 4 v40 (.int .i64 1)) fun v41 =>
   qb (q_load st true 4 v41) fun v42 =>
   callK prog n_spec_l04More [a1, v32] st (fun v33 st =>
   q_load st true 4 v41 = some v42 ∧ q_load st false 1 v39 = some v40 ∧ q_load st true 4 v37 = some v38 ∧ q_load st false 1 v35 = some v36 ∧ (callK prog n_spec_l00Src_varied [a0, v33, a2, v38, v42, a5] st (fun v44 st =>
   callK prog n_spec_l01Lam [v44] st (fun v45 st =>
   e_store st 4 v12 v45 fun st =>
   qb (q_load st true 4 v12) fun r_1 => retR R r_1 st) (panR R)) (panR R))) (panR R))
   (qb (q_fa 0 v9) fun v46 =>
   qb (q_load st false 1 v46) fun v47 =>
   qb (q_bin .eql v47 (.int .i64 7)) fun v48 =>
   cb v48 fun b_2 => br b_2
    (qb (q_load st true 4 v9) fun v49 =>
    e_store st 4 v12 v49 fun st =>
    qb (q_load st true 4 v12) fun r_2 => retR R r_2 st)
    (qb (q_lit 4 0 0 [] []) fun v50 =>
    qb (q_fa 0 v9) fun v51 =>
    qb (q_load st false 1 v51) fun v52 =>
    qb (q_bin .eql v52 (.int .i64 5)) fun v53 =>
    hJ (fun ls st =>
     qb (q_lit 4 0 0 [] []) fun v73 =>
     hJ (fun ls_1 st =>
      qb (q_load st true 4 v9) fun v99 =>
      callK prog n_spec_l01With [v99, (ls_1.getD 0 .junk)] st (fun v101 st =>
      e_store st 4 v12 v101 fun st =>
      qb (q_load st true 4 v12) fun r_3 => retR R r_3 st) (panR R))
      (fun k_1 =>
     hFix (fun ls_2 st X =>
      qb (q_fa 3 v9) fun v75 =>
      qb (q_load st false 1 v75) fun v76 =>
      qb (q_len v76) fun v77 =>
      qb (q_bin .lss (ls_2.getD 1 .junk) v77) fun v78 =>
      cb v78 fun b_4 => br b_4
       (qb (q_fa 3 v9) fun v85 =>
       qb (q_load st false 1 v85) fun v86 =>
       qb (q_ia 4 v86 (ls_2.getD 1 .junk)) fun v88 =>
       qb (q_load st true 4 v88) fun v89 =>
       qb (q_ia 4 (ls.getD 0 .junk) (ls_2.getD 1 .junk)) fun v92 =>
       qb (q_load st true 4 v92) fun v93 =>
       qb (q_bin .sub a5 (.int .i64 1)) fun v95 =>
       callK prog n_spec_l00Src_varied [a0, a1, a2, v89, v93, v95] st (fun v96 st =>
       qb (q_lit 4 1 0 [] [(0, v96)]) fun v97 =>
       e_append st 4 56 (ls_2.getD 0 .junk) v97 (fun v98 st =>
       qb (q_bin .add (ls_2.getD 1 .junk) (.int .i64 1)) fun v80 =>
       X [v98, v80] st)) (panR R))
       (k_1 [(ls_2.getD 0 .junk)] st))
      [v73, (.int .i64 0)] st))
     (fun k =>
    cb v53 fun b_3 => br b_3
     (qb (q_len a1) fun v56 =>
     qb (q_bin .sub v56 (.int .i64 1)) fun v57 =>
     qb (q_fa 1 v9) fun v58 =>
     qb (q_load st false 1 v58) fun v59 =>
     qb (q_bin .sub v57 v59) fun v60 =>
     qb (q_ia 4 a1 v60) fun v61 =>
     qb (q_load st true 4 v61) fun v62 =>
     callK prog n_spec_l06Args [v62] st (fun v63 st =>
     k [v63] st) (panR R))
     (qb (q_fa 2 v9) fun v66 =>
     qb (q_load st false 1 v66) fun v67 =>
     callK prog n_spec_l03Some [] st (fun v64 st =>
     q_load st false 1 v66 = some v67 ∧ (callK prog n_spec_l03Some [] st (fun v65 st =>
     q_load st false 1 v66 = some v67 ∧ (callK prog n_spec_l03Const [v65, v67] st (fun v68 st =>
     qb (q_ia 5 v64 v68) fun v69 =>
     qb (q_fa 1 v69) fun v70 =>
     qb (q_load st true 4 v70) fun v71 =>
     callK prog n_spec_l06Args [v71] st (fun v72 st =>
     k [v72] st) (panR R)) (panR R))) (panR R))) (panR R))))))) (panR R)
theorem c_spec_l00Src_varied {a0 a1 a2 a3 a4 a5 : PV} {st : St} {R : Res → St → Prop} (h : b_spec_l00Src_varied a0 a1 a2 a3 a4 a5 st R) : HCalls prog n_spec_l00Src_varied [a0, a1, a2, a3, a4, a5] st R :=
 hcalls_of_func tyOK mixed (fn := Go.Proofs.Tryz.f93) (by kernel_rfl) (by kernel_rfl) (by kernel_rfl) (ann := [(52, [14, 15]), (3, [14]), (38, [13])])
  (show hFunc prog TT [(52, [14, 15]), (3, [14]), (38, [13])] Go.Proofs.Tryz.f93 [a0, a1, a2, a3, a4, a5] st R from (show hFunc prog TT [(52, [14, 15]), (3, [14]), (38, [13])] Go.Proofs.Tryz.f93 [a0, a1, a2, a3, a4, a5] st R = b_spec_l00Src_varied a0 a1 a2 a3 a4 a5 st R by kernel_rfl) ▸ h)
def b_spec_l00Src_chance (a0 a1 : PV) (st : St) (R : Res → St → Prop) : Prop :=
 callK prog n_spec_l00Src_next [a0, a1] st (fun v7 st =>
 qb (q_bin .sub a1 (.int .i64 1)) fun v9 =>
 qb (q_bin .eql v7 v9) fun v10 =>
 retR R v10 st) (panR R)
theorem c_spec_l00Src_chance {a0 a1 : PV} {st : St} {R : Res → St → Prop} (h : b_spec_l00Src_chance a0 a1 st R) : HCalls prog n_spec_l00Src_chance [a0, a1] st R :=
 hcalls_of_func tyOK mixed (fn := Go.Proofs.Tryz.f94) (by kernel_rfl) (by kernel_rfl) (by kernel_rfl) (ann := [])
  (show hFunc prog TT [] Go.Proofs.Tryz.f94 [a0, a1] st R from (show hFunc prog TT [] Go.Proofs.Tryz.f94 [a0, a1] st R = b_spec_l00Src_chance a0 a1 st R by kernel_rfl) ▸ h)
def b_spec_l01Lam (a0 : PV) (st : St) (R : Res → St → Prop) : Prop :=
 e_box st a0 fun v1 st =>
 e_alloc st [.int .i64 0, .int .i64 0, .str [], .sl 0 true []] fun v2 st =>
 qb (q_load st true 4 v1) fun v3 =>
 qb (q_lit 4 1 0 [] [(0, v3)]) fun v4 =>
 qb (q_struct [.int .i64 0, .int .i64 0, .str [], .sl 0 true []] [(0, 1, (.int .i64 4)), (3, 1, v4)]) fun v5 =>
 e_store st 4 v2 v5 fun st =>
 qb (q_load st true 4 v2) fun r => retR R r st
theorem c_spec_l01Lam {a0 : PV} {st : St} {R : Res → St → Prop} (h : b_spec_l01Lam a0 st R) : HCalls prog n_spec_l01Lam [a0] st R :=
 hcalls_of_func tyOK mixed (fn := Go.Proofs.Tryz.f95) (by kernel_rfl) (by kernel_rfl) (by kernel_rfl) (ann := [])
  (show hFunc prog TT [] Go.Proofs.Tryz.f95 [a0] st R from (show hFunc prog TT [] Go.Proofs.Tryz.f95 [a0] st R = b_spec_l01Lam a0 st R by kernel_rfl) ▸ h)
def b_spec_l03Target (a0 : PV) (st : St) (R : Res → St → Prop) : Prop :=
 e_box st a0 fun v1 st =>
 e_alloc st [.int .i64 0, .int .i64 0, .str [], .sl 0 true []] fun v2 st =>
 hFix (fun ls st X =>
  qb (q_fa 0 v1) fun v3 =>
  qb (q_load st false 1 v3) fun v4 =>
  qb (q_bin .eql v4 (.int .i64 10)) fun v5 =>
  cb v5 fun b => br b
   (qb (q_fa 3 v1) fun v6 =>
   qb (q_load st false 1 v6) fun v7 =>
   qb (q_ia 4 v7 (.int .i64 1)) fun v8 =>
   qb (q_load st true 4 v8) fun v9 =>
   e_store st 4 v1 v9 fun st =>
   X [] st)
   (qb (q_load st true 4 v1) fun v10 =>
   e_store st 4 v2 v10 fun st =>
   qb (q_load st true 4 v2) fun r => retR R r st))
  [] st
theorem c_spec_l03Target {a0 : PV} {st : St} {R : Res → St → Prop} (h : b_spec_l03Target a0 st R) : HCalls prog n_spec_l03Target [a0] st R :=
 hcalls_of_func tyOK mixed (fn := Go.Proofs.Tryz.f96) (by kernel_rfl) (by kernel_rfl) (by kernel_rfl) (ann := [(4, [])])
  (show hFunc prog TT [(4, [])] Go.Proofs.Tryz.f96 [a0] st R from (show hFunc prog TT [(4, [])] Go.Proofs.Tryz.f96 [a0] st R = b_spec_l03Target a0 st R by kernel_rfl) ▸ h)
def b_spec_l01Var (a0 a1 : PV) (st : St) (R : Res → St → Prop) : Prop :=
 e_alloc st [.int .i64 0, .int .i64 0, .str [], .sl 0 true []] fun v4 st =>
 qb (q_struct [.int .i64 0, .int .i64 0, .str [], .sl 0 true []] [(0, 1, (.int .i64 5)), (1, 1, a0), (3, 1, a1)]) fun v7 =>
 e_store st 4 v4 v7 fun st =>
 qb (q_load st true 4 v4) fun r => retR R r st
theorem c_spec_l01Var {a0 a1 : PV} {st : St} {R : Res → St → Prop} (h : b_spec_l01Var a0 a1 st R) : HCalls prog n_spec_l01Var [a0, a1] st R :=
 hcalls_of_func tyOK mixed (fn := Go.Proofs.Tryz.f97) (by kernel_rfl) (by kernel_rfl) (by kernel_rfl) (ann := [])
  (show hFunc prog TT [] Go.Proofs.Tryz.f97 [a0, a1] st R from (show hFunc prog TT [] Go.Proofs.Tryz.f97 [a0, a1] st R = b_spec_l01Var a0 a1 st R by kernel_rfl) ▸ h)
def b_spec_l01Const (a0 a1 : PV) (st : St) (R : Res → St → Prop) : Prop :=
 e_alloc st [.int .i64 0, .int .i64 0, .str [], .sl 0 true []] fun v4 st =>
 qb (q_struct [.int .i64 0, .int .i64 0, .str [], .sl 0 true []] [(0, 1, (.int .i64 6)), (2, 1, a0), (3, 1, a1)]) fun v7 =>
 e_store st 4 v4 v7 fun st =>
 qb (q_load st true 4 v4) fun r => retR R r st
theorem c_spec_l01Const {a0 a1 : PV} {st : St} {R : Res → St → Prop} (h : b_spec_l01Const a0 a1 st R) : HCalls prog n_spec_l01Const [a0, a1] st R :=
 hcalls_of_func tyOK mixed (fn := Go.Proofs.Tryz.f98) (by kernel_rfl) (by kernel_rfl) (by kernel_rfl) (ann := [])
  (show hFunc prog TT [] Go.Proofs.Tryz.f98 [a0, a1] st R from (show hFunc prog TT [] Go.Proofs.Tryz.f98 [a0, a1] st R = b_spec_l01Const a0 a1 st R by kernel_rfl) ▸ h)
def b_spec_l01Terms (a0 a1 : PV) (st : St) (R : Res → St → Prop) : Prop :=
 hFix (fun ls st X =>
  qb (q_len a0) fun v8 =>
  qb (q_bin .lss (ls.getD 0 .junk) v8) fun v9 =>
  cb v9 fun b => br b
   (hJ (fun ls_1 st =>
    cb (ls_1.getD 0 .junk) fun b_1 => br b_1
     (qb (q_ia 4 a0 (ls.getD 0 .junk)) fun v23 =>
     qb (q_fa 1 v23) fun v24 =>
     qb (q_load st false 1 v24) fun v25 =>
     qb (q_bin .neq v25 (.int .i64 0)) fun v26 =>
     cb v26 fun b_2 => br b_2
      (retR R (.bool false) st)
      (qb (q_ia 4 a0 (ls.getD 0 .junk)) fun v30 =>
      qb (q_fa 2 v30) fun v31 =>
      qb (q_load st false 1 v31) fun v32 =>
      qb (q_bin .neq v32 (.str [])) fun v33 =>
      cb v33 fun b_3 => br b_3
       (retR R (.bool false) st)
       (qb (q_ia 4 a0 (ls.getD 0 .junk)) fun v38 =>
       qb (q_fa 3 v38) fun v39 =>
       qb (q_load st false 1 v39) fun v40 =>
       qb (q_len v40) fun v41 =>
       qb (q_bin .neq v41 (.int .i64 0)) fun v42 =>
       cb v42 fun b_4 => br b_4
        (retR R (.bool false) st)
        (qb (q_bin .add (ls.getD 0 .junk) (.int .i64 1)) fun v11 =>
        X [v11] st))))
     (qb (q_ia 4 a0 (ls.getD 0 .junk)) fun v46 =>
     qb (q_load st true 4 v46) fun v47 =>
     callK prog n_spec_l01Term [v47, a1] st (fun v49 st =>
     qb (q_un .not v49) fun v50 =>
     cb v50 fun b_5 => br b_5
      (retR R (.bool false) st)
      (qb (q_bin .add (ls.getD 0 .junk) (.int .i64 1)) fun v11_1 =>
      X [v11_1] st)) (panR R)))
    (fun k =>
   cb a1 fun b_6 => br b_6
    (qb (q_ia 4 a0 (ls.getD 0 .junk)) fun v16 =>
    qb (q_fa 0 v16) fun v17 =>
    qb (q_load st false 1 v17) fun v18 =>
    qb (q_bin .eql v18 (.int .i64 8)) fun v19 =>
    k [v19] st)
    (k [(.bool false)] st)))
   (retR R (.bool true) st))
  [(.int .i64 0)] st
theorem c_spec_l01Terms {a0 a1 : PV} {st : St} {R : Res → St → Prop} (h : b_spec_l01Terms a0 a1 st R) : HCalls prog n_spec_l01Terms [a0, a1] st R :=
 hcalls_of_func tyOK mixed (fn := Go.Proofs.Tryz.f99) (by kernel_rfl) (by kernel_rfl) (by kernel_rfl) (ann := [(8, [5]), (17, [20])])
  (show hFunc prog TT [(8, [5]), (17, [20])] Go.Proofs.Tryz.f99 [a0, a1] st R from (show hFunc prog TT [(8, [5]), (17, [20])] Go.Proofs.Tryz.f99 [a0, a1] st R = b_spec_l01Terms a0 a1 st R by kernel_rfl) ▸ h)
def b_spec_NameOK (a0 : PV) (st : St) (R : Res → St → Prop) : Prop :=
 callK prog n_spec_l00Word [a0] st (fun v5 st =>
 qb (q_un .not v5) fun v6 =>
 cb v6 fun b => br b
  (retR R (.bool false) st)
  (qb (q_bin .eql a0 (.str [116, 121, 112, 101])) fun v9 =>
  cb v9 fun b_1 => br b_1
   (retR R (.bool false) st)
   (qb (q_bin .eql a0 (.str [95])) fun v13 =>
   cb v13 fun b_2 => br b_2
    (retR R (.bool false) st)
    (hJ (fun ls st =>
     qb (q_ix a0 (.int .i64 0)) fun v32 =>
     qb (q_bin .neq v32 (.int .u8 120)) fun v33 =>
     cb v33 fun b_3 => br b_3
      (retR R (.bool true) st)
      (qb (q_lenS a0) fun v36 =>
      qb (q_bin .eql v36 (.int .i64 1)) fun v37 =>
      retR R v37 st))
     (fun k =>
    hFix (fun ls_1 st X =>
     qb (q_lenS a0) fun v17 =>
     qb (q_bin .lss (ls_1.getD 0 .junk) v17) fun v18 =>
     cb v18 fun b_4 => br b_4
      (qb (q_ix a0 (.int .i64 0)) fun v22 =>
      qb (q_bin .neq v22 (.int .u8 120)) fun v23 =>
      cb v23 fun b_5 => br b_5
       (retR R (.bool true) st)
       (qb (q_ix a0 (ls_1.getD 0 .junk)) fun v27 =>
       callK prog n_spec_l00Digit [v27] st (fun v28 st =>
       qb (q_un .not v28) fun v29 =>
       cb v29 fun b_6 => br b_6
        (retR R (.bool true) st)
        (qb (q_bin .add (ls_1.getD 0 .junk) (.int .i64 1)) fun v20 =>
        X [v20] st)) (panR R)))
      (k [] st))
     [(.int .i64 1)] st))))) (panR R)
theorem c_spec_NameOK {a0 : PV} {st : St} {R : Res → St → Prop} (h : b_spec_NameOK a0 st R) : HCalls prog n_spec_NameOK [a0] st R :=
 hcalls_of_func tyOK mixed (fn := Go.Proofs.Tryz.f100) (by kernel_rfl) (by kernel_rfl) (by kernel_rfl) (ann := [(16, [3]), (3, [])])
  (show hFunc prog TT [(16, [3]), (3, [])] Go.Proofs.Tryz.f100 [a0] st R from (show hFunc prog TT [(16, [3]), (3, [])] Go.Proofs.Tryz.f100 [a0] st R = b_spec_NameOK a0 st R by kernel_rfl) ▸ h)
def b_slices_IndexFunc_impl_Tree_impl_Tree (a0 a1 : PV) (st : St) (R : Res → St → Prop) : Prop :=
 qb (q_len a0) fun v7 =>
 hFix (fun ls st X =>
  qb (q_bin .lss (ls.getD 0 .junk) v7) fun v9 =>
  cb v9 fun b => br b
   (qb (q_ia 4 a0 (ls.getD 0 .junk)) fun v14 =>
   qb (q_load st true 4 v14) fun v15 =>
   e_call prog st a1 [v15] (fun v16 st =>
   cb v16 fun b_1 => br b_1
    (retR R (ls.getD 0 .junk) st)
    (qb (q_bin .add (ls.getD 0 .junk) (.int .i64 1)) fun v18 =>
    X [v18] st)) (panR R))
   (retR R (.int .i64 (-1)) st))
  [(.int .i64 0)] st
theorem e_slices_IndexFunc_impl_Tree_impl_Tree : Enters prog n_slices_IndexFunc_impl_Tree_impl_Tree := ⟨Go.Proofs.Tryz.f101, by kernel_rfl, by kernel_rfl, by kernel_rfl⟩
theorem c_slices_IndexFunc_impl_Tree_impl_Tree {a0 a1 : PV} {st : St} {R : Res → St → Prop} (h : b_slices_IndexFunc_impl_Tree_impl_Tree a0 a1 st R) : HCalls prog n_slices_IndexFunc_impl_Tree_impl_Tree [a0, a1] st R :=
 hcalls_of_func tyOK mixed (fn := Go.Proofs.Tryz.f101) (by kernel_rfl) (by kernel_rfl) (by kernel_rfl) (ann := [(8, [8])])
  (show hFunc prog TT [(8, [8])] Go.Proofs.Tryz.f101 [a0, a1] st R from (show hFunc prog TT [(8, [8])] Go.Proofs.Tryz.f101 [a0, a1] st R = b_slices_IndexFunc_impl_Tree_impl_Tree a0 a1 st R by kernel_rfl) ▸ h)
def b_impl_closed_1 (a0 a1 : PV) (st : St) (R : Res → St → Prop) : Prop :=
 qb (q_nil a0) fun v6 =>
 qb (q_fa 0 v6) fun v7 =>
 qb (q_load st false 1 v7) fun v8 =>
 qb (q_bin .eql v8 (.int .i64 5)) fun v9 =>
 cb v9 fun b => br b
  (qb (q_nil a0) fun v12 =>
  qb (q_fa 1 v12) fun v13 =>
  qb (q_load st false 1 v13) fun v14 =>
  qb (q_bin .geq v14 a1) fun v16 =>
  retR R v16 st)
  (retR R (.bool false) st)
theorem c_impl_closed_1 {a0 a1 : PV} {st : St} {R : Res → St → Prop} (h : b_impl_closed_1 a0 a1 st R) : HCalls prog n_impl_closed_1 [a0, a1] st R :=
 hcalls_of_func tyOK mixed (fn := Go.Proofs.Tryz.f102) (by kernel_rfl) (by kernel_rfl) (by kernel_rfl) (ann := [])
  (show hFunc prog TT [] Go.Proofs.Tryz.f102 [a0, a1] st R from (show hFunc prog TT [] Go.Proofs.Tryz.f102 [a0, a1] st R = b_impl_closed_1 a0 a1 st R by kernel_rfl) ▸ h)
def b_spec_l06Run_fail (a0 a1 : PV) (st : St) (R : Res → St → Prop) : Prop :=
 qb (q_nil a0) fun v5 =>
 qb (q_fa 4 v5) fun v6 =>
 qb (q_load st false 1 v6) fun v7 =>
 qb (q_bin .eql v7 (.int .i64 0)) fun v8 =>
 cb v8 fun b => br b
  (qb (q_nil a0) fun v11 =>
  qb (q_fa 4 v11) fun v12 =>
  e_store st 1 v12 a1 fun st =>
  retR R (.tup []) st)
  (retR R (.tup []) st)
theorem c_spec_l06Run_fail {a0 a1 : PV} {st : St} {R : Res → St → Prop} (h : b_spec_l06Run_fail a0 a1 st R) : HCalls prog n_spec_l06Run_fail [a0, a1] st R :=
 hcalls_of_func tyOK mixed (fn := Go.Proofs.Tryz.f103) (by kernel_rfl) (by kernel_rfl) (by kernel_rfl) (ann := [])
  (show hFunc prog TT [] Go.Proofs.Tryz.f103 [a0, a1] st R from (show hFunc prog TT [] Go.Proofs.Tryz.f103 [a0, a1] st R = b_spec_l06Run_fail a0 a1 st R by kernel_rfl) ▸ h)
end Go.H.Tryz
