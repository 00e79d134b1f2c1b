/- Part of a proof that the program answers as the reference does: ZGS4. -/
import Derived.Test.YtipmjpjaklmpfaaGreatDoorHT
/- MADE BY PROGRAM (hgen.py): what the functions compute, over pure values. -/
set_option linter.unusedVariables false
set_option maxRecDepth 100000
namespace Go.H.Tryz
open Go Go.H
def b_spec_l01With (a0 a1 : PV) (st : St) (R : Res → St → Prop) : Prop :=
 e_box st a0 fun v2 st =>
 e_alloc st [.int .i64 0, .int .i64 0, .str [], .sl 0 true []] fun v4 st =>
 qb (q_fa 0 v2) fun v5 =>
 qb (q_load st false 1 v5) fun v6 =>
 qb (q_fa 1 v2) fun v7 =>
 qb (q_load st false 1 v7) fun v8 =>
 qb (q_fa 2 v2) fun v9 =>
 qb (q_load st false 1 v9) fun v10 =>
 qb (q_struct [.int .i64 0, .int .i64 0, .str [], .sl 0 true []] [(0, 1, v6), (1, 1, v8), (2, 1, v10), (3, 1, a1)]) fun v12 =>
 e_store st 4 v4 v12 fun st =>
 qb (q_load st true 4 v4) fun r => retR R r st
theorem c_spec_l01With {a0 a1 : PV} {st : St} {R : Res → St → Prop} (h : b_spec_l01With a0 a1 st R) : HCalls prog n_spec_l01With [a0, a1] st R :=
 hcalls_of_func tyOK mixed (fn := Go.Proofs.Tryz.f83) (by kernel_rfl) (by kernel_rfl) (by kernel_rfl) (ann := [])
  (show hFunc prog TT [] Go.Proofs.Tryz.f83 [a0, a1] st R from (show hFunc prog TT [] Go.Proofs.Tryz.f83 [a0, a1] st R = b_spec_l01With a0 a1 st R by kernel_rfl) ▸ h)
def b_slices_Max_int_int (a0 : PV) (st : St) (R : Res → St → Prop) : Prop :=
 qb (q_len a0) fun v6 =>
 qb (q_bin .lss v6 (.int .i64 1)) fun v7 =>
 cb v7 fun b => br b
  (qb (q_iface ty_string (.str [115, 108, 105, 99, 101, 115, 46, 77, 97, 120, 58, 32, 101, 109, 112, 116, 121, 32, 108, 105, 115, 116])) fun v8 =>
  e_panic v8 st (panR R))
  (qb (q_ia 1 a0 (.int .i64 0)) fun v10 =>
  qb (q_load st false 1 v10) fun v11 =>
  hFix (fun ls st X =>
   qb (q_len a0) fun v14 =>
   qb (q_bin .lss (ls.getD 1 .junk) v14) fun v15 =>
   cb v15 fun b_1 => br b_1
    (qb (q_ia 1 a0 (ls.getD 1 .junk)) fun v21 =>
    qb (q_load st false 1 v21) fun v22 =>
    qb (q_max (ls.getD 0 .junk) v22) fun v23 =>
    qb (q_bin .add (ls.getD 1 .junk) (.int .i64 1)) fun v17 =>
    X [v23, v17] st)
    (retR R (ls.getD 0 .junk) st))
   [v11, (.int .i64 1)] st)
theorem c_slices_Max_int_int {a0 : PV} {st : St} {R : Res → St → Prop} (h : b_slices_Max_int_int a0 st R) : HCalls prog n_slices_Max_int_int [a0] st R :=
 hcalls_of_func tyOK mixed (fn := Go.Proofs.Tryz.f84) (by kernel_rfl) (by kernel_rfl) (by kernel_rfl) (ann := [(20, [3, 4])])
  (show hFunc prog TT [(20, [3, 4])] Go.Proofs.Tryz.f84 [a0] st R from (show hFunc prog TT [(20, [3, 4])] Go.Proofs.Tryz.f84 [a0] st R = b_slices_Max_int_int a0 st R by kernel_rfl) ▸ h)
def b_impl_NameOK (a0 : PV) (st : St) (R : Res → St → Prop) : Prop :=
 callK prog n_impl_wordOK [a0] st (fun v6 st =>
 qb (q_un .not v6) fun v7 =>
 cb v7 fun b => br b
  (retR R (.bool false) st)
  (qb (q_bin .eql a0 (.str [116, 121, 112, 101])) fun v10 =>
  cb v10 fun b_1 => br b_1
   (retR R (.bool false) st)
   (qb (q_bin .eql a0 (.str [95])) fun v14 =>
   cb v14 fun b_2 => br b_2
    (retR R (.bool false) st)
    (callK prog n_strings_CutPrefix [a0, (.str [120])] st (fun v18 st =>
    qb (q_ex v18 0) fun v19 =>
    qb (q_ex v18 1) fun v20 =>
    qb (q_un .not v20) fun v22 =>
    cb v22 fun b_3 => br b_3
     (retR R (.bool true) st)
     (qb (q_bin .eql v19 (.str [])) fun v25 =>
     cb v25 fun b_4 => br b_4
      (retR R (.bool true) st)
      (callK prog n_impl_over [v19, (.str [48, 49, 50, 51, 52, 53, 54, 55, 56, 57])] st (fun v29 st =>
      qb (q_un .not v29) fun v30 =>
      retR R v30 st) (panR R)))) (panR R))))) (panR R)
theorem c_impl_NameOK {a0 : PV} {st : St} {R : Res → St → Prop} (h : b_impl_NameOK a0 st R) : HCalls prog n_impl_NameOK [a0] st R :=
 hcalls_of_func tyOK mixed (fn := Go.Proofs.Tryz.f85) (by kernel_rfl) (by kernel_rfl) (by kernel_rfl) (ann := [])
  (show hFunc prog TT [] Go.Proofs.Tryz.f85 [a0] st R from (show hFunc prog TT [] Go.Proofs.Tryz.f85 [a0] st R = b_impl_NameOK a0 st R by kernel_rfl) ▸ h)
def b_impl_stop (a0 a1 : PV) (st : St) (R : Res → St → Prop) : Prop :=
 qb (q_struct [.int .i64 0, .int .i64 0] [(0, 1, a0), (1, 1, a1)]) fun v6 =>
 qb (q_iface ty_impl_halt v6) fun v7 =>
 e_panic v7 st (panR R)
theorem c_impl_stop {a0 a1 : PV} {st : St} {R : Res → St → Prop} (h : b_impl_stop a0 a1 st R) : HCalls prog n_impl_stop [a0, a1] st R :=
 hcalls_of_func tyOK mixed (fn := Go.Proofs.Tryz.f87) (by kernel_rfl) (by kernel_rfl) (by kernel_rfl) (ann := [])
  (show hFunc prog TT [] Go.Proofs.Tryz.f87 [a0, a1] st R from (show hFunc prog TT [] Go.Proofs.Tryz.f87 [a0, a1] st R = b_impl_stop a0 a1 st R by kernel_rfl) ▸ h)
def b_impl_simpler_typeOf (a0 a1 a2 : PV) (st : St) (R : Res → St → Prop) : Prop :=
 e_box st a2 fun v5 st =>
 e_alloc st [.int .i64 0, .int .i64 0, .str [], .sl 0 true []] fun v6 st =>
 qb (q_fa 0 v5) fun v8 =>
 qb (q_load st false 1 v8) fun v9 =>
 qb (q_bin .eql v9 (.int .i64 5)) fun v11 =>
 cb v11 fun b => br b
  (qb (q_fa 1 v5) fun v12 =>
  qb (q_load st false 1 v12) fun v13 =>
  qb (q_len a1) fun v15 =>
  qb (q_bin .geq v13 v15) fun v16 =>
  hJ (fun ls st =>
   qb (q_len a1) fun v20 =>
   qb (q_bin .sub v20 (.int .i64 1)) fun v21 =>
   qb (q_fa 1 v5) fun v22 =>
   qb (q_load st false 1 v22) fun v23 =>
   qb (q_bin .sub v21 v23) fun v24 =>
   qb (q_ia 4 a1 v24) fun v25 =>
   qb (q_load st true 4 v25) fun v26 =>
   e_store st 4 v6 v26 fun st =>
   qb (q_load st true 4 v6) fun r => retR R r st)
   (fun k =>
  cb v16 fun b_1 => br b_1
   (callK prog n_impl_stop [(.int .i64 7), (.int .i64 0)] st (fun v17 st =>
   k [] st) (panR R))
   (k [] st)))
  (qb (q_bin .eql v9 (.int .i64 7)) fun v28 =>
  cb v28 fun b_2 => br b_2
   (qb (q_fa 1 v5) fun v29 =>
   qb (q_load st false 1 v29) fun v30 =>
   qb (q_nil a0) fun v32 =>
   qb (q_fa 1 v32) fun v33 =>
   qb (q_load st false 1 v33) fun v34 =>
   qb (q_len v34) fun v35 =>
   qb (q_bin .geq v30 v35) fun v36 =>
   hJ (fun ls_1 st =>
    qb (q_nil a0) fun v39 =>
    qb (q_fa 1 v39) fun v40 =>
    qb (q_load st false 1 v40) fun v41 =>
    qb (q_fa 1 v5) fun v42 =>
    qb (q_load st false 1 v42) fun v43 =>
    qb (q_ia 4 v41 v43) fun v44 =>
    qb (q_load st true 4 v44) fun v45 =>
    e_store st 4 v6 v45 fun st =>
    qb (q_load st true 4 v6) fun r_1 => retR R r_1 st)
    (fun k_1 =>
   cb v36 fun b_3 => br b_3
    (callK prog n_impl_stop [(.int .i64 15), (.int .i64 0)] st (fun v37 st =>
    k_1 [] st) (panR R))
    (k_1 [] st)))
   (qb (q_nil a0) fun v47 =>
   qb (q_fa 0 v47) fun v48 =>
   qb (q_load st false 1 v48) fun v49 =>
   callK prog n_slices_IndexFunc_impl_Typed_impl_Typed [v49, (.fn (.func n_impl_simpler_typeOf_1) [] [v5])] st (fun v51 st =>
   qb (q_bin .lss v51 (.int .i64 0)) fun v53 =>
   hJ (fun ls_2 st =>
    qb (q_nil a0) fun v56 =>
    qb (q_fa 0 v56) fun v57 =>
    qb (q_load st false 1 v57) fun v58 =>
    qb (q_ia 5 v58 v51) fun v60 =>
    qb (q_fa 1 v60) fun v61 =>
    qb (q_load st true 4 v61) fun v62 =>
    e_store st 4 v6 v62 fun st =>
    qb (q_load st true 4 v6) fun r_2 => retR R r_2 st)
    (fun k_2 =>
   cb v53 fun b_4 => br b_4
    (callK prog n_impl_stop [(.int .i64 5), (.int .i64 0)] st (fun v54 st =>
    k_2 [] st) (panR R))
    (k_2 [] st))) (panR R)))
theorem c_impl_simpler_typeOf {a0 a1 a2 : PV} {st : St} {R : Res → St → Prop} (h : b_impl_simpler_typeOf a0 a1 a2 st R) : HCalls prog n_impl_simpler_typeOf [a0, a1, a2] st R :=
 hcalls_of_func tyOK mixed (fn := Go.Proofs.Tryz.f88) (by kernel_rfl) (by kernel_rfl) (by kernel_rfl) (ann := [(18, []), (34, []), (50, [])])
  (show hFunc prog TT [(18, []), (34, []), (50, [])] Go.Proofs.Tryz.f88 [a0, a1, a2] st R from (show hFunc prog TT [(18, []), (34, []), (50, [])] Go.Proofs.Tryz.f88 [a0, a1, a2] st R = b_impl_simpler_typeOf a0 a1 a2 st R by kernel_rfl) ▸ h)
def b_impl_same (a0 a1 : PV) (st : St) (R : Res → St → Prop) : Prop :=
 e_box st a0 fun v2 st =>
 e_box st a1 fun v3 st =>
 qb (q_fa 0 v2) fun v6 =>
 qb (q_load st false 1 v6) fun v7 =>
 qb (q_fa 0 v3) fun v8 =>
 qb (q_load st false 1 v8) fun v9 =>
 qb (q_bin .neq v7 v9) fun v10 =>
 cb v10 fun b => br b
  (retR R (.bool false) st)
  (qb (q_fa 1 v2) fun v12 =>
  qb (q_load st false 1 v12) fun v13 =>
  qb (q_fa 1 v3) fun v14 =>
  qb (q_load st false 1 v14) fun v15 =>
  qb (q_bin .neq v13 v15) fun v16 =>
  cb v16 fun b_1 => br b_1
   (retR R (.bool false) st)
   (qb (q_fa 2 v2) fun v19 =>
   qb (q_load st false 1 v19) fun v20 =>
   qb (q_fa 2 v3) fun v21 =>
   qb (q_load st false 1 v21) fun v22 =>
   qb (q_bin .neq v20 v22) fun v23 =>
   cb v23 fun b_2 => br b_2
    (retR R (.bool false) st)
    (qb (q_fa 3 v2) fun v26 =>
    qb (q_load st false 1 v26) fun v27 =>
    qb (q_len v27) fun v28 =>
    qb (q_fa 3 v3) fun v29 =>
    qb (q_load st false 1 v29) fun v30 =>
    qb (q_len v30) fun v31 =>
    qb (q_bin .neq v28 v31) fun v32 =>
    cb v32 fun b_3 => br b_3
     (retR R (.bool false) st)
     (qb (q_fa 3 v2) fun v34 =>
     qb (q_load st false 1 v34) fun v35 =>
     qb (q_len v35) fun v36 =>
     hFix (fun ls st X =>
      qb (q_bin .lss (ls.getD 0 .junk) v36) fun v38 =>
      cb v38 fun b_4 => br b_4
       (qb (q_fa 3 v2) fun v40 =>
       qb (q_load st false 1 v40) fun v41 =>
       qb (q_ia 4 v41 (ls.getD 0 .junk)) fun v43 =>
       qb (q_load st true 4 v43) fun v44 =>
       qb (q_fa 3 v3) fun v45 =>
       qb (q_load st false 1 v45) fun v46 =>
       qb (q_ia 4 v46 (ls.getD 0 .junk)) fun v48 =>
       qb (q_load st true 4 v48) fun v49 =>
       callK prog n_impl_same [v44, v49] st (fun v50 st =>
       qb (q_un .not v50) fun v51 =>
       cb v51 fun b_5 => br b_5
        (retR R (.bool false) st)
        (qb (q_bin .add (ls.getD 0 .junk) (.int .i64 1)) fun v52 =>
        X [v52] st)) (panR R))
       (retR R (.bool true) st))
      [(.int .i64 0)] st))))
theorem e_impl_same : Enters prog n_impl_same := ⟨Go.Proofs.Tryz.f89, by kernel_rfl, by kernel_rfl, by kernel_rfl⟩
theorem c_impl_same {a0 a1 : PV} {st : St} {R : Res → St → Prop} (h : b_impl_same a0 a1 st R) : HCalls prog n_impl_same [a0, a1] st R :=
 hcalls_of_func tyOK mixed (fn := Go.Proofs.Tryz.f89) (by kernel_rfl) (by kernel_rfl) (by kernel_rfl) (ann := [(16, [37])])
  (show hFunc prog TT [(16, [37])] Go.Proofs.Tryz.f89 [a0, a1] st R from (show hFunc prog TT [(16, [37])] Go.Proofs.Tryz.f89 [a0, a1] st R = b_impl_same a0 a1 st R by kernel_rfl) ▸ h)
def b_spec_l00Src_chance (a0 a1 : PV) (st : St) (R : Res → St → Prop) : Prop :=
 callK prog n_spec_l00Src_next [a0, a1] st (fun v7 st =>
 qb (q_bin .sub a1 (.int .i64 1)) fun v9 =>
 qb (q_bin .eql v7 v9) fun v10 =>
 retR R v10 st) (panR R)
theorem c_spec_l00Src_chance {a0 a1 : PV} {st : St} {R : Res → St → Prop} (h : b_spec_l00Src_chance a0 a1 st R) : HCalls prog n_spec_l00Src_chance [a0, a1] st R :=
 hcalls_of_func tyOK mixed (fn := Go.Proofs.Tryz.f94) (by kernel_rfl) (by kernel_rfl) (by kernel_rfl) (ann := [])
  (show hFunc prog TT [] Go.Proofs.Tryz.f94 [a0, a1] st R from (show hFunc prog TT [] Go.Proofs.Tryz.f94 [a0, a1] st R = b_spec_l00Src_chance a0 a1 st R by kernel_rfl) ▸ h)
def b_spec_l01Lam (a0 : PV) (st : St) (R : Res → St → Prop) : Prop :=
 e_box st a0 fun v1 st =>
 e_alloc st [.int .i64 0, .int .i64 0, .str [], .sl 0 true []] fun v2 st =>
 qb (q_load st true 4 v1) fun v3 =>
 qb (q_lit 4 1 0 [] [(0, v3)]) fun v4 =>
 qb (q_struct [.int .i64 0, .int .i64 0, .str [], .sl 0 true []] [(0, 1, (.int .i64 4)), (3, 1, v4)]) fun v5 =>
 e_store st 4 v2 v5 fun st =>
 qb (q_load st true 4 v2) fun r => retR R r st
theorem c_spec_l01Lam {a0 : PV} {st : St} {R : Res → St → Prop} (h : b_spec_l01Lam a0 st R) : HCalls prog n_spec_l01Lam [a0] st R :=
 hcalls_of_func tyOK mixed (fn := Go.Proofs.Tryz.f95) (by kernel_rfl) (by kernel_rfl) (by kernel_rfl) (ann := [])
  (show hFunc prog TT [] Go.Proofs.Tryz.f95 [a0] st R from (show hFunc prog TT [] Go.Proofs.Tryz.f95 [a0] st R = b_spec_l01Lam a0 st R by kernel_rfl) ▸ h)
def b_spec_l03Target (a0 : PV) (st : St) (R : Res → St → Prop) : Prop :=
 e_box st a0 fun v1 st =>
 e_alloc st [.int .i64 0, .int .i64 0, .str [], .sl 0 true []] fun v2 st =>
 hFix (fun ls st X =>
  qb (q_fa 0 v1) fun v3 =>
  qb (q_load st false 1 v3) fun v4 =>
  qb (q_bin .eql v4 (.int .i64 10)) fun v5 =>
  cb v5 fun b => br b
   (qb (q_fa 3 v1) fun v6 =>
   qb (q_load st false 1 v6) fun v7 =>
   qb (q_ia 4 v7 (.int .i64 1)) fun v8 =>
   qb (q_load st true 4 v8) fun v9 =>
   e_store st 4 v1 v9 fun st =>
   X [] st)
   (qb (q_load st true 4 v1) fun v10 =>
   e_store st 4 v2 v10 fun st =>
   qb (q_load st true 4 v2) fun r => retR R r st))
  [] st
theorem c_spec_l03Target {a0 : PV} {st : St} {R : Res → St → Prop} (h : b_spec_l03Target a0 st R) : HCalls prog n_spec_l03Target [a0] st R :=
 hcalls_of_func tyOK mixed (fn := Go.Proofs.Tryz.f96) (by kernel_rfl) (by kernel_rfl) (by kernel_rfl) (ann := [(4, [])])
  (show hFunc prog TT [(4, [])] Go.Proofs.Tryz.f96 [a0] st R from (show hFunc prog TT [(4, [])] Go.Proofs.Tryz.f96 [a0] st R = b_spec_l03Target a0 st R by kernel_rfl) ▸ h)
def b_spec_l01Var (a0 a1 : PV) (st : St) (R : Res → St → Prop) : Prop :=
 e_alloc st [.int .i64 0, .int .i64 0, .str [], .sl 0 true []] fun v4 st =>
 qb (q_struct [.int .i64 0, .int .i64 0, .str [], .sl 0 true []] [(0, 1, (.int .i64 5)), (1, 1, a0), (3, 1, a1)]) fun v7 =>
 e_store st 4 v4 v7 fun st =>
 qb (q_load st true 4 v4) fun r => retR R r st
theorem c_spec_l01Var {a0 a1 : PV} {st : St} {R : Res → St → Prop} (h : b_spec_l01Var a0 a1 st R) : HCalls prog n_spec_l01Var [a0, a1] st R :=
 hcalls_of_func tyOK mixed (fn := Go.Proofs.Tryz.f97) (by kernel_rfl) (by kernel_rfl) (by kernel_rfl) (ann := [])
  (show hFunc prog TT [] Go.Proofs.Tryz.f97 [a0, a1] st R from (show hFunc prog TT [] Go.Proofs.Tryz.f97 [a0, a1] st R = b_spec_l01Var a0 a1 st R by kernel_rfl) ▸ h)
def b_spec_l01Const (a0 a1 : PV) (st : St) (R : Res → St → Prop) : Prop :=
 e_alloc st [.int .i64 0, .int .i64 0, .str [], .sl 0 true []] fun v4 st =>
 qb (q_struct [.int .i64 0, .int .i64 0, .str [], .sl 0 true []] [(0, 1, (.int .i64 6)), (2, 1, a0), (3, 1, a1)]) fun v7 =>
 e_store st 4 v4 v7 fun st =>
 qb (q_load st true 4 v4) fun r => retR R r st
theorem c_spec_l01Const {a0 a1 : PV} {st : St} {R : Res → St → Prop} (h : b_spec_l01Const a0 a1 st R) : HCalls prog n_spec_l01Const [a0, a1] st R :=
 hcalls_of_func tyOK mixed (fn := Go.Proofs.Tryz.f98) (by kernel_rfl) (by kernel_rfl) (by kernel_rfl) (ann := [])
  (show hFunc prog TT [] Go.Proofs.Tryz.f98 [a0, a1] st R from (show hFunc prog TT [] Go.Proofs.Tryz.f98 [a0, a1] st R = b_spec_l01Const a0 a1 st R by kernel_rfl) ▸ h)
def b_spec_l01Terms (a0 a1 : PV) (st : St) (R : Res → St → Prop) : Prop :=
 hFix (fun ls st X =>
  qb (q_len a0) fun v8 =>
  qb (q_bin .lss (ls.getD 0 .junk) v8) fun v9 =>
  cb v9 fun b => br b
   (hJ (fun ls_1 st =>
    cb (ls_1.getD 0 .junk) fun b_1 => br b_1
     (qb (q_ia 4 a0 (ls.getD 0 .junk)) fun v23 =>
     qb (q_fa 1 v23) fun v24 =>
     qb (q_load st false 1 v24) fun v25 =>
     qb (q_bin .neq v25 (.int .i64 0)) fun v26 =>
     cb v26 fun b_2 => br b_2
      (retR R (.bool false) st)
      (qb (q_ia 4 a0 (ls.getD 0 .junk)) fun v30 =>
      qb (q_fa 2 v30) fun v31 =>
      qb (q_load st false 1 v31) fun v32 =>
      qb (q_bin .neq v32 (.str [])) fun v33 =>
      cb v33 fun b_3 => br b_3
       (retR R (.bool false) st)
       (qb (q_ia 4 a0 (ls.getD 0 .junk)) fun v38 =>
       qb (q_fa 3 v38) fun v39 =>
       qb (q_load st false 1 v39) fun v40 =>
       qb (q_len v40) fun v41 =>
       qb (q_bin .neq v41 (.int .i64 0)) fun v42 =>
       cb v42 fun b_4 => br b_4
        (retR R (.bool false) st)
        (qb (q_bin .add (ls.getD 0 .junk) (.int .i64 1)) fun v11 =>
        X [v11] st))))
     (qb (q_ia 4 a0 (ls.getD 0 .junk)) fun v46 =>
     qb (q_load st true 4 v46) fun v47 =>
     callK prog n_spec_l01Term [v47, a1] st (fun v49 st =>
     qb (q_un .not v49) fun v50 =>
     cb v50 fun b_5 => br b_5
      (retR R (.bool false) st)
      (qb (q_bin .add (ls.getD 0 .junk) (.int .i64 1)) fun v11_1 =>
      X [v11_1] st)) (panR R)))
    (fun k =>
   cb a1 fun b_6 => br b_6
    (qb (q_ia 4 a0 (ls.getD 0 .junk)) fun v16 =>
    qb (q_fa 0 v16) fun v17 =>
    qb (q_load st false 1 v17) fun v18 =>
    qb (q_bin .eql v18 (.int .i64 8)) fun v19 =>
    k [v19] st)
    (k [(.bool false)] st)))
   (retR R (.bool true) st))
  [(.int .i64 0)] st
theorem e_spec_l01Terms : Enters prog n_spec_l01Terms := ⟨Go.Proofs.Tryz.f99, by kernel_rfl, by kernel_rfl, by kernel_rfl⟩
theorem c_spec_l01Terms {a0 a1 : PV} {st : St} {R : Res → St → Prop} (h : b_spec_l01Terms a0 a1 st R) : HCalls prog n_spec_l01Terms [a0, a1] st R :=
 hcalls_of_func tyOK mixed (fn := Go.Proofs.Tryz.f99) (by kernel_rfl) (by kernel_rfl) (by kernel_rfl) (ann := [(8, [5]), (17, [20])])
  (show hFunc prog TT [(8, [5]), (17, [20])] Go.Proofs.Tryz.f99 [a0, a1] st R from (show hFunc prog TT [(8, [5]), (17, [20])] Go.Proofs.Tryz.f99 [a0, a1] st R = b_spec_l01Terms a0 a1 st R by kernel_rfl) ▸ h)
def b_spec_NameOK (a0 : PV) (st : St) (R : Res → St → Prop) : Prop :=
 callK prog n_spec_l00Word [a0] st (fun v5 st =>
 qb (q_un .not v5) fun v6 =>
 cb v6 fun b => br b
  (retR R (.bool false) st)
  (qb (q_bin .eql a0 (.str [116, 121, 112, 101])) fun v9 =>
  cb v9 fun b_1 => br b_1
   (retR R (.bool false) st)
   (qb (q_bin .eql a0 (.str [95])) fun v13 =>
   cb v13 fun b_2 => br b_2
    (retR R (.bool false) st)
    (hJ (fun ls st =>
     qb (q_ix a0 (.int .i64 0)) fun v32 =>
     qb (q_bin .neq v32 (.int .u8 120)) fun v33 =>
     cb v33 fun b_3 => br b_3
      (retR R (.bool true) st)
      (qb (q_lenS a0) fun v36 =>
      qb (q_bin .eql v36 (.int .i64 1)) fun v37 =>
      retR R v37 st))
     (fun k =>
    hFix (fun ls_1 st X =>
     qb (q_lenS a0) fun v17 =>
     qb (q_bin .lss (ls_1.getD 0 .junk) v17) fun v18 =>
     cb v18 fun b_4 => br b_4
      (qb (q_ix a0 (.int .i64 0)) fun v22 =>
      qb (q_bin .neq v22 (.int .u8 120)) fun v23 =>
      cb v23 fun b_5 => br b_5
       (retR R (.bool true) st)
       (qb (q_ix a0 (ls_1.getD 0 .junk)) fun v27 =>
       callK prog n_spec_l00Digit [v27] st (fun v28 st =>
       qb (q_un .not v28) fun v29 =>
       cb v29 fun b_6 => br b_6
        (retR R (.bool true) st)
        (qb (q_bin .add (ls_1.getD 0 .junk) (.int .i64 1)) fun v20 =>
        X [v20] st)) (panR R)))
      (k [] st))
     [(.int .i64 1)] st))))) (panR R)
theorem c_spec_NameOK {a0 : PV} {st : St} {R : Res → St → Prop} (h : b_spec_NameOK a0 st R) : HCalls prog n_spec_NameOK [a0] st R :=
 hcalls_of_func tyOK mixed (fn := Go.Proofs.Tryz.f100) (by kernel_rfl) (by kernel_rfl) (by kernel_rfl) (ann := [(16, [3]), (3, [])])
  (show hFunc prog TT [(16, [3]), (3, [])] Go.Proofs.Tryz.f100 [a0] st R from (show hFunc prog TT [(16, [3]), (3, [])] Go.Proofs.Tryz.f100 [a0] st R = b_spec_NameOK a0 st R by kernel_rfl) ▸ h)
def b_slices_IndexFunc_impl_Tree_impl_Tree (a0 a1 : PV) (st : St) (R : Res → St → Prop) : Prop :=
 qb (q_len a0) fun v7 =>
 hFix (fun ls st X =>
  qb (q_bin .lss (ls.getD 0 .junk) v7) fun v9 =>
  cb v9 fun b => br b
   (qb (q_ia 4 a0 (ls.getD 0 .junk)) fun v14 =>
   qb (q_load st true 4 v14) fun v15 =>
   e_call prog st a1 [v15] (fun v16 st =>
   cb v16 fun b_1 => br b_1
    (retR R (ls.getD 0 .junk) st)
    (qb (q_bin .add (ls.getD 0 .junk) (.int .i64 1)) fun v18 =>
    X [v18] st)) (panR R))
   (retR R (.int .i64 (-1)) st))
  [(.int .i64 0)] st
theorem e_slices_IndexFunc_impl_Tree_impl_Tree : Enters prog n_slices_IndexFunc_impl_Tree_impl_Tree := ⟨Go.Proofs.Tryz.f101, by kernel_rfl, by kernel_rfl, by kernel_rfl⟩
theorem c_slices_IndexFunc_impl_Tree_impl_Tree {a0 a1 : PV} {st : St} {R : Res → St → Prop} (h : b_slices_IndexFunc_impl_Tree_impl_Tree a0 a1 st R) : HCalls prog n_slices_IndexFunc_impl_Tree_impl_Tree [a0, a1] st R :=
 hcalls_of_func tyOK mixed (fn := Go.Proofs.Tryz.f101) (by kernel_rfl) (by kernel_rfl) (by kernel_rfl) (ann := [(8, [8])])
  (show hFunc prog TT [(8, [8])] Go.Proofs.Tryz.f101 [a0, a1] st R from (show hFunc prog TT [(8, [8])] Go.Proofs.Tryz.f101 [a0, a1] st R = b_slices_IndexFunc_impl_Tree_impl_Tree a0 a1 st R by kernel_rfl) ▸ h)
end Go.H.Tryz
