/- Part of a proof that the program answers as the reference does: DS2. -/
import Derived.Test.YtmfdgpjmdbdhcaaDoorHT
/- MADE BY PROGRAM (hgen.py): what the functions compute, over pure values. -/
set_option linter.unusedVariables false
set_option maxRecDepth 100000
namespace Go.H.Tryd
open Go Go.H
def b_slices_Max_int_int (a0 : PV) (st : St) (R : Res → St → Prop) : Prop :=
 qb (q_len a0) fun v6 =>
 qb (q_bin .lss v6 (.int .i64 1)) fun v7 =>
 cb v7 fun b => br b
  (qb (q_iface ty_string (.str [115, 108, 105, 99, 101, 115, 46, 77, 97, 120, 58, 32, 101, 109, 112, 116, 121, 32, 108, 105, 115, 116])) fun v8 =>
  e_panic v8 st (panR R))
  (qb (q_ia 1 a0 (.int .i64 0)) fun v10 =>
  qb (q_load st false 1 v10) fun v11 =>
  hFix (fun ls st X =>
   qb (q_len a0) fun v14 =>
   qb (q_bin .lss (ls.getD 1 .junk) v14) fun v15 =>
   cb v15 fun b_1 => br b_1
    (qb (q_ia 1 a0 (ls.getD 1 .junk)) fun v21 =>
    qb (q_load st false 1 v21) fun v22 =>
    qb (q_max (ls.getD 0 .junk) v22) fun v23 =>
    qb (q_bin .add (ls.getD 1 .junk) (.int .i64 1)) fun v17 =>
    X [v23, v17] st)
    (retR R (ls.getD 0 .junk) st))
   [v11, (.int .i64 1)] st)
theorem e_slices_Max_int_int : Enters prog n_slices_Max_int_int := ⟨Go.Proofs.Tryd.f43, by kernel_rfl, by kernel_rfl, by kernel_rfl⟩
theorem c_slices_Max_int_int {a0 : PV} {st : St} {R : Res → St → Prop} (h : b_slices_Max_int_int a0 st R) : HCalls prog n_slices_Max_int_int [a0] st R :=
 hcalls_of_func tyOK mixed (fn := Go.Proofs.Tryd.f43) (by kernel_rfl) (by kernel_rfl) (by kernel_rfl) (ann := [(20, [3, 4])])
  (show hFunc prog TT [(20, [3, 4])] Go.Proofs.Tryd.f43 [a0] st R from (show hFunc prog TT [(20, [3, 4])] Go.Proofs.Tryd.f43 [a0] st R = b_slices_Max_int_int a0 st R by kernel_rfl) ▸ h)
def b_impl_NameOK (a0 : PV) (st : St) (R : Res → St → Prop) : Prop :=
 callK prog n_impl_wordOK [a0] st (fun v6 st =>
 qb (q_un .not v6) fun v7 =>
 cb v7 fun b => br b
  (retR R (.bool false) st)
  (qb (q_bin .eql a0 (.str [116, 121, 112, 101])) fun v10 =>
  cb v10 fun b_1 => br b_1
   (retR R (.bool false) st)
   (qb (q_bin .eql a0 (.str [95])) fun v14 =>
   cb v14 fun b_2 => br b_2
    (retR R (.bool false) st)
    (callK prog n_strings_CutPrefix [a0, (.str [120])] st (fun v18 st =>
    qb (q_ex v18 0) fun v19 =>
    qb (q_ex v18 1) fun v20 =>
    qb (q_un .not v20) fun v22 =>
    cb v22 fun b_3 => br b_3
     (retR R (.bool true) st)
     (qb (q_bin .eql v19 (.str [])) fun v25 =>
     cb v25 fun b_4 => br b_4
      (retR R (.bool true) st)
      (callK prog n_impl_over [v19, (.str [48, 49, 50, 51, 52, 53, 54, 55, 56, 57])] st (fun v29 st =>
      qb (q_un .not v29) fun v30 =>
      retR R v30 st) (panR R)))) (panR R))))) (panR R)
theorem e_impl_NameOK : Enters prog n_impl_NameOK := ⟨Go.Proofs.Tryd.f44, by kernel_rfl, by kernel_rfl, by kernel_rfl⟩
theorem c_impl_NameOK {a0 : PV} {st : St} {R : Res → St → Prop} (h : b_impl_NameOK a0 st R) : HCalls prog n_impl_NameOK [a0] st R :=
 hcalls_of_func tyOK mixed (fn := Go.Proofs.Tryd.f44) (by kernel_rfl) (by kernel_rfl) (by kernel_rfl) (ann := [])
  (show hFunc prog TT [] Go.Proofs.Tryd.f44 [a0] st R from (show hFunc prog TT [] Go.Proofs.Tryd.f44 [a0] st R = b_impl_NameOK a0 st R by kernel_rfl) ▸ h)
def b_slices_ContainsFunc_impl_Tree_impl_Tree (a0 a1 : PV) (st : St) (R : Res → St → Prop) : Prop :=
 callK prog n_slices_IndexFunc_impl_Tree_impl_Tree [a0, a1] st (fun v7 st =>
 qb (q_bin .geq v7 (.int .i64 0)) fun v8 =>
 retR R v8 st) (panR R)
theorem e_slices_ContainsFunc_impl_Tree_impl_Tree : Enters prog n_slices_ContainsFunc_impl_Tree_impl_Tree := ⟨Go.Proofs.Tryd.f45, by kernel_rfl, by kernel_rfl, by kernel_rfl⟩
theorem c_slices_ContainsFunc_impl_Tree_impl_Tree {a0 a1 : PV} {st : St} {R : Res → St → Prop} (h : b_slices_ContainsFunc_impl_Tree_impl_Tree a0 a1 st R) : HCalls prog n_slices_ContainsFunc_impl_Tree_impl_Tree [a0, a1] st R :=
 hcalls_of_func tyOK mixed (fn := Go.Proofs.Tryd.f45) (by kernel_rfl) (by kernel_rfl) (by kernel_rfl) (ann := [])
  (show hFunc prog TT [] Go.Proofs.Tryd.f45 [a0, a1] st R from (show hFunc prog TT [] Go.Proofs.Tryd.f45 [a0, a1] st R = b_slices_ContainsFunc_impl_Tree_impl_Tree a0 a1 st R by kernel_rfl) ▸ h)
def b_impl_SimpleOK (a0 : PV) (st : St) (R : Res → St → Prop) : Prop :=
 e_box st a0 fun v1 st =>
 qb (q_load st true 4 v1) fun v4 =>
 callK prog n_impl_fresh [] st (fun v3 st =>
 q_load st true 4 v1 = some v4 ∧ (callK prog n_impl_looker_simple [v3, v4] st (fun v5 st =>
 retR R v5 st) (panR R))) (panR R)
theorem e_impl_SimpleOK : Enters prog n_impl_SimpleOK := ⟨Go.Proofs.Tryd.f46, by kernel_rfl, by kernel_rfl, by kernel_rfl⟩
theorem c_impl_SimpleOK {a0 : PV} {st : St} {R : Res → St → Prop} (h : b_impl_SimpleOK a0 st R) : HCalls prog n_impl_SimpleOK [a0] st R :=
 hcalls_of_func tyOK mixed (fn := Go.Proofs.Tryd.f46) (by kernel_rfl) (by kernel_rfl) (by kernel_rfl) (ann := [])
  (show hFunc prog TT [] Go.Proofs.Tryd.f46 [a0] st R from (show hFunc prog TT [] Go.Proofs.Tryd.f46 [a0] st R = b_impl_SimpleOK a0 st R by kernel_rfl) ▸ h)
def b_impl_stop (a0 a1 : PV) (st : St) (R : Res → St → Prop) : Prop :=
 qb (q_struct [.int .i64 0, .int .i64 0] [(0, 1, a0), (1, 1, a1)]) fun v6 =>
 qb (q_iface ty_impl_halt v6) fun v7 =>
 e_panic v7 st (panR R)
theorem e_impl_stop : Enters prog n_impl_stop := ⟨Go.Proofs.Tryd.f48, by kernel_rfl, by kernel_rfl, by kernel_rfl⟩
theorem c_impl_stop {a0 a1 : PV} {st : St} {R : Res → St → Prop} (h : b_impl_stop a0 a1 st R) : HCalls prog n_impl_stop [a0, a1] st R :=
 hcalls_of_func tyOK mixed (fn := Go.Proofs.Tryd.f48) (by kernel_rfl) (by kernel_rfl) (by kernel_rfl) (ann := [])
  (show hFunc prog TT [] Go.Proofs.Tryd.f48 [a0, a1] st R from (show hFunc prog TT [] Go.Proofs.Tryd.f48 [a0, a1] st R = b_impl_stop a0 a1 st R by kernel_rfl) ▸ h)
def b_impl_simpler_typeOf (a0 a1 a2 : PV) (st : St) (R : Res → St → Prop) : Prop :=
 e_box st a2 fun v5 st =>
 e_alloc st [.int .i64 0, .int .i64 0, .str [], .sl 0 true []] fun v6 st =>
 qb (q_fa 0 v5) fun v8 =>
 qb (q_load st false 1 v8) fun v9 =>
 qb (q_bin .eql v9 (.int .i64 5)) fun v11 =>
 cb v11 fun b => br b
  (qb (q_fa 1 v5) fun v12 =>
  qb (q_load st false 1 v12) fun v13 =>
  qb (q_len a1) fun v15 =>
  qb (q_bin .geq v13 v15) fun v16 =>
  hJ (fun ls st =>
   qb (q_len a1) fun v20 =>
   qb (q_bin .sub v20 (.int .i64 1)) fun v21 =>
   qb (q_fa 1 v5) fun v22 =>
   qb (q_load st false 1 v22) fun v23 =>
   qb (q_bin .sub v21 v23) fun v24 =>
   qb (q_ia 4 a1 v24) fun v25 =>
   qb (q_load st true 4 v25) fun v26 =>
   e_store st 4 v6 v26 fun st =>
   qb (q_load st true 4 v6) fun r => retR R r st)
   (fun k =>
  cb v16 fun b_1 => br b_1
   (callK prog n_impl_stop [(.int .i64 7), (.int .i64 0)] st (fun v17 st =>
   k [] st) (panR R))
   (k [] st)))
  (qb (q_bin .eql v9 (.int .i64 7)) fun v28 =>
  cb v28 fun b_2 => br b_2
   (qb (q_fa 1 v5) fun v29 =>
   qb (q_load st false 1 v29) fun v30 =>
   qb (q_nil a0) fun v32 =>
   qb (q_fa 1 v32) fun v33 =>
   qb (q_load st false 1 v33) fun v34 =>
   qb (q_len v34) fun v35 =>
   qb (q_bin .geq v30 v35) fun v36 =>
   hJ (fun ls_1 st =>
    qb (q_nil a0) fun v39 =>
    qb (q_fa 1 v39) fun v40 =>
    qb (q_load st false 1 v40) fun v41 =>
    qb (q_fa 1 v5) fun v42 =>
    qb (q_load st false 1 v42) fun v43 =>
    qb (q_ia 4 v41 v43) fun v44 =>
    qb (q_load st true 4 v44) fun v45 =>
    e_store st 4 v6 v45 fun st =>
    qb (q_load st true 4 v6) fun r_1 => retR R r_1 st)
    (fun k_1 =>
   cb v36 fun b_3 => br b_3
    (callK prog n_impl_stop [(.int .i64 15), (.int .i64 0)] st (fun v37 st =>
    k_1 [] st) (panR R))
    (k_1 [] st)))
   (qb (q_nil a0) fun v47 =>
   qb (q_fa 0 v47) fun v48 =>
   qb (q_load st false 1 v48) fun v49 =>
   callK prog n_slices_IndexFunc_impl_Typed_impl_Typed [v49, (.fn (.func n_impl_simpler_typeOf_1) [] [v5])] st (fun v51 st =>
   qb (q_bin .lss v51 (.int .i64 0)) fun v53 =>
   hJ (fun ls_2 st =>
    qb (q_nil a0) fun v56 =>
    qb (q_fa 0 v56) fun v57 =>
    qb (q_load st false 1 v57) fun v58 =>
    qb (q_ia 5 v58 v51) fun v60 =>
    qb (q_fa 1 v60) fun v61 =>
    qb (q_load st true 4 v61) fun v62 =>
    e_store st 4 v6 v62 fun st =>
    qb (q_load st true 4 v6) fun r_2 => retR R r_2 st)
    (fun k_2 =>
   cb v53 fun b_4 => br b_4
    (callK prog n_impl_stop [(.int .i64 5), (.int .i64 0)] st (fun v54 st =>
    k_2 [] st) (panR R))
    (k_2 [] st))) (panR R)))
theorem e_impl_simpler_typeOf : Enters prog n_impl_simpler_typeOf := ⟨Go.Proofs.Tryd.f49, by kernel_rfl, by kernel_rfl, by kernel_rfl⟩
theorem c_impl_simpler_typeOf {a0 a1 a2 : PV} {st : St} {R : Res → St → Prop} (h : b_impl_simpler_typeOf a0 a1 a2 st R) : HCalls prog n_impl_simpler_typeOf [a0, a1, a2] st R :=
 hcalls_of_func tyOK mixed (fn := Go.Proofs.Tryd.f49) (by kernel_rfl) (by kernel_rfl) (by kernel_rfl) (ann := [(18, []), (34, []), (50, [])])
  (show hFunc prog TT [(18, []), (34, []), (50, [])] Go.Proofs.Tryd.f49 [a0, a1, a2] st R from (show hFunc prog TT [(18, []), (34, []), (50, [])] Go.Proofs.Tryd.f49 [a0, a1, a2] st R = b_impl_simpler_typeOf a0 a1 a2 st R by kernel_rfl) ▸ h)
def b_impl_same (a0 a1 : PV) (st : St) (R : Res → St → Prop) : Prop :=
 e_box st a0 fun v2 st =>
 e_box st a1 fun v3 st =>
 qb (q_fa 0 v2) fun v6 =>
 qb (q_load st false 1 v6) fun v7 =>
 qb (q_fa 0 v3) fun v8 =>
 qb (q_load st false 1 v8) fun v9 =>
 qb (q_bin .neq v7 v9) fun v10 =>
 cb v10 fun b => br b
  (retR R (.bool false) st)
  (qb (q_fa 1 v2) fun v12 =>
  qb (q_load st false 1 v12) fun v13 =>
  qb (q_fa 1 v3) fun v14 =>
  qb (q_load st false 1 v14) fun v15 =>
  qb (q_bin .neq v13 v15) fun v16 =>
  cb v16 fun b_1 => br b_1
   (retR R (.bool false) st)
   (qb (q_fa 2 v2) fun v19 =>
   qb (q_load st false 1 v19) fun v20 =>
   qb (q_fa 2 v3) fun v21 =>
   qb (q_load st false 1 v21) fun v22 =>
   qb (q_bin .neq v20 v22) fun v23 =>
   cb v23 fun b_2 => br b_2
    (retR R (.bool false) st)
    (qb (q_fa 3 v2) fun v26 =>
    qb (q_load st false 1 v26) fun v27 =>
    qb (q_len v27) fun v28 =>
    qb (q_fa 3 v3) fun v29 =>
    qb (q_load st false 1 v29) fun v30 =>
    qb (q_len v30) fun v31 =>
    qb (q_bin .neq v28 v31) fun v32 =>
    cb v32 fun b_3 => br b_3
     (retR R (.bool false) st)
     (qb (q_fa 3 v2) fun v34 =>
     qb (q_load st false 1 v34) fun v35 =>
     qb (q_len v35) fun v36 =>
     hFix (fun ls st X =>
      qb (q_bin .lss (ls.getD 0 .junk) v36) fun v38 =>
      cb v38 fun b_4 => br b_4
       (qb (q_fa 3 v2) fun v40 =>
       qb (q_load st false 1 v40) fun v41 =>
       qb (q_ia 4 v41 (ls.getD 0 .junk)) fun v43 =>
       qb (q_load st true 4 v43) fun v44 =>
       qb (q_fa 3 v3) fun v45 =>
       qb (q_load st false 1 v45) fun v46 =>
       qb (q_ia 4 v46 (ls.getD 0 .junk)) fun v48 =>
       qb (q_load st true 4 v48) fun v49 =>
       callK prog n_impl_same [v44, v49] st (fun v50 st =>
       qb (q_un .not v50) fun v51 =>
       cb v51 fun b_5 => br b_5
        (retR R (.bool false) st)
        (qb (q_bin .add (ls.getD 0 .junk) (.int .i64 1)) fun v52 =>
        X [v52] st)) (panR R))
       (retR R (.bool true) st))
      [(.int .i64 0)] st))))
theorem e_impl_same : Enters prog n_impl_same := ⟨Go.Proofs.Tryd.f50, by kernel_rfl, by kernel_rfl, by kernel_rfl⟩
theorem c_impl_same {a0 a1 : PV} {st : St} {R : Res → St → Prop} (h : b_impl_same a0 a1 st R) : HCalls prog n_impl_same [a0, a1] st R :=
 hcalls_of_func tyOK mixed (fn := Go.Proofs.Tryd.f50) (by kernel_rfl) (by kernel_rfl) (by kernel_rfl) (ann := [(16, [37])])
  (show hFunc prog TT [(16, [37])] Go.Proofs.Tryd.f50 [a0, a1] st R from (show hFunc prog TT [(16, [37])] Go.Proofs.Tryd.f50 [a0, a1] st R = b_impl_same a0 a1 st R by kernel_rfl) ▸ h)
def b_spec_l06Vars (a0 a1 : PV) (st : St) (R : Res → St → Prop) : Prop :=
 qb (q_lit 1 0 0 [] []) fun v9 =>
 qb (q_len a0) fun v11 =>
 qb (q_len a1) fun v13 =>
 qb (q_bin .neq v11 v13) fun v14 =>
 cb v14 fun b => br b
  (retR R (.tup [v9, (.bool false)]) st)
  (hFix (fun ls st X =>
   qb (q_len a0) fun v18 =>
   qb (q_bin .lss (ls.getD 1 .junk) v18) fun v19 =>
   cb v19 fun b_1 => br b_1
    (qb (q_ia 4 a0 (ls.getD 1 .junk)) fun v24 =>
    qb (q_load st true 4 v24) fun v25 =>
    qb (q_ia 4 a1 (ls.getD 1 .junk)) fun v28 =>
    qb (q_load st true 4 v28) fun v29 =>
    callK prog n_spec_l06Var [v25, v29] st (fun v30 st =>
    qb (q_bin .lss v30 (.int .i64 0)) fun v32 =>
    cb v32 fun b_2 => br b_2
     (retR R (.tup [(ls.getD 0 .junk), (.bool false)]) st)
     (callK prog n_spec_l06Place [(ls.getD 0 .junk), v30] st (fun v36 st =>
     qb (q_bin .geq v36 (.int .i64 0)) fun v37 =>
     cb v37 fun b_3 => br b_3
      (retR R (.tup [(ls.getD 0 .junk), (.bool false)]) st)
      (qb (q_lit 1 1 0 [] [(0, v30)]) fun v42 =>
      e_append st 1 8 (ls.getD 0 .junk) v42 (fun v43 st =>
      qb (q_bin .add (ls.getD 1 .junk) (.int .i64 1)) fun v21 =>
      X [v43, v21] st))) (panR R))) (panR R))
    (retR R (.tup [(ls.getD 0 .junk), (.bool true)]) st))
   [v9, (.int .i64 0)] st)
theorem e_spec_l06Vars : Enters prog n_spec_l06Vars := ⟨Go.Proofs.Tryd.f51, by kernel_rfl, by kernel_rfl, by kernel_rfl⟩
theorem c_spec_l06Vars {a0 a1 : PV} {st : St} {R : Res → St → Prop} (h : b_spec_l06Vars a0 a1 st R) : HCalls prog n_spec_l06Vars [a0, a1] st R :=
 hcalls_of_func tyOK mixed (fn := Go.Proofs.Tryd.f51) (by kernel_rfl) (by kernel_rfl) (by kernel_rfl) (ann := [(20, [6, 7])])
  (show hFunc prog TT [(20, [6, 7])] Go.Proofs.Tryd.f51 [a0, a1] st R from (show hFunc prog TT [(20, [6, 7])] Go.Proofs.Tryd.f51 [a0, a1] st R = b_spec_l06Vars a0 a1 st R by kernel_rfl) ▸ h)
def b_spec_l06Args (a0 : PV) (st : St) (R : Res → St → Prop) : Prop :=
 e_box st a0 fun v1 st =>
 qb (q_lit 4 0 0 [] []) fun v4 =>
 hFix (fun ls st X =>
  qb (q_fa 0 v1) fun v5 =>
  qb (q_load st false 1 v5) fun v6 =>
  qb (q_bin .eql v6 (.int .i64 10)) fun v7 =>
  cb v7 fun b => br b
   (qb (q_fa 3 v1) fun v13 =>
   qb (q_load st false 1 v13) fun v14 =>
   qb (q_ia 4 v14 (.int .i64 0)) fun v15 =>
   qb (q_load st true 4 v15) fun v16 =>
   qb (q_lit 4 1 0 [] [(0, v16)]) fun v17 =>
   e_append st 4 56 (ls.getD 0 .junk) v17 (fun v18 st =>
   qb (q_fa 3 v1) fun v8 =>
   qb (q_load st false 1 v8) fun v9 =>
   qb (q_ia 4 v9 (.int .i64 1)) fun v10 =>
   qb (q_load st true 4 v10) fun v11 =>
   e_store st 4 v1 v11 fun st =>
   X [v18] st))
   (retR R (ls.getD 0 .junk) st))
  [v4] st
theorem e_spec_l06Args : Enters prog n_spec_l06Args := ⟨Go.Proofs.Tryd.f52, by kernel_rfl, by kernel_rfl, by kernel_rfl⟩
theorem c_spec_l06Args {a0 : PV} {st : St} {R : Res → St → Prop} (h : b_spec_l06Args a0 st R) : HCalls prog n_spec_l06Args [a0] st R :=
 hcalls_of_func tyOK mixed (fn := Go.Proofs.Tryd.f52) (by kernel_rfl) (by kernel_rfl) (by kernel_rfl) (ann := [(8, [3])])
  (show hFunc prog TT [(8, [3])] Go.Proofs.Tryd.f52 [a0] st R from (show hFunc prog TT [(8, [3])] Go.Proofs.Tryd.f52 [a0] st R = b_spec_l06Args a0 st R by kernel_rfl) ▸ h)
def b_impl_fresh (st : St) (R : Res → St → Prop) : Prop :=
 qb (q_struct [.int .i64 0, .bool false] [(0, 1, (.int .i64 150))]) fun v1 =>
 e_box st v1 fun v2 st =>
 retR R v2 st
theorem e_impl_fresh : Enters prog n_impl_fresh := ⟨Go.Proofs.Tryd.f53, by kernel_rfl, by kernel_rfl, by kernel_rfl⟩
theorem c_impl_fresh {st : St} {R : Res → St → Prop} (h : b_impl_fresh  st R) : HCalls prog n_impl_fresh [] st R :=
 hcalls_of_func tyOK mixed (fn := Go.Proofs.Tryd.f53) (by kernel_rfl) (by kernel_rfl) (by kernel_rfl) (ann := [])
  (show hFunc prog TT [] Go.Proofs.Tryd.f53 [] st R from (show hFunc prog TT [] Go.Proofs.Tryd.f53 [] st R = b_impl_fresh  st R by kernel_rfl) ▸ h)
def b_impl_looker_term (a0 a1 : PV) (st : St) (R : Res → St → Prop) : Prop :=
 e_box st a1 fun v3 st =>
 callK prog n_impl_looker_node [a0] st (fun v6 st =>
 qb (q_un .not v6) fun v7 =>
 cb v7 fun b => br b
  (retR R (.bool false) st)
  (qb (q_fa 0 v3) fun v8 =>
  qb (q_load st false 1 v8) fun v9 =>
  qb (q_bin .eql v9 (.int .i64 4)) fun v11 =>
  cb v11 fun b_1 => br b_1
   (callK prog n_impl_Tree_bare [v3, (.int .i64 1)] st (fun v12 st =>
   cb v12 fun b_2 => br b_2
    (qb (q_fa 3 v3) fun v15 =>
    qb (q_load st false 1 v15) fun v16 =>
    qb (q_ia 4 v16 (.int .i64 0)) fun v17 =>
    qb (q_load st true 4 v17) fun v18 =>
    callK prog n_impl_looker_term [a0, v18] st (fun v19 st =>
    retR R v19 st) (panR R))
    (retR R (.bool false) st)) (panR R))
   (qb (q_bin .eql v9 (.int .i64 5)) fun v22 =>
   hJ (fun ls st =>
    cb (ls.getD 0 .junk) fun b_4 => br b_4
     (qb (q_fa 1 v3) fun v24 =>
     qb (q_load st false 1 v24) fun v25 =>
     callK prog n_impl_in [v25, (.int .i64 0), (.int .i64 100)] st (fun v26 st =>
     cb v26 fun b_5 => br b_5
      (qb (q_fa 2 v3) fun v28 =>
      qb (q_load st false 1 v28) fun v29 =>
      qb (q_bin .eql v29 (.str [])) fun v30 =>
      cb v30 fun b_6 => br b_6
       (qb (q_fa 3 v3) fun v34 =>
       qb (q_load st false 1 v34) fun v35 =>
       callK prog n_impl_looker_args [a0, v35] st (fun v36 st =>
       retR R v36 st) (panR R))
       (retR R (.bool false) st))
      (retR R (.bool false) st)) (panR R))
     (qb (q_bin .eql v9 (.int .i64 6)) fun v39 =>
     cb v39 fun b_7 => br b_7
      (qb (q_fa 1 v3) fun v40 =>
      qb (q_load st false 1 v40) fun v41 =>
      qb (q_bin .eql v41 (.int .i64 0)) fun v42 =>
      cb v42 fun b_8 => br b_8
       (qb (q_fa 2 v3) fun v44 =>
       qb (q_load st false 1 v44) fun v45 =>
       callK prog n_impl_NameOK [v45] st (fun v46 st =>
       cb v46 fun b_9 => br b_9
        (qb (q_fa 3 v3) fun v50 =>
        qb (q_load st false 1 v50) fun v51 =>
        callK prog n_impl_looker_args [a0, v51] st (fun v52 st =>
        retR R v52 st) (panR R))
        (retR R (.bool false) st)) (panR R))
       (retR R (.bool false) st))
      (retR R (.bool false) st)))
    (fun k =>
   cb v22 fun b_3 => br b_3
    (k [v22] st)
    (qb (q_bin .eql v9 (.int .i64 7)) fun v23 =>
    k [v23] st))))) (panR R)
theorem e_impl_looker_term : Enters prog n_impl_looker_term := ⟨Go.Proofs.Tryd.f54, by kernel_rfl, by kernel_rfl, by kernel_rfl⟩
theorem c_impl_looker_term {a0 a1 : PV} {st : St} {R : Res → St → Prop} (h : b_impl_looker_term a0 a1 st R) : HCalls prog n_impl_looker_term [a0, a1] st R :=
 hcalls_of_func tyOK mixed (fn := Go.Proofs.Tryd.f54) (by kernel_rfl) (by kernel_rfl) (by kernel_rfl) (ann := [(30, [21])])
  (show hFunc prog TT [(30, [21])] Go.Proofs.Tryd.f54 [a0, a1] st R from (show hFunc prog TT [(30, [21])] Go.Proofs.Tryd.f54 [a0, a1] st R = b_impl_looker_term a0 a1 st R by kernel_rfl) ▸ h)
def b_impl_Tree_each (a0 a1 a2 : PV) (st : St) (R : Res → St → Prop) : Prop :=
 e_call prog st a2 [a0, a1] (fun v11 st =>
 cb v11 fun b => br b
  (retR R (.bool true) st)
  (qb (q_nil a0) fun v13 =>
  qb (q_fa 3 v13) fun v14 =>
  qb (q_load st false 1 v14) fun v15 =>
  qb (q_len v15) fun v16 =>
  hFix (fun ls st X =>
   qb (q_bin .lss (ls.getD 0 .junk) v16) fun v18 =>
   cb v18 fun b_1 => br b_1
    (qb (q_nil a0) fun v21 =>
    qb (q_fa 3 v21) fun v22 =>
    qb (q_load st false 1 v22) fun v23 =>
    qb (q_ia 4 v23 (ls.getD 0 .junk)) fun v25 =>
    callK prog n_impl_Tree_under [a0, (ls.getD 0 .junk)] st (fun v29 st =>
    q_load st false 1 v22 = some v23 ∧ (qb (q_bin .add a1 v29) fun v30 =>
    callK prog n_impl_Tree_each [v25, v30, a2] st (fun v32 st =>
    cb v32 fun b_2 => br b_2
     (retR R (.bool true) st)
     (qb (q_bin .add (ls.getD 0 .junk) (.int .i64 1)) fun v33 =>
     X [v33] st)) (panR R))) (panR R))
    (retR R (.bool false) st))
   [(.int .i64 0)] st)) (panR R)
theorem e_impl_Tree_each : Enters prog n_impl_Tree_each := ⟨Go.Proofs.Tryd.f55, by kernel_rfl, by kernel_rfl, by kernel_rfl⟩
theorem c_impl_Tree_each {a0 a1 a2 : PV} {st : St} {R : Res → St → Prop} (h : b_impl_Tree_each a0 a1 a2 st R) : HCalls prog n_impl_Tree_each [a0, a1, a2] st R :=
 hcalls_of_func tyOK mixed (fn := Go.Proofs.Tryd.f55) (by kernel_rfl) (by kernel_rfl) (by kernel_rfl) (ann := [(16, [17])])
  (show hFunc prog TT [(16, [17])] Go.Proofs.Tryd.f55 [a0, a1, a2] st R from (show hFunc prog TT [(16, [17])] Go.Proofs.Tryd.f55 [a0, a1, a2] st R = b_impl_Tree_each a0 a1 a2 st R by kernel_rfl) ▸ h)
def b_impl_patterns_1 (a0 a1 a2 : PV) (st : St) (R : Res → St → Prop) : Prop :=
 qb (q_nil a0) fun v9 =>
 qb (q_fa 0 v9) fun v10 =>
 qb (q_load st false 1 v10) fun v11 =>
 qb (q_bin .neq v11 (.int .i64 7)) fun v12 =>
 cb v12 fun b => br b
  (retR R (.bool false) st)
  (qb (q_load st false 1 a2) fun v14 =>
  callK prog n_impl_pattern [v14, a0] st (fun v16 st =>
  qb (q_ex v16 0) fun v17 =>
  qb (q_ex v16 1) fun v18 =>
  qb (q_un .not v18) fun v20 =>
  retR R v20 st) (panR R))
theorem e_impl_patterns_1 : Enters prog n_impl_patterns_1 := ⟨Go.Proofs.Tryd.f56, by kernel_rfl, by kernel_rfl, by kernel_rfl⟩
theorem c_impl_patterns_1 {a0 a1 a2 : PV} {st : St} {R : Res → St → Prop} (h : b_impl_patterns_1 a0 a1 a2 st R) : HCalls prog n_impl_patterns_1 [a0, a1, a2] st R :=
 hcalls_of_func tyOK mixed (fn := Go.Proofs.Tryd.f56) (by kernel_rfl) (by kernel_rfl) (by kernel_rfl) (ann := [])
  (show hFunc prog TT [] Go.Proofs.Tryd.f56 [a0, a1, a2] st R from (show hFunc prog TT [] Go.Proofs.Tryd.f56 [a0, a1, a2] st R = b_impl_patterns_1 a0 a1 a2 st R by kernel_rfl) ▸ h)
def b_impl_pattern (a0 a1 : PV) (st : St) (R : Res → St → Prop) : Prop :=
 qb (q_nil a1) fun v14 =>
 qb (q_fa 1 v14) fun v15 =>
 qb (q_load st false 1 v15) fun v16 =>
 qb (q_len a0) fun v18 =>
 qb (q_bin .geq v16 v18) fun v19 =>
 cb v19 fun b => br b
  (retR R (.tup [(.sl 0 true []), (.bool false)]) st)
  (qb (q_nil a1) fun v23 =>
  qb (q_fa 1 v23) fun v24 =>
  qb (q_load st false 1 v24) fun v25 =>
  qb (q_ia 4 a0 v25) fun v26 =>
  qb (q_load st true 4 v26) fun v27 =>
  callK prog n_impl_takes [v27] st (fun v28 st =>
  qb (q_ex v28 0) fun v29 =>
  qb (q_ex v28 1) fun v30 =>
  e_alloc st [.int .i64 0, .int .i64 0, .str [], .sl 0 true []] fun v7 st =>
  e_store st 4 v7 v30 fun st =>
  qb (q_len v29) fun v32 =>
  qb (q_nil a1) fun v34 =>
  qb (q_fa 3 v34) fun v35 =>
  qb (q_load st false 1 v35) fun v36 =>
  qb (q_len v36) fun v37 =>
  qb (q_bin .neq v32 v37) fun v38 =>
  cb v38 fun b_1 => br b_1
   (retR R (.tup [(.sl 0 true []), (.bool false)]) st)
   (qb (q_lit 1 0 0 [] []) fun v39 =>
   qb (q_nil a1) fun v41 =>
   qb (q_fa 3 v41) fun v42 =>
   qb (q_load st false 1 v42) fun v43 =>
   qb (q_len v43) fun v44 =>
   hFix (fun ls st X =>
    qb (q_bin .lss (ls.getD 1 .junk) v44) fun v46 =>
    cb v46 fun b_2 => br b_2
     (qb (q_ia 4 v43 (ls.getD 1 .junk)) fun v48 =>
     qb (q_load st true 4 v48) fun v49 =>
     e_alloc st [.int .i64 0, .int .i64 0, .str [], .sl 0 true []] fun v10 st =>
     e_store st 4 v10 v49 fun st =>
     qb (q_load st true 4 v10) fun v51 =>
     qb (q_ia 4 v29 (ls.getD 1 .junk)) fun v54 =>
     qb (q_load st true 4 v54) fun v55 =>
     callK prog n_impl_longVariable [v51, v55] st (fun v56 st =>
     qb (q_ex v56 0) fun v57 =>
     qb (q_ex v56 1) fun v58 =>
     qb (q_un .not v58) fun v60 =>
     cb v60 fun b_3 => br b_3
      (retR R (.tup [(.sl 0 true []), (.bool false)]) st)
      (callK prog n_slices_Contains_int_int [(ls.getD 0 .junk), v57] st (fun v64 st =>
      cb v64 fun b_4 => br b_4
       (retR R (.tup [(.sl 0 true []), (.bool false)]) st)
       (qb (q_lit 1 1 0 [] [(0, v57)]) fun v68 =>
       e_append st 1 8 (ls.getD 0 .junk) v68 (fun v69 st =>
       qb (q_bin .add (ls.getD 1 .junk) (.int .i64 1)) fun v70 =>
       X [v69, v70] st))) (panR R))) (panR R))
     (retR R (.tup [(ls.getD 0 .junk), (.bool true)]) st))
    [v39, (.int .i64 0)] st)) (panR R))
theorem e_impl_pattern : Enters prog n_impl_pattern := ⟨Go.Proofs.Tryd.f57, by kernel_rfl, by kernel_rfl, by kernel_rfl⟩
theorem c_impl_pattern {a0 a1 : PV} {st : St} {R : Res → St → Prop} (h : b_impl_pattern a0 a1 st R) : HCalls prog n_impl_pattern [a0, a1] st R :=
 hcalls_of_func tyOK mixed (fn := Go.Proofs.Tryd.f57) (by kernel_rfl) (by kernel_rfl) (by kernel_rfl) (ann := [(32, [8, 45])])
  (show hFunc prog TT [(32, [8, 45])] Go.Proofs.Tryd.f57 [a0, a1] st R from (show hFunc prog TT [(32, [8, 45])] Go.Proofs.Tryd.f57 [a0, a1] st R = b_impl_pattern a0 a1 st R by kernel_rfl) ▸ h)
def b_spec_l00Word (a0 : PV) (st : St) (R : Res → St → Prop) : Prop :=
 qb (q_lenS a0) fun v5 =>
 qb (q_bin .lss v5 (.int .i64 1)) fun v6 =>
 cb v6 fun b => br b
  (retR R (.bool false) st)
  (qb (q_lenS a0) fun v9 =>
  qb (q_bin .gtr v9 (.int .i64 40)) fun v10 =>
  cb v10 fun b_1 => br b_1
   (retR R (.bool false) st)
   (qb (q_ix a0 (.int .i64 0)) fun v14 =>
   callK prog n_spec_l00Letter [v14] st (fun v15 st =>
   qb (q_un .not v15) fun v16 =>
   cb v16 fun b_2 => br b_2
    (retR R (.bool false) st)
    (hFix (fun ls st X =>
     qb (q_lenS a0) fun v20 =>
     qb (q_bin .lss (ls.getD 0 .junk) v20) fun v21 =>
     cb v21 fun b_3 => br b_3
      (qb (q_ix a0 (ls.getD 0 .junk)) fun v26 =>
      callK prog n_spec_l00Letter [v26] st (fun v27 st =>
      qb (q_un .not v27) fun v28 =>
      cb v28 fun b_4 => br b_4
       (qb (q_ix a0 (ls.getD 0 .junk)) fun v32 =>
       callK prog n_spec_l00Digit [v32] st (fun v33 st =>
       qb (q_un .not v33) fun v34 =>
       cb v34 fun b_5 => br b_5
        (retR R (.bool false) st)
        (qb (q_bin .add (ls.getD 0 .junk) (.int .i64 1)) fun v23 =>
        X [v23] st)) (panR R))
       (qb (q_bin .add (ls.getD 0 .junk) (.int .i64 1)) fun v23_1 =>
       X [v23_1] st)) (panR R))
      (retR R (.bool true) st))
     [(.int .i64 1)] st)) (panR R)))
theorem e_spec_l00Word : Enters prog n_spec_l00Word := ⟨Go.Proofs.Tryd.f58, by kernel_rfl, by kernel_rfl, by kernel_rfl⟩
theorem c_spec_l00Word {a0 : PV} {st : St} {R : Res → St → Prop} (h : b_spec_l00Word a0 st R) : HCalls prog n_spec_l00Word [a0] st R :=
 hcalls_of_func tyOK mixed (fn := Go.Proofs.Tryd.f58) (by kernel_rfl) (by kernel_rfl) (by kernel_rfl) (ann := [(16, [3])])
  (show hFunc prog TT [(16, [3])] Go.Proofs.Tryd.f58 [a0] st R from (show hFunc prog TT [(16, [3])] Go.Proofs.Tryd.f58 [a0] st R = b_spec_l00Word a0 st R by kernel_rfl) ▸ h)
def b_spec_l00Digit (a0 : PV) (st : St) (R : Res → St → Prop) : Prop :=
 qb (q_bin .geq a0 (.int .u8 48)) fun v4 =>
 cb v4 fun b => br b
  (qb (q_bin .leq a0 (.int .u8 57)) fun v7 =>
  retR R v7 st)
  (retR R (.bool false) st)
theorem e_spec_l00Digit : Enters prog n_spec_l00Digit := ⟨Go.Proofs.Tryd.f59, by kernel_rfl, by kernel_rfl, by kernel_rfl⟩
theorem c_spec_l00Digit {a0 : PV} {st : St} {R : Res → St → Prop} (h : b_spec_l00Digit a0 st R) : HCalls prog n_spec_l00Digit [a0] st R :=
 hcalls_of_func tyOK mixed (fn := Go.Proofs.Tryd.f59) (by kernel_rfl) (by kernel_rfl) (by kernel_rfl) (ann := [])
  (show hFunc prog TT [] Go.Proofs.Tryd.f59 [a0] st R from (show hFunc prog TT [] Go.Proofs.Tryd.f59 [a0] st R = b_spec_l00Digit a0 st R by kernel_rfl) ▸ h)
def b_spec_l01Count (a0 a1 : PV) (st : St) (R : Res → St → Prop) : Prop :=
 e_box st a0 fun v2 st =>
 qb (q_bin .sub a1 (.int .i64 1)) fun v7 =>
 hFix (fun ls st X =>
  hJ (fun ls_1 st =>
   cb (ls_1.getD 0 .junk) fun b => br b
    (qb (q_fa 3 v2) fun v19 =>
    qb (q_load st false 1 v19) fun v20 =>
    qb (q_ia 4 v20 (ls.getD 1 .junk)) fun v22 =>
    qb (q_load st true 4 v22) fun v23 =>
    callK prog n_spec_l01Count [v23, (ls.getD 0 .junk)] st (fun v25 st =>
    qb (q_bin .add (ls.getD 1 .junk) (.int .i64 1)) fun v18 =>
    X [v25, v18] st) (panR R))
    (retR R (ls.getD 0 .junk) st))
   (fun k =>
  qb (q_fa 3 v2) fun v9 =>
  qb (q_load st false 1 v9) fun v10 =>
  qb (q_len v10) fun v11 =>
  qb (q_bin .lss (ls.getD 1 .junk) v11) fun v12 =>
  cb v12 fun b_1 => br b_1
   (qb (q_bin .geq (ls.getD 0 .junk) (.int .i64 0)) fun v15 =>
   k [v15] st)
   (k [(.bool false)] st)))
  [v7, (.int .i64 0)] st
theorem e_spec_l01Count : Enters prog n_spec_l01Count := ⟨Go.Proofs.Tryd.f60, by kernel_rfl, by kernel_rfl, by kernel_rfl⟩
theorem c_spec_l01Count {a0 a1 : PV} {st : St} {R : Res → St → Prop} (h : b_spec_l01Count a0 a1 st R) : HCalls prog n_spec_l01Count [a0, a1] st R :=
 hcalls_of_func tyOK mixed (fn := Go.Proofs.Tryd.f60) (by kernel_rfl) (by kernel_rfl) (by kernel_rfl) (ann := [(12, [1, 5]), (13, [16])])
  (show hFunc prog TT [(12, [1, 5]), (13, [16])] Go.Proofs.Tryd.f60 [a0, a1] st R from (show hFunc prog TT [(12, [1, 5]), (13, [16])] Go.Proofs.Tryd.f60 [a0, a1] st R = b_spec_l01Count a0 a1 st R by kernel_rfl) ▸ h)
def b_spec_l01Terms (a0 a1 : PV) (st : St) (R : Res → St → Prop) : Prop :=
 hFix (fun ls st X =>
  qb (q_len a0) fun v8 =>
  qb (q_bin .lss (ls.getD 0 .junk) v8) fun v9 =>
  cb v9 fun b => br b
   (hJ (fun ls_1 st =>
    cb (ls_1.getD 0 .junk) fun b_1 => br b_1
     (qb (q_ia 4 a0 (ls.getD 0 .junk)) fun v23 =>
     qb (q_fa 1 v23) fun v24 =>
     qb (q_load st false 1 v24) fun v25 =>
     qb (q_bin .neq v25 (.int .i64 0)) fun v26 =>
     cb v26 fun b_2 => br b_2
      (retR R (.bool false) st)
      (qb (q_ia 4 a0 (ls.getD 0 .junk)) fun v30 =>
      qb (q_fa 2 v30) fun v31 =>
      qb (q_load st false 1 v31) fun v32 =>
      qb (q_bin .neq v32 (.str [])) fun v33 =>
      cb v33 fun b_3 => br b_3
       (retR R (.bool false) st)
       (qb (q_ia 4 a0 (ls.getD 0 .junk)) fun v38 =>
       qb (q_fa 3 v38) fun v39 =>
       qb (q_load st false 1 v39) fun v40 =>
       qb (q_len v40) fun v41 =>
       qb (q_bin .neq v41 (.int .i64 0)) fun v42 =>
       cb v42 fun b_4 => br b_4
        (retR R (.bool false) st)
        (qb (q_bin .add (ls.getD 0 .junk) (.int .i64 1)) fun v11 =>
        X [v11] st))))
     (qb (q_ia 4 a0 (ls.getD 0 .junk)) fun v46 =>
     qb (q_load st true 4 v46) fun v47 =>
     callK prog n_spec_l01Term [v47, a1] st (fun v49 st =>
     qb (q_un .not v49) fun v50 =>
     cb v50 fun b_5 => br b_5
      (retR R (.bool false) st)
      (qb (q_bin .add (ls.getD 0 .junk) (.int .i64 1)) fun v11_1 =>
      X [v11_1] st)) (panR R)))
    (fun k =>
   cb a1 fun b_6 => br b_6
    (qb (q_ia 4 a0 (ls.getD 0 .junk)) fun v16 =>
    qb (q_fa 0 v16) fun v17 =>
    qb (q_load st false 1 v17) fun v18 =>
    qb (q_bin .eql v18 (.int .i64 8)) fun v19 =>
    k [v19] st)
    (k [(.bool false)] st)))
   (retR R (.bool true) st))
  [(.int .i64 0)] st
theorem e_spec_l01Terms : Enters prog n_spec_l01Terms := ⟨Go.Proofs.Tryd.f61, by kernel_rfl, by kernel_rfl, by kernel_rfl⟩
theorem c_spec_l01Terms {a0 a1 : PV} {st : St} {R : Res → St → Prop} (h : b_spec_l01Terms a0 a1 st R) : HCalls prog n_spec_l01Terms [a0, a1] st R :=
 hcalls_of_func tyOK mixed (fn := Go.Proofs.Tryd.f61) (by kernel_rfl) (by kernel_rfl) (by kernel_rfl) (ann := [(8, [5]), (17, [20])])
  (show hFunc prog TT [(8, [5]), (17, [20])] Go.Proofs.Tryd.f61 [a0, a1] st R from (show hFunc prog TT [(8, [5]), (17, [20])] Go.Proofs.Tryd.f61 [a0, a1] st R = b_spec_l01Terms a0 a1 st R by kernel_rfl) ▸ h)
def b_impl_wordOK (a0 : PV) (st : St) (R : Res → St → Prop) : Prop :=
 qb (q_lenS a0) fun v4 =>
 callK prog n_impl_in [v4, (.int .i64 1), (.int .i64 40)] st (fun v5 st =>
 cb v5 fun b => br b
  (qb (q_ix a0 (.int .i64 0)) fun v8 =>
  callK prog n_impl_isHead [v8] st (fun v9 st =>
  cb v9 fun b_1 => br b_1
   (callK prog n_impl_over [a0, (.str [97, 98, 99, 100, 101, 102, 103, 104, 105, 106, 107, 108, 109, 110, 111, 112, 113, 114, 115, 116, 117, 118, 119, 120, 121, 122, 65, 66, 67, 68, 69, 70, 71, 72, 73, 74, 75, 76, 77, 78, 79, 80, 81, 82, 83, 84, 85, 86, 87, 88, 89, 90, 95, 48, 49, 50, 51, 52, 53, 54, 55, 56, 57])] st (fun v13 st =>
   retR R v13 st) (panR R))
   (retR R (.bool false) st)) (panR R))
  (retR R (.bool false) st)) (panR R)
theorem e_impl_wordOK : Enters prog n_impl_wordOK := ⟨Go.Proofs.Tryd.f62, by kernel_rfl, by kernel_rfl, by kernel_rfl⟩
theorem c_impl_wordOK {a0 : PV} {st : St} {R : Res → St → Prop} (h : b_impl_wordOK a0 st R) : HCalls prog n_impl_wordOK [a0] st R :=
 hcalls_of_func tyOK mixed (fn := Go.Proofs.Tryd.f62) (by kernel_rfl) (by kernel_rfl) (by kernel_rfl) (ann := [])
  (show hFunc prog TT [] Go.Proofs.Tryd.f62 [a0] st R from (show hFunc prog TT [] Go.Proofs.Tryd.f62 [a0] st R = b_impl_wordOK a0 st R by kernel_rfl) ▸ h)
def b_strings_CutPrefix (a0 a1 : PV) (st : St) (R : Res → St → Prop) : Prop :=
 callK prog n_internal_stringslite_CutPrefix [a0, a1] st (fun v8 st =>
 qb (q_ex v8 0) fun v9 =>
 qb (q_ex v8 1) fun v10 =>
 retR R (.tup [v9, v10]) st) (panR R)
theorem e_strings_CutPrefix : Enters prog n_strings_CutPrefix := ⟨Go.Proofs.Tryd.f63, by kernel_rfl, by kernel_rfl, by kernel_rfl⟩
theorem c_strings_CutPrefix {a0 a1 : PV} {st : St} {R : Res → St → Prop} (h : b_strings_CutPrefix a0 a1 st R) : HCalls prog n_strings_CutPrefix [a0, a1] st R :=
 hcalls_of_func tyOK mixed (fn := Go.Proofs.Tryd.f63) (by kernel_rfl) (by kernel_rfl) (by kernel_rfl) (ann := [])
  (show hFunc prog TT [] Go.Proofs.Tryd.f63 [a0, a1] st R from (show hFunc prog TT [] Go.Proofs.Tryd.f63 [a0, a1] st R = b_strings_CutPrefix a0 a1 st R by kernel_rfl) ▸ h)
end Go.H.Tryd
