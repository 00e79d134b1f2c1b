/- Part of a proof that the program answers as the reference does: DS4. -/
import Derived.Test.YtmfdgpjmdbdhcaaDoorHT
/- MADE BY PROGRAM (hgen.py): what the functions compute, over pure values. -/
set_option linter.unusedVariables false
set_option maxRecDepth 100000
namespace Go.H.Tryd
open Go Go.H
def b_spec_l03Long (a0 a1 : PV) (st : St) (R : Res → St → Prop) : Prop :=
 e_box st a0 fun v2 st =>
 e_box st a1 fun v3 st =>
 e_alloc st [.int .i64 0, .int .i64 0, .str [], .sl 0 true []] fun v4 st =>
 qb (q_load st true 4 v3) fun v10 =>
 e_alloc st [.int .i64 0, .int .i64 0, .str [], .sl 0 true []] fun v6 st =>
 e_store st 4 v6 v10 fun st =>
 hFix (fun ls st X =>
  qb (q_fa 0 (ls.getD 1 .junk)) fun v11 =>
  qb (q_load st false 1 v11) fun v12 =>
  qb (q_bin .eql v12 (.int .i64 10)) fun v13 =>
  cb v13 fun b => br b
   (qb (q_bin .add (ls.getD 0 .junk) (.int .i64 1)) fun v19 =>
   qb (q_load st true 4 (ls.getD 1 .junk)) fun v20 =>
   e_alloc st [.int .i64 0, .int .i64 0, .str [], .sl 0 true []] fun v6_1 st =>
   e_store st 4 v6_1 v20 fun st =>
   qb (q_fa 3 v6_1) fun v14 =>
   qb (q_load st false 1 v14) fun v15 =>
   qb (q_ia 4 v15 (.int .i64 1)) fun v16 =>
   qb (q_load st true 4 v16) fun v17 =>
   e_store st 4 v6_1 v17 fun st =>
   X [v19, v6_1] st)
   (qb (q_load st true 4 v2) fun v21 =>
   callK prog n_spec_l01Lift [v21, (.int .i64 0), (ls.getD 0 .junk)] st (fun v23 st =>
   e_alloc st [.int .i64 0, .int .i64 0, .str [], .sl 0 true []] fun v7 st =>
   e_store st 4 v7 v23 fun st =>
   qb (q_lit 4 0 0 [] []) fun v24 =>
   qb (q_fa 3 v7) fun v25 =>
   qb (q_load st false 1 v25) fun v26 =>
   e_append st 4 56 v24 v26 (fun v27 st =>
   qb (q_bin .sub (ls.getD 0 .junk) (.int .i64 1)) fun v29 =>
   hFix (fun ls_1 st X_1 =>
    qb (q_bin .geq (ls_1.getD 1 .junk) (.int .i64 0)) fun v31 =>
    cb v31 fun b_1 => br b_1
     (qb (q_fa 3 v3) fun v37 =>
     qb (q_load st false 1 v37) fun v38 =>
     qb (q_ia 4 v38 (.int .i64 0)) fun v39 =>
     qb (q_load st true 4 v39) fun v40 =>
     callK prog n_spec_l01Var [(ls_1.getD 1 .junk), (.sl 0 true [])] st (fun v36 st =>
     q_load st true 4 v39 = some v40 ∧ q_load st false 1 v37 = some v38 ∧ (callK prog n_spec_l03Long [v36, v40] st (fun v41 st =>
     qb (q_lit 4 1 0 [] [(0, v41)]) fun v42 =>
     e_append st 4 56 (ls_1.getD 0 .junk) v42 (fun v43 st =>
     qb (q_fa 3 v3) fun v44 =>
     qb (q_load st false 1 v44) fun v45 =>
     qb (q_ia 4 v45 (.int .i64 1)) fun v46 =>
     qb (q_load st true 4 v46) fun v47 =>
     e_store st 4 v3 v47 fun st =>
     qb (q_bin .sub (ls_1.getD 1 .junk) (.int .i64 1)) fun v33 =>
     X_1 [v43, v33] st)) (panR R))) (panR R))
     (qb (q_load st true 4 v7) fun v48 =>
     callK prog n_spec_l01With [v48, (ls_1.getD 0 .junk)] st (fun v50 st =>
     e_store st 4 v7 v50 fun st =>
     hFix (fun ls_2 st X_2 =>
      qb (q_bin .gtr (ls_2.getD 0 .junk) (.int .i64 0)) fun v52 =>
      cb v52 fun b_2 => br b_2
       (qb (q_load st true 4 v7) fun v55 =>
       callK prog n_spec_l01Lam [v55] st (fun v56 st =>
       e_store st 4 v7 v56 fun st =>
       qb (q_bin .sub (ls_2.getD 0 .junk) (.int .i64 1)) fun v54 =>
       X_2 [v54] st) (panR R))
       (qb (q_load st true 4 v7) fun v57 =>
       e_store st 4 v4 v57 fun st =>
       qb (q_load st true 4 v4) fun r => retR R r st))
      [(ls.getD 0 .junk)] st) (panR R)))
    [v27, v29] st)) (panR R)))
  [(.int .i64 0), v6] st
theorem e_spec_l03Long : Enters prog n_spec_l03Long := ⟨Go.Proofs.Tryd.f84, by kernel_rfl, by kernel_rfl, by kernel_rfl⟩
theorem c_spec_l03Long {a0 a1 : PV} {st : St} {R : Res → St → Prop} (h : b_spec_l03Long a0 a1 st R) : HCalls prog n_spec_l03Long [a0, a1] st R :=
 hcalls_of_func tyOK mixed (fn := Go.Proofs.Tryd.f84) (by kernel_rfl) (by kernel_rfl) (by kernel_rfl) (ann := [(64, [5]), (44, [8, 9]), (12, [5, 6])])
  (show hFunc prog TT [(64, [5]), (44, [8, 9]), (12, [5, 6])] Go.Proofs.Tryd.f84 [a0, a1] st R from (show hFunc prog TT [(64, [5]), (44, [8, 9]), (12, [5, 6])] Go.Proofs.Tryd.f84 [a0, a1] st R = b_spec_l03Long a0 a1 st R by kernel_rfl) ▸ h)
def b_spec_l01Var (a0 a1 : PV) (st : St) (R : Res → St → Prop) : Prop :=
 e_alloc st [.int .i64 0, .int .i64 0, .str [], .sl 0 true []] fun v4 st =>
 qb (q_struct [.int .i64 0, .int .i64 0, .str [], .sl 0 true []] [(0, 1, (.int .i64 5)), (1, 1, a0), (3, 1, a1)]) fun v7 =>
 e_store st 4 v4 v7 fun st =>
 qb (q_load st true 4 v4) fun r => retR R r st
theorem e_spec_l01Var : Enters prog n_spec_l01Var := ⟨Go.Proofs.Tryd.f85, by kernel_rfl, by kernel_rfl, by kernel_rfl⟩
theorem c_spec_l01Var {a0 a1 : PV} {st : St} {R : Res → St → Prop} (h : b_spec_l01Var a0 a1 st R) : HCalls prog n_spec_l01Var [a0, a1] st R :=
 hcalls_of_func tyOK mixed (fn := Go.Proofs.Tryd.f85) (by kernel_rfl) (by kernel_rfl) (by kernel_rfl) (ann := [])
  (show hFunc prog TT [] Go.Proofs.Tryd.f85 [a0, a1] st R from (show hFunc prog TT [] Go.Proofs.Tryd.f85 [a0, a1] st R = b_spec_l01Var a0 a1 st R by kernel_rfl) ▸ h)
def b_impl_Tree_binds (a0 a1 : PV) (st : St) (R : Res → St → Prop) : Prop :=
 qb (q_nil a0) fun v6 =>
 qb (q_fa 0 v6) fun v7 =>
 qb (q_load st false 1 v7) fun v8 =>
 qb (q_bin .eql v8 (.int .i64 4)) fun v9 =>
 cb v9 fun b => br b
  (retR R (.bool true) st)
  (qb (q_nil a0) fun v12 =>
  qb (q_fa 0 v12) fun v13 =>
  qb (q_load st false 1 v13) fun v14 =>
  qb (q_bin .eql v14 (.int .i64 2)) fun v15 =>
  cb v15 fun b_1 => br b_1
   (qb (q_bin .eql a1 (.int .i64 1)) fun v18 =>
   retR R v18 st)
   (retR R (.bool false) st))
theorem e_impl_Tree_binds : Enters prog n_impl_Tree_binds := ⟨Go.Proofs.Tryd.f86, by kernel_rfl, by kernel_rfl, by kernel_rfl⟩
theorem c_impl_Tree_binds {a0 a1 : PV} {st : St} {R : Res → St → Prop} (h : b_impl_Tree_binds a0 a1 st R) : HCalls prog n_impl_Tree_binds [a0, a1] st R :=
 hcalls_of_func tyOK mixed (fn := Go.Proofs.Tryd.f86) (by kernel_rfl) (by kernel_rfl) (by kernel_rfl) (ann := [])
  (show hFunc prog TT [] Go.Proofs.Tryd.f86 [a0, a1] st R from (show hFunc prog TT [] Go.Proofs.Tryd.f86 [a0, a1] st R = b_impl_Tree_binds a0 a1 st R by kernel_rfl) ▸ h)
def b_impl_longForm (a0 a1 : PV) (st : St) (R : Res → St → Prop) : Prop :=
 e_box st a0 fun v2 st =>
 e_box st a1 fun v3 st =>
 e_alloc st [.int .i64 0, .int .i64 0, .str [], .sl 0 true []] fun v4 st =>
 qb (q_load st true 4 v3) fun v12 =>
 callK prog n_impl_takes [v12] st (fun v13 st =>
 qb (q_ex v13 0) fun v14 =>
 qb (q_ex v13 1) fun v15 =>
 e_alloc st [.int .i64 0, .int .i64 0, .str [], .sl 0 true []] fun v6 st =>
 e_store st 4 v6 v15 fun st =>
 qb (q_len v14) fun v17 =>
 qb (q_load st true 4 v2) fun v18 =>
 callK prog n_impl_lift [v18, (.int .i64 0), v17] st (fun v20 st =>
 e_alloc st [.int .i64 0, .int .i64 0, .str [], .sl 0 true []] fun v8 st =>
 e_store st 4 v8 v20 fun st =>
 qb (q_len v14) fun v22 =>
 hFix (fun ls st X =>
  qb (q_bin .lss (ls.getD 0 .junk) v22) fun v24 =>
  cb v24 fun b => br b
   (qb (q_ia 4 v14 (ls.getD 0 .junk)) fun v26 =>
   qb (q_load st true 4 v26) fun v27 =>
   e_alloc st [.int .i64 0, .int .i64 0, .str [], .sl 0 true []] fun v10 st =>
   e_store st 4 v10 v27 fun st =>
   qb (q_fa 3 v8) fun v28 =>
   qb (q_load st false 1 v28) fun v29 =>
   qb (q_bin .sub v17 (.int .i64 1)) fun v31 =>
   qb (q_bin .sub v31 (ls.getD 0 .junk)) fun v33 =>
   qb (q_load st true 4 v10) fun v35 =>
   callK prog n_impl_variable [v33, (.sl 0 true [])] st (fun v34 st =>
   q_load st true 4 v10 = some v35 ∧ q_load st false 1 v28 = some v29 ∧ (callK prog n_impl_longForm [v34, v35] st (fun v36 st =>
   q_load st false 1 v28 = some v29 ∧ (qb (q_lit 4 1 0 [] [(0, v36)]) fun v37 =>
   e_append st 4 56 v29 v37 (fun v38 st =>
   qb (q_fa 3 v8) fun v39 =>
   e_store st 1 v39 v38 fun st =>
   qb (q_bin .add (ls.getD 0 .junk) (.int .i64 1)) fun v40 =>
   X [v40] st))) (panR R))) (panR R))
   (hFix (fun ls_1 st X_1 =>
    qb (q_bin .lss (ls_1.getD 0 .junk) v17) fun v43 =>
    cb v43 fun b_1 => br b_1
     (qb (q_load st true 4 v8) fun v44 =>
     callK prog n_impl_lam [v44] st (fun v45 st =>
     e_store st 4 v8 v45 fun st =>
     qb (q_bin .add (ls_1.getD 0 .junk) (.int .i64 1)) fun v46 =>
     X_1 [v46] st) (panR R))
     (qb (q_load st true 4 v8) fun v47 =>
     e_store st 4 v4 v47 fun st =>
     qb (q_load st true 4 v4) fun r => retR R r st))
    [(.int .i64 0)] st))
  [(.int .i64 0)] st) (panR R)) (panR R)
theorem e_impl_longForm : Enters prog n_impl_longForm := ⟨Go.Proofs.Tryd.f87, by kernel_rfl, by kernel_rfl, by kernel_rfl⟩
theorem c_impl_longForm {a0 a1 : PV} {st : St} {R : Res → St → Prop} (h : b_impl_longForm a0 a1 st R) : HCalls prog n_impl_longForm [a0, a1] st R :=
 hcalls_of_func tyOK mixed (fn := Go.Proofs.Tryd.f87) (by kernel_rfl) (by kernel_rfl) (by kernel_rfl) (ann := [(40, [42]), (20, [23])])
  (show hFunc prog TT [(40, [42]), (20, [23])] Go.Proofs.Tryd.f87 [a0, a1] st R from (show hFunc prog TT [(40, [42]), (20, [23])] Go.Proofs.Tryd.f87 [a0, a1] st R = b_impl_longForm a0 a1 st R by kernel_rfl) ▸ h)
def b_impl_variable (a0 a1 : PV) (st : St) (R : Res → St → Prop) : Prop :=
 e_alloc st [.int .i64 0, .int .i64 0, .str [], .sl 0 true []] fun v4 st =>
 qb (q_struct [.int .i64 0, .int .i64 0, .str [], .sl 0 true []] [(0, 1, (.int .i64 5)), (1, 1, a0), (3, 1, a1)]) fun v7 =>
 e_store st 4 v4 v7 fun st =>
 qb (q_load st true 4 v4) fun r => retR R r st
theorem e_impl_variable : Enters prog n_impl_variable := ⟨Go.Proofs.Tryd.f88, by kernel_rfl, by kernel_rfl, by kernel_rfl⟩
theorem c_impl_variable {a0 a1 : PV} {st : St} {R : Res → St → Prop} (h : b_impl_variable a0 a1 st R) : HCalls prog n_impl_variable [a0, a1] st R :=
 hcalls_of_func tyOK mixed (fn := Go.Proofs.Tryd.f88) (by kernel_rfl) (by kernel_rfl) (by kernel_rfl) (ann := [])
  (show hFunc prog TT [] Go.Proofs.Tryd.f88 [a0, a1] st R from (show hFunc prog TT [] Go.Proofs.Tryd.f88 [a0, a1] st R = b_impl_variable a0 a1 st R by kernel_rfl) ▸ h)
def b_slices_Index_int_int (a0 a1 : PV) (st : St) (R : Res → St → Prop) : Prop :=
 qb (q_len a0) fun v7 =>
 hFix (fun ls st X =>
  qb (q_bin .lss (ls.getD 0 .junk) v7) fun v9 =>
  cb v9 fun b => br b
   (qb (q_ia 1 a0 (ls.getD 0 .junk)) fun v14 =>
   qb (q_load st false 1 v14) fun v15 =>
   qb (q_bin .eql a1 v15) fun v16 =>
   cb v16 fun b_1 => br b_1
    (retR R (ls.getD 0 .junk) st)
    (qb (q_bin .add (ls.getD 0 .junk) (.int .i64 1)) fun v18 =>
    X [v18] st))
   (retR R (.int .i64 (-1)) st))
  [(.int .i64 0)] st
theorem e_slices_Index_int_int : Enters prog n_slices_Index_int_int := ⟨Go.Proofs.Tryd.f89, by kernel_rfl, by kernel_rfl, by kernel_rfl⟩
theorem c_slices_Index_int_int {a0 a1 : PV} {st : St} {R : Res → St → Prop} (h : b_slices_Index_int_int a0 a1 st R) : HCalls prog n_slices_Index_int_int [a0, a1] st R :=
 hcalls_of_func tyOK mixed (fn := Go.Proofs.Tryd.f89) (by kernel_rfl) (by kernel_rfl) (by kernel_rfl) (ann := [(8, [8])])
  (show hFunc prog TT [(8, [8])] Go.Proofs.Tryd.f89 [a0, a1] st R from (show hFunc prog TT [(8, [8])] Go.Proofs.Tryd.f89 [a0, a1] st R = b_slices_Index_int_int a0 a1 st R by kernel_rfl) ▸ h)
def b_strings_IndexByte (a0 a1 : PV) (st : St) (R : Res → St → Prop) : Prop :=
 callK prog n_internal_stringslite_IndexByte [a0, a1] st (fun v7 st =>
 retR R v7 st) (panR R)
theorem e_strings_IndexByte : Enters prog n_strings_IndexByte := ⟨Go.Proofs.Tryd.f90, by kernel_rfl, by kernel_rfl, by kernel_rfl⟩
theorem c_strings_IndexByte {a0 a1 : PV} {st : St} {R : Res → St → Prop} (h : b_strings_IndexByte a0 a1 st R) : HCalls prog n_strings_IndexByte [a0, a1] st R :=
 hcalls_of_func tyOK mixed (fn := Go.Proofs.Tryd.f90) (by kernel_rfl) (by kernel_rfl) (by kernel_rfl) (ann := [])
  (show hFunc prog TT [] Go.Proofs.Tryd.f90 [a0, a1] st R from (show hFunc prog TT [] Go.Proofs.Tryd.f90 [a0, a1] st R = b_strings_IndexByte a0 a1 st R by kernel_rfl) ▸ h)
def b_internal_stringslite_HasPrefix (a0 a1 : PV) (st : St) (R : Res → St → Prop) : Prop :=
 qb (q_lenS a0) fun v6 =>
 qb (q_lenS a1) fun v8 =>
 qb (q_bin .geq v6 v8) fun v9 =>
 cb v9 fun b => br b
  (qb (q_lenS a1) fun v13 =>
  qb (q_sliceS a0 none (some v13) none) fun v14 =>
  qb (q_bin .eql v14 a1) fun v16 =>
  retR R v16 st)
  (retR R (.bool false) st)
theorem e_internal_stringslite_HasPrefix : Enters prog n_internal_stringslite_HasPrefix := ⟨Go.Proofs.Tryd.f91, by kernel_rfl, by kernel_rfl, by kernel_rfl⟩
theorem c_internal_stringslite_HasPrefix {a0 a1 : PV} {st : St} {R : Res → St → Prop} (h : b_internal_stringslite_HasPrefix a0 a1 st R) : HCalls prog n_internal_stringslite_HasPrefix [a0, a1] st R :=
 hcalls_of_func tyOK mixed (fn := Go.Proofs.Tryd.f91) (by kernel_rfl) (by kernel_rfl) (by kernel_rfl) (ann := [])
  (show hFunc prog TT [] Go.Proofs.Tryd.f91 [a0, a1] st R from (show hFunc prog TT [] Go.Proofs.Tryd.f91 [a0, a1] st R = b_internal_stringslite_HasPrefix a0 a1 st R by kernel_rfl) ▸ h)
def b_strings_trimLeftByte (a0 a1 : PV) (st : St) (R : Res → St → Prop) : Prop :=
 hFix (fun ls st X =>
  qb (q_lenS (ls.getD 0 .junk)) fun v6 =>
  qb (q_bin .gtr v6 (.int .i64 0)) fun v7 =>
  cb v7 fun b => br b
   (qb (q_ix (ls.getD 0 .junk) (.int .i64 0)) fun v10 =>
   qb (q_bin .eql v10 a1) fun v12 =>
   cb v12 fun b_1 => br b_1
    (qb (q_sliceS (ls.getD 0 .junk) (some (.int .i64 1)) none none) fun v15 =>
    X [v15] st)
    (retR R (ls.getD 0 .junk) st))
   (retR R (ls.getD 0 .junk) st))
  [a0] st
theorem e_strings_trimLeftByte : Enters prog n_strings_trimLeftByte := ⟨Go.Proofs.Tryd.f92, by kernel_rfl, by kernel_rfl, by kernel_rfl⟩
theorem c_strings_trimLeftByte {a0 a1 : PV} {st : St} {R : Res → St → Prop} (h : b_strings_trimLeftByte a0 a1 st R) : HCalls prog n_strings_trimLeftByte [a0, a1] st R :=
 hcalls_of_func tyOK mixed (fn := Go.Proofs.Tryd.f92) (by kernel_rfl) (by kernel_rfl) (by kernel_rfl) (ann := [(4, [0])])
  (show hFunc prog TT [(4, [0])] Go.Proofs.Tryd.f92 [a0, a1] st R from (show hFunc prog TT [(4, [0])] Go.Proofs.Tryd.f92 [a0, a1] st R = b_strings_trimLeftByte a0 a1 st R by kernel_rfl) ▸ h)
def b_strings_trimRightByte (a0 a1 : PV) (st : St) (R : Res → St → Prop) : Prop :=
 hFix (fun ls st X =>
  hJ (fun ls_1 st =>
   cb (ls_1.getD 0 .junk) fun b => br b
    (qb (q_lenS (ls.getD 0 .junk)) fun v19 =>
    qb (q_bin .sub v19 (.int .i64 1)) fun v20 =>
    qb (q_sliceS (ls.getD 0 .junk) none (some v20) none) fun v21 =>
    X [v21] st)
    (retR R (ls.getD 0 .junk) st))
   (fun k =>
  qb (q_lenS (ls.getD 0 .junk)) fun v6 =>
  qb (q_bin .gtr v6 (.int .i64 0)) fun v7 =>
  cb v7 fun b_1 => br b_1
   (qb (q_lenS (ls.getD 0 .junk)) fun v11 =>
   qb (q_bin .sub v11 (.int .i64 1)) fun v12 =>
   qb (q_ix (ls.getD 0 .junk) v12) fun v13 =>
   qb (q_bin .eql v13 a1) fun v15 =>
   k [v15] st)
   (k [(.bool false)] st)))
  [a0] st
theorem e_strings_trimRightByte : Enters prog n_strings_trimRightByte := ⟨Go.Proofs.Tryd.f93, by kernel_rfl, by kernel_rfl, by kernel_rfl⟩
theorem c_strings_trimRightByte {a0 a1 : PV} {st : St} {R : Res → St → Prop} (h : b_strings_trimRightByte a0 a1 st R) : HCalls prog n_strings_trimRightByte [a0, a1] st R :=
 hcalls_of_func tyOK mixed (fn := Go.Proofs.Tryd.f93) (by kernel_rfl) (by kernel_rfl) (by kernel_rfl) (ann := [(4, [0]), (5, [16])])
  (show hFunc prog TT [(4, [0]), (5, [16])] Go.Proofs.Tryd.f93 [a0, a1] st R from (show hFunc prog TT [(4, [0]), (5, [16])] Go.Proofs.Tryd.f93 [a0, a1] st R = b_strings_trimRightByte a0 a1 st R by kernel_rfl) ▸ h)
def b_strings_trimLeftASCII (a0 a1 : PV) (st : St) (R : Res → St → Prop) : Prop :=
 hFix (fun ls st X =>
  qb (q_lenS (ls.getD 0 .junk)) fun v6 =>
  qb (q_bin .gtr v6 (.int .i64 0)) fun v7 =>
  cb v7 fun b => br b
   (qb (q_ix (ls.getD 0 .junk) (.int .i64 0)) fun v10 =>
   callK prog n_strings_asciiSet_contains [a1, v10] st (fun v11 st =>
   qb (q_un .not v11) fun v12 =>
   cb v12 fun b_1 => br b_1
    (retR R (ls.getD 0 .junk) st)
    (qb (q_sliceS (ls.getD 0 .junk) (some (.int .i64 1)) none none) fun v14 =>
    X [v14] st)) (panR R))
   (retR R (ls.getD 0 .junk) st))
  [a0] st
theorem e_strings_trimLeftASCII : Enters prog n_strings_trimLeftASCII := ⟨Go.Proofs.Tryd.f95, by kernel_rfl, by kernel_rfl, by kernel_rfl⟩
theorem c_strings_trimLeftASCII {a0 a1 : PV} {st : St} {R : Res → St → Prop} (h : b_strings_trimLeftASCII a0 a1 st R) : HCalls prog n_strings_trimLeftASCII [a0, a1] st R :=
 hcalls_of_func tyOK mixed (fn := Go.Proofs.Tryd.f95) (by kernel_rfl) (by kernel_rfl) (by kernel_rfl) (ann := [(4, [0])])
  (show hFunc prog TT [(4, [0])] Go.Proofs.Tryd.f95 [a0, a1] st R from (show hFunc prog TT [(4, [0])] Go.Proofs.Tryd.f95 [a0, a1] st R = b_strings_trimLeftASCII a0 a1 st R by kernel_rfl) ▸ h)
def b_strings_trimRightASCII (a0 a1 : PV) (st : St) (R : Res → St → Prop) : Prop :=
 hFix (fun ls st X =>
  qb (q_lenS (ls.getD 0 .junk)) fun v6 =>
  qb (q_bin .gtr v6 (.int .i64 0)) fun v7 =>
  cb v7 fun b => br b
   (qb (q_lenS (ls.getD 0 .junk)) fun v11 =>
   qb (q_bin .sub v11 (.int .i64 1)) fun v12 =>
   qb (q_ix (ls.getD 0 .junk) v12) fun v13 =>
   callK prog n_strings_asciiSet_contains [a1, v13] st (fun v14 st =>
   qb (q_un .not v14) fun v15 =>
   cb v15 fun b_1 => br b_1
    (retR R (ls.getD 0 .junk) st)
    (qb (q_lenS (ls.getD 0 .junk)) fun v18 =>
    qb (q_bin .sub v18 (.int .i64 1)) fun v19 =>
    qb (q_sliceS (ls.getD 0 .junk) none (some v19) none) fun v20 =>
    X [v20] st)) (panR R))
   (retR R (ls.getD 0 .junk) st))
  [a0] st
theorem e_strings_trimRightASCII : Enters prog n_strings_trimRightASCII := ⟨Go.Proofs.Tryd.f96, by kernel_rfl, by kernel_rfl, by kernel_rfl⟩
theorem c_strings_trimRightASCII {a0 a1 : PV} {st : St} {R : Res → St → Prop} (h : b_strings_trimRightASCII a0 a1 st R) : HCalls prog n_strings_trimRightASCII [a0, a1] st R :=
 hcalls_of_func tyOK mixed (fn := Go.Proofs.Tryd.f96) (by kernel_rfl) (by kernel_rfl) (by kernel_rfl) (ann := [(4, [0])])
  (show hFunc prog TT [(4, [0])] Go.Proofs.Tryd.f96 [a0, a1] st R from (show hFunc prog TT [(4, [0])] Go.Proofs.Tryd.f96 [a0, a1] st R = b_strings_trimRightASCII a0 a1 st R by kernel_rfl) ▸ h)
def b_strings_trimLeftUnicode (a0 a1 : PV) (st : St) (R : Res → St → Prop) : Prop :=
 hFix (fun ls st X =>
  qb (q_lenS (ls.getD 0 .junk)) fun v8 =>
  qb (q_bin .gtr v8 (.int .i64 0)) fun v9 =>
  cb v9 fun b => br b
   (callK prog n_unicode_utf8_DecodeRuneInString [(ls.getD 0 .junk)] st (fun v12 st =>
   qb (q_ex v12 0) fun v13 =>
   qb (q_ex v12 1) fun v14 =>
   callK prog n_strings_ContainsRune [a1, v13] st (fun v17 st =>
   qb (q_un .not v17) fun v18 =>
   cb v18 fun b_1 => br b_1
    (retR R (ls.getD 0 .junk) st)
    (qb (q_sliceS (ls.getD 0 .junk) (some v14) none none) fun v21 =>
    X [v21] st)) (panR R)) (panR R))
   (retR R (ls.getD 0 .junk) st))
  [a0] st
theorem e_strings_trimLeftUnicode : Enters prog n_strings_trimLeftUnicode := ⟨Go.Proofs.Tryd.f97, by kernel_rfl, by kernel_rfl, by kernel_rfl⟩
theorem c_strings_trimLeftUnicode {a0 a1 : PV} {st : St} {R : Res → St → Prop} (h : b_strings_trimLeftUnicode a0 a1 st R) : HCalls prog n_strings_trimLeftUnicode [a0, a1] st R :=
 hcalls_of_func tyOK mixed (fn := Go.Proofs.Tryd.f97) (by kernel_rfl) (by kernel_rfl) (by kernel_rfl) (ann := [(4, [0])])
  (show hFunc prog TT [(4, [0])] Go.Proofs.Tryd.f97 [a0, a1] st R from (show hFunc prog TT [(4, [0])] Go.Proofs.Tryd.f97 [a0, a1] st R = b_strings_trimLeftUnicode a0 a1 st R by kernel_rfl) ▸ h)
def b_strings_trimRightUnicode (a0 a1 : PV) (st : St) (R : Res → St → Prop) : Prop :=
 hFix (fun ls st X =>
  qb (q_lenS (ls.getD 0 .junk)) fun v8 =>
  qb (q_bin .gtr v8 (.int .i64 0)) fun v9 =>
  cb v9 fun b => br b
   (qb (q_lenS (ls.getD 0 .junk)) fun v12 =>
   qb (q_bin .sub v12 (.int .i64 1)) fun v13 =>
   qb (q_ix (ls.getD 0 .junk) v13) fun v14 =>
   qb (q_conv .i32 v14) fun v15 =>
   qb (q_bin .geq v15 (.int .i32 128)) fun v17 =>
   hJ (fun ls_1 st =>
    callK prog n_strings_ContainsRune [a1, (ls_1.getD 0 .junk)] st (fun v25 st =>
    qb (q_un .not v25) fun v26 =>
    cb v26 fun b_2 => br b_2
     (retR R (ls.getD 0 .junk) st)
     (qb (q_lenS (ls.getD 0 .junk)) fun v29 =>
     qb (q_bin .sub v29 (ls_1.getD 1 .junk)) fun v31 =>
     qb (q_sliceS (ls.getD 0 .junk) none (some v31) none) fun v32 =>
     X [v32] st)) (panR R))
    (fun k =>
   cb v17 fun b_1 => br b_1
    (callK prog n_unicode_utf8_DecodeLastRuneInString [(ls.getD 0 .junk)] st (fun v20 st =>
    qb (q_ex v20 0) fun v21 =>
    qb (q_ex v20 1) fun v22 =>
    k [v21, v22] st) (panR R))
    (k [v15, (.int .i64 1)] st)))
   (retR R (ls.getD 0 .junk) st))
  [a0] st
theorem e_strings_trimRightUnicode : Enters prog n_strings_trimRightUnicode := ⟨Go.Proofs.Tryd.f98, by kernel_rfl, by kernel_rfl, by kernel_rfl⟩
theorem c_strings_trimRightUnicode {a0 a1 : PV} {st : St} {R : Res → St → Prop} (h : b_strings_trimRightUnicode a0 a1 st R) : HCalls prog n_strings_trimRightUnicode [a0, a1] st R :=
 hcalls_of_func tyOK mixed (fn := Go.Proofs.Tryd.f98) (by kernel_rfl) (by kernel_rfl) (by kernel_rfl) (ann := [(4, [0]), (18, [5, 6])])
  (show hFunc prog TT [(4, [0]), (18, [5, 6])] Go.Proofs.Tryd.f98 [a0, a1] st R from (show hFunc prog TT [(4, [0]), (18, [5, 6])] Go.Proofs.Tryd.f98 [a0, a1] st R = b_strings_trimRightUnicode a0 a1 st R by kernel_rfl) ▸ h)
def b_spec_l01Lift (a0 a1 a2 : PV) (st : St) (R : Res → St → Prop) : Prop :=
 e_box st a0 fun v3 st =>
 e_alloc st [.int .i64 0, .int .i64 0, .str [], .sl 0 true []] fun v6 st =>
 qb (q_lit 4 0 0 [] []) fun v10 =>
 hJ (fun ls st =>
  qb (q_load st true 4 v3) fun v33 =>
  callK prog n_spec_l01With [v33, (ls.getD 0 .junk)] st (fun v35 st =>
  e_alloc st [.int .i64 0, .int .i64 0, .str [], .sl 0 true []] fun v9 st =>
  e_store st 4 v9 v35 fun st =>
  hJ (fun ls_1 st =>
   cb (ls_1.getD 0 .junk) fun b => br b
    (qb (q_fa 1 v9) fun v45 =>
    qb (q_load st false 1 v45) fun v46 =>
    qb (q_bin .add v46 a2) fun v48 =>
    qb (q_fa 1 v9) fun v49 =>
    e_store st 1 v49 v48 fun st =>
    qb (q_load st true 4 v9) fun v50 =>
    e_store st 4 v6 v50 fun st =>
    qb (q_load st true 4 v6) fun r => retR R r st)
    (qb (q_load st true 4 v9) fun v50_1 =>
    e_store st 4 v6 v50_1 fun st =>
    qb (q_load st true 4 v6) fun r_1 => retR R r_1 st))
   (fun k_1 =>
  qb (q_fa 0 v3) fun v36 =>
  qb (q_load st false 1 v36) fun v37 =>
  qb (q_bin .eql v37 (.int .i64 5)) fun v38 =>
  cb v38 fun b_1 => br b_1
   (qb (q_fa 1 v3) fun v40 =>
   qb (q_load st false 1 v40) fun v41 =>
   qb (q_bin .geq v41 a1) fun v43 =>
   k_1 [v43] st)
   (k_1 [(.bool false)] st))) (panR R))
  (fun k =>
 hFix (fun ls_2 st X =>
  qb (q_fa 3 v3) fun v12 =>
  qb (q_load st false 1 v12) fun v13 =>
  qb (q_len v13) fun v14 =>
  qb (q_bin .lss (ls_2.getD 1 .junk) v14) fun v15 =>
  cb v15 fun b_2 => br b_2
   (qb (q_fa 3 v3) fun v19 =>
   qb (q_load st false 1 v19) fun v20 =>
   qb (q_ia 4 v20 (ls_2.getD 1 .junk)) fun v22 =>
   qb (q_load st true 4 v22) fun v23 =>
   qb (q_load st true 4 v3) fun v25 =>
   callK prog n_spec_l01Under [v25, (ls_2.getD 1 .junk)] st (fun v27 st =>
   q_load st true 4 v22 = some v23 ∧ q_load st false 1 v19 = some v20 ∧ (qb (q_bin .add a1 v27) fun v28 =>
   callK prog n_spec_l01Lift [v23, v28, a2] st (fun v30 st =>
   qb (q_lit 4 1 0 [] [(0, v30)]) fun v31 =>
   e_append st 4 56 (ls_2.getD 0 .junk) v31 (fun v32 st =>
   qb (q_bin .add (ls_2.getD 1 .junk) (.int .i64 1)) fun v17 =>
   X [v32, v17] st)) (panR R))) (panR R))
   (k [(ls_2.getD 0 .junk)] st))
  [v10, (.int .i64 0)] st)
theorem e_spec_l01Lift : Enters prog n_spec_l01Lift := ⟨Go.Proofs.Tryd.f99, by kernel_rfl, by kernel_rfl, by kernel_rfl⟩
theorem c_spec_l01Lift {a0 a1 a2 : PV} {st : St} {R : Res → St → Prop} (h : b_spec_l01Lift a0 a1 a2 st R) : HCalls prog n_spec_l01Lift [a0, a1, a2] st R :=
 hcalls_of_func tyOK mixed (fn := Go.Proofs.Tryd.f99) (by kernel_rfl) (by kernel_rfl) (by kernel_rfl) (ann := [(12, [7, 8]), (3, [7]), (29, [44])])
  (show hFunc prog TT [(12, [7, 8]), (3, [7]), (29, [44])] Go.Proofs.Tryd.f99 [a0, a1, a2] st R from (show hFunc prog TT [(12, [7, 8]), (3, [7]), (29, [44])] Go.Proofs.Tryd.f99 [a0, a1, a2] st R = b_spec_l01Lift a0 a1 a2 st R by kernel_rfl) ▸ h)
def b_spec_l01With (a0 a1 : PV) (st : St) (R : Res → St → Prop) : Prop :=
 e_box st a0 fun v2 st =>
 e_alloc st [.int .i64 0, .int .i64 0, .str [], .sl 0 true []] fun v4 st =>
 qb (q_fa 0 v2) fun v5 =>
 qb (q_load st false 1 v5) fun v6 =>
 qb (q_fa 1 v2) fun v7 =>
 qb (q_load st false 1 v7) fun v8 =>
 qb (q_fa 2 v2) fun v9 =>
 qb (q_load st false 1 v9) fun v10 =>
 qb (q_struct [.int .i64 0, .int .i64 0, .str [], .sl 0 true []] [(0, 1, v6), (1, 1, v8), (2, 1, v10), (3, 1, a1)]) fun v12 =>
 e_store st 4 v4 v12 fun st =>
 qb (q_load st true 4 v4) fun r => retR R r st
theorem e_spec_l01With : Enters prog n_spec_l01With := ⟨Go.Proofs.Tryd.f100, by kernel_rfl, by kernel_rfl, by kernel_rfl⟩
theorem c_spec_l01With {a0 a1 : PV} {st : St} {R : Res → St → Prop} (h : b_spec_l01With a0 a1 st R) : HCalls prog n_spec_l01With [a0, a1] st R :=
 hcalls_of_func tyOK mixed (fn := Go.Proofs.Tryd.f100) (by kernel_rfl) (by kernel_rfl) (by kernel_rfl) (ann := [])
  (show hFunc prog TT [] Go.Proofs.Tryd.f100 [a0, a1] st R from (show hFunc prog TT [] Go.Proofs.Tryd.f100 [a0, a1] st R = b_spec_l01With a0 a1 st R by kernel_rfl) ▸ h)
def b_spec_l01Lam (a0 : PV) (st : St) (R : Res → St → Prop) : Prop :=
 e_box st a0 fun v1 st =>
 e_alloc st [.int .i64 0, .int .i64 0, .str [], .sl 0 true []] fun v2 st =>
 qb (q_load st true 4 v1) fun v3 =>
 qb (q_lit 4 1 0 [] [(0, v3)]) fun v4 =>
 qb (q_struct [.int .i64 0, .int .i64 0, .str [], .sl 0 true []] [(0, 1, (.int .i64 4)), (3, 1, v4)]) fun v5 =>
 e_store st 4 v2 v5 fun st =>
 qb (q_load st true 4 v2) fun r => retR R r st
theorem e_spec_l01Lam : Enters prog n_spec_l01Lam := ⟨Go.Proofs.Tryd.f101, by kernel_rfl, by kernel_rfl, by kernel_rfl⟩
theorem c_spec_l01Lam {a0 : PV} {st : St} {R : Res → St → Prop} (h : b_spec_l01Lam a0 st R) : HCalls prog n_spec_l01Lam [a0] st R :=
 hcalls_of_func tyOK mixed (fn := Go.Proofs.Tryd.f101) (by kernel_rfl) (by kernel_rfl) (by kernel_rfl) (ann := [])
  (show hFunc prog TT [] Go.Proofs.Tryd.f101 [a0] st R from (show hFunc prog TT [] Go.Proofs.Tryd.f101 [a0] st R = b_spec_l01Lam a0 st R by kernel_rfl) ▸ h)
def b_impl_lift (a0 a1 a2 : PV) (st : St) (R : Res → St → Prop) : Prop :=
 e_box st a0 fun v3 st =>
 e_box st a1 fun v4 st =>
 e_box st a2 fun v5 st =>
 e_alloc st [.int .i64 0, .int .i64 0, .str [], .sl 0 true []] fun v6 st =>
 qb (q_load st true 4 v3) fun v7 =>
 callK prog n_impl_turned [v7, (.int .i64 0), (.fn (.func n_impl_lift_1) [] [v4, v5])] st (fun v9 st =>
 e_store st 4 v6 v9 fun st =>
 qb (q_load st true 4 v6) fun r => retR R r st) (panR R)
theorem e_impl_lift : Enters prog n_impl_lift := ⟨Go.Proofs.Tryd.f102, by kernel_rfl, by kernel_rfl, by kernel_rfl⟩
theorem c_impl_lift {a0 a1 a2 : PV} {st : St} {R : Res → St → Prop} (h : b_impl_lift a0 a1 a2 st R) : HCalls prog n_impl_lift [a0, a1, a2] st R :=
 hcalls_of_func tyOK mixed (fn := Go.Proofs.Tryd.f102) (by kernel_rfl) (by kernel_rfl) (by kernel_rfl) (ann := [])
  (show hFunc prog TT [] Go.Proofs.Tryd.f102 [a0, a1, a2] st R from (show hFunc prog TT [] Go.Proofs.Tryd.f102 [a0, a1, a2] st R = b_impl_lift a0 a1 a2 st R by kernel_rfl) ▸ h)
def b_impl_lam (a0 : PV) (st : St) (R : Res → St → Prop) : Prop :=
 e_box st a0 fun v1 st =>
 e_alloc st [.int .i64 0, .int .i64 0, .str [], .sl 0 true []] fun v2 st =>
 qb (q_load st true 4 v1) fun v3 =>
 qb (q_lit 4 1 0 [] [(0, v3)]) fun v4 =>
 qb (q_struct [.int .i64 0, .int .i64 0, .str [], .sl 0 true []] [(0, 1, (.int .i64 4)), (3, 1, v4)]) fun v5 =>
 e_store st 4 v2 v5 fun st =>
 qb (q_load st true 4 v2) fun r => retR R r st
theorem e_impl_lam : Enters prog n_impl_lam := ⟨Go.Proofs.Tryd.f103, by kernel_rfl, by kernel_rfl, by kernel_rfl⟩
theorem c_impl_lam {a0 : PV} {st : St} {R : Res → St → Prop} (h : b_impl_lam a0 st R) : HCalls prog n_impl_lam [a0] st R :=
 hcalls_of_func tyOK mixed (fn := Go.Proofs.Tryd.f103) (by kernel_rfl) (by kernel_rfl) (by kernel_rfl) (ann := [])
  (show hFunc prog TT [] Go.Proofs.Tryd.f103 [a0] st R from (show hFunc prog TT [] Go.Proofs.Tryd.f103 [a0] st R = b_impl_lam a0 st R by kernel_rfl) ▸ h)
def b_internal_stringslite_IndexByte (a0 a1 : PV) (st : St) (R : Res → St → Prop) : Prop :=
 callK prog n_internal_bytealg_IndexByteString [a0, a1] st (fun v7 st =>
 retR R v7 st) (panR R)
theorem e_internal_stringslite_IndexByte : Enters prog n_internal_stringslite_IndexByte := ⟨Go.Proofs.Tryd.f104, by kernel_rfl, by kernel_rfl, by kernel_rfl⟩
theorem c_internal_stringslite_IndexByte {a0 a1 : PV} {st : St} {R : Res → St → Prop} (h : b_internal_stringslite_IndexByte a0 a1 st R) : HCalls prog n_internal_stringslite_IndexByte [a0, a1] st R :=
 hcalls_of_func tyOK mixed (fn := Go.Proofs.Tryd.f104) (by kernel_rfl) (by kernel_rfl) (by kernel_rfl) (ann := [])
  (show hFunc prog TT [] Go.Proofs.Tryd.f104 [a0, a1] st R from (show hFunc prog TT [] Go.Proofs.Tryd.f104 [a0, a1] st R = b_internal_stringslite_IndexByte a0 a1 st R by kernel_rfl) ▸ h)
end Go.H.Tryd
