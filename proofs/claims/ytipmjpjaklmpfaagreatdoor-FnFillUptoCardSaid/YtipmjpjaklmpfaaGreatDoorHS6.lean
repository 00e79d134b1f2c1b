/- Part of a proof that the program answers as the reference does: ZGS6. -/
import Derived.Test.YtipmjpjaklmpfaaGreatDoorHT
set_option linter.unusedVariables false
set_option maxRecDepth 100000
namespace Go.H.Tryz
open Go Go.H
def b_impl_simpler_typeOf_1 (a0 a1 : PV) (st : St) (R : Res → St → Prop) : Prop :=
 e_box st a0 fun v2 st =>
 qb (q_fa 0 v2) fun v4 =>
 qb (q_load st false 1 v4) fun v5 =>
 qb (q_fa 2 a1) fun v6 =>
 qb (q_load st false 1 v6) fun v7 =>
 qb (q_bin .eql v5 v7) fun v8 =>
 retR R v8 st
theorem c_impl_simpler_typeOf_1 {a0 a1 : PV} {st : St} {R : Res → St → Prop} (h : b_impl_simpler_typeOf_1 a0 a1 st R) : HCalls prog n_impl_simpler_typeOf_1 [a0, a1] st R :=
 hcalls_of_func tyOK mixed (fn := Go.Proofs.Tryz.f124) (by kernel_rfl) (by kernel_rfl) (by kernel_rfl) (ann := [])
  (show hFunc prog TT [] Go.Proofs.Tryz.f124 [a0, a1] st R from (show hFunc prog TT [] Go.Proofs.Tryz.f124 [a0, a1] st R = b_impl_simpler_typeOf_1 a0 a1 st R by kernel_rfl) ▸ h)
def b_spec_l06Args (a0 : PV) (st : St) (R : Res → St → Prop) : Prop :=
 e_box st a0 fun v1 st =>
 qb (q_lit 4 0 0 [] []) fun v4 =>
 hFix (fun ls st X =>
  qb (q_fa 0 v1) fun v5 =>
  qb (q_load st false 1 v5) fun v6 =>
  qb (q_bin .eql v6 (.int .i64 10)) fun v7 =>
  cb v7 fun b => br b
   (qb (q_fa 3 v1) fun v13 =>
   qb (q_load st false 1 v13) fun v14 =>
   qb (q_ia 4 v14 (.int .i64 0)) fun v15 =>
   qb (q_load st true 4 v15) fun v16 =>
   qb (q_lit 4 1 0 [] [(0, v16)]) fun v17 =>
   e_append st 4 56 (ls.getD 0 .junk) v17 (fun v18 st =>
   qb (q_fa 3 v1) fun v8 =>
   qb (q_load st false 1 v8) fun v9 =>
   qb (q_ia 4 v9 (.int .i64 1)) fun v10 =>
   qb (q_load st true 4 v10) fun v11 =>
   e_store st 4 v1 v11 fun st =>
   X [v18] st))
   (retR R (ls.getD 0 .junk) st))
  [v4] st
theorem c_spec_l06Args {a0 : PV} {st : St} {R : Res → St → Prop} (h : b_spec_l06Args a0 st R) : HCalls prog n_spec_l06Args [a0] st R :=
 hcalls_of_func tyOK mixed (fn := Go.Proofs.Tryz.f125) (by kernel_rfl) (by kernel_rfl) (by kernel_rfl) (ann := [(8, [3])])
  (show hFunc prog TT [(8, [3])] Go.Proofs.Tryz.f125 [a0] st R from (show hFunc prog TT [(8, [3])] Go.Proofs.Tryz.f125 [a0] st R = b_spec_l06Args a0 st R by kernel_rfl) ▸ h)
def b_spec_l06Place (a0 a1 : PV) (st : St) (R : Res → St → Prop) : Prop :=
 hFix (fun ls st X =>
  qb (q_len a0) fun v8 =>
  qb (q_bin .lss (ls.getD 0 .junk) v8) fun v9 =>
  cb v9 fun b => br b
   (qb (q_ia 1 a0 (ls.getD 0 .junk)) fun v14 =>
   qb (q_load st false 1 v14) fun v15 =>
   qb (q_bin .eql v15 a1) fun v17 =>
   cb v17 fun b_1 => br b_1
    (retR R (ls.getD 0 .junk) st)
    (qb (q_bin .add (ls.getD 0 .junk) (.int .i64 1)) fun v11 =>
    X [v11] st))
   (retR R (.int .i64 (-1)) st))
  [(.int .i64 0)] st
theorem c_spec_l06Place {a0 a1 : PV} {st : St} {R : Res → St → Prop} (h : b_spec_l06Place a0 a1 st R) : HCalls prog n_spec_l06Place [a0, a1] st R :=
 hcalls_of_func tyOK mixed (fn := Go.Proofs.Tryz.f126) (by kernel_rfl) (by kernel_rfl) (by kernel_rfl) (ann := [(8, [5])])
  (show hFunc prog TT [(8, [5])] Go.Proofs.Tryz.f126 [a0, a1] st R from (show hFunc prog TT [(8, [5])] Go.Proofs.Tryz.f126 [a0, a1] st R = b_spec_l06Place a0 a1 st R by kernel_rfl) ▸ h)
def b_spec_l01Same (a0 a1 : PV) (st : St) (R : Res → St → Prop) : Prop :=
 e_box st a0 fun v2 st =>
 e_box st a1 fun v3 st =>
 qb (q_fa 0 v2) fun v6 =>
 qb (q_load st false 1 v6) fun v7 =>
 qb (q_fa 0 v3) fun v8 =>
 qb (q_load st false 1 v8) fun v9 =>
 qb (q_bin .neq v7 v9) fun v10 =>
 cb v10 fun b => br b
  (retR R (.bool false) st)
  (qb (q_fa 1 v2) fun v12 =>
  qb (q_load st false 1 v12) fun v13 =>
  qb (q_fa 1 v3) fun v14 =>
  qb (q_load st false 1 v14) fun v15 =>
  qb (q_bin .neq v13 v15) fun v16 =>
  cb v16 fun b_1 => br b_1
   (retR R (.bool false) st)
   (qb (q_fa 2 v2) fun v19 =>
   qb (q_load st false 1 v19) fun v20 =>
   qb (q_fa 2 v3) fun v21 =>
   qb (q_load st false 1 v21) fun v22 =>
   qb (q_bin .neq v20 v22) fun v23 =>
   cb v23 fun b_2 => br b_2
    (retR R (.bool false) st)
    (qb (q_fa 3 v2) fun v26 =>
    qb (q_load st false 1 v26) fun v27 =>
    qb (q_len v27) fun v28 =>
    qb (q_fa 3 v3) fun v29 =>
    qb (q_load st false 1 v29) fun v30 =>
    qb (q_len v30) fun v31 =>
    qb (q_bin .neq v28 v31) fun v32 =>
    cb v32 fun b_3 => br b_3
     (retR R (.bool false) st)
     (hFix (fun ls st X =>
      qb (q_fa 3 v2) fun v35 =>
      qb (q_load st false 1 v35) fun v36 =>
      qb (q_len v36) fun v37 =>
      qb (q_bin .lss (ls.getD 0 .junk) v37) fun v38 =>
      cb v38 fun b_4 => br b_4
       (qb (q_fa 3 v2) fun v41 =>
       qb (q_load st false 1 v41) fun v42 =>
       qb (q_ia 4 v42 (ls.getD 0 .junk)) fun v44 =>
       qb (q_load st true 4 v44) fun v45 =>
       qb (q_fa 3 v3) fun v46 =>
       qb (q_load st false 1 v46) fun v47 =>
       qb (q_ia 4 v47 (ls.getD 0 .junk)) fun v49 =>
       qb (q_load st true 4 v49) fun v50 =>
       callK prog n_spec_l01Same [v45, v50] st (fun v51 st =>
       qb (q_un .not v51) fun v52 =>
       cb v52 fun b_5 => br b_5
        (retR R (.bool false) st)
        (qb (q_bin .add (ls.getD 0 .junk) (.int .i64 1)) fun v40 =>
        X [v40] st)) (panR R))
       (retR R (.bool true) st))
      [(.int .i64 0)] st))))
theorem e_spec_l01Same : Enters prog n_spec_l01Same := ⟨Go.Proofs.Tryz.f127, by kernel_rfl, by kernel_rfl, by kernel_rfl⟩
theorem c_spec_l01Same {a0 a1 : PV} {st : St} {R : Res → St → Prop} (h : b_spec_l01Same a0 a1 st R) : HCalls prog n_spec_l01Same [a0, a1] st R :=
 hcalls_of_func tyOK mixed (fn := Go.Proofs.Tryz.f127) (by kernel_rfl) (by kernel_rfl) (by kernel_rfl) (ann := [(16, [5])])
  (show hFunc prog TT [(16, [5])] Go.Proofs.Tryz.f127 [a0, a1] st R from (show hFunc prog TT [(16, [5])] Go.Proofs.Tryz.f127 [a0, a1] st R = b_spec_l01Same a0 a1 st R by kernel_rfl) ▸ h)
def b_spec_l03Long (a0 a1 : PV) (st : St) (R : Res → St → Prop) : Prop :=
 e_box st a0 fun v2 st =>
 e_box st a1 fun v3 st =>
 e_alloc st [.int .i64 0, .int .i64 0, .str [], .sl 0 true []] fun v4 st =>
 qb (q_load st true 4 v3) fun v10 =>
 e_alloc st [.int .i64 0, .int .i64 0, .str [], .sl 0 true []] fun v6 st =>
 e_store st 4 v6 v10 fun st =>
 hFix (fun ls st X =>
  qb (q_fa 0 (ls.getD 1 .junk)) fun v11 =>
  qb (q_load st false 1 v11) fun v12 =>
  qb (q_bin .eql v12 (.int .i64 10)) fun v13 =>
  cb v13 fun b => br b
   (qb (q_bin .add (ls.getD 0 .junk) (.int .i64 1)) fun v19 =>
   qb (q_load st true 4 (ls.getD 1 .junk)) fun v20 =>
   e_alloc st [.int .i64 0, .int .i64 0, .str [], .sl 0 true []] fun v6_1 st =>
   e_store st 4 v6_1 v20 fun st =>
   qb (q_fa 3 v6_1) fun v14 =>
   qb (q_load st false 1 v14) fun v15 =>
   qb (q_ia 4 v15 (.int .i64 1)) fun v16 =>
   qb (q_load st true 4 v16) fun v17 =>
   e_store st 4 v6_1 v17 fun st =>
   X [v19, v6_1] st)
   (qb (q_load st true 4 v2) fun v21 =>
   callK prog n_spec_l01Lift [v21, (.int .i64 0), (ls.getD 0 .junk)] st (fun v23 st =>
   e_alloc st [.int .i64 0, .int .i64 0, .str [], .sl 0 true []] fun v7 st =>
   e_store st 4 v7 v23 fun st =>
   qb (q_lit 4 0 0 [] []) fun v24 =>
   qb (q_fa 3 v7) fun v25 =>
   qb (q_load st false 1 v25) fun v26 =>
   e_append st 4 56 v24 v26 (fun v27 st =>
   qb (q_bin .sub (ls.getD 0 .junk) (.int .i64 1)) fun v29 =>
   hFix (fun ls_1 st X_1 =>
    qb (q_bin .geq (ls_1.getD 1 .junk) (.int .i64 0)) fun v31 =>
    cb v31 fun b_1 => br b_1
     (qb (q_fa 3 v3) fun v37 =>
     qb (q_load st false 1 v37) fun v38 =>
     qb (q_ia 4 v38 (.int .i64 0)) fun v39 =>
     qb (q_load st true 4 v39) fun v40 =>
     callK prog n_spec_l01Var [(ls_1.getD 1 .junk), (.sl 0 true [])] st (fun v36 st =>
     q_load st true 4 v39 = some v40 ∧ q_load st false 1 v37 = some v38 ∧ (callK prog n_spec_l03Long [v36, v40] st (fun v41 st =>
     qb (q_lit 4 1 0 [] [(0, v41)]) fun v42 =>
     e_append st 4 56 (ls_1.getD 0 .junk) v42 (fun v43 st =>
     qb (q_fa 3 v3) fun v44 =>
     qb (q_load st false 1 v44) fun v45 =>
     qb (q_ia 4 v45 (.int .i64 1)) fun v46 =>
     qb (q_load st true 4 v46) fun v47 =>
     e_store st 4 v3 v47 fun st =>
     qb (q_bin .sub (ls_1.getD 1 .junk) (.int .i64 1)) fun v33 =>
     X_1 [v43, v33] st)) (panR R))) (panR R))
     (qb (q_load st true 4 v7) fun v48 =>
     callK prog n_spec_l01With [v48, (ls_1.getD 0 .junk)] st (fun v50 st =>
     e_store st 4 v7 v50 fun st =>
     hFix (fun ls_2 st X_2 =>
      qb (q_bin .gtr (ls_2.getD 0 .junk) (.int .i64 0)) fun v52 =>
      cb v52 fun b_2 => br b_2
       (qb (q_load st true 4 v7) fun v55 =>
       callK prog n_spec_l01Lam [v55] st (fun v56 st =>
       e_store st 4 v7 v56 fun st =>
       qb (q_bin .sub (ls_2.getD 0 .junk) (.int .i64 1)) fun v54 =>
       X_2 [v54] st) (panR R))
       (qb (q_load st true 4 v7) fun v57 =>
       e_store st 4 v4 v57 fun st =>
       qb (q_load st true 4 v4) fun r => retR R r st))
      [(ls.getD 0 .junk)] st) (panR R)))
    [v27, v29] st)) (panR R)))
  [(.int .i64 0), v6] st
theorem c_spec_l03Long {a0 a1 : PV} {st : St} {R : Res → St → Prop} (h : b_spec_l03Long a0 a1 st R) : HCalls prog n_spec_l03Long [a0, a1] st R :=
 hcalls_of_func tyOK mixed (fn := Go.Proofs.Tryz.f128) (by kernel_rfl) (by kernel_rfl) (by kernel_rfl) (ann := [(64, [5]), (44, [8, 9]), (12, [5, 6])])
  (show hFunc prog TT [(64, [5]), (44, [8, 9]), (12, [5, 6])] Go.Proofs.Tryz.f128 [a0, a1] st R from (show hFunc prog TT [(64, [5]), (44, [8, 9]), (12, [5, 6])] Go.Proofs.Tryz.f128 [a0, a1] st R = b_spec_l03Long a0 a1 st R by kernel_rfl) ▸ h)
def b_spec_l03Const (a0 a1 : PV) (st : St) (R : Res → St → Prop) : Prop :=
 hFix (fun ls st X =>
  qb (q_len a0) fun v8 =>
  qb (q_bin .lss (ls.getD 0 .junk) v8) fun v9 =>
  cb v9 fun b => br b
   (qb (q_ia 5 a0 (ls.getD 0 .junk)) fun v14 =>
   qb (q_fa 0 v14) fun v15 =>
   qb (q_load st false 1 v15) fun v16 =>
   qb (q_bin .eql v16 a1) fun v18 =>
   cb v18 fun b_1 => br b_1
    (retR R (ls.getD 0 .junk) st)
    (qb (q_bin .add (ls.getD 0 .junk) (.int .i64 1)) fun v11 =>
    X [v11] st))
   (retR R (.int .i64 (-1)) st))
  [(.int .i64 0)] st
theorem c_spec_l03Const {a0 a1 : PV} {st : St} {R : Res → St → Prop} (h : b_spec_l03Const a0 a1 st R) : HCalls prog n_spec_l03Const [a0, a1] st R :=
 hcalls_of_func tyOK mixed (fn := Go.Proofs.Tryz.f129) (by kernel_rfl) (by kernel_rfl) (by kernel_rfl) (ann := [(8, [5])])
  (show hFunc prog TT [(8, [5])] Go.Proofs.Tryz.f129 [a0, a1] st R from (show hFunc prog TT [(8, [5])] Go.Proofs.Tryz.f129 [a0, a1] st R = b_spec_l03Const a0 a1 st R by kernel_rfl) ▸ h)
def b_spec_l00Word (a0 : PV) (st : St) (R : Res → St → Prop) : Prop :=
 qb (q_lenS a0) fun v5 =>
 qb (q_bin .lss v5 (.int .i64 1)) fun v6 =>
 cb v6 fun b => br b
  (retR R (.bool false) st)
  (qb (q_lenS a0) fun v9 =>
  qb (q_bin .gtr v9 (.int .i64 40)) fun v10 =>
  cb v10 fun b_1 => br b_1
   (retR R (.bool false) st)
   (qb (q_ix a0 (.int .i64 0)) fun v14 =>
   callK prog n_spec_l00Letter [v14] st (fun v15 st =>
   qb (q_un .not v15) fun v16 =>
   cb v16 fun b_2 => br b_2
    (retR R (.bool false) st)
    (hFix (fun ls st X =>
     qb (q_lenS a0) fun v20 =>
     qb (q_bin .lss (ls.getD 0 .junk) v20) fun v21 =>
     cb v21 fun b_3 => br b_3
      (qb (q_ix a0 (ls.getD 0 .junk)) fun v26 =>
      callK prog n_spec_l00Letter [v26] st (fun v27 st =>
      qb (q_un .not v27) fun v28 =>
      cb v28 fun b_4 => br b_4
       (qb (q_ix a0 (ls.getD 0 .junk)) fun v32 =>
       callK prog n_spec_l00Digit [v32] st (fun v33 st =>
       qb (q_un .not v33) fun v34 =>
       cb v34 fun b_5 => br b_5
        (retR R (.bool false) st)
        (qb (q_bin .add (ls.getD 0 .junk) (.int .i64 1)) fun v23 =>
        X [v23] st)) (panR R))
       (qb (q_bin .add (ls.getD 0 .junk) (.int .i64 1)) fun v23_1 =>
       X [v23_1] st)) (panR R))
      (retR R (.bool true) st))
     [(.int .i64 1)] st)) (panR R)))
theorem c_spec_l00Word {a0 : PV} {st : St} {R : Res → St → Prop} (h : b_spec_l00Word a0 st R) : HCalls prog n_spec_l00Word [a0] st R :=
 hcalls_of_func tyOK mixed (fn := Go.Proofs.Tryz.f130) (by kernel_rfl) (by kernel_rfl) (by kernel_rfl) (ann := [(16, [3])])
  (show hFunc prog TT [(16, [3])] Go.Proofs.Tryz.f130 [a0] st R from (show hFunc prog TT [(16, [3])] Go.Proofs.Tryz.f130 [a0] st R = b_spec_l00Word a0 st R by kernel_rfl) ▸ h)
def b_spec_l00Digit (a0 : PV) (st : St) (R : Res → St → Prop) : Prop :=
 qb (q_bin .geq a0 (.int .u8 48)) fun v4 =>
 cb v4 fun b => br b
  (qb (q_bin .leq a0 (.int .u8 57)) fun v7 =>
  retR R v7 st)
  (retR R (.bool false) st)
theorem c_spec_l00Digit {a0 : PV} {st : St} {R : Res → St → Prop} (h : b_spec_l00Digit a0 st R) : HCalls prog n_spec_l00Digit [a0] st R :=
 hcalls_of_func tyOK mixed (fn := Go.Proofs.Tryz.f131) (by kernel_rfl) (by kernel_rfl) (by kernel_rfl) (ann := [])
  (show hFunc prog TT [] Go.Proofs.Tryz.f131 [a0] st R from (show hFunc prog TT [] Go.Proofs.Tryz.f131 [a0] st R = b_spec_l00Digit a0 st R by kernel_rfl) ▸ h)
def b_impl_tooBig_1 (a0 a1 a2 : PV) (st : St) (R : Res → St → Prop) : Prop :=
 qb (q_load st false 1 a2) fun v6 =>
 qb (q_bin .add v6 (.int .i64 1)) fun v7 =>
 e_store st 1 a2 v7 fun st =>
 qb (q_load st false 1 a2) fun v8 =>
 qb (q_bin .gtr v8 (.int .i64 150)) fun v9 =>
 cb v9 fun b => br b
  (retR R (.bool true) st)
  (qb (q_nil a0) fun v12 =>
  qb (q_fa 0 v12) fun v13 =>
  qb (q_load st false 1 v13) fun v14 =>
  qb (q_bin .eql v14 (.int .i64 5)) fun v15 =>
  cb v15 fun b_1 => br b_1
   (qb (q_nil a0) fun v18 =>
   qb (q_fa 1 v18) fun v19 =>
   qb (q_load st false 1 v19) fun v20 =>
   qb (q_bin .gtr v20 (.int .i64 100)) fun v21 =>
   retR R v21 st)
   (retR R (.bool false) st))
theorem c_impl_tooBig_1 {a0 a1 a2 : PV} {st : St} {R : Res → St → Prop} (h : b_impl_tooBig_1 a0 a1 a2 st R) : HCalls prog n_impl_tooBig_1 [a0, a1, a2] st R :=
 hcalls_of_func tyOK mixed (fn := Go.Proofs.Tryz.f132) (by kernel_rfl) (by kernel_rfl) (by kernel_rfl) (ann := [])
  (show hFunc prog TT [] Go.Proofs.Tryz.f132 [a0, a1, a2] st R from (show hFunc prog TT [] Go.Proofs.Tryz.f132 [a0, a1, a2] st R = b_impl_tooBig_1 a0 a1 a2 st R by kernel_rfl) ▸ h)
def b_impl_isHead (a0 : PV) (st : St) (R : Res → St → Prop) : Prop :=
 callK prog n_strings_IndexByte [(.str [97, 98, 99, 100, 101, 102, 103, 104, 105, 106, 107, 108, 109, 110, 111, 112, 113, 114, 115, 116, 117, 118, 119, 120, 121, 122, 65, 66, 67, 68, 69, 70, 71, 72, 73, 74, 75, 76, 77, 78, 79, 80, 81, 82, 83, 84, 85, 86, 87, 88, 89, 90, 95]), a0] st (fun v4 st =>
 qb (q_bin .geq v4 (.int .i64 0)) fun v5 =>
 retR R v5 st) (panR R)
theorem c_impl_isHead {a0 : PV} {st : St} {R : Res → St → Prop} (h : b_impl_isHead a0 st R) : HCalls prog n_impl_isHead [a0] st R :=
 hcalls_of_func tyOK mixed (fn := Go.Proofs.Tryz.f133) (by kernel_rfl) (by kernel_rfl) (by kernel_rfl) (ann := [])
  (show hFunc prog TT [] Go.Proofs.Tryz.f133 [a0] st R from (show hFunc prog TT [] Go.Proofs.Tryz.f133 [a0] st R = b_impl_isHead a0 st R by kernel_rfl) ▸ h)
def b_internal_stringslite_CutPrefix (a0 a1 : PV) (st : St) (R : Res → St → Prop) : Prop :=
 callK prog n_internal_stringslite_HasPrefix [a0, a1] st (fun v8 st =>
 qb (q_un .not v8) fun v9 =>
 cb v9 fun b => br b
  (retR R (.tup [a0, (.bool false)]) st)
  (qb (q_lenS a1) fun v13 =>
  qb (q_sliceS a0 (some v13) none none) fun v14 =>
  retR R (.tup [v14, (.bool true)]) st)) (panR R)
theorem c_internal_stringslite_CutPrefix {a0 a1 : PV} {st : St} {R : Res → St → Prop} (h : b_internal_stringslite_CutPrefix a0 a1 st R) : HCalls prog n_internal_stringslite_CutPrefix [a0, a1] st R :=
 hcalls_of_func tyOK mixed (fn := Go.Proofs.Tryz.f134) (by kernel_rfl) (by kernel_rfl) (by kernel_rfl) (ann := [])
  (show hFunc prog TT [] Go.Proofs.Tryz.f134 [a0, a1] st R from (show hFunc prog TT [] Go.Proofs.Tryz.f134 [a0, a1] st R = b_internal_stringslite_CutPrefix a0 a1 st R by kernel_rfl) ▸ h)
theorem e_strings_Trim : Enters prog n_strings_Trim := ⟨Go.Proofs.Tryz.f135, by kernel_rfl, by kernel_rfl, by kernel_rfl⟩
def b_spec_l00Letter (a0 : PV) (st : St) (R : Res → St → Prop) : Prop :=
 qb (q_bin .geq a0 (.int .u8 97)) fun v4 =>
 cb v4 fun b => br b
  (qb (q_bin .leq a0 (.int .u8 122)) fun v7 =>
  cb v7 fun b_1 => br b_1
   (retR R (.bool true) st)
   (qb (q_bin .geq a0 (.int .u8 65)) fun v11 =>
   cb v11 fun b_2 => br b_2
    (qb (q_bin .leq a0 (.int .u8 90)) fun v14 =>
    cb v14 fun b_3 => br b_3
     (retR R (.bool true) st)
     (qb (q_bin .eql a0 (.int .u8 95)) fun v19 =>
     retR R v19 st))
    (qb (q_bin .eql a0 (.int .u8 95)) fun v19_1 =>
    retR R v19_1 st)))
  (qb (q_bin .geq a0 (.int .u8 65)) fun v11_1 =>
  cb v11_1 fun b_4 => br b_4
   (qb (q_bin .leq a0 (.int .u8 90)) fun v14_1 =>
   cb v14_1 fun b_5 => br b_5
    (retR R (.bool true) st)
    (qb (q_bin .eql a0 (.int .u8 95)) fun v19_2 =>
    retR R v19_2 st))
   (qb (q_bin .eql a0 (.int .u8 95)) fun v19_3 =>
   retR R v19_3 st))
theorem c_spec_l00Letter {a0 : PV} {st : St} {R : Res → St → Prop} (h : b_spec_l00Letter a0 st R) : HCalls prog n_spec_l00Letter [a0] st R :=
 hcalls_of_func tyOK mixed (fn := Go.Proofs.Tryz.f136) (by kernel_rfl) (by kernel_rfl) (by kernel_rfl) (ann := [])
  (show hFunc prog TT [] Go.Proofs.Tryz.f136 [a0] st R from (show hFunc prog TT [] Go.Proofs.Tryz.f136 [a0] st R = b_spec_l00Letter a0 st R by kernel_rfl) ▸ h)
theorem e_strings_IndexByte : Enters prog n_strings_IndexByte := ⟨Go.Proofs.Tryz.f137, by kernel_rfl, by kernel_rfl, by kernel_rfl⟩
def b_internal_stringslite_HasPrefix (a0 a1 : PV) (st : St) (R : Res → St → Prop) : Prop :=
 qb (q_lenS a0) fun v6 =>
 qb (q_lenS a1) fun v8 =>
 qb (q_bin .geq v6 v8) fun v9 =>
 cb v9 fun b => br b
  (qb (q_lenS a1) fun v13 =>
  qb (q_sliceS a0 none (some v13) none) fun v14 =>
  qb (q_bin .eql v14 a1) fun v16 =>
  retR R v16 st)
  (retR R (.bool false) st)
theorem c_internal_stringslite_HasPrefix {a0 a1 : PV} {st : St} {R : Res → St → Prop} (h : b_internal_stringslite_HasPrefix a0 a1 st R) : HCalls prog n_internal_stringslite_HasPrefix [a0, a1] st R :=
 hcalls_of_func tyOK mixed (fn := Go.Proofs.Tryz.f138) (by kernel_rfl) (by kernel_rfl) (by kernel_rfl) (ann := [])
  (show hFunc prog TT [] Go.Proofs.Tryz.f138 [a0, a1] st R from (show hFunc prog TT [] Go.Proofs.Tryz.f138 [a0, a1] st R = b_internal_stringslite_HasPrefix a0 a1 st R by kernel_rfl) ▸ h)
end Go.H.Tryz
