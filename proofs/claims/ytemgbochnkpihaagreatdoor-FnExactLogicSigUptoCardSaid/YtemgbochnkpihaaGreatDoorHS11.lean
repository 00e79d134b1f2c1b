/- Part of a proof that the program answers as the reference does: FS11. -/
import Derived.Test.YtemgbochnkpihaaGreatDoorHT
/- MADE BY PROGRAM (hgen.py): what the functions compute, over pure values. -/
set_option linter.unusedVariables false
set_option maxRecDepth 100000
namespace Go.H.Tryz
open Go Go.H
def b_slices_Clip_impl_Tree_impl_Tree (a0 : PV) (st : St) (R : Res → St → Prop) : Prop :=
 qb (q_len a0) fun v5 =>
 qb (q_len a0) fun v7 =>
 qb (q_sliceE 4 a0 none (some v5) (some v7)) fun v8 =>
 retR R v8 st
theorem c_slices_Clip_impl_Tree_impl_Tree {a0 : PV} {st : St} {R : Res → St → Prop} (h : b_slices_Clip_impl_Tree_impl_Tree a0 st R) : HCalls prog n_slices_Clip_impl_Tree_impl_Tree [a0] st R :=
 hcalls_of_func tyOK mixed (fn := Go.Proofs.Tryz.f230) (by kernel_rfl) (by kernel_rfl) (by kernel_rfl) (ann := [])
  (show hFunc prog TT [] Go.Proofs.Tryz.f230 [a0] st R from (show hFunc prog TT [] Go.Proofs.Tryz.f230 [a0] st R = b_slices_Clip_impl_Tree_impl_Tree a0 st R by kernel_rfl) ▸ h)
def b_impl_checker_declared_1 (a0 a1 a2 : PV) (st : St) (R : Res → St → Prop) : Prop :=
 e_box st a0 fun v3 st =>
 qb (q_fa 0 v3) fun v5 =>
 qb (q_load st false 1 v5) fun v6 =>
 qb (q_load st false 1 a1) fun v7 =>
 qb (q_bin .eql v6 v7) fun v8 =>
 cb v8 fun b => br b
  (qb (q_fa 1 v3) fun v10 =>
  qb (q_load st false 1 v10) fun v11 =>
  qb (q_load st false 1 a2) fun v12 =>
  qb (q_beq .eql v11 v12) fun v13 =>
  retR R v13 st)
  (retR R (.bool false) st)
theorem c_impl_checker_declared_1 {a0 a1 a2 : PV} {st : St} {R : Res → St → Prop} (h : b_impl_checker_declared_1 a0 a1 a2 st R) : HCalls prog n_impl_checker_declared_1 [a0, a1, a2] st R :=
 hcalls_of_func tyOK mixed (fn := Go.Proofs.Tryz.f231) (by kernel_rfl) (by kernel_rfl) (by kernel_rfl) (ann := [])
  (show hFunc prog TT [] Go.Proofs.Tryz.f231 [a0, a1, a2] st R from (show hFunc prog TT [] Go.Proofs.Tryz.f231 [a0, a1, a2] st R = b_impl_checker_declared_1 a0 a1 a2 st R by kernel_rfl) ▸ h)
def b_impl_checker_term (a0 a1 a2 a3 a4 : PV) (st : St) (R : Res → St → Prop) : Prop :=
 e_box st a2 fun v7 st =>
 e_box st a3 fun v8 st =>
 qb (q_fa 0 v7) fun v10 =>
 qb (q_load st false 1 v10) fun v11 =>
 qb (q_bin .eql v11 (.int .i64 4)) fun v12 =>
 qb (q_fa 0 v8) fun v13 =>
 qb (q_load st false 1 v13) fun v14 =>
 qb (q_bin .eql v14 (.int .i64 2)) fun v15 =>
 qb (q_beq .neq v12 v15) fun v16 =>
 hJ (fun ls st =>
  qb (q_fa 0 v7) fun v19 =>
  qb (q_load st false 1 v19) fun v20 =>
  qb (q_bin .eql v20 (.int .i64 4)) fun v21 =>
  cb v21 fun b_1 => br b_1
   (qb (q_fa 3 v8) fun v24 =>
   qb (q_load st false 1 v24) fun v25 =>
   qb (q_ia 4 v25 (.int .i64 0)) fun v26 =>
   qb (q_load st true 4 v26) fun v27 =>
   qb (q_fa 3 v7) fun v29 =>
   qb (q_load st false 1 v29) fun v30 =>
   qb (q_ia 4 v30 (.int .i64 0)) fun v31 =>
   qb (q_load st true 4 v31) fun v32 =>
   qb (q_fa 3 v8) fun v33 =>
   qb (q_load st false 1 v33) fun v34 =>
   qb (q_ia 4 v34 (.int .i64 1)) fun v35 =>
   qb (q_load st true 4 v35) fun v36 =>
   qb (q_bin .add a4 (.int .i64 1)) fun v38 =>
   callK prog n_impl_behind [a1, v27] st (fun v28 st =>
   q_load st true 4 v35 = some v36 ∧ q_load st false 1 v33 = some v34 ∧ q_load st true 4 v31 = some v32 ∧ q_load st false 1 v29 = some v30 ∧ (callK prog n_impl_checker_term [a0, v28, v32, v36, v38] st (fun v39 st =>
   retR R (.tup []) st) (panR R))) (panR R))
   (qb (q_load st true 4 v7) fun v42 =>
   qb (q_load st true 4 v8) fun v45 =>
   callK prog n_impl_checker_found [a0, a1, v42, a4] st (fun v44 st =>
   q_load st true 4 v8 = some v45 ∧ (callK prog n_impl_same [v44, v45] st (fun v46 st =>
   qb (q_un .not v46) fun v47 =>
   cb v47 fun b_2 => br b_2
    (callK prog n_impl_stop [(.int .i64 10), a4] st (fun v49 st =>
    retR R (.tup []) st) (panR R))
    (retR R (.tup []) st)) (panR R))) (panR R)))
  (fun k =>
 cb v16 fun b => br b
  (callK prog n_impl_stop [(.int .i64 9), a4] st (fun v18 st =>
  k [] st) (panR R))
  (k [] st))
theorem c_impl_checker_term {a0 a1 a2 a3 a4 : PV} {st : St} {R : Res → St → Prop} (h : b_impl_checker_term a0 a1 a2 a3 a4 st R) : HCalls prog n_impl_checker_term [a0, a1, a2, a3, a4] st R :=
 hcalls_of_func tyOK mixed (fn := Go.Proofs.Tryz.f232) (by kernel_rfl) (by kernel_rfl) (by kernel_rfl) (ann := [(10, [])])
  (show hFunc prog TT [(10, [])] Go.Proofs.Tryz.f232 [a0, a1, a2, a3, a4] st R from (show hFunc prog TT [(10, [])] Go.Proofs.Tryz.f232 [a0, a1, a2, a3, a4] st R = b_impl_checker_term a0 a1 a2 a3 a4 st R by kernel_rfl) ▸ h)
def b_impl_checker_left (a0 a1 a2 a3 : PV) (st : St) (R : Res → St → Prop) : Prop :=
 e_box st a0 fun v4 st =>
 e_box st a1 fun v5 st =>
 e_box st a2 fun v6 st =>
 e_alloc st [.int .i64 0, .int .i64 0, .str [], .sl 0 true []] fun v8 st =>
 qb (q_struct [.int .i64 0, .int .i64 0, .str [], .sl 0 true []] []) fun v10 =>
 e_alloc st [.int .i64 0, .int .i64 0, .str [], .sl 0 true []] fun v9 st =>
 e_store st 4 v9 v10 fun st =>
 callK prog n_impl_at [a3, (.fn (.func n_impl_checker_left_1) [] [v4, v5, v6, v9])] st (fun v13 st =>
 qb (q_load st true 4 v9) fun v14 =>
 e_store st 4 v8 v14 fun st =>
 qb (q_load st true 4 v8) fun r => retR R r st) (panR R)
theorem c_impl_checker_left {a0 a1 a2 a3 : PV} {st : St} {R : Res → St → Prop} (h : b_impl_checker_left a0 a1 a2 a3 st R) : HCalls prog n_impl_checker_left [a0, a1, a2, a3] st R :=
 hcalls_of_func tyOK mixed (fn := Go.Proofs.Tryz.f233) (by kernel_rfl) (by kernel_rfl) (by kernel_rfl) (ann := [])
  (show hFunc prog TT [] Go.Proofs.Tryz.f233 [a0, a1, a2, a3] st R from (show hFunc prog TT [] Go.Proofs.Tryz.f233 [a0, a1, a2, a3] st R = b_impl_checker_left a0 a1 a2 a3 st R by kernel_rfl) ▸ h)
def b_impl_Tree_binds (a0 a1 : PV) (st : St) (R : Res → St → Prop) : Prop :=
 qb (q_nil a0) fun v6 =>
 qb (q_fa 0 v6) fun v7 =>
 qb (q_load st false 1 v7) fun v8 =>
 qb (q_bin .eql v8 (.int .i64 4)) fun v9 =>
 cb v9 fun b => br b
  (retR R (.bool true) st)
  (qb (q_nil a0) fun v12 =>
  qb (q_fa 0 v12) fun v13 =>
  qb (q_load st false 1 v13) fun v14 =>
  qb (q_bin .eql v14 (.int .i64 2)) fun v15 =>
  cb v15 fun b_1 => br b_1
   (qb (q_bin .eql a1 (.int .i64 1)) fun v18 =>
   retR R v18 st)
   (retR R (.bool false) st))
theorem c_impl_Tree_binds {a0 a1 : PV} {st : St} {R : Res → St → Prop} (h : b_impl_Tree_binds a0 a1 st R) : HCalls prog n_impl_Tree_binds [a0, a1] st R :=
 hcalls_of_func tyOK mixed (fn := Go.Proofs.Tryz.f234) (by kernel_rfl) (by kernel_rfl) (by kernel_rfl) (ann := [])
  (show hFunc prog TT [] Go.Proofs.Tryz.f234 [a0, a1] st R from (show hFunc prog TT [] Go.Proofs.Tryz.f234 [a0, a1] st R = b_impl_Tree_binds a0 a1 st R by kernel_rfl) ▸ h)
def b_slices_Backward_string_string_1 (a0 a1 : PV) (st : St) (R : Res → St → Prop) : Prop :=
 qb (q_load st false 1 a1) fun v4 =>
 qb (q_len v4) fun v5 =>
 qb (q_bin .sub v5 (.int .i64 1)) fun v6 =>
 hFix (fun ls st X =>
  qb (q_bin .geq (ls.getD 0 .junk) (.int .i64 0)) fun v8 =>
  cb v8 fun b => br b
   (qb (q_load st false 1 a1) fun v13 =>
   qb (q_ia 1 v13 (ls.getD 0 .junk)) fun v15 =>
   qb (q_load st false 1 v15) fun v16 =>
   e_call prog st a0 [(ls.getD 0 .junk), v16] (fun v17 st =>
   qb (q_un .not v17) fun v18 =>
   cb v18 fun b_1 => br b_1
    (retR R (.tup []) st)
    (qb (q_bin .sub (ls.getD 0 .junk) (.int .i64 1)) fun v10 =>
    X [v10] st)) (panR R))
   (retR R (.tup []) st))
  [v6] st
theorem c_slices_Backward_string_string_1 {a0 a1 : PV} {st : St} {R : Res → St → Prop} (h : b_slices_Backward_string_string_1 a0 a1 st R) : HCalls prog n_slices_Backward_string_string_1 [a0, a1] st R :=
 hcalls_of_func tyOK mixed (fn := Go.Proofs.Tryz.f238) (by kernel_rfl) (by kernel_rfl) (by kernel_rfl) (ann := [(4, [3])])
  (show hFunc prog TT [(4, [3])] Go.Proofs.Tryz.f238 [a0, a1] st R from (show hFunc prog TT [(4, [3])] Go.Proofs.Tryz.f238 [a0, a1] st R = b_slices_Backward_string_string_1 a0 a1 st R by kernel_rfl) ▸ h)
def b_internal_stringslite_HasPrefix (a0 a1 : PV) (st : St) (R : Res → St → Prop) : Prop :=
 qb (q_lenS a0) fun v6 =>
 qb (q_lenS a1) fun v8 =>
 qb (q_bin .geq v6 v8) fun v9 =>
 cb v9 fun b => br b
  (qb (q_lenS a1) fun v13 =>
  qb (q_sliceS a0 none (some v13) none) fun v14 =>
  qb (q_bin .eql v14 a1) fun v16 =>
  retR R v16 st)
  (retR R (.bool false) st)
theorem c_internal_stringslite_HasPrefix {a0 a1 : PV} {st : St} {R : Res → St → Prop} (h : b_internal_stringslite_HasPrefix a0 a1 st R) : HCalls prog n_internal_stringslite_HasPrefix [a0, a1] st R :=
 hcalls_of_func tyOK mixed (fn := Go.Proofs.Tryz.f243) (by kernel_rfl) (by kernel_rfl) (by kernel_rfl) (ann := [])
  (show hFunc prog TT [] Go.Proofs.Tryz.f243 [a0, a1] st R from (show hFunc prog TT [] Go.Proofs.Tryz.f243 [a0, a1] st R = b_internal_stringslite_HasPrefix a0 a1 st R by kernel_rfl) ▸ h)
def b_impl_looker_term (a0 a1 : PV) (st : St) (R : Res → St → Prop) : Prop :=
 e_box st a1 fun v3 st =>
 callK prog n_impl_looker_node [a0] st (fun v6 st =>
 qb (q_un .not v6) fun v7 =>
 cb v7 fun b => br b
  (retR R (.bool false) st)
  (qb (q_fa 0 v3) fun v8 =>
  qb (q_load st false 1 v8) fun v9 =>
  qb (q_bin .eql v9 (.int .i64 4)) fun v11 =>
  cb v11 fun b_1 => br b_1
   (callK prog n_impl_Tree_bare [v3, (.int .i64 1)] st (fun v12 st =>
   cb v12 fun b_2 => br b_2
    (qb (q_fa 3 v3) fun v15 =>
    qb (q_load st false 1 v15) fun v16 =>
    qb (q_ia 4 v16 (.int .i64 0)) fun v17 =>
    qb (q_load st true 4 v17) fun v18 =>
    callK prog n_impl_looker_term [a0, v18] st (fun v19 st =>
    retR R v19 st) (panR R))
    (retR R (.bool false) st)) (panR R))
   (qb (q_bin .eql v9 (.int .i64 5)) fun v22 =>
   hJ (fun ls st =>
    cb (ls.getD 0 .junk) fun b_4 => br b_4
     (qb (q_fa 1 v3) fun v24 =>
     qb (q_load st false 1 v24) fun v25 =>
     callK prog n_impl_in [v25, (.int .i64 0), (.int .i64 100)] st (fun v26 st =>
     cb v26 fun b_5 => br b_5
      (qb (q_fa 2 v3) fun v28 =>
      qb (q_load st false 1 v28) fun v29 =>
      qb (q_bin .eql v29 (.str [])) fun v30 =>
      cb v30 fun b_6 => br b_6
       (qb (q_fa 3 v3) fun v34 =>
       qb (q_load st false 1 v34) fun v35 =>
       callK prog n_impl_looker_args [a0, v35] st (fun v36 st =>
       retR R v36 st) (panR R))
       (retR R (.bool false) st))
      (retR R (.bool false) st)) (panR R))
     (qb (q_bin .eql v9 (.int .i64 6)) fun v39 =>
     cb v39 fun b_7 => br b_7
      (qb (q_fa 1 v3) fun v40 =>
      qb (q_load st false 1 v40) fun v41 =>
      qb (q_bin .eql v41 (.int .i64 0)) fun v42 =>
      cb v42 fun b_8 => br b_8
       (qb (q_fa 2 v3) fun v44 =>
       qb (q_load st false 1 v44) fun v45 =>
       callK prog n_impl_NameOK [v45] st (fun v46 st =>
       cb v46 fun b_9 => br b_9
        (qb (q_fa 3 v3) fun v50 =>
        qb (q_load st false 1 v50) fun v51 =>
        callK prog n_impl_looker_args [a0, v51] st (fun v52 st =>
        retR R v52 st) (panR R))
        (retR R (.bool false) st)) (panR R))
       (retR R (.bool false) st))
      (retR R (.bool false) st)))
    (fun k =>
   cb v22 fun b_3 => br b_3
    (k [v22] st)
    (qb (q_bin .eql v9 (.int .i64 7)) fun v23 =>
    k [v23] st))))) (panR R)
theorem e_impl_looker_term : Enters prog n_impl_looker_term := ⟨Go.Proofs.Tryz.f251, by kernel_rfl, by kernel_rfl, by kernel_rfl⟩
theorem c_impl_looker_term {a0 a1 : PV} {st : St} {R : Res → St → Prop} (h : b_impl_looker_term a0 a1 st R) : HCalls prog n_impl_looker_term [a0, a1] st R :=
 hcalls_of_func tyOK mixed (fn := Go.Proofs.Tryz.f251) (by kernel_rfl) (by kernel_rfl) (by kernel_rfl) (ann := [(30, [21])])
  (show hFunc prog TT [(30, [21])] Go.Proofs.Tryz.f251 [a0, a1] st R from (show hFunc prog TT [(30, [21])] Go.Proofs.Tryz.f251 [a0, a1] st R = b_impl_looker_term a0 a1 st R by kernel_rfl) ▸ h)
def b_impl_same (a0 a1 : PV) (st : St) (R : Res → St → Prop) : Prop :=
 e_box st a0 fun v2 st =>
 e_box st a1 fun v3 st =>
 qb (q_fa 0 v2) fun v6 =>
 qb (q_load st false 1 v6) fun v7 =>
 qb (q_fa 0 v3) fun v8 =>
 qb (q_load st false 1 v8) fun v9 =>
 qb (q_bin .neq v7 v9) fun v10 =>
 cb v10 fun b => br b
  (retR R (.bool false) st)
  (qb (q_fa 1 v2) fun v12 =>
  qb (q_load st false 1 v12) fun v13 =>
  qb (q_fa 1 v3) fun v14 =>
  qb (q_load st false 1 v14) fun v15 =>
  qb (q_bin .neq v13 v15) fun v16 =>
  cb v16 fun b_1 => br b_1
   (retR R (.bool false) st)
   (qb (q_fa 2 v2) fun v19 =>
   qb (q_load st false 1 v19) fun v20 =>
   qb (q_fa 2 v3) fun v21 =>
   qb (q_load st false 1 v21) fun v22 =>
   qb (q_bin .neq v20 v22) fun v23 =>
   cb v23 fun b_2 => br b_2
    (retR R (.bool false) st)
    (qb (q_fa 3 v2) fun v26 =>
    qb (q_load st false 1 v26) fun v27 =>
    qb (q_len v27) fun v28 =>
    qb (q_fa 3 v3) fun v29 =>
    qb (q_load st false 1 v29) fun v30 =>
    qb (q_len v30) fun v31 =>
    qb (q_bin .neq v28 v31) fun v32 =>
    cb v32 fun b_3 => br b_3
     (retR R (.bool false) st)
     (qb (q_fa 3 v2) fun v34 =>
     qb (q_load st false 1 v34) fun v35 =>
     qb (q_len v35) fun v36 =>
     hFix (fun ls st X =>
      qb (q_bin .lss (ls.getD 0 .junk) v36) fun v38 =>
      cb v38 fun b_4 => br b_4
       (qb (q_fa 3 v2) fun v40 =>
       qb (q_load st false 1 v40) fun v41 =>
       qb (q_ia 4 v41 (ls.getD 0 .junk)) fun v43 =>
       qb (q_load st true 4 v43) fun v44 =>
       qb (q_fa 3 v3) fun v45 =>
       qb (q_load st false 1 v45) fun v46 =>
       qb (q_ia 4 v46 (ls.getD 0 .junk)) fun v48 =>
       qb (q_load st true 4 v48) fun v49 =>
       callK prog n_impl_same [v44, v49] st (fun v50 st =>
       qb (q_un .not v50) fun v51 =>
       cb v51 fun b_5 => br b_5
        (retR R (.bool false) st)
        (qb (q_bin .add (ls.getD 0 .junk) (.int .i64 1)) fun v52 =>
        X [v52] st)) (panR R))
       (retR R (.bool true) st))
      [(.int .i64 0)] st))))
theorem e_impl_same : Enters prog n_impl_same := ⟨Go.Proofs.Tryz.f252, by kernel_rfl, by kernel_rfl, by kernel_rfl⟩
theorem c_impl_same {a0 a1 : PV} {st : St} {R : Res → St → Prop} (h : b_impl_same a0 a1 st R) : HCalls prog n_impl_same [a0, a1] st R :=
 hcalls_of_func tyOK mixed (fn := Go.Proofs.Tryz.f252) (by kernel_rfl) (by kernel_rfl) (by kernel_rfl) (ann := [(16, [37])])
  (show hFunc prog TT [(16, [37])] Go.Proofs.Tryz.f252 [a0, a1] st R from (show hFunc prog TT [(16, [37])] Go.Proofs.Tryz.f252 [a0, a1] st R = b_impl_same a0 a1 st R by kernel_rfl) ▸ h)
end Go.H.Tryz
