/- Part of a proof that the program answers as the reference does: EFS5. -/
import Derived.Test.YtlhiejikjncgpaaGreatDoorHT
/- MADE BY PROGRAM (hgen.py): what the functions compute, over pure values. -/
set_option linter.unusedVariables false
set_option maxRecDepth 100000
namespace Go.H.Tryz
open Go Go.H
def b_spec_l01Under (a0 a1 : PV) (st : St) (R : Res → St → Prop) : Prop :=
 e_box st a0 fun v2 st =>
 qb (q_load st true 4 v2) fun v5 =>
 callK prog n_spec_l01Binds [v5, a1] st (fun v7 st =>
 cb v7 fun b => br b
  (retR R (.int .i64 1) st)
  (retR R (.int .i64 0) st)) (panR R)
theorem c_spec_l01Under {a0 a1 : PV} {st : St} {R : Res → St → Prop} (h : b_spec_l01Under a0 a1 st R) : HCalls prog n_spec_l01Under [a0, a1] st R :=
 hcalls_of_func tyOK mixed (fn := Go.Proofs.Tryz.f102) (by kernel_rfl) (by kernel_rfl) (by kernel_rfl) (ann := [])
  (show hFunc prog TT [] Go.Proofs.Tryz.f102 [a0, a1] st R from (show hFunc prog TT [] Go.Proofs.Tryz.f102 [a0, a1] st R = b_spec_l01Under a0 a1 st R by kernel_rfl) ▸ h)
def b_spec_l01With (a0 a1 : PV) (st : St) (R : Res → St → Prop) : Prop :=
 e_box st a0 fun v2 st =>
 e_alloc st [.int .i64 0, .int .i64 0, .str [], .sl 0 true []] fun v4 st =>
 qb (q_fa 0 v2) fun v5 =>
 qb (q_load st false 1 v5) fun v6 =>
 qb (q_fa 1 v2) fun v7 =>
 qb (q_load st false 1 v7) fun v8 =>
 qb (q_fa 2 v2) fun v9 =>
 qb (q_load st false 1 v9) fun v10 =>
 qb (q_struct [.int .i64 0, .int .i64 0, .str [], .sl 0 true []] [(0, 1, v6), (1, 1, v8), (2, 1, v10), (3, 1, a1)]) fun v12 =>
 e_store st 4 v4 v12 fun st =>
 qb (q_load st true 4 v4) fun r => retR R r st
theorem c_spec_l01With {a0 a1 : PV} {st : St} {R : Res → St → Prop} (h : b_spec_l01With a0 a1 st R) : HCalls prog n_spec_l01With [a0, a1] st R :=
 hcalls_of_func tyOK mixed (fn := Go.Proofs.Tryz.f105) (by kernel_rfl) (by kernel_rfl) (by kernel_rfl) (ann := [])
  (show hFunc prog TT [] Go.Proofs.Tryz.f105 [a0, a1] st R from (show hFunc prog TT [] Go.Proofs.Tryz.f105 [a0, a1] st R = b_spec_l01With a0 a1 st R by kernel_rfl) ▸ h)
def b_impl_looker_family (a0 a1 a2 : PV) (st : St) (R : Res → St → Prop) : Prop :=
 e_box st a1 fun v4 st =>
 callK prog n_impl_looker_node [a0] st (fun v8 st =>
 qb (q_un .not v8) fun v9 =>
 cb v9 fun b => br b
  (retR R (.bool false) st)
  (qb (q_fa 0 v4) fun v10 =>
  qb (q_load st false 1 v10) fun v11 =>
  qb (q_bin .eql v11 (.int .i64 1)) fun v13 =>
  cb v13 fun b_1 => br b_1
   (cb a2 fun b_2 => br b_2
    (callK prog n_impl_Tree_bare [v4, (.int .i64 0)] st (fun v16 st =>
    retR R v16 st) (panR R))
    (retR R (.bool false) st))
   (qb (q_bin .eql v11 (.int .i64 3)) fun v19 =>
   cb v19 fun b_3 => br b_3
    (qb (q_un .not a2) fun v21 =>
    cb v21 fun b_4 => br b_4
     (qb (q_fa 1 v4) fun v23 =>
     qb (q_load st false 1 v23) fun v24 =>
     qb (q_bin .eql v24 (.int .i64 0)) fun v25 =>
     cb v25 fun b_5 => br b_5
      (qb (q_fa 2 v4) fun v28 =>
      qb (q_load st false 1 v28) fun v29 =>
      callK prog n_impl_NameOK [v29] st (fun v30 st =>
      cb v30 fun b_6 => br b_6
       (qb (q_fa 3 v4) fun v34 =>
       qb (q_load st false 1 v34) fun v35 =>
       callK prog n_impl_looker_args [a0, v35] st (fun v36 st =>
       retR R v36 st) (panR R))
       (retR R (.bool false) st)) (panR R))
      (retR R (.bool false) st))
     (retR R (.bool false) st))
    (qb (q_bin .eql v11 (.int .i64 2)) fun v39 =>
    cb v39 fun b_7 => br b_7
     (callK prog n_impl_Tree_bare [v4, (.int .i64 2)] st (fun v40 st =>
     cb v40 fun b_8 => br b_8
      (qb (q_fa 3 v4) fun v43 =>
      qb (q_load st false 1 v43) fun v44 =>
      qb (q_ia 4 v44 (.int .i64 0)) fun v45 =>
      qb (q_load st true 4 v45) fun v46 =>
      callK prog n_impl_looker_family [a0, v46, (.bool false)] st (fun v47 st =>
      cb v47 fun b_9 => br b_9
       (qb (q_fa 3 v4) fun v51 =>
       qb (q_load st false 1 v51) fun v52 =>
       qb (q_ia 4 v52 (.int .i64 1)) fun v53 =>
       qb (q_load st true 4 v53) fun v54 =>
       callK prog n_impl_looker_family [a0, v54, a2] st (fun v56 st =>
       retR R v56 st) (panR R))
       (retR R (.bool false) st)) (panR R))
      (retR R (.bool false) st)) (panR R))
     (retR R (.bool false) st))))) (panR R)
theorem c_impl_looker_family {a0 a1 a2 : PV} {st : St} {R : Res → St → Prop} (h : b_impl_looker_family a0 a1 a2 st R) : HCalls prog n_impl_looker_family [a0, a1, a2] st R :=
 hcalls_of_func tyOK mixed (fn := Go.Proofs.Tryz.f106) (by kernel_rfl) (by kernel_rfl) (by kernel_rfl) (ann := [])
  (show hFunc prog TT [] Go.Proofs.Tryz.f106 [a0, a1, a2] st R from (show hFunc prog TT [] Go.Proofs.Tryz.f106 [a0, a1, a2] st R = b_impl_looker_family a0 a1 a2 st R by kernel_rfl) ▸ h)
def b_spec_l01Type (st : St) (R : Res → St → Prop) : Prop :=
 e_alloc st [.int .i64 0, .int .i64 0, .str [], .sl 0 true []] fun v0 st =>
 qb (q_struct [.int .i64 0, .int .i64 0, .str [], .sl 0 true []] [(0, 1, (.int .i64 1))]) fun v1 =>
 e_store st 4 v0 v1 fun st =>
 qb (q_load st true 4 v0) fun r => retR R r st
theorem c_spec_l01Type {st : St} {R : Res → St → Prop} (h : b_spec_l01Type  st R) : HCalls prog n_spec_l01Type [] st R :=
 hcalls_of_func tyOK mixed (fn := Go.Proofs.Tryz.f107) (by kernel_rfl) (by kernel_rfl) (by kernel_rfl) (ann := [])
  (show hFunc prog TT [] Go.Proofs.Tryz.f107 [] st R from (show hFunc prog TT [] Go.Proofs.Tryz.f107 [] st R = b_spec_l01Type  st R by kernel_rfl) ▸ h)
def b_impl_CtxOK (a0 a1 : PV) (st : St) (R : Res → St → Prop) : Prop :=
 qb (q_len a1) fun v8 =>
 qb (q_bin .gtr v8 (.int .i64 40)) fun v9 =>
 cb v9 fun b => br b
  (retR R (.bool false) st)
  (callK prog n_impl_SigOK [a0] st (fun v12 st =>
  qb (q_un .not v12) fun v13 =>
  cb v13 fun b_1 => br b_1
   (retR R (.bool false) st)
   (qb (q_len a1) fun v16 =>
   hFix (fun ls st X =>
    qb (q_bin .lss (ls.getD 0 .junk) v16) fun v18 =>
    cb v18 fun b_2 => br b_2
     (qb (q_ia 4 a1 (ls.getD 0 .junk)) fun v20 =>
     qb (q_load st true 4 v20) fun v21 =>
     e_alloc st [.int .i64 0, .int .i64 0, .str [], .sl 0 true []] fun v6 st =>
     e_store st 4 v6 v21 fun st =>
     qb (q_load st true 4 v6) fun v22 =>
     callK prog n_impl_FamilyOK [v22] st (fun v23 st =>
     qb (q_un .not v23) fun v24 =>
     cb v24 fun b_3 => br b_3
      (retR R (.bool false) st)
      (qb (q_sliceE 4 a1 none (some (ls.getD 0 .junk)) none) fun v29 =>
      qb (q_load st true 4 v6) fun v30 =>
      callK prog n_impl_familyFault [a0, v29, v30] st (fun v31 st =>
      qb (q_field false 1 0 v31) fun v32 =>
      qb (q_bin .neq v32 (.int .i64 0)) fun v33 =>
      cb v33 fun b_4 => br b_4
       (retR R (.bool false) st)
       (qb (q_bin .add (ls.getD 0 .junk) (.int .i64 1)) fun v35 =>
       X [v35] st)) (panR R))) (panR R))
     (retR R (.bool true) st))
    [(.int .i64 0)] st)) (panR R))
theorem c_impl_CtxOK {a0 a1 : PV} {st : St} {R : Res → St → Prop} (h : b_impl_CtxOK a0 a1 st R) : HCalls prog n_impl_CtxOK [a0, a1] st R :=
 hcalls_of_func tyOK mixed (fn := Go.Proofs.Tryz.f108) (by kernel_rfl) (by kernel_rfl) (by kernel_rfl) (ann := [(16, [17])])
  (show hFunc prog TT [(16, [17])] Go.Proofs.Tryz.f108 [a0, a1] st R from (show hFunc prog TT [(16, [17])] Go.Proofs.Tryz.f108 [a0, a1] st R = b_impl_CtxOK a0 a1 st R by kernel_rfl) ▸ h)
def b_impl_checked_1 (a0 a1 : PV) (st : St) (R : Res → St → Prop) : Prop :=
 qb (q_load st false 1 a0) fun v2 =>
 qb (q_load st false 1 a1) fun v3 =>
 qb (q_struct [.int .i64 0, .sl 0 true []] [(1, 1, v3)]) fun v4 =>
 e_box st v4 fun v5 st =>
 e_call prog st v2 [v5] (fun v6 st =>
 retR R (.tup []) st) (panR R)
theorem c_impl_checked_1 {a0 a1 : PV} {st : St} {R : Res → St → Prop} (h : b_impl_checked_1 a0 a1 st R) : HCalls prog n_impl_checked_1 [a0, a1] st R :=
 hcalls_of_func tyOK mixed (fn := Go.Proofs.Tryz.f109) (by kernel_rfl) (by kernel_rfl) (by kernel_rfl) (ann := [])
  (show hFunc prog TT [] Go.Proofs.Tryz.f109 [a0, a1] st R from (show hFunc prog TT [] Go.Proofs.Tryz.f109 [a0, a1] st R = b_impl_checked_1 a0 a1 st R by kernel_rfl) ▸ h)
def b_impl_familyFault (a0 a1 a2 : PV) (st : St) (R : Res → St → Prop) : Prop :=
 e_box st a0 fun v3 st =>
 e_box st a1 fun v4 st =>
 e_box st a2 fun v5 st =>
 e_alloc st [.int .i64 0, .int .i64 0] fun v6 st =>
 callK prog n_impl_caught [(.fn (.func n_impl_familyFault_1) [] [v3, v4, v5])] st (fun v8 st =>
 e_store st 2 v6 v8 fun st =>
 qb (q_load st true 2 v6) fun r => retR R r st) (panR R)
theorem c_impl_familyFault {a0 a1 a2 : PV} {st : St} {R : Res → St → Prop} (h : b_impl_familyFault a0 a1 a2 st R) : HCalls prog n_impl_familyFault [a0, a1, a2] st R :=
 hcalls_of_func tyOK mixed (fn := Go.Proofs.Tryz.f110) (by kernel_rfl) (by kernel_rfl) (by kernel_rfl) (ann := [])
  (show hFunc prog TT [] Go.Proofs.Tryz.f110 [a0, a1, a2] st R from (show hFunc prog TT [] Go.Proofs.Tryz.f110 [a0, a1, a2] st R = b_impl_familyFault a0 a1 a2 st R by kernel_rfl) ▸ h)
def b_impl_behind (a0 a1 : PV) (st : St) (R : Res → St → Prop) : Prop :=
 e_box st a1 fun v3 st =>
 qb (q_load st true 4 v3) fun v7 =>
 qb (q_lit 4 1 0 [] [(0, v7)]) fun v8 =>
 callK prog n_slices_Clip_impl_Tree_impl_Tree [a0] st (fun v6 st =>
 q_load st true 4 v3 = some v7 ∧ (e_append st 4 56 v6 v8 (fun v9 st =>
 retR R v9 st))) (panR R)
theorem c_impl_behind {a0 a1 : PV} {st : St} {R : Res → St → Prop} (h : b_impl_behind a0 a1 st R) : HCalls prog n_impl_behind [a0, a1] st R :=
 hcalls_of_func tyOK mixed (fn := Go.Proofs.Tryz.f111) (by kernel_rfl) (by kernel_rfl) (by kernel_rfl) (ann := [])
  (show hFunc prog TT [] Go.Proofs.Tryz.f111 [a0, a1] st R from (show hFunc prog TT [] Go.Proofs.Tryz.f111 [a0, a1] st R = b_impl_behind a0 a1 st R by kernel_rfl) ▸ h)
def b_impl_same (a0 a1 : PV) (st : St) (R : Res → St → Prop) : Prop :=
 e_box st a0 fun v2 st =>
 e_box st a1 fun v3 st =>
 qb (q_fa 0 v2) fun v6 =>
 qb (q_load st false 1 v6) fun v7 =>
 qb (q_fa 0 v3) fun v8 =>
 qb (q_load st false 1 v8) fun v9 =>
 qb (q_bin .neq v7 v9) fun v10 =>
 cb v10 fun b => br b
  (retR R (.bool false) st)
  (qb (q_fa 1 v2) fun v12 =>
  qb (q_load st false 1 v12) fun v13 =>
  qb (q_fa 1 v3) fun v14 =>
  qb (q_load st false 1 v14) fun v15 =>
  qb (q_bin .neq v13 v15) fun v16 =>
  cb v16 fun b_1 => br b_1
   (retR R (.bool false) st)
   (qb (q_fa 2 v2) fun v19 =>
   qb (q_load st false 1 v19) fun v20 =>
   qb (q_fa 2 v3) fun v21 =>
   qb (q_load st false 1 v21) fun v22 =>
   qb (q_bin .neq v20 v22) fun v23 =>
   cb v23 fun b_2 => br b_2
    (retR R (.bool false) st)
    (qb (q_fa 3 v2) fun v26 =>
    qb (q_load st false 1 v26) fun v27 =>
    qb (q_len v27) fun v28 =>
    qb (q_fa 3 v3) fun v29 =>
    qb (q_load st false 1 v29) fun v30 =>
    qb (q_len v30) fun v31 =>
    qb (q_bin .neq v28 v31) fun v32 =>
    cb v32 fun b_3 => br b_3
     (retR R (.bool false) st)
     (qb (q_fa 3 v2) fun v34 =>
     qb (q_load st false 1 v34) fun v35 =>
     qb (q_len v35) fun v36 =>
     hFix (fun ls st X =>
      qb (q_bin .lss (ls.getD 0 .junk) v36) fun v38 =>
      cb v38 fun b_4 => br b_4
       (qb (q_fa 3 v2) fun v40 =>
       qb (q_load st false 1 v40) fun v41 =>
       qb (q_ia 4 v41 (ls.getD 0 .junk)) fun v43 =>
       qb (q_load st true 4 v43) fun v44 =>
       qb (q_fa 3 v3) fun v45 =>
       qb (q_load st false 1 v45) fun v46 =>
       qb (q_ia 4 v46 (ls.getD 0 .junk)) fun v48 =>
       qb (q_load st true 4 v48) fun v49 =>
       callK prog n_impl_same [v44, v49] st (fun v50 st =>
       qb (q_un .not v50) fun v51 =>
       cb v51 fun b_5 => br b_5
        (retR R (.bool false) st)
        (qb (q_bin .add (ls.getD 0 .junk) (.int .i64 1)) fun v52 =>
        X [v52] st)) (panR R))
       (retR R (.bool true) st))
      [(.int .i64 0)] st))))
theorem e_impl_same : Enters prog n_impl_same := ⟨Go.Proofs.Tryz.f112, by kernel_rfl, by kernel_rfl, by kernel_rfl⟩
theorem c_impl_same {a0 a1 : PV} {st : St} {R : Res → St → Prop} (h : b_impl_same a0 a1 st R) : HCalls prog n_impl_same [a0, a1] st R :=
 hcalls_of_func tyOK mixed (fn := Go.Proofs.Tryz.f112) (by kernel_rfl) (by kernel_rfl) (by kernel_rfl) (ann := [(16, [37])])
  (show hFunc prog TT [(16, [37])] Go.Proofs.Tryz.f112 [a0, a1] st R from (show hFunc prog TT [(16, [37])] Go.Proofs.Tryz.f112 [a0, a1] st R = b_impl_same a0 a1 st R by kernel_rfl) ▸ h)
def b_impl_in (a0 a1 a2 : PV) (st : St) (R : Res → St → Prop) : Prop :=
 qb (q_bin .geq a0 a1) fun v9 =>
 cb v9 fun b => br b
  (qb (q_bin .leq a0 a2) fun v13 =>
  retR R v13 st)
  (retR R (.bool false) st)
theorem c_impl_in {a0 a1 a2 : PV} {st : St} {R : Res → St → Prop} (h : b_impl_in a0 a1 a2 st R) : HCalls prog n_impl_in [a0, a1, a2] st R :=
 hcalls_of_func tyOK mixed (fn := Go.Proofs.Tryz.f113) (by kernel_rfl) (by kernel_rfl) (by kernel_rfl) (ann := [])
  (show hFunc prog TT [] Go.Proofs.Tryz.f113 [a0, a1, a2] st R from (show hFunc prog TT [] Go.Proofs.Tryz.f113 [a0, a1, a2] st R = b_impl_in a0 a1 a2 st R by kernel_rfl) ▸ h)
def b_impl_turned (a0 a1 a2 : PV) (st : St) (R : Res → St → Prop) : Prop :=
 e_box st a0 fun v3 st =>
 e_alloc st [.int .i64 0, .int .i64 0, .str [], .sl 0 true []] fun v6 st =>
 qb (q_lit 4 0 0 [] []) fun v10 =>
 qb (q_fa 3 v3) fun v11 =>
 qb (q_load st false 1 v11) fun v12 =>
 qb (q_len v12) fun v13 =>
 hJ (fun ls st =>
  qb (q_fa 3 v3) fun v31 =>
  e_store st 1 v31 (ls.getD 0 .junk) fun st =>
  qb (q_fa 0 v3) fun v32 =>
  qb (q_load st false 1 v32) fun v33 =>
  qb (q_bin .eql v33 (.int .i64 5)) fun v34 =>
  cb v34 fun b => br b
   (qb (q_load st true 4 v3) fun v36 =>
   e_call prog st a2 [v36, a1] (fun v38 st =>
   e_store st 4 v6 v38 fun st =>
   qb (q_load st true 4 v6) fun r => retR R r st) (panR R))
   (qb (q_load st true 4 v3) fun v39 =>
   e_store st 4 v6 v39 fun st =>
   qb (q_load st true 4 v6) fun r_1 => retR R r_1 st))
  (fun k =>
 hFix (fun ls_1 st X =>
  qb (q_bin .lss (ls_1.getD 1 .junk) v13) fun v15 =>
  cb v15 fun b_1 => br b_1
   (qb (q_ia 4 v12 (ls_1.getD 1 .junk)) fun v17 =>
   qb (q_load st true 4 v17) fun v18 =>
   e_alloc st [.int .i64 0, .int .i64 0, .str [], .sl 0 true []] fun v9 st =>
   e_store st 4 v9 v18 fun st =>
   qb (q_load st true 4 v9) fun v20 =>
   callK prog n_impl_Tree_under [v3, (ls_1.getD 1 .junk)] st (fun v23 st =>
   q_load st true 4 v9 = some v20 ∧ (qb (q_bin .add a1 v23) fun v24 =>
   callK prog n_impl_turned [v20, v24, a2] st (fun v26 st =>
   qb (q_lit 4 1 0 [] [(0, v26)]) fun v27 =>
   e_append st 4 56 (ls_1.getD 0 .junk) v27 (fun v28 st =>
   qb (q_bin .add (ls_1.getD 1 .junk) (.int .i64 1)) fun v29 =>
   X [v28, v29] st)) (panR R))) (panR R))
   (k [(ls_1.getD 0 .junk)] st))
  [v10, (.int .i64 0)] st)
theorem c_impl_turned {a0 a1 a2 : PV} {st : St} {R : Res → St → Prop} (h : b_impl_turned a0 a1 a2 st R) : HCalls prog n_impl_turned [a0, a1, a2] st R :=
 hcalls_of_func tyOK mixed (fn := Go.Proofs.Tryz.f114) (by kernel_rfl) (by kernel_rfl) (by kernel_rfl) (ann := [(12, [7, 14]), (3, [7])])
  (show hFunc prog TT [(12, [7, 14]), (3, [7])] Go.Proofs.Tryz.f114 [a0, a1, a2] st R from (show hFunc prog TT [(12, [7, 14]), (3, [7])] Go.Proofs.Tryz.f114 [a0, a1, a2] st R = b_impl_turned a0 a1 a2 st R by kernel_rfl) ▸ h)
def b_impl_lift_1 (a0 a1 a2 a3 : PV) (st : St) (R : Res → St → Prop) : Prop :=
 e_box st a0 fun v4 st =>
 e_alloc st [.int .i64 0, .int .i64 0, .str [], .sl 0 true []] fun v6 st =>
 qb (q_fa 1 v4) fun v7 =>
 qb (q_load st false 1 v7) fun v8 =>
 qb (q_load st false 1 a2) fun v9 =>
 qb (q_bin .add v9 a1) fun v11 =>
 qb (q_bin .geq v8 v11) fun v12 =>
 cb v12 fun b => br b
  (qb (q_fa 1 v4) fun v13 =>
  qb (q_load st false 1 v13) fun v14 =>
  qb (q_load st false 1 a3) fun v15 =>
  qb (q_bin .add v14 v15) fun v16 =>
  qb (q_fa 1 v4) fun v17 =>
  e_store st 1 v17 v16 fun st =>
  qb (q_load st true 4 v4) fun v18 =>
  e_store st 4 v6 v18 fun st =>
  qb (q_load st true 4 v6) fun r => retR R r st)
  (qb (q_load st true 4 v4) fun v18_1 =>
  e_store st 4 v6 v18_1 fun st =>
  qb (q_load st true 4 v6) fun r_1 => retR R r_1 st)
theorem c_impl_lift_1 {a0 a1 a2 a3 : PV} {st : St} {R : Res → St → Prop} (h : b_impl_lift_1 a0 a1 a2 a3 st R) : HCalls prog n_impl_lift_1 [a0, a1, a2, a3] st R :=
 hcalls_of_func tyOK mixed (fn := Go.Proofs.Tryz.f115) (by kernel_rfl) (by kernel_rfl) (by kernel_rfl) (ann := [])
  (show hFunc prog TT [] Go.Proofs.Tryz.f115 [a0, a1, a2, a3] st R from (show hFunc prog TT [] Go.Proofs.Tryz.f115 [a0, a1, a2, a3] st R = b_impl_lift_1 a0 a1 a2 a3 st R by kernel_rfl) ▸ h)
def b_impl_tooBig_1 (a0 a1 a2 : PV) (st : St) (R : Res → St → Prop) : Prop :=
 qb (q_load st false 1 a2) fun v6 =>
 qb (q_bin .add v6 (.int .i64 1)) fun v7 =>
 e_store st 1 a2 v7 fun st =>
 qb (q_load st false 1 a2) fun v8 =>
 qb (q_bin .gtr v8 (.int .i64 150)) fun v9 =>
 cb v9 fun b => br b
  (retR R (.bool true) st)
  (qb (q_nil a0) fun v12 =>
  qb (q_fa 0 v12) fun v13 =>
  qb (q_load st false 1 v13) fun v14 =>
  qb (q_bin .eql v14 (.int .i64 5)) fun v15 =>
  cb v15 fun b_1 => br b_1
   (qb (q_nil a0) fun v18 =>
   qb (q_fa 1 v18) fun v19 =>
   qb (q_load st false 1 v19) fun v20 =>
   qb (q_bin .gtr v20 (.int .i64 100)) fun v21 =>
   retR R v21 st)
   (retR R (.bool false) st))
theorem c_impl_tooBig_1 {a0 a1 a2 : PV} {st : St} {R : Res → St → Prop} (h : b_impl_tooBig_1 a0 a1 a2 st R) : HCalls prog n_impl_tooBig_1 [a0, a1, a2] st R :=
 hcalls_of_func tyOK mixed (fn := Go.Proofs.Tryz.f116) (by kernel_rfl) (by kernel_rfl) (by kernel_rfl) (ann := [])
  (show hFunc prog TT [] Go.Proofs.Tryz.f116 [a0, a1, a2] st R from (show hFunc prog TT [] Go.Proofs.Tryz.f116 [a0, a1, a2] st R = b_impl_tooBig_1 a0 a1 a2 st R by kernel_rfl) ▸ h)
def b_spec_l01Count (a0 a1 : PV) (st : St) (R : Res → St → Prop) : Prop :=
 e_box st a0 fun v2 st =>
 qb (q_bin .sub a1 (.int .i64 1)) fun v7 =>
 hFix (fun ls st X =>
  hJ (fun ls_1 st =>
   cb (ls_1.getD 0 .junk) fun b => br b
    (qb (q_fa 3 v2) fun v19 =>
    qb (q_load st false 1 v19) fun v20 =>
    qb (q_ia 4 v20 (ls.getD 1 .junk)) fun v22 =>
    qb (q_load st true 4 v22) fun v23 =>
    callK prog n_spec_l01Count [v23, (ls.getD 0 .junk)] st (fun v25 st =>
    qb (q_bin .add (ls.getD 1 .junk) (.int .i64 1)) fun v18 =>
    X [v25, v18] st) (panR R))
    (retR R (ls.getD 0 .junk) st))
   (fun k =>
  qb (q_fa 3 v2) fun v9 =>
  qb (q_load st false 1 v9) fun v10 =>
  qb (q_len v10) fun v11 =>
  qb (q_bin .lss (ls.getD 1 .junk) v11) fun v12 =>
  cb v12 fun b_1 => br b_1
   (qb (q_bin .geq (ls.getD 0 .junk) (.int .i64 0)) fun v15 =>
   k [v15] st)
   (k [(.bool false)] st)))
  [v7, (.int .i64 0)] st
theorem e_spec_l01Count : Enters prog n_spec_l01Count := ⟨Go.Proofs.Tryz.f117, by kernel_rfl, by kernel_rfl, by kernel_rfl⟩
theorem c_spec_l01Count {a0 a1 : PV} {st : St} {R : Res → St → Prop} (h : b_spec_l01Count a0 a1 st R) : HCalls prog n_spec_l01Count [a0, a1] st R :=
 hcalls_of_func tyOK mixed (fn := Go.Proofs.Tryz.f117) (by kernel_rfl) (by kernel_rfl) (by kernel_rfl) (ann := [(12, [1, 5]), (13, [16])])
  (show hFunc prog TT [(12, [1, 5]), (13, [16])] Go.Proofs.Tryz.f117 [a0, a1] st R from (show hFunc prog TT [(12, [1, 5]), (13, [16])] Go.Proofs.Tryz.f117 [a0, a1] st R = b_spec_l01Count a0 a1 st R by kernel_rfl) ▸ h)
def b_spec_l01Terms (a0 a1 : PV) (st : St) (R : Res → St → Prop) : Prop :=
 hFix (fun ls st X =>
  qb (q_len a0) fun v8 =>
  qb (q_bin .lss (ls.getD 0 .junk) v8) fun v9 =>
  cb v9 fun b => br b
   (hJ (fun ls_1 st =>
    cb (ls_1.getD 0 .junk) fun b_1 => br b_1
     (qb (q_ia 4 a0 (ls.getD 0 .junk)) fun v23 =>
     qb (q_fa 1 v23) fun v24 =>
     qb (q_load st false 1 v24) fun v25 =>
     qb (q_bin .neq v25 (.int .i64 0)) fun v26 =>
     cb v26 fun b_2 => br b_2
      (retR R (.bool false) st)
      (qb (q_ia 4 a0 (ls.getD 0 .junk)) fun v30 =>
      qb (q_fa 2 v30) fun v31 =>
      qb (q_load st false 1 v31) fun v32 =>
      qb (q_bin .neq v32 (.str [])) fun v33 =>
      cb v33 fun b_3 => br b_3
       (retR R (.bool false) st)
       (qb (q_ia 4 a0 (ls.getD 0 .junk)) fun v38 =>
       qb (q_fa 3 v38) fun v39 =>
       qb (q_load st false 1 v39) fun v40 =>
       qb (q_len v40) fun v41 =>
       qb (q_bin .neq v41 (.int .i64 0)) fun v42 =>
       cb v42 fun b_4 => br b_4
        (retR R (.bool false) st)
        (qb (q_bin .add (ls.getD 0 .junk) (.int .i64 1)) fun v11 =>
        X [v11] st))))
     (qb (q_ia 4 a0 (ls.getD 0 .junk)) fun v46 =>
     qb (q_load st true 4 v46) fun v47 =>
     callK prog n_spec_l01Term [v47, a1] st (fun v49 st =>
     qb (q_un .not v49) fun v50 =>
     cb v50 fun b_5 => br b_5
      (retR R (.bool false) st)
      (qb (q_bin .add (ls.getD 0 .junk) (.int .i64 1)) fun v11_1 =>
      X [v11_1] st)) (panR R)))
    (fun k =>
   cb a1 fun b_6 => br b_6
    (qb (q_ia 4 a0 (ls.getD 0 .junk)) fun v16 =>
    qb (q_fa 0 v16) fun v17 =>
    qb (q_load st false 1 v17) fun v18 =>
    qb (q_bin .eql v18 (.int .i64 8)) fun v19 =>
    k [v19] st)
    (k [(.bool false)] st)))
   (retR R (.bool true) st))
  [(.int .i64 0)] st
theorem e_spec_l01Terms : Enters prog n_spec_l01Terms := ⟨Go.Proofs.Tryz.f118, by kernel_rfl, by kernel_rfl, by kernel_rfl⟩
theorem c_spec_l01Terms {a0 a1 : PV} {st : St} {R : Res → St → Prop} (h : b_spec_l01Terms a0 a1 st R) : HCalls prog n_spec_l01Terms [a0, a1] st R :=
 hcalls_of_func tyOK mixed (fn := Go.Proofs.Tryz.f118) (by kernel_rfl) (by kernel_rfl) (by kernel_rfl) (ann := [(8, [5]), (17, [20])])
  (show hFunc prog TT [(8, [5]), (17, [20])] Go.Proofs.Tryz.f118 [a0, a1] st R from (show hFunc prog TT [(8, [5]), (17, [20])] Go.Proofs.Tryz.f118 [a0, a1] st R = b_spec_l01Terms a0 a1 st R by kernel_rfl) ▸ h)
def b_spec_NameOK (a0 : PV) (st : St) (R : Res → St → Prop) : Prop :=
 callK prog n_spec_l00Word [a0] st (fun v5 st =>
 qb (q_un .not v5) fun v6 =>
 cb v6 fun b => br b
  (retR R (.bool false) st)
  (qb (q_bin .eql a0 (.str [116, 121, 112, 101])) fun v9 =>
  cb v9 fun b_1 => br b_1
   (retR R (.bool false) st)
   (qb (q_bin .eql a0 (.str [95])) fun v13 =>
   cb v13 fun b_2 => br b_2
    (retR R (.bool false) st)
    (hJ (fun ls st =>
     qb (q_ix a0 (.int .i64 0)) fun v32 =>
     qb (q_bin .neq v32 (.int .u8 120)) fun v33 =>
     cb v33 fun b_3 => br b_3
      (retR R (.bool true) st)
      (qb (q_lenS a0) fun v36 =>
      qb (q_bin .eql v36 (.int .i64 1)) fun v37 =>
      retR R v37 st))
     (fun k =>
    hFix (fun ls_1 st X =>
     qb (q_lenS a0) fun v17 =>
     qb (q_bin .lss (ls_1.getD 0 .junk) v17) fun v18 =>
     cb v18 fun b_4 => br b_4
      (qb (q_ix a0 (.int .i64 0)) fun v22 =>
      qb (q_bin .neq v22 (.int .u8 120)) fun v23 =>
      cb v23 fun b_5 => br b_5
       (retR R (.bool true) st)
       (qb (q_ix a0 (ls_1.getD 0 .junk)) fun v27 =>
       callK prog n_spec_l00Digit [v27] st (fun v28 st =>
       qb (q_un .not v28) fun v29 =>
       cb v29 fun b_6 => br b_6
        (retR R (.bool true) st)
        (qb (q_bin .add (ls_1.getD 0 .junk) (.int .i64 1)) fun v20 =>
        X [v20] st)) (panR R)))
      (k [] st))
     [(.int .i64 1)] st))))) (panR R)
theorem c_spec_NameOK {a0 : PV} {st : St} {R : Res → St → Prop} (h : b_spec_NameOK a0 st R) : HCalls prog n_spec_NameOK [a0] st R :=
 hcalls_of_func tyOK mixed (fn := Go.Proofs.Tryz.f119) (by kernel_rfl) (by kernel_rfl) (by kernel_rfl) (ann := [(16, [3]), (3, [])])
  (show hFunc prog TT [(16, [3]), (3, [])] Go.Proofs.Tryz.f119 [a0] st R from (show hFunc prog TT [(16, [3]), (3, [])] Go.Proofs.Tryz.f119 [a0] st R = b_spec_NameOK a0 st R by kernel_rfl) ▸ h)
end Go.H.Tryz
