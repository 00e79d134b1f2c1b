/- Part of a proof that the program answers as the reference does: EFS5. -/
import Derived.Test.YtlhiejikjncgpaaGreatDoorHT
/- MADE BY PROGRAM (hgen.py): what the functions compute, over pure values. -/
set_option linter.unusedVariables false
set_option maxRecDepth 100000
namespace Go.H.Tryz
open Go Go.H
def b_spec_l01Under (a0 a1 : PV) (st : St) (R : Res → St → Prop) : Prop :=
 e_box st a0 fun v2 st =>
 qb (q_load st true 4 v2) fun v5 =>
 callK prog n_spec_l01Binds [v5, a1] st (fun v7 st =>
 cb v7 fun b => br b
  (retR R (.int .i64 1) st)
  (retR R (.int .i64 0) st)) (panR R)
theorem c_spec_l01Under {a0 a1 : PV} {st : St} {R : Res → St → Prop} (h : b_spec_l01Under a0 a1 st R) : HCalls prog n_spec_l01Under [a0, a1] st R :=
 hcalls_of_func tyOK mixed (fn := Go.Proofs.Tryz.f102) (by kernel_rfl) (by kernel_rfl) (by kernel_rfl) (ann := [])
  (show hFunc prog TT [] Go.Proofs.Tryz.f102 [a0, a1] st R from (show hFunc prog TT [] Go.Proofs.Tryz.f102 [a0, a1] st R = b_spec_l01Under a0 a1 st R by kernel_rfl) ▸ h)
def b_spec_l03Big (a0 : PV) (st : St) (R : Res → St → Prop) : Prop :=
 e_box st a0 fun v1 st =>
 qb (q_load st true 4 v1) fun v3 =>
 callK prog n_spec_l01Small [v3] st (fun v4 st =>
 qb (q_un .not v4) fun v5 =>
 cb v5 fun b => br b
  (retR R (.bool true) st)
  (qb (q_load st true 4 v1) fun v7 =>
  callK prog n_spec_l01High [v7] st (fun v8 st =>
  retR R v8 st) (panR R))) (panR R)
theorem c_spec_l03Big {a0 : PV} {st : St} {R : Res → St → Prop} (h : b_spec_l03Big a0 st R) : HCalls prog n_spec_l03Big [a0] st R :=
 hcalls_of_func tyOK mixed (fn := Go.Proofs.Tryz.f103) (by kernel_rfl) (by kernel_rfl) (by kernel_rfl) (ann := [])
  (show hFunc prog TT [] Go.Proofs.Tryz.f103 [a0] st R from (show hFunc prog TT [] Go.Proofs.Tryz.f103 [a0] st R = b_spec_l03Big a0 st R by kernel_rfl) ▸ h)
def b_spec_l03Run_reduce (a0 a1 a2 a3 : PV) (st : St) (R : Res → St → Prop) : Prop :=
 e_box st a1 fun v5 st =>
 e_box st a2 fun v6 st =>
 e_alloc st [.int .i64 0, .int .i64 0, .str [], .sl 0 true []] fun v8 st =>
 hJ (fun ls st =>
  qb (q_load st true 4 v5) fun v67 =>
  callK prog n_spec_l01Copy [v67] st (fun v68 st =>
  e_store st 4 v8 v68 fun st =>
  qb (q_load st true 4 v8) fun r => retR R (.tup [r, (.int .i64 0)]) st) (panR R))
  (fun k =>
 hFix (fun ls_1 st X =>
  qb (q_len a3) fun v15 =>
  qb (q_bin .lss (ls_1.getD 0 .junk) v15) fun v16 =>
  cb v16 fun b => br b
   (hJ (fun ls_2 st =>
    cb (ls_2.getD 0 .junk) fun b_1 => br b_1
     (qb (q_struct [.int .i64 0, .int .i64 0, .str [], .sl 0 true []] []) fun v27 =>
     e_store st 4 v8 v27 fun st =>
     qb (q_load st true 4 v8) fun r_1 => retR R (.tup [r_1, (.int .i64 12)]) st)
     (qb (q_nil a0) fun v29 =>
     qb (q_fa 0 v29) fun v30 =>
     qb (q_load st false 1 v30) fun v31 =>
     qb (q_bin .add v31 (.int .i64 1)) fun v32 =>
     qb (q_nil a0) fun v33 =>
     qb (q_fa 0 v33) fun v34 =>
     e_store st 1 v34 v32 fun st =>
     qb (q_nil a0) fun v36 =>
     qb (q_fa 0 v36) fun v37 =>
     qb (q_load st false 1 v37) fun v38 =>
     qb (q_bin .gtr v38 (.int .i64 20000)) fun v39 =>
     cb v39 fun b_2 => br b_2
      (qb (q_struct [.int .i64 0, .int .i64 0, .str [], .sl 0 true []] []) fun v40 =>
      e_store st 4 v8 v40 fun st =>
      qb (q_load st true 4 v8) fun r_2 => retR R (.tup [r_2, (.int .i64 17)]) st)
      (hJ (fun ls_3 st =>
       qb (q_bin .neq (ls_3.getD 1 .junk) (.int .i64 0)) fun v59 =>
       cb v59 fun b_3 => br b_3
        (qb (q_struct [.int .i64 0, .int .i64 0, .str [], .sl 0 true []] []) fun v60 =>
        e_store st 4 v8 v60 fun st =>
        qb (q_load st true 4 v8) fun r_3 => retR R (.tup [r_3, (ls_3.getD 1 .junk)]) st)
        (qb (q_load st true 4 (ls_3.getD 0 .junk)) fun v62 =>
        e_store st 4 v5 v62 fun st =>
        qb (q_fa 3 v6) fun v63 =>
        qb (q_load st false 1 v63) fun v64 =>
        qb (q_ia 4 v64 (.int .i64 1)) fun v65 =>
        qb (q_load st true 4 v65) fun v66 =>
        e_store st 4 v6 v66 fun st =>
        qb (q_bin .add (ls_1.getD 0 .junk) (.int .i64 1)) fun v18 =>
        X [v18] st))
       (fun k_2 =>
      qb (q_ia 4 a3 (ls_1.getD 0 .junk)) fun v45 =>
      qb (q_load st true 4 v45) fun v46 =>
      qb (q_fa 3 v6) fun v47 =>
      qb (q_load st false 1 v47) fun v48 =>
      qb (q_ia 4 v48 (.int .i64 0)) fun v49 =>
      qb (q_load st true 4 v49) fun v50 =>
      qb (q_fa 3 v5) fun v51 =>
      qb (q_load st false 1 v51) fun v52 =>
      qb (q_ia 4 v52 (.int .i64 0)) fun v53 =>
      qb (q_load st true 4 v53) fun v54 =>
      (callK prog n_spec_l03Run_sub [a0, v46, v50, v54, (.int .i64 0)] st (fun v55 st =>
      qb (q_ex v55 0) fun v56 =>
      qb (q_ex v55 1) fun v57 =>
      e_alloc st [.int .i64 0, .int .i64 0, .str [], .sl 0 true []] fun v11 st =>
      q_load st true 4 v53 = some v54 ∧ q_load st false 1 v51 = some v52 ∧ q_load st true 4 v49 = some v50 ∧ q_load st false 1 v47 = some v48 ∧ q_load st true 4 v45 = some v46 ∧ (e_store st 4 v11 v56 fun st =>
      k_2 [v11, v57] st)) (panR R)) ∧
      (e_alloc st [.int .i64 0, .int .i64 0, .str [], .sl 0 true []] fun v11_1 st =>
      q_load st true 4 v53 = some v54 ∧ q_load st false 1 v51 = some v52 ∧ q_load st true 4 v49 = some v50 ∧ q_load st false 1 v47 = some v48 ∧ q_load st true 4 v45 = some v46 ∧ (callK prog n_spec_l03Run_sub [a0, v46, v50, v54, (.int .i64 0)] st (fun v55_1 st =>
      qb (q_ex v55_1 0) fun v56_1 =>
      qb (q_ex v55_1 1) fun v57_1 =>
      e_store st 4 v11_1 v56_1 fun st =>
      k_2 [v11_1, v57_1] st) (panR R)))))))
    (fun k_1 =>
   qb (q_fa 0 v6) fun v19 =>
   qb (q_load st false 1 v19) fun v20 =>
   qb (q_bin .neq v20 (.int .i64 10)) fun v21 =>
   cb v21 fun b_4 => br b_4
    (k_1 [(.bool true)] st)
    (qb (q_fa 0 v5) fun v23 =>
    qb (q_load st false 1 v23) fun v24 =>
    qb (q_bin .neq v24 (.int .i64 4)) fun v25 =>
    k_1 [v25] st)))
   (k [] st))
  [(.int .i64 0)] st)
theorem c_spec_l03Run_reduce {a0 a1 a2 a3 : PV} {st : St} {R : Res → St → Prop} (h : b_spec_l03Run_reduce a0 a1 a2 a3 st R) : HCalls prog n_spec_l03Run_reduce [a0, a1, a2, a3] st R :=
 hcalls_of_func tyOK mixed (fn := Go.Proofs.Tryz.f104) (by kernel_rfl) (by kernel_rfl) (by kernel_rfl) (ann := [(8, [10]), (3, []), (17, [26]), (37, [11, 12])])
  (show hFunc prog TT [(8, [10]), (3, []), (17, [26]), (37, [11, 12])] Go.Proofs.Tryz.f104 [a0, a1, a2, a3] st R from (show hFunc prog TT [(8, [10]), (3, []), (17, [26]), (37, [11, 12])] Go.Proofs.Tryz.f104 [a0, a1, a2, a3] st R = b_spec_l03Run_reduce a0 a1 a2 a3 st R by kernel_rfl) ▸ h)
def b_spec_l01With (a0 a1 : PV) (st : St) (R : Res → St → Prop) : Prop :=
 e_box st a0 fun v2 st =>
 e_alloc st [.int .i64 0, .int .i64 0, .str [], .sl 0 true []] fun v4 st =>
 qb (q_fa 0 v2) fun v5 =>
 qb (q_load st false 1 v5) fun v6 =>
 qb (q_fa 1 v2) fun v7 =>
 qb (q_load st false 1 v7) fun v8 =>
 qb (q_fa 2 v2) fun v9 =>
 qb (q_load st false 1 v9) fun v10 =>
 qb (q_struct [.int .i64 0, .int .i64 0, .str [], .sl 0 true []] [(0, 1, v6), (1, 1, v8), (2, 1, v10), (3, 1, a1)]) fun v12 =>
 e_store st 4 v4 v12 fun st =>
 qb (q_load st true 4 v4) fun r => retR R r st
theorem c_spec_l01With {a0 a1 : PV} {st : St} {R : Res → St → Prop} (h : b_spec_l01With a0 a1 st R) : HCalls prog n_spec_l01With [a0, a1] st R :=
 hcalls_of_func tyOK mixed (fn := Go.Proofs.Tryz.f105) (by kernel_rfl) (by kernel_rfl) (by kernel_rfl) (ann := [])
  (show hFunc prog TT [] Go.Proofs.Tryz.f105 [a0, a1] st R from (show hFunc prog TT [] Go.Proofs.Tryz.f105 [a0, a1] st R = b_spec_l01With a0 a1 st R by kernel_rfl) ▸ h)
def b_impl_looker_family (a0 a1 a2 : PV) (st : St) (R : Res → St → Prop) : Prop :=
 e_box st a1 fun v4 st =>
 callK prog n_impl_looker_node [a0] st (fun v8 st =>
 qb (q_un .not v8) fun v9 =>
 cb v9 fun b => br b
  (retR R (.bool false) st)
  (qb (q_fa 0 v4) fun v10 =>
  qb (q_load st false 1 v10) fun v11 =>
  qb (q_bin .eql v11 (.int .i64 1)) fun v13 =>
  cb v13 fun b_1 => br b_1
   (cb a2 fun b_2 => br b_2
    (callK prog n_impl_Tree_bare [v4, (.int .i64 0)] st (fun v16 st =>
    retR R v16 st) (panR R))
    (retR R (.bool false) st))
   (qb (q_bin .eql v11 (.int .i64 3)) fun v19 =>
   cb v19 fun b_3 => br b_3
    (qb (q_un .not a2) fun v21 =>
    cb v21 fun b_4 => br b_4
     (qb (q_fa 1 v4) fun v23 =>
     qb (q_load st false 1 v23) fun v24 =>
     qb (q_bin .eql v24 (.int .i64 0)) fun v25 =>
     cb v25 fun b_5 => br b_5
      (qb (q_fa 2 v4) fun v28 =>
      qb (q_load st false 1 v28) fun v29 =>
      callK prog n_impl_NameOK [v29] st (fun v30 st =>
      cb v30 fun b_6 => br b_6
       (qb (q_fa 3 v4) fun v34 =>
       qb (q_load st false 1 v34) fun v35 =>
       callK prog n_impl_looker_args [a0, v35] st (fun v36 st =>
       retR R v36 st) (panR R))
       (retR R (.bool false) st)) (panR R))
      (retR R (.bool false) st))
     (retR R (.bool false) st))
    (qb (q_bin .eql v11 (.int .i64 2)) fun v39 =>
    cb v39 fun b_7 => br b_7
     (callK prog n_impl_Tree_bare [v4, (.int .i64 2)] st (fun v40 st =>
     cb v40 fun b_8 => br b_8
      (qb (q_fa 3 v4) fun v43 =>
      qb (q_load st false 1 v43) fun v44 =>
      qb (q_ia 4 v44 (.int .i64 0)) fun v45 =>
      qb (q_load st true 4 v45) fun v46 =>
      callK prog n_impl_looker_family [a0, v46, (.bool false)] st (fun v47 st =>
      cb v47 fun b_9 => br b_9
       (qb (q_fa 3 v4) fun v51 =>
       qb (q_load st false 1 v51) fun v52 =>
       qb (q_ia 4 v52 (.int .i64 1)) fun v53 =>
       qb (q_load st true 4 v53) fun v54 =>
       callK prog n_impl_looker_family [a0, v54, a2] st (fun v56 st =>
       retR R v56 st) (panR R))
       (retR R (.bool false) st)) (panR R))
      (retR R (.bool false) st)) (panR R))
     (retR R (.bool false) st))))) (panR R)
theorem c_impl_looker_family {a0 a1 a2 : PV} {st : St} {R : Res → St → Prop} (h : b_impl_looker_family a0 a1 a2 st R) : HCalls prog n_impl_looker_family [a0, a1, a2] st R :=
 hcalls_of_func tyOK mixed (fn := Go.Proofs.Tryz.f106) (by kernel_rfl) (by kernel_rfl) (by kernel_rfl) (ann := [])
  (show hFunc prog TT [] Go.Proofs.Tryz.f106 [a0, a1, a2] st R from (show hFunc prog TT [] Go.Proofs.Tryz.f106 [a0, a1, a2] st R = b_impl_looker_family a0 a1 a2 st R by kernel_rfl) ▸ h)
def b_spec_l01Type (st : St) (R : Res → St → Prop) : Prop :=
 e_alloc st [.int .i64 0, .int .i64 0, .str [], .sl 0 true []] fun v0 st =>
 qb (q_struct [.int .i64 0, .int .i64 0, .str [], .sl 0 true []] [(0, 1, (.int .i64 1))]) fun v1 =>
 e_store st 4 v0 v1 fun st =>
 qb (q_load st true 4 v0) fun r => retR R r st
theorem c_spec_l01Type {st : St} {R : Res → St → Prop} (h : b_spec_l01Type  st R) : HCalls prog n_spec_l01Type [] st R :=
 hcalls_of_func tyOK mixed (fn := Go.Proofs.Tryz.f107) (by kernel_rfl) (by kernel_rfl) (by kernel_rfl) (ann := [])
  (show hFunc prog TT [] Go.Proofs.Tryz.f107 [] st R from (show hFunc prog TT [] Go.Proofs.Tryz.f107 [] st R = b_spec_l01Type  st R by kernel_rfl) ▸ h)
def b_impl_behind (a0 a1 : PV) (st : St) (R : Res → St → Prop) : Prop :=
 e_box st a1 fun v3 st =>
 qb (q_load st true 4 v3) fun v7 =>
 qb (q_lit 4 1 0 [] [(0, v7)]) fun v8 =>
 callK prog n_slices_Clip_impl_Tree_impl_Tree [a0] st (fun v6 st =>
 q_load st true 4 v3 = some v7 ∧ (e_append st 4 56 v6 v8 (fun v9 st =>
 retR R v9 st))) (panR R)
theorem c_impl_behind {a0 a1 : PV} {st : St} {R : Res → St → Prop} (h : b_impl_behind a0 a1 st R) : HCalls prog n_impl_behind [a0, a1] st R :=
 hcalls_of_func tyOK mixed (fn := Go.Proofs.Tryz.f111) (by kernel_rfl) (by kernel_rfl) (by kernel_rfl) (ann := [])
  (show hFunc prog TT [] Go.Proofs.Tryz.f111 [a0, a1] st R from (show hFunc prog TT [] Go.Proofs.Tryz.f111 [a0, a1] st R = b_impl_behind a0 a1 st R by kernel_rfl) ▸ h)
def b_impl_same (a0 a1 : PV) (st : St) (R : Res → St → Prop) : Prop :=
 e_box st a0 fun v2 st =>
 e_box st a1 fun v3 st =>
 qb (q_fa 0 v2) fun v6 =>
 qb (q_load st false 1 v6) fun v7 =>
 qb (q_fa 0 v3) fun v8 =>
 qb (q_load st false 1 v8) fun v9 =>
 qb (q_bin .neq v7 v9) fun v10 =>
 cb v10 fun b => br b
  (retR R (.bool false) st)
  (qb (q_fa 1 v2) fun v12 =>
  qb (q_load st false 1 v12) fun v13 =>
  qb (q_fa 1 v3) fun v14 =>
  qb (q_load st false 1 v14) fun v15 =>
  qb (q_bin .neq v13 v15) fun v16 =>
  cb v16 fun b_1 => br b_1
   (retR R (.bool false) st)
   (qb (q_fa 2 v2) fun v19 =>
   qb (q_load st false 1 v19) fun v20 =>
   qb (q_fa 2 v3) fun v21 =>
   qb (q_load st false 1 v21) fun v22 =>
   qb (q_bin .neq v20 v22) fun v23 =>
   cb v23 fun b_2 => br b_2
    (retR R (.bool false) st)
    (qb (q_fa 3 v2) fun v26 =>
    qb (q_load st false 1 v26) fun v27 =>
    qb (q_len v27) fun v28 =>
    qb (q_fa 3 v3) fun v29 =>
    qb (q_load st false 1 v29) fun v30 =>
    qb (q_len v30) fun v31 =>
    qb (q_bin .neq v28 v31) fun v32 =>
    cb v32 fun b_3 => br b_3
     (retR R (.bool false) st)
     (qb (q_fa 3 v2) fun v34 =>
     qb (q_load st false 1 v34) fun v35 =>
     qb (q_len v35) fun v36 =>
     hFix (fun ls st X =>
      qb (q_bin .lss (ls.getD 0 .junk) v36) fun v38 =>
      cb v38 fun b_4 => br b_4
       (qb (q_fa 3 v2) fun v40 =>
       qb (q_load st false 1 v40) fun v41 =>
       qb (q_ia 4 v41 (ls.getD 0 .junk)) fun v43 =>
       qb (q_load st true 4 v43) fun v44 =>
       qb (q_fa 3 v3) fun v45 =>
       qb (q_load st false 1 v45) fun v46 =>
       qb (q_ia 4 v46 (ls.getD 0 .junk)) fun v48 =>
       qb (q_load st true 4 v48) fun v49 =>
       callK prog n_impl_same [v44, v49] st (fun v50 st =>
       qb (q_un .not v50) fun v51 =>
       cb v51 fun b_5 => br b_5
        (retR R (.bool false) st)
        (qb (q_bin .add (ls.getD 0 .junk) (.int .i64 1)) fun v52 =>
        X [v52] st)) (panR R))
       (retR R (.bool true) st))
      [(.int .i64 0)] st))))
theorem e_impl_same : Enters prog n_impl_same := ⟨Go.Proofs.Tryz.f112, by kernel_rfl, by kernel_rfl, by kernel_rfl⟩
theorem c_impl_same {a0 a1 : PV} {st : St} {R : Res → St → Prop} (h : b_impl_same a0 a1 st R) : HCalls prog n_impl_same [a0, a1] st R :=
 hcalls_of_func tyOK mixed (fn := Go.Proofs.Tryz.f112) (by kernel_rfl) (by kernel_rfl) (by kernel_rfl) (ann := [(16, [37])])
  (show hFunc prog TT [(16, [37])] Go.Proofs.Tryz.f112 [a0, a1] st R from (show hFunc prog TT [(16, [37])] Go.Proofs.Tryz.f112 [a0, a1] st R = b_impl_same a0 a1 st R by kernel_rfl) ▸ h)
def b_impl_in (a0 a1 a2 : PV) (st : St) (R : Res → St → Prop) : Prop :=
 qb (q_bin .geq a0 a1) fun v9 =>
 cb v9 fun b => br b
  (qb (q_bin .leq a0 a2) fun v13 =>
  retR R v13 st)
  (retR R (.bool false) st)
theorem c_impl_in {a0 a1 a2 : PV} {st : St} {R : Res → St → Prop} (h : b_impl_in a0 a1 a2 st R) : HCalls prog n_impl_in [a0, a1, a2] st R :=
 hcalls_of_func tyOK mixed (fn := Go.Proofs.Tryz.f113) (by kernel_rfl) (by kernel_rfl) (by kernel_rfl) (ann := [])
  (show hFunc prog TT [] Go.Proofs.Tryz.f113 [a0, a1, a2] st R from (show hFunc prog TT [] Go.Proofs.Tryz.f113 [a0, a1, a2] st R = b_impl_in a0 a1 a2 st R by kernel_rfl) ▸ h)
def b_impl_turned (a0 a1 a2 : PV) (st : St) (R : Res → St → Prop) : Prop :=
 e_box st a0 fun v3 st =>
 e_alloc st [.int .i64 0, .int .i64 0, .str [], .sl 0 true []] fun v6 st =>
 qb (q_lit 4 0 0 [] []) fun v10 =>
 qb (q_fa 3 v3) fun v11 =>
 qb (q_load st false 1 v11) fun v12 =>
 qb (q_len v12) fun v13 =>
 hJ (fun ls st =>
  qb (q_fa 3 v3) fun v31 =>
  e_store st 1 v31 (ls.getD 0 .junk) fun st =>
  qb (q_fa 0 v3) fun v32 =>
  qb (q_load st false 1 v32) fun v33 =>
  qb (q_bin .eql v33 (.int .i64 5)) fun v34 =>
  cb v34 fun b => br b
   (qb (q_load st true 4 v3) fun v36 =>
   e_call prog st a2 [v36, a1] (fun v38 st =>
   e_store st 4 v6 v38 fun st =>
   qb (q_load st true 4 v6) fun r => retR R r st) (panR R))
   (qb (q_load st true 4 v3) fun v39 =>
   e_store st 4 v6 v39 fun st =>
   qb (q_load st true 4 v6) fun r_1 => retR R r_1 st))
  (fun k =>
 hFix (fun ls_1 st X =>
  qb (q_bin .lss (ls_1.getD 1 .junk) v13) fun v15 =>
  cb v15 fun b_1 => br b_1
   (qb (q_ia 4 v12 (ls_1.getD 1 .junk)) fun v17 =>
   qb (q_load st true 4 v17) fun v18 =>
   e_alloc st [.int .i64 0, .int .i64 0, .str [], .sl 0 true []] fun v9 st =>
   e_store st 4 v9 v18 fun st =>
   qb (q_load st true 4 v9) fun v20 =>
   callK prog n_impl_Tree_under [v3, (ls_1.getD 1 .junk)] st (fun v23 st =>
   q_load st true 4 v9 = some v20 ∧ (qb (q_bin .add a1 v23) fun v24 =>
   callK prog n_impl_turned [v20, v24, a2] st (fun v26 st =>
   qb (q_lit 4 1 0 [] [(0, v26)]) fun v27 =>
   e_append st 4 56 (ls_1.getD 0 .junk) v27 (fun v28 st =>
   qb (q_bin .add (ls_1.getD 1 .junk) (.int .i64 1)) fun v29 =>
   X [v28, v29] st)) (panR R))) (panR R))
   (k [(ls_1.getD 0 .junk)] st))
  [v10, (.int .i64 0)] st)
theorem c_impl_turned {a0 a1 a2 : PV} {st : St} {R : Res → St → Prop} (h : b_impl_turned a0 a1 a2 st R) : HCalls prog n_impl_turned [a0, a1, a2] st R :=
 hcalls_of_func tyOK mixed (fn := Go.Proofs.Tryz.f114) (by kernel_rfl) (by kernel_rfl) (by kernel_rfl) (ann := [(12, [7, 14]), (3, [7])])
  (show hFunc prog TT [(12, [7, 14]), (3, [7])] Go.Proofs.Tryz.f114 [a0, a1, a2] st R from (show hFunc prog TT [(12, [7, 14]), (3, [7])] Go.Proofs.Tryz.f114 [a0, a1, a2] st R = b_impl_turned a0 a1 a2 st R by kernel_rfl) ▸ h)
def b_impl_lift_1 (a0 a1 a2 a3 : PV) (st : St) (R : Res → St → Prop) : Prop :=
 e_box st a0 fun v4 st =>
 e_alloc st [.int .i64 0, .int .i64 0, .str [], .sl 0 true []] fun v6 st =>
 qb (q_fa 1 v4) fun v7 =>
 qb (q_load st false 1 v7) fun v8 =>
 qb (q_load st false 1 a2) fun v9 =>
 qb (q_bin .add v9 a1) fun v11 =>
 qb (q_bin .geq v8 v11) fun v12 =>
 cb v12 fun b => br b
  (qb (q_fa 1 v4) fun v13 =>
  qb (q_load st false 1 v13) fun v14 =>
  qb (q_load st false 1 a3) fun v15 =>
  qb (q_bin .add v14 v15) fun v16 =>
  qb (q_fa 1 v4) fun v17 =>
  e_store st 1 v17 v16 fun st =>
  qb (q_load st true 4 v4) fun v18 =>
  e_store st 4 v6 v18 fun st =>
  qb (q_load st true 4 v6) fun r => retR R r st)
  (qb (q_load st true 4 v4) fun v18_1 =>
  e_store st 4 v6 v18_1 fun st =>
  qb (q_load st true 4 v6) fun r_1 => retR R r_1 st)
theorem c_impl_lift_1 {a0 a1 a2 a3 : PV} {st : St} {R : Res → St → Prop} (h : b_impl_lift_1 a0 a1 a2 a3 st R) : HCalls prog n_impl_lift_1 [a0, a1, a2, a3] st R :=
 hcalls_of_func tyOK mixed (fn := Go.Proofs.Tryz.f115) (by kernel_rfl) (by kernel_rfl) (by kernel_rfl) (ann := [])
  (show hFunc prog TT [] Go.Proofs.Tryz.f115 [a0, a1, a2, a3] st R from (show hFunc prog TT [] Go.Proofs.Tryz.f115 [a0, a1, a2, a3] st R = b_impl_lift_1 a0 a1 a2 a3 st R by kernel_rfl) ▸ h)
def b_impl_tooBig_1 (a0 a1 a2 : PV) (st : St) (R : Res → St → Prop) : Prop :=
 qb (q_load st false 1 a2) fun v6 =>
 qb (q_bin .add v6 (.int .i64 1)) fun v7 =>
 e_store st 1 a2 v7 fun st =>
 qb (q_load st false 1 a2) fun v8 =>
 qb (q_bin .gtr v8 (.int .i64 150)) fun v9 =>
 cb v9 fun b => br b
  (retR R (.bool true) st)
  (qb (q_nil a0) fun v12 =>
  qb (q_fa 0 v12) fun v13 =>
  qb (q_load st false 1 v13) fun v14 =>
  qb (q_bin .eql v14 (.int .i64 5)) fun v15 =>
  cb v15 fun b_1 => br b_1
   (qb (q_nil a0) fun v18 =>
   qb (q_fa 1 v18) fun v19 =>
   qb (q_load st false 1 v19) fun v20 =>
   qb (q_bin .gtr v20 (.int .i64 100)) fun v21 =>
   retR R v21 st)
   (retR R (.bool false) st))
theorem c_impl_tooBig_1 {a0 a1 a2 : PV} {st : St} {R : Res → St → Prop} (h : b_impl_tooBig_1 a0 a1 a2 st R) : HCalls prog n_impl_tooBig_1 [a0, a1, a2] st R :=
 hcalls_of_func tyOK mixed (fn := Go.Proofs.Tryz.f116) (by kernel_rfl) (by kernel_rfl) (by kernel_rfl) (ann := [])
  (show hFunc prog TT [] Go.Proofs.Tryz.f116 [a0, a1, a2] st R from (show hFunc prog TT [] Go.Proofs.Tryz.f116 [a0, a1, a2] st R = b_impl_tooBig_1 a0 a1 a2 st R by kernel_rfl) ▸ h)
def b_spec_l01Count (a0 a1 : PV) (st : St) (R : Res → St → Prop) : Prop :=
 e_box st a0 fun v2 st =>
 qb (q_bin .sub a1 (.int .i64 1)) fun v7 =>
 hFix (fun ls st X =>
  hJ (fun ls_1 st =>
   cb (ls_1.getD 0 .junk) fun b => br b
    (qb (q_fa 3 v2) fun v19 =>
    qb (q_load st false 1 v19) fun v20 =>
    qb (q_ia 4 v20 (ls.getD 1 .junk)) fun v22 =>
    qb (q_load st true 4 v22) fun v23 =>
    callK prog n_spec_l01Count [v23, (ls.getD 0 .junk)] st (fun v25 st =>
    qb (q_bin .add (ls.getD 1 .junk) (.int .i64 1)) fun v18 =>
    X [v25, v18] st) (panR R))
    (retR R (ls.getD 0 .junk) st))
   (fun k =>
  qb (q_fa 3 v2) fun v9 =>
  qb (q_load st false 1 v9) fun v10 =>
  qb (q_len v10) fun v11 =>
  qb (q_bin .lss (ls.getD 1 .junk) v11) fun v12 =>
  cb v12 fun b_1 => br b_1
   (qb (q_bin .geq (ls.getD 0 .junk) (.int .i64 0)) fun v15 =>
   k [v15] st)
   (k [(.bool false)] st)))
  [v7, (.int .i64 0)] st
theorem e_spec_l01Count : Enters prog n_spec_l01Count := ⟨Go.Proofs.Tryz.f117, by kernel_rfl, by kernel_rfl, by kernel_rfl⟩
theorem c_spec_l01Count {a0 a1 : PV} {st : St} {R : Res → St → Prop} (h : b_spec_l01Count a0 a1 st R) : HCalls prog n_spec_l01Count [a0, a1] st R :=
 hcalls_of_func tyOK mixed (fn := Go.Proofs.Tryz.f117) (by kernel_rfl) (by kernel_rfl) (by kernel_rfl) (ann := [(12, [1, 5]), (13, [16])])
  (show hFunc prog TT [(12, [1, 5]), (13, [16])] Go.Proofs.Tryz.f117 [a0, a1] st R from (show hFunc prog TT [(12, [1, 5]), (13, [16])] Go.Proofs.Tryz.f117 [a0, a1] st R = b_spec_l01Count a0 a1 st R by kernel_rfl) ▸ h)
def b_spec_l01Terms (a0 a1 : PV) (st : St) (R : Res → St → Prop) : Prop :=
 hFix (fun ls st X =>
  qb (q_len a0) fun v8 =>
  qb (q_bin .lss (ls.getD 0 .junk) v8) fun v9 =>
  cb v9 fun b => br b
   (hJ (fun ls_1 st =>
    cb (ls_1.getD 0 .junk) fun b_1 => br b_1
     (qb (q_ia 4 a0 (ls.getD 0 .junk)) fun v23 =>
     qb (q_fa 1 v23) fun v24 =>
     qb (q_load st false 1 v24) fun v25 =>
     qb (q_bin .neq v25 (.int .i64 0)) fun v26 =>
     cb v26 fun b_2 => br b_2
      (retR R (.bool false) st)
      (qb (q_ia 4 a0 (ls.getD 0 .junk)) fun v30 =>
      qb (q_fa 2 v30) fun v31 =>
      qb (q_load st false 1 v31) fun v32 =>
      qb (q_bin .neq v32 (.str [])) fun v33 =>
      cb v33 fun b_3 => br b_3
       (retR R (.bool false) st)
       (qb (q_ia 4 a0 (ls.getD 0 .junk)) fun v38 =>
       qb (q_fa 3 v38) fun v39 =>
       qb (q_load st false 1 v39) fun v40 =>
       qb (q_len v40) fun v41 =>
       qb (q_bin .neq v41 (.int .i64 0)) fun v42 =>
       cb v42 fun b_4 => br b_4
        (retR R (.bool false) st)
        (qb (q_bin .add (ls.getD 0 .junk) (.int .i64 1)) fun v11 =>
        X [v11] st))))
     (qb (q_ia 4 a0 (ls.getD 0 .junk)) fun v46 =>
     qb (q_load st true 4 v46) fun v47 =>
     callK prog n_spec_l01Term [v47, a1] st (fun v49 st =>
     qb (q_un .not v49) fun v50 =>
     cb v50 fun b_5 => br b_5
      (retR R (.bool false) st)
      (qb (q_bin .add (ls.getD 0 .junk) (.int .i64 1)) fun v11_1 =>
      X [v11_1] st)) (panR R)))
    (fun k =>
   cb a1 fun b_6 => br b_6
    (qb (q_ia 4 a0 (ls.getD 0 .junk)) fun v16 =>
    qb (q_fa 0 v16) fun v17 =>
    qb (q_load st false 1 v17) fun v18 =>
    qb (q_bin .eql v18 (.int .i64 8)) fun v19 =>
    k [v19] st)
    (k [(.bool false)] st)))
   (retR R (.bool true) st))
  [(.int .i64 0)] st
theorem e_spec_l01Terms : Enters prog n_spec_l01Terms := ⟨Go.Proofs.Tryz.f118, by kernel_rfl, by kernel_rfl, by kernel_rfl⟩
theorem c_spec_l01Terms {a0 a1 : PV} {st : St} {R : Res → St → Prop} (h : b_spec_l01Terms a0 a1 st R) : HCalls prog n_spec_l01Terms [a0, a1] st R :=
 hcalls_of_func tyOK mixed (fn := Go.Proofs.Tryz.f118) (by kernel_rfl) (by kernel_rfl) (by kernel_rfl) (ann := [(8, [5]), (17, [20])])
  (show hFunc prog TT [(8, [5]), (17, [20])] Go.Proofs.Tryz.f118 [a0, a1] st R from (show hFunc prog TT [(8, [5]), (17, [20])] Go.Proofs.Tryz.f118 [a0, a1] st R = b_spec_l01Terms a0 a1 st R by kernel_rfl) ▸ h)
def b_spec_NameOK (a0 : PV) (st : St) (R : Res → St → Prop) : Prop :=
 callK prog n_spec_l00Word [a0] st (fun v5 st =>
 qb (q_un .not v5) fun v6 =>
 cb v6 fun b => br b
  (retR R (.bool false) st)
  (qb (q_bin .eql a0 (.str [116, 121, 112, 101])) fun v9 =>
  cb v9 fun b_1 => br b_1
   (retR R (.bool false) st)
   (qb (q_bin .eql a0 (.str [95])) fun v13 =>
   cb v13 fun b_2 => br b_2
    (retR R (.bool false) st)
    (hJ (fun ls st =>
     qb (q_ix a0 (.int .i64 0)) fun v32 =>
     qb (q_bin .neq v32 (.int .u8 120)) fun v33 =>
     cb v33 fun b_3 => br b_3
      (retR R (.bool true) st)
      (qb (q_lenS a0) fun v36 =>
      qb (q_bin .eql v36 (.int .i64 1)) fun v37 =>
      retR R v37 st))
     (fun k =>
    hFix (fun ls_1 st X =>
     qb (q_lenS a0) fun v17 =>
     qb (q_bin .lss (ls_1.getD 0 .junk) v17) fun v18 =>
     cb v18 fun b_4 => br b_4
      (qb (q_ix a0 (.int .i64 0)) fun v22 =>
      qb (q_bin .neq v22 (.int .u8 120)) fun v23 =>
      cb v23 fun b_5 => br b_5
       (retR R (.bool true) st)
       (qb (q_ix a0 (ls_1.getD 0 .junk)) fun v27 =>
       callK prog n_spec_l00Digit [v27] st (fun v28 st =>
       qb (q_un .not v28) fun v29 =>
       cb v29 fun b_6 => br b_6
        (retR R (.bool true) st)
        (qb (q_bin .add (ls_1.getD 0 .junk) (.int .i64 1)) fun v20 =>
        X [v20] st)) (panR R)))
      (k [] st))
     [(.int .i64 1)] st))))) (panR R)
theorem c_spec_NameOK {a0 : PV} {st : St} {R : Res → St → Prop} (h : b_spec_NameOK a0 st R) : HCalls prog n_spec_NameOK [a0] st R :=
 hcalls_of_func tyOK mixed (fn := Go.Proofs.Tryz.f119) (by kernel_rfl) (by kernel_rfl) (by kernel_rfl) (ann := [(16, [3]), (3, [])])
  (show hFunc prog TT [(16, [3]), (3, [])] Go.Proofs.Tryz.f119 [a0] st R from (show hFunc prog TT [(16, [3]), (3, [])] Go.Proofs.Tryz.f119 [a0] st R = b_spec_NameOK a0 st R by kernel_rfl) ▸ h)
def b_spec_l04Decl (a0 a1 : PV) (st : St) (R : Res → St → Prop) : Prop :=
 e_box st a1 fun v3 st =>
 qb (q_fa 0 v3) fun v7 =>
 qb (q_load st false 1 v7) fun v8 =>
 callK prog n_spec_NameOK [v8] st (fun v9 st =>
 qb (q_un .not v9) fun v10 =>
 cb v10 fun b => br b
  (retR R (.tup [(.int .i64 1), (.int .i64 0)]) st)
  (qb (q_fa 1 v3) fun v12 =>
  qb (q_load st false 1 v12) fun v13 =>
  cb v13 fun b_1 => br b_1
   (qb (q_fa 2 v3) fun v15 =>
   qb (q_load st true 4 v15) fun v16 =>
   callK prog n_spec_KindOK [v16] st (fun v17 st =>
   qb (q_un .not v17) fun v18 =>
   cb v18 fun b_2 => br b_2
    (retR R (.tup [(.int .i64 1), (.int .i64 0)]) st)
    (qb (q_fa 1 v3) fun v22 =>
    qb (q_load st false 1 v22) fun v23 =>
    qb (q_un .not v23) fun v24 =>
    cb v24 fun b_3 => br b_3
     (qb (q_fa 2 v3) fun v26 =>
     qb (q_load st true 4 v26) fun v27 =>
     callK prog n_spec_FamilyOK [v27] st (fun v28 st =>
     qb (q_un .not v28) fun v29 =>
     cb v29 fun b_4 => br b_4
      (retR R (.tup [(.int .i64 1), (.int .i64 0)]) st)
      (qb (q_fa 0 v3) fun v33 =>
      qb (q_load st false 1 v33) fun v34 =>
      callK prog n_spec_l04Find [a0, v34] st (fun v35 st =>
      qb (q_bin .geq v35 (.int .i64 0)) fun v36 =>
      cb v36 fun b_5 => br b_5
       (retR R (.tup [(.int .i64 6), (.int .i64 0)]) st)
       (callK prog n_spec_l04Check [a0] st (fun v38 st =>
       qb (q_fa 1 v3) fun v39 =>
       qb (q_load st false 1 v39) fun v40 =>
       hJ (fun ls st =>
        qb (q_nil v38) fun v50 =>
        qb (q_fa 2 v50) fun v51 =>
        qb (q_load st false 1 v51) fun v52 =>
        qb (q_nil v38) fun v54 =>
        qb (q_fa 3 v54) fun v55 =>
        qb (q_load st false 1 v55) fun v56 =>
        retR R (.tup [v52, v56]) st)
        (fun k =>
       cb v40 fun b_6 => br b_6
        (qb (q_fa 2 v3) fun v42 =>
        qb (q_load st true 4 v42) fun v43 =>
        callK prog n_spec_l04Run_kind [v38, (.sl 0 true []), v43, (.int .i64 0)] st (fun v44 st =>
        k [] st) (panR R))
        (qb (q_fa 2 v3) fun v46 =>
        qb (q_load st true 4 v46) fun v47 =>
        callK prog n_spec_l04Run_family [v38, (.sl 0 true []), v47, (.int .i64 0)] st (fun v48 st =>
        k [] st) (panR R)))) (panR R))) (panR R))) (panR R))
     (qb (q_fa 0 v3) fun v33_1 =>
     qb (q_load st false 1 v33_1) fun v34_1 =>
     callK prog n_spec_l04Find [a0, v34_1] st (fun v35_1 st =>
     qb (q_bin .geq v35_1 (.int .i64 0)) fun v36_1 =>
     cb v36_1 fun b_7 => br b_7
      (retR R (.tup [(.int .i64 6), (.int .i64 0)]) st)
      (callK prog n_spec_l04Check [a0] st (fun v38_1 st =>
      qb (q_fa 1 v3) fun v39_1 =>
      qb (q_load st false 1 v39_1) fun v40_1 =>
      hJ (fun ls_1 st =>
       qb (q_nil v38_1) fun v50_1 =>
       qb (q_fa 2 v50_1) fun v51_1 =>
       qb (q_load st false 1 v51_1) fun v52_1 =>
       qb (q_nil v38_1) fun v54_1 =>
       qb (q_fa 3 v54_1) fun v55_1 =>
       qb (q_load st false 1 v55_1) fun v56_1 =>
       retR R (.tup [v52_1, v56_1]) st)
       (fun k_1 =>
      cb v40_1 fun b_8 => br b_8
       (qb (q_fa 2 v3) fun v42_1 =>
       qb (q_load st true 4 v42_1) fun v43_1 =>
       callK prog n_spec_l04Run_kind [v38_1, (.sl 0 true []), v43_1, (.int .i64 0)] st (fun v44_1 st =>
       k_1 [] st) (panR R))
       (qb (q_fa 2 v3) fun v46_1 =>
       qb (q_load st true 4 v46_1) fun v47_1 =>
       callK prog n_spec_l04Run_family [v38_1, (.sl 0 true []), v47_1, (.int .i64 0)] st (fun v48_1 st =>
       k_1 [] st) (panR R)))) (panR R))) (panR R)))) (panR R))
   (qb (q_fa 1 v3) fun v22_1 =>
   qb (q_load st false 1 v22_1) fun v23_1 =>
   qb (q_un .not v23_1) fun v24_1 =>
   cb v24_1 fun b_9 => br b_9
    (qb (q_fa 2 v3) fun v26_1 =>
    qb (q_load st true 4 v26_1) fun v27_1 =>
    callK prog n_spec_FamilyOK [v27_1] st (fun v28_1 st =>
    qb (q_un .not v28_1) fun v29_1 =>
    cb v29_1 fun b_10 => br b_10
     (retR R (.tup [(.int .i64 1), (.int .i64 0)]) st)
     (qb (q_fa 0 v3) fun v33_2 =>
     qb (q_load st false 1 v33_2) fun v34_2 =>
     callK prog n_spec_l04Find [a0, v34_2] st (fun v35_2 st =>
     qb (q_bin .geq v35_2 (.int .i64 0)) fun v36_2 =>
     cb v36_2 fun b_11 => br b_11
      (retR R (.tup [(.int .i64 6), (.int .i64 0)]) st)
      (callK prog n_spec_l04Check [a0] st (fun v38_2 st =>
      qb (q_fa 1 v3) fun v39_2 =>
      qb (q_load st false 1 v39_2) fun v40_2 =>
      hJ (fun ls_2 st =>
       qb (q_nil v38_2) fun v50_2 =>
       qb (q_fa 2 v50_2) fun v51_2 =>
       qb (q_load st false 1 v51_2) fun v52_2 =>
       qb (q_nil v38_2) fun v54_2 =>
       qb (q_fa 3 v54_2) fun v55_2 =>
       qb (q_load st false 1 v55_2) fun v56_2 =>
       retR R (.tup [v52_2, v56_2]) st)
       (fun k_2 =>
      cb v40_2 fun b_12 => br b_12
       (qb (q_fa 2 v3) fun v42_2 =>
       qb (q_load st true 4 v42_2) fun v43_2 =>
       callK prog n_spec_l04Run_kind [v38_2, (.sl 0 true []), v43_2, (.int .i64 0)] st (fun v44_2 st =>
       k_2 [] st) (panR R))
       (qb (q_fa 2 v3) fun v46_2 =>
       qb (q_load st true 4 v46_2) fun v47_2 =>
       callK prog n_spec_l04Run_family [v38_2, (.sl 0 true []), v47_2, (.int .i64 0)] st (fun v48_2 st =>
       k_2 [] st) (panR R)))) (panR R))) (panR R))) (panR R))
    (qb (q_fa 0 v3) fun v33_3 =>
    qb (q_load st false 1 v33_3) fun v34_3 =>
    callK prog n_spec_l04Find [a0, v34_3] st (fun v35_3 st =>
    qb (q_bin .geq v35_3 (.int .i64 0)) fun v36_3 =>
    cb v36_3 fun b_13 => br b_13
     (retR R (.tup [(.int .i64 6), (.int .i64 0)]) st)
     (callK prog n_spec_l04Check [a0] st (fun v38_3 st =>
     qb (q_fa 1 v3) fun v39_3 =>
     qb (q_load st false 1 v39_3) fun v40_3 =>
     hJ (fun ls_3 st =>
      qb (q_nil v38_3) fun v50_3 =>
      qb (q_fa 2 v50_3) fun v51_3 =>
      qb (q_load st false 1 v51_3) fun v52_3 =>
      qb (q_nil v38_3) fun v54_3 =>
      qb (q_fa 3 v54_3) fun v55_3 =>
      qb (q_load st false 1 v55_3) fun v56_3 =>
      retR R (.tup [v52_3, v56_3]) st)
      (fun k_3 =>
     cb v40_3 fun b_14 => br b_14
      (qb (q_fa 2 v3) fun v42_3 =>
      qb (q_load st true 4 v42_3) fun v43_3 =>
      callK prog n_spec_l04Run_kind [v38_3, (.sl 0 true []), v43_3, (.int .i64 0)] st (fun v44_3 st =>
      k_3 [] st) (panR R))
      (qb (q_fa 2 v3) fun v46_3 =>
      qb (q_load st true 4 v46_3) fun v47_3 =>
      callK prog n_spec_l04Run_family [v38_3, (.sl 0 true []), v47_3, (.int .i64 0)] st (fun v48_3 st =>
      k_3 [] st) (panR R)))) (panR R))) (panR R))))) (panR R)
theorem c_spec_l04Decl {a0 a1 : PV} {st : St} {R : Res → St → Prop} (h : b_spec_l04Decl a0 a1 st R) : HCalls prog n_spec_l04Decl [a0, a1] st R :=
 hcalls_of_func tyOK mixed (fn := Go.Proofs.Tryz.f120) (by kernel_rfl) (by kernel_rfl) (by kernel_rfl) (ann := [(30, [])])
  (show hFunc prog TT [(30, [])] Go.Proofs.Tryz.f120 [a0, a1] st R from (show hFunc prog TT [(30, [])] Go.Proofs.Tryz.f120 [a0, a1] st R = b_spec_l04Decl a0 a1 st R by kernel_rfl) ▸ h)
def b_spec_l04More (a0 a1 : PV) (st : St) (R : Res → St → Prop) : Prop :=
 e_box st a1 fun v3 st =>
 qb (q_lit 4 0 0 [] []) fun v5 =>
 qb (q_load st true 4 v3) fun v8 =>
 qb (q_lit 4 1 0 [] [(0, v8)]) fun v9 =>
 e_append st 4 56 v5 a0 (fun v7 st =>
 q_load st true 4 v3 = some v8 ∧ (e_append st 4 56 v7 v9 (fun v10 st =>
 retR R v10 st)))
theorem c_spec_l04More {a0 a1 : PV} {st : St} {R : Res → St → Prop} (h : b_spec_l04More a0 a1 st R) : HCalls prog n_spec_l04More [a0, a1] st R :=
 hcalls_of_func tyOK mixed (fn := Go.Proofs.Tryz.f121) (by kernel_rfl) (by kernel_rfl) (by kernel_rfl) (ann := [])
  (show hFunc prog TT [] Go.Proofs.Tryz.f121 [a0, a1] st R from (show hFunc prog TT [] Go.Proofs.Tryz.f121 [a0, a1] st R = b_spec_l04More a0 a1 st R by kernel_rfl) ▸ h)
end Go.H.Tryz
