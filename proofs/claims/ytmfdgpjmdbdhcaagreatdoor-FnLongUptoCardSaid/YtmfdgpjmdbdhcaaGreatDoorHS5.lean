/- Part of a proof that the program answers as the reference does: ZDS5. -/
import Derived.Test.YtmfdgpjmdbdhcaaGreatDoorHT
/- MADE BY PROGRAM (hgen.py): what the functions compute, over pure values. -/
set_option linter.unusedVariables false
set_option maxRecDepth 100000
namespace Go.H.Tryz
open Go Go.H
def b_impl_looker_simple (a0 a1 : PV) (st : St) (R : Res → St → Prop) : Prop :=
 e_box st a1 fun v3 st =>
 callK prog n_impl_looker_node [a0] st (fun v6 st =>
 qb (q_un .not v6) fun v7 =>
 cb v7 fun b => br b
  (retR R (.bool false) st)
  (qb (q_fa 0 v3) fun v8 =>
  qb (q_load st false 1 v8) fun v9 =>
  qb (q_bin .eql v9 (.int .i64 9)) fun v11 =>
  cb v11 fun b_1 => br b_1
   (qb (q_fa 1 v3) fun v12 =>
   qb (q_load st false 1 v12) fun v13 =>
   qb (q_bin .eql v13 (.int .i64 0)) fun v14 =>
   cb v14 fun b_2 => br b_2
    (qb (q_fa 2 v3) fun v16 =>
    qb (q_load st false 1 v16) fun v17 =>
    callK prog n_impl_NameOK [v17] st (fun v18 st =>
    cb v18 fun b_3 => br b_3
     (qb (q_fa 3 v3) fun v21 =>
     qb (q_load st false 1 v21) fun v22 =>
     qb (q_len v22) fun v23 =>
     qb (q_bin .eql v23 (.int .i64 0)) fun v24 =>
     retR R v24 st)
     (retR R (.bool false) st)) (panR R))
    (retR R (.bool false) st))
   (qb (q_bin .eql v9 (.int .i64 10)) fun v27 =>
   cb v27 fun b_4 => br b_4
    (callK prog n_impl_Tree_bare [v3, (.int .i64 2)] st (fun v28 st =>
    cb v28 fun b_5 => br b_5
     (qb (q_fa 3 v3) fun v31 =>
     qb (q_load st false 1 v31) fun v32 =>
     qb (q_ia 4 v32 (.int .i64 0)) fun v33 =>
     qb (q_load st true 4 v33) fun v34 =>
     callK prog n_impl_looker_simple [a0, v34] st (fun v35 st =>
     cb v35 fun b_6 => br b_6
      (qb (q_fa 3 v3) fun v39 =>
      qb (q_load st false 1 v39) fun v40 =>
      qb (q_ia 4 v40 (.int .i64 1)) fun v41 =>
      qb (q_load st true 4 v41) fun v42 =>
      callK prog n_impl_looker_simple [a0, v42] st (fun v43 st =>
      retR R v43 st) (panR R))
      (retR R (.bool false) st)) (panR R))
     (retR R (.bool false) st)) (panR R))
    (retR R (.bool false) st)))) (panR R)
theorem e_impl_looker_simple : Enters prog n_impl_looker_simple := ⟨Go.Proofs.Tryz.f104, by kernel_rfl, by kernel_rfl, by kernel_rfl⟩
theorem c_impl_looker_simple {a0 a1 : PV} {st : St} {R : Res → St → Prop} (h : b_impl_looker_simple a0 a1 st R) : HCalls prog n_impl_looker_simple [a0, a1] st R :=
 hcalls_of_func tyOK mixed (fn := Go.Proofs.Tryz.f104) (by kernel_rfl) (by kernel_rfl) (by kernel_rfl) (ann := [])
  (show hFunc prog TT [] Go.Proofs.Tryz.f104 [a0, a1] st R from (show hFunc prog TT [] Go.Proofs.Tryz.f104 [a0, a1] st R = b_impl_looker_simple a0 a1 st R by kernel_rfl) ▸ h)
def b_impl_KindOK (a0 : PV) (st : St) (R : Res → St → Prop) : Prop :=
 e_box st a0 fun v1 st =>
 qb (q_load st true 4 v1) fun v4 =>
 callK prog n_impl_fresh [] st (fun v3 st =>
 q_load st true 4 v1 = some v4 ∧ (callK prog n_impl_looker_family [v3, v4, (.bool true)] st (fun v5 st =>
 retR R v5 st) (panR R))) (panR R)
theorem e_impl_KindOK : Enters prog n_impl_KindOK := ⟨Go.Proofs.Tryz.f105, by kernel_rfl, by kernel_rfl, by kernel_rfl⟩
theorem c_impl_KindOK {a0 : PV} {st : St} {R : Res → St → Prop} (h : b_impl_KindOK a0 st R) : HCalls prog n_impl_KindOK [a0] st R :=
 hcalls_of_func tyOK mixed (fn := Go.Proofs.Tryz.f105) (by kernel_rfl) (by kernel_rfl) (by kernel_rfl) (ann := [])
  (show hFunc prog TT [] Go.Proofs.Tryz.f105 [a0] st R from (show hFunc prog TT [] Go.Proofs.Tryz.f105 [a0] st R = b_impl_KindOK a0 st R by kernel_rfl) ▸ h)
def b_impl_Tree_under (a0 a1 : PV) (st : St) (R : Res → St → Prop) : Prop :=
 callK prog n_impl_Tree_binds [a0, a1] st (fun v7 st =>
 cb v7 fun b => br b
  (retR R (.int .i64 1) st)
  (retR R (.int .i64 0) st)) (panR R)
theorem e_impl_Tree_under : Enters prog n_impl_Tree_under := ⟨Go.Proofs.Tryz.f106, by kernel_rfl, by kernel_rfl, by kernel_rfl⟩
theorem c_impl_Tree_under {a0 a1 : PV} {st : St} {R : Res → St → Prop} (h : b_impl_Tree_under a0 a1 st R) : HCalls prog n_impl_Tree_under [a0, a1] st R :=
 hcalls_of_func tyOK mixed (fn := Go.Proofs.Tryz.f106) (by kernel_rfl) (by kernel_rfl) (by kernel_rfl) (ann := [])
  (show hFunc prog TT [] Go.Proofs.Tryz.f106 [a0, a1] st R from (show hFunc prog TT [] Go.Proofs.Tryz.f106 [a0, a1] st R = b_impl_Tree_under a0 a1 st R by kernel_rfl) ▸ h)
def b_impl_work_apply (a0 a1 a2 a3 : PV) (st : St) (R : Res → St → Prop) : Prop :=
 e_box st a1 fun v5 st =>
 e_box st a2 fun v6 st =>
 e_alloc st [.int .i64 0, .int .i64 0, .str [], .sl 0 true []] fun v8 st =>
 qb (q_len a3) fun v12 =>
 hFix (fun ls st X =>
  qb (q_bin .lss (ls.getD 0 .junk) v12) fun v14 =>
  cb v14 fun b => br b
   (qb (q_ia 4 a3 (ls.getD 0 .junk)) fun v15 =>
   qb (q_load st true 4 v15) fun v16 =>
   e_alloc st [.int .i64 0, .int .i64 0, .str [], .sl 0 true []] fun v10 st =>
   e_store st 4 v10 v16 fun st =>
   hJ (fun ls_1 st =>
    cb (ls_1.getD 0 .junk) fun b_1 => br b_1
     (callK prog n_impl_stop [(.int .i64 12), (.int .i64 0)] st (fun v25 st =>
     qb (q_nil a0) fun v27 =>
     qb (q_fa 0 v27) fun v28 =>
     qb (q_load st false 1 v28) fun v29 =>
     qb (q_bin .add v29 (.int .i64 1)) fun v30 =>
     qb (q_nil a0) fun v31 =>
     qb (q_fa 0 v31) fun v32 =>
     e_store st 1 v32 v30 fun st =>
     qb (q_nil a0) fun v34 =>
     qb (q_fa 0 v34) fun v35 =>
     qb (q_load st false 1 v35) fun v36 =>
     qb (q_bin .gtr v36 (.int .i64 20000)) fun v37 =>
     hJ (fun ls_2 st =>
      qb (q_load st true 4 v10) fun v40 =>
      qb (q_fa 3 v6) fun v41 =>
      qb (q_load st false 1 v41) fun v42 =>
      qb (q_ia 4 v42 (.int .i64 0)) fun v43 =>
      qb (q_load st true 4 v43) fun v44 =>
      qb (q_fa 3 v5) fun v45 =>
      qb (q_load st false 1 v45) fun v46 =>
      qb (q_ia 4 v46 (.int .i64 0)) fun v47 =>
      qb (q_load st true 4 v47) fun v48 =>
      callK prog n_impl_work_put [a0, v40, v44, (.int .i64 0), v48] st (fun v49 st =>
      e_store st 4 v5 v49 fun st =>
      qb (q_fa 3 v6) fun v50 =>
      qb (q_load st false 1 v50) fun v51 =>
      qb (q_ia 4 v51 (.int .i64 1)) fun v52 =>
      qb (q_load st true 4 v52) fun v53 =>
      e_store st 4 v6 v53 fun st =>
      qb (q_bin .add (ls.getD 0 .junk) (.int .i64 1)) fun v54 =>
      X [v54] st) (panR R))
      (fun k_1 =>
     cb v37 fun b_2 => br b_2
      (callK prog n_impl_stop [(.int .i64 17), (.int .i64 0)] st (fun v38 st =>
      k_1 [] st) (panR R))
      (k_1 [] st))) (panR R))
     (qb (q_nil a0) fun v27_1 =>
     qb (q_fa 0 v27_1) fun v28_1 =>
     qb (q_load st false 1 v28_1) fun v29_1 =>
     qb (q_bin .add v29_1 (.int .i64 1)) fun v30_1 =>
     qb (q_nil a0) fun v31_1 =>
     qb (q_fa 0 v31_1) fun v32_1 =>
     e_store st 1 v32_1 v30_1 fun st =>
     qb (q_nil a0) fun v34_1 =>
     qb (q_fa 0 v34_1) fun v35_1 =>
     qb (q_load st false 1 v35_1) fun v36_1 =>
     qb (q_bin .gtr v36_1 (.int .i64 20000)) fun v37_1 =>
     hJ (fun ls_3 st =>
      qb (q_load st true 4 v10) fun v40_1 =>
      qb (q_fa 3 v6) fun v41_1 =>
      qb (q_load st false 1 v41_1) fun v42_1 =>
      qb (q_ia 4 v42_1 (.int .i64 0)) fun v43_1 =>
      qb (q_load st true 4 v43_1) fun v44_1 =>
      qb (q_fa 3 v5) fun v45_1 =>
      qb (q_load st false 1 v45_1) fun v46_1 =>
      qb (q_ia 4 v46_1 (.int .i64 0)) fun v47_1 =>
      qb (q_load st true 4 v47_1) fun v48_1 =>
      callK prog n_impl_work_put [a0, v40_1, v44_1, (.int .i64 0), v48_1] st (fun v49_1 st =>
      e_store st 4 v5 v49_1 fun st =>
      qb (q_fa 3 v6) fun v50_1 =>
      qb (q_load st false 1 v50_1) fun v51_1 =>
      qb (q_ia 4 v51_1 (.int .i64 1)) fun v52_1 =>
      qb (q_load st true 4 v52_1) fun v53_1 =>
      e_store st 4 v6 v53_1 fun st =>
      qb (q_bin .add (ls.getD 0 .junk) (.int .i64 1)) fun v54_1 =>
      X [v54_1] st) (panR R))
      (fun k_2 =>
     cb v37_1 fun b_3 => br b_3
      (callK prog n_impl_stop [(.int .i64 17), (.int .i64 0)] st (fun v38_1 st =>
      k_2 [] st) (panR R))
      (k_2 [] st))))
    (fun k =>
   qb (q_fa 0 v6) fun v17 =>
   qb (q_load st false 1 v17) fun v18 =>
   qb (q_bin .neq v18 (.int .i64 10)) fun v19 =>
   cb v19 fun b_4 => br b_4
    (k [(.bool true)] st)
    (qb (q_fa 0 v5) fun v21 =>
    qb (q_load st false 1 v21) fun v22 =>
    qb (q_bin .neq v22 (.int .i64 4)) fun v23 =>
    k [v23] st)))
   (qb (q_load st true 4 v5) fun v55 =>
   e_store st 4 v8 v55 fun st =>
   qb (q_load st true 4 v8) fun r => retR R r st))
  [(.int .i64 0)] st
theorem e_impl_work_apply : Enters prog n_impl_work_apply := ⟨Go.Proofs.Tryz.f107, by kernel_rfl, by kernel_rfl, by kernel_rfl⟩
theorem c_impl_work_apply {a0 a1 a2 a3 : PV} {st : St} {R : Res → St → Prop} (h : b_impl_work_apply a0 a1 a2 a3 st R) : HCalls prog n_impl_work_apply [a0, a1, a2, a3] st R :=
 hcalls_of_func tyOK mixed (fn := Go.Proofs.Tryz.f107) (by kernel_rfl) (by kernel_rfl) (by kernel_rfl) (ann := [(8, [13]), (17, [24]), (34, [])])
  (show hFunc prog TT [(8, [13]), (17, [24]), (34, [])] Go.Proofs.Tryz.f107 [a0, a1, a2, a3] st R from (show hFunc prog TT [(8, [13]), (17, [24]), (34, [])] Go.Proofs.Tryz.f107 [a0, a1, a2, a3] st R = b_impl_work_apply a0 a1 a2 a3 st R by kernel_rfl) ▸ h)
def b_spec_KindOK (a0 : PV) (st : St) (R : Res → St → Prop) : Prop :=
 e_box st a0 fun v1 st =>
 qb (q_load st true 4 v1) fun v3 =>
 callK prog n_spec_l01Small [v3] st (fun v4 st =>
 cb v4 fun b => br b
  (qb (q_load st true 4 v1) fun v6 =>
  callK prog n_spec_l01Kind [v6] st (fun v7 st =>
  retR R v7 st) (panR R))
  (retR R (.bool false) st)) (panR R)
theorem e_spec_KindOK : Enters prog n_spec_KindOK := ⟨Go.Proofs.Tryz.f108, by kernel_rfl, by kernel_rfl, by kernel_rfl⟩
theorem c_spec_KindOK {a0 : PV} {st : St} {R : Res → St → Prop} (h : b_spec_KindOK a0 st R) : HCalls prog n_spec_KindOK [a0] st R :=
 hcalls_of_func tyOK mixed (fn := Go.Proofs.Tryz.f108) (by kernel_rfl) (by kernel_rfl) (by kernel_rfl) (ann := [])
  (show hFunc prog TT [] Go.Proofs.Tryz.f108 [a0] st R from (show hFunc prog TT [] Go.Proofs.Tryz.f108 [a0] st R = b_spec_KindOK a0 st R by kernel_rfl) ▸ h)
def b_spec_l01Under (a0 a1 : PV) (st : St) (R : Res → St → Prop) : Prop :=
 e_box st a0 fun v2 st =>
 qb (q_load st true 4 v2) fun v5 =>
 callK prog n_spec_l01Binds [v5, a1] st (fun v7 st =>
 cb v7 fun b => br b
  (retR R (.int .i64 1) st)
  (retR R (.int .i64 0) st)) (panR R)
theorem e_spec_l01Under : Enters prog n_spec_l01Under := ⟨Go.Proofs.Tryz.f109, by kernel_rfl, by kernel_rfl, by kernel_rfl⟩
theorem c_spec_l01Under {a0 a1 : PV} {st : St} {R : Res → St → Prop} (h : b_spec_l01Under a0 a1 st R) : HCalls prog n_spec_l01Under [a0, a1] st R :=
 hcalls_of_func tyOK mixed (fn := Go.Proofs.Tryz.f109) (by kernel_rfl) (by kernel_rfl) (by kernel_rfl) (ann := [])
  (show hFunc prog TT [] Go.Proofs.Tryz.f109 [a0, a1] st R from (show hFunc prog TT [] Go.Proofs.Tryz.f109 [a0, a1] st R = b_spec_l01Under a0 a1 st R by kernel_rfl) ▸ h)
def b_spec_l03Run_reduce (a0 a1 a2 a3 : PV) (st : St) (R : Res → St → Prop) : Prop :=
 e_box st a1 fun v5 st =>
 e_box st a2 fun v6 st =>
 e_alloc st [.int .i64 0, .int .i64 0, .str [], .sl 0 true []] fun v8 st =>
 hJ (fun ls st =>
  qb (q_load st true 4 v5) fun v67 =>
  callK prog n_spec_l01Copy [v67] st (fun v68 st =>
  e_store st 4 v8 v68 fun st =>
  qb (q_load st true 4 v8) fun r => retR R (.tup [r, (.int .i64 0)]) st) (panR R))
  (fun k =>
 hFix (fun ls_1 st X =>
  qb (q_len a3) fun v15 =>
  qb (q_bin .lss (ls_1.getD 0 .junk) v15) fun v16 =>
  cb v16 fun b => br b
   (hJ (fun ls_2 st =>
    cb (ls_2.getD 0 .junk) fun b_1 => br b_1
     (qb (q_struct [.int .i64 0, .int .i64 0, .str [], .sl 0 true []] []) fun v27 =>
     e_store st 4 v8 v27 fun st =>
     qb (q_load st true 4 v8) fun r_1 => retR R (.tup [r_1, (.int .i64 12)]) st)
     (qb (q_nil a0) fun v29 =>
     qb (q_fa 0 v29) fun v30 =>
     qb (q_load st false 1 v30) fun v31 =>
     qb (q_bin .add v31 (.int .i64 1)) fun v32 =>
     qb (q_nil a0) fun v33 =>
     qb (q_fa 0 v33) fun v34 =>
     e_store st 1 v34 v32 fun st =>
     qb (q_nil a0) fun v36 =>
     qb (q_fa 0 v36) fun v37 =>
     qb (q_load st false 1 v37) fun v38 =>
     qb (q_bin .gtr v38 (.int .i64 20000)) fun v39 =>
     cb v39 fun b_2 => br b_2
      (qb (q_struct [.int .i64 0, .int .i64 0, .str [], .sl 0 true []] []) fun v40 =>
      e_store st 4 v8 v40 fun st =>
      qb (q_load st true 4 v8) fun r_2 => retR R (.tup [r_2, (.int .i64 17)]) st)
      (hJ (fun ls_3 st =>
       qb (q_bin .neq (ls_3.getD 1 .junk) (.int .i64 0)) fun v59 =>
       cb v59 fun b_3 => br b_3
        (qb (q_struct [.int .i64 0, .int .i64 0, .str [], .sl 0 true []] []) fun v60 =>
        e_store st 4 v8 v60 fun st =>
        qb (q_load st true 4 v8) fun r_3 => retR R (.tup [r_3, (ls_3.getD 1 .junk)]) st)
        (qb (q_load st true 4 (ls_3.getD 0 .junk)) fun v62 =>
        e_store st 4 v5 v62 fun st =>
        qb (q_fa 3 v6) fun v63 =>
        qb (q_load st false 1 v63) fun v64 =>
        qb (q_ia 4 v64 (.int .i64 1)) fun v65 =>
        qb (q_load st true 4 v65) fun v66 =>
        e_store st 4 v6 v66 fun st =>
        qb (q_bin .add (ls_1.getD 0 .junk) (.int .i64 1)) fun v18 =>
        X [v18] st))
       (fun k_2 =>
      qb (q_ia 4 a3 (ls_1.getD 0 .junk)) fun v45 =>
      qb (q_load st true 4 v45) fun v46 =>
      qb (q_fa 3 v6) fun v47 =>
      qb (q_load st false 1 v47) fun v48 =>
      qb (q_ia 4 v48 (.int .i64 0)) fun v49 =>
      qb (q_load st true 4 v49) fun v50 =>
      qb (q_fa 3 v5) fun v51 =>
      qb (q_load st false 1 v51) fun v52 =>
      qb (q_ia 4 v52 (.int .i64 0)) fun v53 =>
      qb (q_load st true 4 v53) fun v54 =>
      (callK prog n_spec_l03Run_sub [a0, v46, v50, v54, (.int .i64 0)] st (fun v55 st =>
      qb (q_ex v55 0) fun v56 =>
      qb (q_ex v55 1) fun v57 =>
      e_alloc st [.int .i64 0, .int .i64 0, .str [], .sl 0 true []] fun v11 st =>
      q_load st true 4 v53 = some v54 ∧ q_load st false 1 v51 = some v52 ∧ q_load st true 4 v49 = some v50 ∧ q_load st false 1 v47 = some v48 ∧ q_load st true 4 v45 = some v46 ∧ (e_store st 4 v11 v56 fun st =>
      k_2 [v11, v57] st)) (panR R)) ∧
      (e_alloc st [.int .i64 0, .int .i64 0, .str [], .sl 0 true []] fun v11_1 st =>
      q_load st true 4 v53 = some v54 ∧ q_load st false 1 v51 = some v52 ∧ q_load st true 4 v49 = some v50 ∧ q_load st false 1 v47 = some v48 ∧ q_load st true 4 v45 = some v46 ∧ (callK prog n_spec_l03Run_sub [a0, v46, v50, v54, (.int .i64 0)] st (fun v55_1 st =>
      qb (q_ex v55_1 0) fun v56_1 =>
      qb (q_ex v55_1 1) fun v57_1 =>
      e_store st 4 v11_1 v56_1 fun st =>
      k_2 [v11_1, v57_1] st) (panR R)))))))
    (fun k_1 =>
   qb (q_fa 0 v6) fun v19 =>
   qb (q_load st false 1 v19) fun v20 =>
   qb (q_bin .neq v20 (.int .i64 10)) fun v21 =>
   cb v21 fun b_4 => br b_4
    (k_1 [(.bool true)] st)
    (qb (q_fa 0 v5) fun v23 =>
    qb (q_load st false 1 v23) fun v24 =>
    qb (q_bin .neq v24 (.int .i64 4)) fun v25 =>
    k_1 [v25] st)))
   (k [] st))
  [(.int .i64 0)] st)
theorem e_spec_l03Run_reduce : Enters prog n_spec_l03Run_reduce := ⟨Go.Proofs.Tryz.f110, by kernel_rfl, by kernel_rfl, by kernel_rfl⟩
theorem c_spec_l03Run_reduce {a0 a1 a2 a3 : PV} {st : St} {R : Res → St → Prop} (h : b_spec_l03Run_reduce a0 a1 a2 a3 st R) : HCalls prog n_spec_l03Run_reduce [a0, a1, a2, a3] st R :=
 hcalls_of_func tyOK mixed (fn := Go.Proofs.Tryz.f110) (by kernel_rfl) (by kernel_rfl) (by kernel_rfl) (ann := [(8, [10]), (3, []), (17, [26]), (37, [11, 12])])
  (show hFunc prog TT [(8, [10]), (3, []), (17, [26]), (37, [11, 12])] Go.Proofs.Tryz.f110 [a0, a1, a2, a3] st R from (show hFunc prog TT [(8, [10]), (3, []), (17, [26]), (37, [11, 12])] Go.Proofs.Tryz.f110 [a0, a1, a2, a3] st R = b_spec_l03Run_reduce a0 a1 a2 a3 st R by kernel_rfl) ▸ h)
def b_impl_looker_family (a0 a1 a2 : PV) (st : St) (R : Res → St → Prop) : Prop :=
 e_box st a1 fun v4 st =>
 callK prog n_impl_looker_node [a0] st (fun v8 st =>
 qb (q_un .not v8) fun v9 =>
 cb v9 fun b => br b
  (retR R (.bool false) st)
  (qb (q_fa 0 v4) fun v10 =>
  qb (q_load st false 1 v10) fun v11 =>
  qb (q_bin .eql v11 (.int .i64 1)) fun v13 =>
  cb v13 fun b_1 => br b_1
   (cb a2 fun b_2 => br b_2
    (callK prog n_impl_Tree_bare [v4, (.int .i64 0)] st (fun v16 st =>
    retR R v16 st) (panR R))
    (retR R (.bool false) st))
   (qb (q_bin .eql v11 (.int .i64 3)) fun v19 =>
   cb v19 fun b_3 => br b_3
    (qb (q_un .not a2) fun v21 =>
    cb v21 fun b_4 => br b_4
     (qb (q_fa 1 v4) fun v23 =>
     qb (q_load st false 1 v23) fun v24 =>
     qb (q_bin .eql v24 (.int .i64 0)) fun v25 =>
     cb v25 fun b_5 => br b_5
      (qb (q_fa 2 v4) fun v28 =>
      qb (q_load st false 1 v28) fun v29 =>
      callK prog n_impl_NameOK [v29] st (fun v30 st =>
      cb v30 fun b_6 => br b_6
       (qb (q_fa 3 v4) fun v34 =>
       qb (q_load st false 1 v34) fun v35 =>
       callK prog n_impl_looker_args [a0, v35] st (fun v36 st =>
       retR R v36 st) (panR R))
       (retR R (.bool false) st)) (panR R))
      (retR R (.bool false) st))
     (retR R (.bool false) st))
    (qb (q_bin .eql v11 (.int .i64 2)) fun v39 =>
    cb v39 fun b_7 => br b_7
     (callK prog n_impl_Tree_bare [v4, (.int .i64 2)] st (fun v40 st =>
     cb v40 fun b_8 => br b_8
      (qb (q_fa 3 v4) fun v43 =>
      qb (q_load st false 1 v43) fun v44 =>
      qb (q_ia 4 v44 (.int .i64 0)) fun v45 =>
      qb (q_load st true 4 v45) fun v46 =>
      callK prog n_impl_looker_family [a0, v46, (.bool false)] st (fun v47 st =>
      cb v47 fun b_9 => br b_9
       (qb (q_fa 3 v4) fun v51 =>
       qb (q_load st false 1 v51) fun v52 =>
       qb (q_ia 4 v52 (.int .i64 1)) fun v53 =>
       qb (q_load st true 4 v53) fun v54 =>
       callK prog n_impl_looker_family [a0, v54, a2] st (fun v56 st =>
       retR R v56 st) (panR R))
       (retR R (.bool false) st)) (panR R))
      (retR R (.bool false) st)) (panR R))
     (retR R (.bool false) st))))) (panR R)
theorem e_impl_looker_family : Enters prog n_impl_looker_family := ⟨Go.Proofs.Tryz.f111, by kernel_rfl, by kernel_rfl, by kernel_rfl⟩
theorem c_impl_looker_family {a0 a1 a2 : PV} {st : St} {R : Res → St → Prop} (h : b_impl_looker_family a0 a1 a2 st R) : HCalls prog n_impl_looker_family [a0, a1, a2] st R :=
 hcalls_of_func tyOK mixed (fn := Go.Proofs.Tryz.f111) (by kernel_rfl) (by kernel_rfl) (by kernel_rfl) (ann := [])
  (show hFunc prog TT [] Go.Proofs.Tryz.f111 [a0, a1, a2] st R from (show hFunc prog TT [] Go.Proofs.Tryz.f111 [a0, a1, a2] st R = b_impl_looker_family a0 a1 a2 st R by kernel_rfl) ▸ h)
def b_spec_l00Src_typed (a0 a1 a2 a3 a4 : PV) (st : St) (R : Res → St → Prop) : Prop :=
 e_box st a3 fun v8 st =>
 e_alloc st [.int .i64 0, .int .i64 0, .str [], .sl 0 true []] fun v10 st =>
 qb (q_fa 0 v8) fun v20 =>
 qb (q_load st false 1 v20) fun v21 =>
 qb (q_bin .eql v21 (.int .i64 10)) fun v22 =>
 cb v22 fun b => br b
  (qb (q_lit 4 0 0 [] []) fun v24 =>
  qb (q_fa 3 v8) fun v27 =>
  qb (q_load st false 1 v27) fun v28 =>
  qb (q_ia 4 v28 (.int .i64 0)) fun v29 =>
  qb (q_load st true 4 v29) fun v30 =>
  qb (q_lit 4 1 0 [] [(0, v30)]) fun v31 =>
  qb (q_fa 3 v8) fun v34 =>
  qb (q_load st false 1 v34) fun v35 =>
  qb (q_ia 4 v35 (.int .i64 1)) fun v36 =>
  qb (q_load st true 4 v36) fun v37 =>
  e_append st 4 56 v24 a1 (fun v26 st =>
  q_load st true 4 v36 = some v37 ∧ q_load st false 1 v34 = some v35 ∧ q_load st true 4 v29 = some v30 ∧ q_load st false 1 v27 = some v28 ∧ (e_append st 4 56 v26 v31 (fun v32 st =>
  q_load st true 4 v36 = some v37 ∧ q_load st false 1 v34 = some v35 ∧ (callK prog n_spec_l00Src_typed [a0, v32, a2, v37, a4] st (fun v39 st =>
  callK prog n_spec_l01Lam [v39] st (fun v40 st =>
  e_store st 4 v10 v40 fun st =>
  qb (q_load st true 4 v10) fun r => retR R r st) (panR R)) (panR R))))))
  (callK prog n_spec_l03Some [] st (fun v41 st =>
  qb (q_lit 4 0 0 [] []) fun v42 =>
  qb (q_lit 4 0 0 [] []) fun v43 =>
  hFix (fun ls st X =>
   qb (q_len a1) fun v46 =>
   qb (q_bin .lss (ls.getD 2 .junk) v46) fun v47 =>
   cb v47 fun b_1 => br b_1
    (hJ (fun ls_1 st =>
     cb (ls_1.getD 0 .junk) fun b_2 => br b_2
      (qb (q_len a1) fun v73 =>
      qb (q_bin .sub v73 (.int .i64 1)) fun v74 =>
      qb (q_bin .sub v74 (ls.getD 2 .junk)) fun v76 =>
      callK prog n_spec_l01Var [v76, (.sl 0 true [])] st (fun v77 st =>
      qb (q_lit 4 1 0 [] [(0, v77)]) fun v78 =>
      e_append st 4 56 (ls.getD 0 .junk) v78 (fun v79 st =>
      qb (q_ia 4 a1 (ls.getD 2 .junk)) fun v83 =>
      qb (q_load st true 4 v83) fun v84 =>
      qb (q_lit 4 1 0 [] [(0, v84)]) fun v85 =>
      e_append st 4 56 (ls.getD 1 .junk) v85 (fun v86 st =>
      qb (q_bin .add (ls.getD 2 .junk) (.int .i64 1)) fun v49 =>
      X [v79, v86, v49] st))) (panR R))
      (qb (q_bin .add (ls.getD 2 .junk) (.int .i64 1)) fun v49_1 =>
      X [(ls.getD 0 .junk), (ls.getD 1 .junk), v49_1] st))
     (fun k =>
    qb (q_ia 4 a1 (ls.getD 2 .junk)) fun v52 =>
    qb (q_load st true 4 v52) fun v53 =>
    qb (q_fa 2 v8) fun v56 =>
    qb (q_load st false 1 v56) fun v57 =>
    callK prog n_spec_l03Target [v53] st (fun v54 st =>
    q_load st false 1 v56 = some v57 ∧ (qb (q_field false 1 2 v54) fun v55 =>
    qb (q_bin .eql v55 v57) fun v58 =>
    cb v58 fun b_3 => br b_3
     (qb (q_bin .gtr a4 (.int .i64 0)) fun v61 =>
     cb v61 fun b_4 => br b_4
      (k [(.bool true)] st)
      (qb (q_ia 4 a1 (ls.getD 2 .junk)) fun v65 =>
      qb (q_fa 0 v65) fun v66 =>
      qb (q_load st false 1 v66) fun v67 =>
      qb (q_bin .eql v67 (.int .i64 9)) fun v68 =>
      k [v68] st))
     (k [(.bool false)] st))) (panR R)))
    (hFix (fun ls_2 st X_1 =>
     qb (q_len a2) fun v89 =>
     qb (q_bin .lss (ls_2.getD 2 .junk) v89) fun v90 =>
     cb v90 fun b_5 => br b_5
      (hJ (fun ls_3 st =>
       cb (ls_3.getD 0 .junk) fun b_6 => br b_6
        (qb (q_struct [.int .i64 0, .int .i64 0, .str [], .sl 0 true []] [(0, 1, (.int .i64 7)), (1, 1, (ls_2.getD 2 .junk))]) fun v116 =>
        qb (q_lit 4 1 0 [] [(0, v116)]) fun v117 =>
        e_append st 4 56 (ls_2.getD 0 .junk) v117 (fun v118 st =>
        qb (q_ia 4 a2 (ls_2.getD 2 .junk)) fun v122 =>
        qb (q_load st true 4 v122) fun v123 =>
        qb (q_lit 4 1 0 [] [(0, v123)]) fun v124 =>
        e_append st 4 56 (ls_2.getD 1 .junk) v124 (fun v125 st =>
        qb (q_bin .add (ls_2.getD 2 .junk) (.int .i64 1)) fun v92 =>
        X_1 [v118, v125, v92] st)))
        (qb (q_bin .add (ls_2.getD 2 .junk) (.int .i64 1)) fun v92_1 =>
        X_1 [(ls_2.getD 0 .junk), (ls_2.getD 1 .junk), v92_1] st))
       (fun k_1 =>
      qb (q_ia 4 a2 (ls_2.getD 2 .junk)) fun v95 =>
      qb (q_load st true 4 v95) fun v96 =>
      qb (q_fa 2 v8) fun v99 =>
      qb (q_load st false 1 v99) fun v100 =>
      callK prog n_spec_l03Target [v96] st (fun v97 st =>
      q_load st false 1 v99 = some v100 ∧ (qb (q_field false 1 2 v97) fun v98 =>
      qb (q_bin .eql v98 v100) fun v101 =>
      cb v101 fun b_7 => br b_7
       (qb (q_bin .gtr a4 (.int .i64 0)) fun v104 =>
       cb v104 fun b_8 => br b_8
        (k_1 [(.bool true)] st)
        (qb (q_ia 4 a2 (ls_2.getD 2 .junk)) fun v108 =>
        qb (q_fa 0 v108) fun v109 =>
        qb (q_load st false 1 v109) fun v110 =>
        qb (q_bin .eql v110 (.int .i64 9)) fun v111 =>
        k_1 [v111] st))
       (k_1 [(.bool false)] st))) (panR R)))
      (hFix (fun ls_4 st X_2 =>
       qb (q_len v41) fun v128 =>
       qb (q_bin .lss (ls_4.getD 2 .junk) v128) fun v129 =>
       cb v129 fun b_9 => br b_9
        (hJ (fun ls_5 st =>
         cb (ls_5.getD 0 .junk) fun b_10 => br b_10
          (qb (q_ia 5 v41 (ls_4.getD 2 .junk)) fun v158 =>
          qb (q_fa 0 v158) fun v159 =>
          qb (q_load st false 1 v159) fun v160 =>
          callK prog n_spec_l01Const [v160, (.sl 0 true [])] st (fun v161 st =>
          qb (q_lit 4 1 0 [] [(0, v161)]) fun v162 =>
          e_append st 4 56 (ls_4.getD 0 .junk) v162 (fun v163 st =>
          qb (q_ia 5 v41 (ls_4.getD 2 .junk)) fun v167 =>
          qb (q_fa 1 v167) fun v168 =>
          qb (q_load st true 4 v168) fun v169 =>
          qb (q_lit 4 1 0 [] [(0, v169)]) fun v170 =>
          e_append st 4 56 (ls_4.getD 1 .junk) v170 (fun v171 st =>
          qb (q_bin .add (ls_4.getD 2 .junk) (.int .i64 1)) fun v131 =>
          X_2 [v163, v171, v131] st))) (panR R))
          (qb (q_bin .add (ls_4.getD 2 .junk) (.int .i64 1)) fun v131_1 =>
          X_2 [(ls_4.getD 0 .junk), (ls_4.getD 1 .junk), v131_1] st))
         (fun k_2 =>
        qb (q_ia 5 v41 (ls_4.getD 2 .junk)) fun v134 =>
        qb (q_fa 1 v134) fun v135 =>
        qb (q_load st true 4 v135) fun v136 =>
        qb (q_fa 2 v8) fun v139 =>
        qb (q_load st false 1 v139) fun v140 =>
        callK prog n_spec_l03Target [v136] st (fun v137 st =>
        q_load st false 1 v139 = some v140 ∧ (qb (q_field false 1 2 v137) fun v138 =>
        qb (q_bin .eql v138 v140) fun v141 =>
        cb v141 fun b_11 => br b_11
         (qb (q_bin .gtr a4 (.int .i64 0)) fun v144 =>
         cb v144 fun b_12 => br b_12
          (k_2 [(.bool true)] st)
          (qb (q_ia 5 v41 (ls_4.getD 2 .junk)) fun v148 =>
          qb (q_fa 1 v148) fun v149 =>
          qb (q_fa 0 v149) fun v150 =>
          qb (q_load st false 1 v150) fun v151 =>
          qb (q_bin .eql v151 (.int .i64 9)) fun v152 =>
          k_2 [v152] st))
         (k_2 [(.bool false)] st))) (panR R)))
        (qb (q_len (ls_4.getD 0 .junk)) fun v174 =>
        callK prog n_spec_l00Src_next [a0, v174] st (fun v175 st =>
        qb (q_ia 4 (ls_4.getD 0 .junk) v175) fun v178 =>
        qb (q_load st true 4 v178) fun v179 =>
        e_alloc st [.int .i64 0, .int .i64 0, .str [], .sl 0 true []] fun v18 st =>
        e_store st 4 v18 v179 fun st =>
        qb (q_ia 4 (ls_4.getD 1 .junk) v175) fun v182 =>
        qb (q_load st true 4 v182) fun v183 =>
        e_alloc st [.int .i64 0, .int .i64 0, .str [], .sl 0 true []] fun v19 st =>
        e_store st 4 v19 v183 fun st =>
        hFix (fun ls_6 st X_3 =>
         qb (q_fa 0 (ls_6.getD 0 .junk)) fun v184 =>
         qb (q_load st false 1 v184) fun v185 =>
         qb (q_bin .eql v185 (.int .i64 10)) fun v186 =>
         cb v186 fun b_13 => br b_13
          (qb (q_fa 3 v18) fun v191 =>
          qb (q_load st false 1 v191) fun v192 =>
          qb (q_fa 3 (ls_6.getD 0 .junk)) fun v196 =>
          qb (q_load st false 1 v196) fun v197 =>
          qb (q_ia 4 v197 (.int .i64 0)) fun v198 =>
          qb (q_load st true 4 v198) fun v199 =>
          qb (q_bin .sub a4 (.int .i64 1)) fun v201 =>
          callK prog n_spec_l00Src_typed [a0, a1, a2, v199, v201] st (fun v202 st =>
          q_load st false 1 v191 = some v192 ∧ (qb (q_lit 4 1 0 [] [(0, v202)]) fun v203 =>
          e_append st 4 56 v192 v203 (fun v204 st =>
          qb (q_fa 3 v18) fun v205 =>
          e_store st 1 v205 v204 fun st =>
          qb (q_load st true 4 (ls_6.getD 0 .junk)) fun v206 =>
          e_alloc st [.int .i64 0, .int .i64 0, .str [], .sl 0 true []] fun v19_1 st =>
          e_store st 4 v19_1 v206 fun st =>
          qb (q_fa 3 v19_1) fun v187 =>
          qb (q_load st false 1 v187) fun v188 =>
          qb (q_ia 4 v188 (.int .i64 1)) fun v189 =>
          qb (q_load st true 4 v189) fun v190 =>
          e_store st 4 v19_1 v190 fun st =>
          X_3 [v19_1] st))) (panR R))
          (qb (q_load st true 4 v18) fun v207 =>
          e_store st 4 v10 v207 fun st =>
          qb (q_load st true 4 v10) fun r_1 => retR R r_1 st))
         [v19] st) (panR R)))
       [(ls_2.getD 0 .junk), (ls_2.getD 1 .junk), (.int .i64 0)] st))
     [(ls.getD 0 .junk), (ls.getD 1 .junk), (.int .i64 0)] st))
   [v42, v43, (.int .i64 0)] st) (panR R))
theorem e_spec_l00Src_typed : Enters prog n_spec_l00Src_typed := ⟨Go.Proofs.Tryz.f112, by kernel_rfl, by kernel_rfl, by kernel_rfl⟩
def b_spec_l01Count (a0 a1 : PV) (st : St) (R : Res → St → Prop) : Prop :=
 e_box st a0 fun v2 st =>
 qb (q_bin .sub a1 (.int .i64 1)) fun v7 =>
 hFix (fun ls st X =>
  hJ (fun ls_1 st =>
   cb (ls_1.getD 0 .junk) fun b => br b
    (qb (q_fa 3 v2) fun v19 =>
    qb (q_load st false 1 v19) fun v20 =>
    qb (q_ia 4 v20 (ls.getD 1 .junk)) fun v22 =>
    qb (q_load st true 4 v22) fun v23 =>
    callK prog n_spec_l01Count [v23, (ls.getD 0 .junk)] st (fun v25 st =>
    qb (q_bin .add (ls.getD 1 .junk) (.int .i64 1)) fun v18 =>
    X [v25, v18] st) (panR R))
    (retR R (ls.getD 0 .junk) st))
   (fun k =>
  qb (q_fa 3 v2) fun v9 =>
  qb (q_load st false 1 v9) fun v10 =>
  qb (q_len v10) fun v11 =>
  qb (q_bin .lss (ls.getD 1 .junk) v11) fun v12 =>
  cb v12 fun b_1 => br b_1
   (qb (q_bin .geq (ls.getD 0 .junk) (.int .i64 0)) fun v15 =>
   k [v15] st)
   (k [(.bool false)] st)))
  [v7, (.int .i64 0)] st
theorem e_spec_l01Count : Enters prog n_spec_l01Count := ⟨Go.Proofs.Tryz.f113, by kernel_rfl, by kernel_rfl, by kernel_rfl⟩
theorem c_spec_l01Count {a0 a1 : PV} {st : St} {R : Res → St → Prop} (h : b_spec_l01Count a0 a1 st R) : HCalls prog n_spec_l01Count [a0, a1] st R :=
 hcalls_of_func tyOK mixed (fn := Go.Proofs.Tryz.f113) (by kernel_rfl) (by kernel_rfl) (by kernel_rfl) (ann := [(12, [1, 5]), (13, [16])])
  (show hFunc prog TT [(12, [1, 5]), (13, [16])] Go.Proofs.Tryz.f113 [a0, a1] st R from (show hFunc prog TT [(12, [1, 5]), (13, [16])] Go.Proofs.Tryz.f113 [a0, a1] st R = b_spec_l01Count a0 a1 st R by kernel_rfl) ▸ h)
def b_spec_l01Type (st : St) (R : Res → St → Prop) : Prop :=
 e_alloc st [.int .i64 0, .int .i64 0, .str [], .sl 0 true []] fun v0 st =>
 qb (q_struct [.int .i64 0, .int .i64 0, .str [], .sl 0 true []] [(0, 1, (.int .i64 1))]) fun v1 =>
 e_store st 4 v0 v1 fun st =>
 qb (q_load st true 4 v0) fun r => retR R r st
theorem e_spec_l01Type : Enters prog n_spec_l01Type := ⟨Go.Proofs.Tryz.f114, by kernel_rfl, by kernel_rfl, by kernel_rfl⟩
theorem c_spec_l01Type {st : St} {R : Res → St → Prop} (h : b_spec_l01Type  st R) : HCalls prog n_spec_l01Type [] st R :=
 hcalls_of_func tyOK mixed (fn := Go.Proofs.Tryz.f114) (by kernel_rfl) (by kernel_rfl) (by kernel_rfl) (ann := [])
  (show hFunc prog TT [] Go.Proofs.Tryz.f114 [] st R from (show hFunc prog TT [] Go.Proofs.Tryz.f114 [] st R = b_spec_l01Type  st R by kernel_rfl) ▸ h)
def b_impl_CtxOK (a0 a1 : PV) (st : St) (R : Res → St → Prop) : Prop :=
 qb (q_len a1) fun v8 =>
 qb (q_bin .gtr v8 (.int .i64 40)) fun v9 =>
 cb v9 fun b => br b
  (retR R (.bool false) st)
  (callK prog n_impl_SigOK [a0] st (fun v12 st =>
  qb (q_un .not v12) fun v13 =>
  cb v13 fun b_1 => br b_1
   (retR R (.bool false) st)
   (qb (q_len a1) fun v16 =>
   hFix (fun ls st X =>
    qb (q_bin .lss (ls.getD 0 .junk) v16) fun v18 =>
    cb v18 fun b_2 => br b_2
     (qb (q_ia 4 a1 (ls.getD 0 .junk)) fun v20 =>
     qb (q_load st true 4 v20) fun v21 =>
     e_alloc st [.int .i64 0, .int .i64 0, .str [], .sl 0 true []] fun v6 st =>
     e_store st 4 v6 v21 fun st =>
     qb (q_load st true 4 v6) fun v22 =>
     callK prog n_impl_FamilyOK [v22] st (fun v23 st =>
     qb (q_un .not v23) fun v24 =>
     cb v24 fun b_3 => br b_3
      (retR R (.bool false) st)
      (qb (q_sliceE 4 a1 none (some (ls.getD 0 .junk)) none) fun v29 =>
      qb (q_load st true 4 v6) fun v30 =>
      callK prog n_impl_familyFault [a0, v29, v30] st (fun v31 st =>
      qb (q_field false 1 0 v31) fun v32 =>
      qb (q_bin .neq v32 (.int .i64 0)) fun v33 =>
      cb v33 fun b_4 => br b_4
       (retR R (.bool false) st)
       (qb (q_bin .add (ls.getD 0 .junk) (.int .i64 1)) fun v35 =>
       X [v35] st)) (panR R))) (panR R))
     (retR R (.bool true) st))
    [(.int .i64 0)] st)) (panR R))
theorem e_impl_CtxOK : Enters prog n_impl_CtxOK := ⟨Go.Proofs.Tryz.f115, by kernel_rfl, by kernel_rfl, by kernel_rfl⟩
theorem c_impl_CtxOK {a0 a1 : PV} {st : St} {R : Res → St → Prop} (h : b_impl_CtxOK a0 a1 st R) : HCalls prog n_impl_CtxOK [a0, a1] st R :=
 hcalls_of_func tyOK mixed (fn := Go.Proofs.Tryz.f115) (by kernel_rfl) (by kernel_rfl) (by kernel_rfl) (ann := [(16, [17])])
  (show hFunc prog TT [(16, [17])] Go.Proofs.Tryz.f115 [a0, a1] st R from (show hFunc prog TT [(16, [17])] Go.Proofs.Tryz.f115 [a0, a1] st R = b_impl_CtxOK a0 a1 st R by kernel_rfl) ▸ h)
def b_impl_checked_1 (a0 a1 : PV) (st : St) (R : Res → St → Prop) : Prop :=
 qb (q_load st false 1 a0) fun v2 =>
 qb (q_load st false 1 a1) fun v3 =>
 qb (q_struct [.int .i64 0, .sl 0 true []] [(1, 1, v3)]) fun v4 =>
 e_box st v4 fun v5 st =>
 e_call prog st v2 [v5] (fun v6 st =>
 retR R (.tup []) st) (panR R)
theorem e_impl_checked_1 : Enters prog n_impl_checked_1 := ⟨Go.Proofs.Tryz.f116, by kernel_rfl, by kernel_rfl, by kernel_rfl⟩
theorem c_impl_checked_1 {a0 a1 : PV} {st : St} {R : Res → St → Prop} (h : b_impl_checked_1 a0 a1 st R) : HCalls prog n_impl_checked_1 [a0, a1] st R :=
 hcalls_of_func tyOK mixed (fn := Go.Proofs.Tryz.f116) (by kernel_rfl) (by kernel_rfl) (by kernel_rfl) (ann := [])
  (show hFunc prog TT [] Go.Proofs.Tryz.f116 [a0, a1] st R from (show hFunc prog TT [] Go.Proofs.Tryz.f116 [a0, a1] st R = b_impl_checked_1 a0 a1 st R by kernel_rfl) ▸ h)
def b_impl_familyFault (a0 a1 a2 : PV) (st : St) (R : Res → St → Prop) : Prop :=
 e_box st a0 fun v3 st =>
 e_box st a1 fun v4 st =>
 e_box st a2 fun v5 st =>
 e_alloc st [.int .i64 0, .int .i64 0] fun v6 st =>
 callK prog n_impl_caught [(.fn (.func n_impl_familyFault_1) [] [v3, v4, v5])] st (fun v8 st =>
 e_store st 2 v6 v8 fun st =>
 qb (q_load st true 2 v6) fun r => retR R r st) (panR R)
theorem e_impl_familyFault : Enters prog n_impl_familyFault := ⟨Go.Proofs.Tryz.f117, by kernel_rfl, by kernel_rfl, by kernel_rfl⟩
theorem c_impl_familyFault {a0 a1 a2 : PV} {st : St} {R : Res → St → Prop} (h : b_impl_familyFault a0 a1 a2 st R) : HCalls prog n_impl_familyFault [a0, a1, a2] st R :=
 hcalls_of_func tyOK mixed (fn := Go.Proofs.Tryz.f117) (by kernel_rfl) (by kernel_rfl) (by kernel_rfl) (ann := [])
  (show hFunc prog TT [] Go.Proofs.Tryz.f117 [a0, a1, a2] st R from (show hFunc prog TT [] Go.Proofs.Tryz.f117 [a0, a1, a2] st R = b_impl_familyFault a0 a1 a2 st R by kernel_rfl) ▸ h)
def b_impl_behind (a0 a1 : PV) (st : St) (R : Res → St → Prop) : Prop :=
 e_box st a1 fun v3 st =>
 qb (q_load st true 4 v3) fun v7 =>
 qb (q_lit 4 1 0 [] [(0, v7)]) fun v8 =>
 callK prog n_slices_Clip_impl_Tree_impl_Tree [a0] st (fun v6 st =>
 q_load st true 4 v3 = some v7 ∧ (e_append st 4 56 v6 v8 (fun v9 st =>
 retR R v9 st))) (panR R)
theorem e_impl_behind : Enters prog n_impl_behind := ⟨Go.Proofs.Tryz.f118, by kernel_rfl, by kernel_rfl, by kernel_rfl⟩
theorem c_impl_behind {a0 a1 : PV} {st : St} {R : Res → St → Prop} (h : b_impl_behind a0 a1 st R) : HCalls prog n_impl_behind [a0, a1] st R :=
 hcalls_of_func tyOK mixed (fn := Go.Proofs.Tryz.f118) (by kernel_rfl) (by kernel_rfl) (by kernel_rfl) (ann := [])
  (show hFunc prog TT [] Go.Proofs.Tryz.f118 [a0, a1] st R from (show hFunc prog TT [] Go.Proofs.Tryz.f118 [a0, a1] st R = b_impl_behind a0 a1 st R by kernel_rfl) ▸ h)
def b_impl_checker_found (a0 a1 a2 a3 : PV) (st : St) (R : Res → St → Prop) : Prop :=
 e_box st a2 fun v6 st =>
 e_alloc st [.int .i64 0, .int .i64 0, .str [], .sl 0 true []] fun v8 st =>
 hJ (fun ls st =>
  qb (q_fa 0 (ls.getD 0 .junk)) fun v22 =>
  qb (q_load st false 1 v22) fun v23 =>
  qb (q_bin .neq v23 (.int .i64 3)) fun v24 =>
  cb v24 fun b => br b
   (callK prog n_impl_stop [(.int .i64 8), a3] st (fun v26 st =>
   qb (q_load st true 4 (ls.getD 0 .junk)) fun v27 =>
   e_store st 4 v8 v27 fun st =>
   qb (q_load st true 4 v8) fun r => retR R r st) (panR R))
   (qb (q_load st true 4 (ls.getD 0 .junk)) fun v27_1 =>
   e_store st 4 v8 v27_1 fun st =>
   qb (q_load st true 4 v8) fun r_1 => retR R r_1 st))
  (fun k =>
 qb (q_fa 3 v6) fun v12 =>
 qb (q_load st false 1 v12) fun v13 =>
 qb (q_load st true 4 v6) fun v16 =>
 qb (q_bin .add a3 (.int .i64 1)) fun v20 =>
 (callK prog n_impl_checker_head [a0, a1, v16, a3] st (fun v18 st =>
 q_load st false 1 v12 = some v13 ∧ ((callK prog n_impl_checker_args [a0, a1, v13, v18, v20] st (fun v21 st =>
 e_alloc st [.int .i64 0, .int .i64 0, .str [], .sl 0 true []] fun v9 st =>
 q_load st true 4 v6 = some v16 ∧ q_load st false 1 v12 = some v13 ∧ (e_store st 4 v9 v21 fun st =>
 k [v9] st)) (panR R)) ∧
 (e_alloc st [.int .i64 0, .int .i64 0, .str [], .sl 0 true []] fun v9_1 st =>
 q_load st true 4 v6 = some v16 ∧ q_load st false 1 v12 = some v13 ∧ (callK prog n_impl_checker_args [a0, a1, v13, v18, v20] st (fun v21_1 st =>
 e_store st 4 v9_1 v21_1 fun st =>
 k [v9_1] st) (panR R))))) (panR R)) ∧
 (e_alloc st [.int .i64 0, .int .i64 0, .str [], .sl 0 true []] fun v9_2 st =>
 q_load st true 4 v6 = some v16 ∧ q_load st false 1 v12 = some v13 ∧ (callK prog n_impl_checker_head [a0, a1, v16, a3] st (fun v18_1 st =>
 q_load st false 1 v12 = some v13 ∧ (callK prog n_impl_checker_args [a0, a1, v13, v18_1, v20] st (fun v21_2 st =>
 e_store st 4 v9_2 v21_2 fun st =>
 k [v9_2] st) (panR R))) (panR R))))
theorem e_impl_checker_found : Enters prog n_impl_checker_found := ⟨Go.Proofs.Tryz.f119, by kernel_rfl, by kernel_rfl, by kernel_rfl⟩
theorem c_impl_checker_found {a0 a1 a2 a3 : PV} {st : St} {R : Res → St → Prop} (h : b_impl_checker_found a0 a1 a2 a3 st R) : HCalls prog n_impl_checker_found [a0, a1, a2, a3] st R :=
 hcalls_of_func tyOK mixed (fn := Go.Proofs.Tryz.f119) (by kernel_rfl) (by kernel_rfl) (by kernel_rfl) (ann := [(5, [9])])
  (show hFunc prog TT [(5, [9])] Go.Proofs.Tryz.f119 [a0, a1, a2, a3] st R from (show hFunc prog TT [(5, [9])] Go.Proofs.Tryz.f119 [a0, a1, a2, a3] st R = b_impl_checker_found a0 a1 a2 a3 st R by kernel_rfl) ▸ h)
def b_impl_turned (a0 a1 a2 : PV) (st : St) (R : Res → St → Prop) : Prop :=
 e_box st a0 fun v3 st =>
 e_alloc st [.int .i64 0, .int .i64 0, .str [], .sl 0 true []] fun v6 st =>
 qb (q_lit 4 0 0 [] []) fun v10 =>
 qb (q_fa 3 v3) fun v11 =>
 qb (q_load st false 1 v11) fun v12 =>
 qb (q_len v12) fun v13 =>
 hJ (fun ls st =>
  qb (q_fa 3 v3) fun v31 =>
  e_store st 1 v31 (ls.getD 0 .junk) fun st =>
  qb (q_fa 0 v3) fun v32 =>
  qb (q_load st false 1 v32) fun v33 =>
  qb (q_bin .eql v33 (.int .i64 5)) fun v34 =>
  cb v34 fun b => br b
   (qb (q_load st true 4 v3) fun v36 =>
   e_call prog st a2 [v36, a1] (fun v38 st =>
   e_store st 4 v6 v38 fun st =>
   qb (q_load st true 4 v6) fun r => retR R r st) (panR R))
   (qb (q_load st true 4 v3) fun v39 =>
   e_store st 4 v6 v39 fun st =>
   qb (q_load st true 4 v6) fun r_1 => retR R r_1 st))
  (fun k =>
 hFix (fun ls_1 st X =>
  qb (q_bin .lss (ls_1.getD 1 .junk) v13) fun v15 =>
  cb v15 fun b_1 => br b_1
   (qb (q_ia 4 v12 (ls_1.getD 1 .junk)) fun v17 =>
   qb (q_load st true 4 v17) fun v18 =>
   e_alloc st [.int .i64 0, .int .i64 0, .str [], .sl 0 true []] fun v9 st =>
   e_store st 4 v9 v18 fun st =>
   qb (q_load st true 4 v9) fun v20 =>
   callK prog n_impl_Tree_under [v3, (ls_1.getD 1 .junk)] st (fun v23 st =>
   q_load st true 4 v9 = some v20 ∧ (qb (q_bin .add a1 v23) fun v24 =>
   callK prog n_impl_turned [v20, v24, a2] st (fun v26 st =>
   qb (q_lit 4 1 0 [] [(0, v26)]) fun v27 =>
   e_append st 4 56 (ls_1.getD 0 .junk) v27 (fun v28 st =>
   qb (q_bin .add (ls_1.getD 1 .junk) (.int .i64 1)) fun v29 =>
   X [v28, v29] st)) (panR R))) (panR R))
   (k [(ls_1.getD 0 .junk)] st))
  [v10, (.int .i64 0)] st)
theorem e_impl_turned : Enters prog n_impl_turned := ⟨Go.Proofs.Tryz.f120, by kernel_rfl, by kernel_rfl, by kernel_rfl⟩
theorem c_impl_turned {a0 a1 a2 : PV} {st : St} {R : Res → St → Prop} (h : b_impl_turned a0 a1 a2 st R) : HCalls prog n_impl_turned [a0, a1, a2] st R :=
 hcalls_of_func tyOK mixed (fn := Go.Proofs.Tryz.f120) (by kernel_rfl) (by kernel_rfl) (by kernel_rfl) (ann := [(12, [7, 14]), (3, [7])])
  (show hFunc prog TT [(12, [7, 14]), (3, [7])] Go.Proofs.Tryz.f120 [a0, a1, a2] st R from (show hFunc prog TT [(12, [7, 14]), (3, [7])] Go.Proofs.Tryz.f120 [a0, a1, a2] st R = b_impl_turned a0 a1 a2 st R by kernel_rfl) ▸ h)
def b_impl_lift_1 (a0 a1 a2 a3 : PV) (st : St) (R : Res → St → Prop) : Prop :=
 e_box st a0 fun v4 st =>
 e_alloc st [.int .i64 0, .int .i64 0, .str [], .sl 0 true []] fun v6 st =>
 qb (q_fa 1 v4) fun v7 =>
 qb (q_load st false 1 v7) fun v8 =>
 qb (q_load st false 1 a2) fun v9 =>
 qb (q_bin .add v9 a1) fun v11 =>
 qb (q_bin .geq v8 v11) fun v12 =>
 cb v12 fun b => br b
  (qb (q_fa 1 v4) fun v13 =>
  qb (q_load st false 1 v13) fun v14 =>
  qb (q_load st false 1 a3) fun v15 =>
  qb (q_bin .add v14 v15) fun v16 =>
  qb (q_fa 1 v4) fun v17 =>
  e_store st 1 v17 v16 fun st =>
  qb (q_load st true 4 v4) fun v18 =>
  e_store st 4 v6 v18 fun st =>
  qb (q_load st true 4 v6) fun r => retR R r st)
  (qb (q_load st true 4 v4) fun v18_1 =>
  e_store st 4 v6 v18_1 fun st =>
  qb (q_load st true 4 v6) fun r_1 => retR R r_1 st)
theorem e_impl_lift_1 : Enters prog n_impl_lift_1 := ⟨Go.Proofs.Tryz.f121, by kernel_rfl, by kernel_rfl, by kernel_rfl⟩
theorem c_impl_lift_1 {a0 a1 a2 a3 : PV} {st : St} {R : Res → St → Prop} (h : b_impl_lift_1 a0 a1 a2 a3 st R) : HCalls prog n_impl_lift_1 [a0, a1, a2, a3] st R :=
 hcalls_of_func tyOK mixed (fn := Go.Proofs.Tryz.f121) (by kernel_rfl) (by kernel_rfl) (by kernel_rfl) (ann := [])
  (show hFunc prog TT [] Go.Proofs.Tryz.f121 [a0, a1, a2, a3] st R from (show hFunc prog TT [] Go.Proofs.Tryz.f121 [a0, a1, a2, a3] st R = b_impl_lift_1 a0 a1 a2 a3 st R by kernel_rfl) ▸ h)
def b_impl_Tree_each (a0 a1 a2 : PV) (st : St) (R : Res → St → Prop) : Prop :=
 e_call prog st a2 [a0, a1] (fun v11 st =>
 cb v11 fun b => br b
  (retR R (.bool true) st)
  (qb (q_nil a0) fun v13 =>
  qb (q_fa 3 v13) fun v14 =>
  qb (q_load st false 1 v14) fun v15 =>
  qb (q_len v15) fun v16 =>
  hFix (fun ls st X =>
   qb (q_bin .lss (ls.getD 0 .junk) v16) fun v18 =>
   cb v18 fun b_1 => br b_1
    (qb (q_nil a0) fun v21 =>
    qb (q_fa 3 v21) fun v22 =>
    qb (q_load st false 1 v22) fun v23 =>
    qb (q_ia 4 v23 (ls.getD 0 .junk)) fun v25 =>
    callK prog n_impl_Tree_under [a0, (ls.getD 0 .junk)] st (fun v29 st =>
    q_load st false 1 v22 = some v23 ∧ (qb (q_bin .add a1 v29) fun v30 =>
    callK prog n_impl_Tree_each [v25, v30, a2] st (fun v32 st =>
    cb v32 fun b_2 => br b_2
     (retR R (.bool true) st)
     (qb (q_bin .add (ls.getD 0 .junk) (.int .i64 1)) fun v33 =>
     X [v33] st)) (panR R))) (panR R))
    (retR R (.bool false) st))
   [(.int .i64 0)] st)) (panR R)
theorem e_impl_Tree_each : Enters prog n_impl_Tree_each := ⟨Go.Proofs.Tryz.f122, by kernel_rfl, by kernel_rfl, by kernel_rfl⟩
theorem c_impl_Tree_each {a0 a1 a2 : PV} {st : St} {R : Res → St → Prop} (h : b_impl_Tree_each a0 a1 a2 st R) : HCalls prog n_impl_Tree_each [a0, a1, a2] st R :=
 hcalls_of_func tyOK mixed (fn := Go.Proofs.Tryz.f122) (by kernel_rfl) (by kernel_rfl) (by kernel_rfl) (ann := [(16, [17])])
  (show hFunc prog TT [(16, [17])] Go.Proofs.Tryz.f122 [a0, a1, a2] st R from (show hFunc prog TT [(16, [17])] Go.Proofs.Tryz.f122 [a0, a1, a2] st R = b_impl_Tree_each a0 a1 a2 st R by kernel_rfl) ▸ h)
def b_impl_tooBig_1 (a0 a1 a2 : PV) (st : St) (R : Res → St → Prop) : Prop :=
 qb (q_load st false 1 a2) fun v6 =>
 qb (q_bin .add v6 (.int .i64 1)) fun v7 =>
 e_store st 1 a2 v7 fun st =>
 qb (q_load st false 1 a2) fun v8 =>
 qb (q_bin .gtr v8 (.int .i64 150)) fun v9 =>
 cb v9 fun b => br b
  (retR R (.bool true) st)
  (qb (q_nil a0) fun v12 =>
  qb (q_fa 0 v12) fun v13 =>
  qb (q_load st false 1 v13) fun v14 =>
  qb (q_bin .eql v14 (.int .i64 5)) fun v15 =>
  cb v15 fun b_1 => br b_1
   (qb (q_nil a0) fun v18 =>
   qb (q_fa 1 v18) fun v19 =>
   qb (q_load st false 1 v19) fun v20 =>
   qb (q_bin .gtr v20 (.int .i64 100)) fun v21 =>
   retR R v21 st)
   (retR R (.bool false) st))
theorem e_impl_tooBig_1 : Enters prog n_impl_tooBig_1 := ⟨Go.Proofs.Tryz.f123, by kernel_rfl, by kernel_rfl, by kernel_rfl⟩
theorem c_impl_tooBig_1 {a0 a1 a2 : PV} {st : St} {R : Res → St → Prop} (h : b_impl_tooBig_1 a0 a1 a2 st R) : HCalls prog n_impl_tooBig_1 [a0, a1, a2] st R :=
 hcalls_of_func tyOK mixed (fn := Go.Proofs.Tryz.f123) (by kernel_rfl) (by kernel_rfl) (by kernel_rfl) (ann := [])
  (show hFunc prog TT [] Go.Proofs.Tryz.f123 [a0, a1, a2] st R from (show hFunc prog TT [] Go.Proofs.Tryz.f123 [a0, a1, a2] st R = b_impl_tooBig_1 a0 a1 a2 st R by kernel_rfl) ▸ h)
end Go.H.Tryz
