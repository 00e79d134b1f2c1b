/- Part of a proof that the program answers as the reference does: ZDS0. -/
import Derived.Test.YtmfdgpjmdbdhcaaGreatDoorHT
/- MADE BY PROGRAM (hgen.py): what the functions compute, over pure values. -/
set_option linter.unusedVariables false
set_option maxRecDepth 100000
namespace Go.H.Tryz
open Go Go.H
def b_gosem_cut_init (st : St) (R : Res → St → Prop) : Prop :=
 callK prog n_gosem_cut [] st (fun v0 st =>
 retR R (.tup []) st) (panR R)
theorem e_gosem_cut_init : Enters prog n_gosem_cut_init := ⟨Go.Proofs.Tryz.f2, by kernel_rfl, by kernel_rfl, by kernel_rfl⟩
theorem c_gosem_cut_init {st : St} {R : Res → St → Prop} (h : b_gosem_cut_init  st R) : HCalls prog n_gosem_cut_init [] st R :=
 hcalls_of_func tyOK mixed (fn := Go.Proofs.Tryz.f2) (by kernel_rfl) (by kernel_rfl) (by kernel_rfl) (ann := [])
  (show hFunc prog TT [] Go.Proofs.Tryz.f2 [] st R from (show hFunc prog TT [] Go.Proofs.Tryz.f2 [] st R = b_gosem_cut_init  st R by kernel_rfl) ▸ h)
def b_laws_FnLong (a0 a1 : PV) (st : St) (R : Res → St → Prop) : Prop :=
 qb (q_len a0) fun v14 =>
 qb (q_bin .gtr v14 (.int .i64 1048576)) fun v15 =>
 cb v15 fun b => br b
  (retR R (.bool true) st)
  (qb (q_len a1) fun v18 =>
  qb (q_bin .gtr v18 (.int .i64 1048576)) fun v19 =>
  cb v19 fun b_1 => br b_1
   (retR R (.bool true) st)
   (callK prog n_spec_SimpleOf [a0] st (fun v22 st =>
   e_alloc st [.int .i64 0, .int .i64 0, .str [], .sl 0 true []] fun v5 st =>
   e_store st 4 v5 v22 fun st =>
   callK prog n_laws_at [a1, (.int .i64 0), (.int .i64 3)] st (fun v24 st =>
   qb (q_lit 4 0 0 [] []) fun v25 =>
   hJ (fun ls st =>
    qb (q_load st true 4 v5) fun v36 =>
    callK prog n_impl_Long [v24, v36] st (fun v37 st =>
    qb (q_ex v37 0) fun v38 =>
    qb (q_ex v37 1) fun v39 =>
    e_alloc st [.int .i64 0, .int .i64 0, .str [], .sl 0 true []] fun v9 st =>
    e_store st 4 v9 v38 fun st =>
    qb (q_load st true 4 v5) fun v42 =>
    callK prog n_spec_Long [v24, v42] st (fun v43 st =>
    qb (q_ex v43 0) fun v44 =>
    qb (q_ex v43 1) fun v45 =>
    e_alloc st [.int .i64 0, .int .i64 0, .str [], .sl 0 true []] fun v11 st =>
    e_store st 4 v11 v44 fun st =>
    qb (q_bin .eql v39 (.int .i64 0)) fun v47 =>
    cb v47 fun b_2 => br b_2
     (qb (q_load st true 4 v9) fun v49 =>
     qb (q_load st true 4 v11) fun v50 =>
     callK prog n_laws_same [v49, v50] st (fun v51 st =>
     cb v51 fun b_3 => br b_3
      (qb (q_load st true 4 v9) fun v56 =>
      qb (q_load st true 4 v5) fun v57 =>
      callK prog n_spec_Consts [] st (fun v54 st =>
      q_load st true 4 v5 = some v57 ∧ q_load st true 4 v9 = some v56 ∧ (callK prog n_impl_SimpleCheck [v54, (ls.getD 0 .junk), (.sl 0 true []), v56, v57] st (fun v58 st =>
      qb (q_bin .eql v58 (.int .i64 0)) fun v59 =>
      retR R v59 st) (panR R))) (panR R))
      (retR R (.bool false) st)) (panR R))
     (retR R (.bool false) st)) (panR R)) (panR R))
    (fun k =>
   hFix (fun ls_1 st X =>
    qb (q_bin .lss (ls_1.getD 1 .junk) (.int .i64 3)) fun v27 =>
    cb v27 fun b_4 => br b_4
     (qb (q_load st true 4 v5) fun v31 =>
     qb (q_lit 4 1 0 [] [(0, v31)]) fun v32 =>
     e_append st 4 56 (ls_1.getD 0 .junk) v32 (fun v33 st =>
     qb (q_bin .add (ls_1.getD 1 .junk) (.int .i64 1)) fun v29 =>
     X [v33, v29] st))
     (k [(ls_1.getD 0 .junk)] st))
    [v25, (.int .i64 0)] st)) (panR R)) (panR R)))
theorem e_laws_FnLong : Enters prog n_laws_FnLong := ⟨Go.Proofs.Tryz.f3, by kernel_rfl, by kernel_rfl, by kernel_rfl⟩
theorem c_laws_FnLong {a0 a1 : PV} {st : St} {R : Res → St → Prop} (h : b_laws_FnLong a0 a1 st R) : HCalls prog n_laws_FnLong [a0, a1] st R :=
 hcalls_of_func tyOK mixed (fn := Go.Proofs.Tryz.f3) (by kernel_rfl) (by kernel_rfl) (by kernel_rfl) (ann := [(28, [7, 8]), (3, [7])])
  (show hFunc prog TT [(28, [7, 8]), (3, [7])] Go.Proofs.Tryz.f3 [a0, a1] st R from (show hFunc prog TT [(28, [7, 8]), (3, [7])] Go.Proofs.Tryz.f3 [a0, a1] st R = b_laws_FnLong a0 a1 st R by kernel_rfl) ▸ h)
def b_laws_FnErase (a0 a1 : PV) (st : St) (R : Res → St → Prop) : Prop :=
 qb (q_len a0) fun v19 =>
 qb (q_bin .gtr v19 (.int .i64 1048576)) fun v20 =>
 cb v20 fun b => br b
  (retR R (.bool true) st)
  (qb (q_len a1) fun v23 =>
  qb (q_bin .gtr v23 (.int .i64 1048576)) fun v24 =>
  cb v24 fun b_1 => br b_1
   (retR R (.bool true) st)
   (callK prog n_spec_JudgedOf [a0] st (fun v28 st =>
   qb (q_ex v28 0) fun v29 =>
   qb (q_ex v28 1) fun v30 =>
   qb (q_ex v28 2) fun v31 =>
   e_alloc st [.int .i64 0, .int .i64 0, .str [], .sl 0 true []] fun v6 st =>
   e_alloc st [.int .i64 0, .int .i64 0, .str [], .sl 0 true []] fun v7 st =>
   e_store st 4 v6 v30 fun st =>
   e_store st 4 v7 v31 fun st =>
   qb (q_len v29) fun v33 =>
   qb (q_bin .eql v33 (.int .i64 0)) fun v34 =>
   cb v34 fun b_2 => br b_2
    (retR R (.bool true) st)
    (qb (q_len v29) fun v37 =>
    qb (q_bin .sub v37 (.int .i64 1)) fun v38 =>
    callK prog n_spec_NumberOf [a1, v38] st (fun v39 st =>
    e_alloc st [.int .i64 0, .int .i64 0, .str [], .sl 0 true []] fun v8 st =>
    e_store st 4 v8 v39 fun st =>
    qb (q_struct [.int .i64 0, .int .i64 0, .str [], .sl 0 true []] [(0, 1, (.int .i64 9)), (2, 1, (.str [110, 97, 116]))]) fun v40 =>
    e_alloc st [.int .i64 0, .int .i64 0, .str [], .sl 0 true []] fun v9 st =>
    e_store st 4 v9 v40 fun st =>
    qb (q_load st true 4 v8) fun v42 =>
    qb (q_load st true 4 v9) fun v43 =>
    qb (q_load st true 4 v7) fun v44 =>
    callK prog n_impl_Subst [v42, v43, v44] st (fun v45 st =>
    qb (q_ex v45 0) fun v46 =>
    qb (q_ex v45 1) fun v47 =>
    e_alloc st [.int .i64 0, .int .i64 0, .str [], .sl 0 true []] fun v10 st =>
    e_store st 4 v10 v46 fun st =>
    qb (q_load st true 4 v8) fun v49 =>
    qb (q_load st true 4 v9) fun v50 =>
    qb (q_load st true 4 v7) fun v51 =>
    callK prog n_spec_Subst [v49, v50, v51] st (fun v52 st =>
    qb (q_ex v52 0) fun v53 =>
    qb (q_ex v52 1) fun v54 =>
    e_alloc st [.int .i64 0, .int .i64 0, .str [], .sl 0 true []] fun v12 st =>
    e_store st 4 v12 v53 fun st =>
    qb (q_bin .neq v47 v54) fun v57 =>
    cb v57 fun b_3 => br b_3
     (retR R (.bool false) st)
     (qb (q_load st true 4 v10) fun v59 =>
     qb (q_load st true 4 v12) fun v60 =>
     callK prog n_laws_same [v59, v60] st (fun v61 st =>
     qb (q_un .not v61) fun v62 =>
     cb v62 fun b_4 => br b_4
      (retR R (.bool false) st)
      (callK prog n_laws_full [v47] st (fun v65 st =>
      cb v65 fun b_5 => br b_5
       (retR R (.bool true) st)
       (qb (q_load st true 4 v7) fun v67 =>
       callK prog n_impl_Erase [v67] st (fun v68 st =>
       qb (q_ex v68 0) fun v69 =>
       qb (q_ex v68 1) fun v70 =>
       e_alloc st [.int .i64 0, .int .i64 0, .str [], .sl 0 true []] fun v14 st =>
       e_store st 4 v14 v69 fun st =>
       qb (q_load st true 4 v10) fun v72 =>
       callK prog n_impl_Erase [v72] st (fun v73 st =>
       qb (q_ex v73 0) fun v74 =>
       qb (q_ex v73 1) fun v75 =>
       e_alloc st [.int .i64 0, .int .i64 0, .str [], .sl 0 true []] fun v16 st =>
       e_store st 4 v16 v74 fun st =>
       qb (q_bin .eql v47 (.int .i64 0)) fun v77 =>
       cb v77 fun b_6 => br b_6
        (qb (q_bin .eql v70 (.int .i64 0)) fun v80 =>
        cb v80 fun b_7 => br b_7
         (qb (q_bin .eql v75 (.int .i64 0)) fun v84 =>
         cb v84 fun b_8 => br b_8
          (qb (q_load st true 4 v14) fun v87 =>
          qb (q_load st true 4 v16) fun v88 =>
          callK prog n_laws_same [v87, v88] st (fun v89 st =>
          retR R v89 st) (panR R))
          (retR R (.bool false) st))
         (retR R (.bool false) st))
        (retR R (.bool false) st)) (panR R)) (panR R))) (panR R))) (panR R))) (panR R)) (panR R)) (panR R))) (panR R)))
theorem e_laws_FnErase : Enters prog n_laws_FnErase := ⟨Go.Proofs.Tryz.f4, by kernel_rfl, by kernel_rfl, by kernel_rfl⟩
theorem c_laws_FnErase {a0 a1 : PV} {st : St} {R : Res → St → Prop} (h : b_laws_FnErase a0 a1 st R) : HCalls prog n_laws_FnErase [a0, a1] st R :=
 hcalls_of_func tyOK mixed (fn := Go.Proofs.Tryz.f4) (by kernel_rfl) (by kernel_rfl) (by kernel_rfl) (ann := [])
  (show hFunc prog TT [] Go.Proofs.Tryz.f4 [a0, a1] st R from (show hFunc prog TT [] Go.Proofs.Tryz.f4 [a0, a1] st R = b_laws_FnErase a0 a1 st R by kernel_rfl) ▸ h)
def b_laws_FnTyped (a0 : PV) (st : St) (R : Res → St → Prop) : Prop :=
 qb (q_len a0) fun v12 =>
 qb (q_bin .gtr v12 (.int .i64 1048576)) fun v13 =>
 cb v13 fun b => br b
  (retR R (.bool true) st)
  (callK prog n_spec_PutOf [a0] st (fun v16 st =>
  qb (q_ex v16 0) fun v17 =>
  qb (q_ex v16 1) fun v18 =>
  qb (q_ex v16 2) fun v19 =>
  qb (q_ia 4 v19 (.int .i64 1)) fun v22 =>
  qb (q_load st true 4 v22) fun v23 =>
  callK prog n_laws_with [v17, v23] st (fun v24 st =>
  hJ (fun ls st =>
   hJ (fun ls_1 st =>
    qb (q_bin .neq (ls.getD 1 .junk) (ls_1.getD 1 .junk)) fun v53 =>
    cb v53 fun b_1 => br b_1
     (retR R (.bool false) st)
     (qb (q_load st true 4 (ls.getD 0 .junk)) fun v55 =>
     qb (q_load st true 4 (ls_1.getD 0 .junk)) fun v56 =>
     callK prog n_laws_same [v55, v56] st (fun v57 st =>
     qb (q_un .not v57) fun v58 =>
     cb v58 fun b_2 => br b_2
      (retR R (.bool false) st)
      (callK prog n_laws_full [(ls.getD 1 .junk)] st (fun v61 st =>
      cb v61 fun b_3 => br b_3
       (retR R (.bool true) st)
       (qb (q_bin .eql (ls.getD 1 .junk) (.int .i64 0)) fun v63 =>
       cb v63 fun b_4 => br b_4
        (qb (q_load st true 4 (ls.getD 0 .junk)) fun v67 =>
        qb (q_ia 4 v19 (.int .i64 2)) fun v69 =>
        qb (q_load st true 4 v69) fun v70 =>
        callK prog n_spec_Consts [] st (fun v65 st =>
        q_load st true 4 v69 = some v70 ∧ q_load st true 4 (ls.getD 0 .junk) = some v67 ∧ (callK prog n_impl_SimpleCheck [v65, v24, (.sl 0 true []), v67, v70] st (fun v71 st =>
        qb (q_bin .eql v71 (.int .i64 0)) fun v72 =>
        retR R v72 st) (panR R))) (panR R))
        (retR R (.bool false) st))) (panR R))) (panR R)))
    (fun k_1 =>
   qb (q_ia 4 v18 (.int .i64 0)) fun v40 =>
   qb (q_load st true 4 v40) fun v41 =>
   qb (q_ia 4 v19 (.int .i64 0)) fun v43 =>
   qb (q_load st true 4 v43) fun v44 =>
   qb (q_ia 4 v18 (.int .i64 2)) fun v46 =>
   qb (q_load st true 4 v46) fun v47 =>
   (callK prog n_spec_Subst [v41, v44, v47] st (fun v48 st =>
   qb (q_ex v48 0) fun v49 =>
   qb (q_ex v48 1) fun v50 =>
   e_alloc st [.int .i64 0, .int .i64 0, .str [], .sl 0 true []] fun v9 st =>
   q_load st true 4 v46 = some v47 ∧ q_load st true 4 v43 = some v44 ∧ q_load st true 4 v40 = some v41 ∧ (e_store st 4 v9 v49 fun st =>
   k_1 [v9, v50] st)) (panR R)) ∧
   (e_alloc st [.int .i64 0, .int .i64 0, .str [], .sl 0 true []] fun v9_1 st =>
   q_load st true 4 v46 = some v47 ∧ q_load st true 4 v43 = some v44 ∧ q_load st true 4 v40 = some v41 ∧ (callK prog n_spec_Subst [v41, v44, v47] st (fun v48_1 st =>
   qb (q_ex v48_1 0) fun v49_1 =>
   qb (q_ex v48_1 1) fun v50_1 =>
   e_store st 4 v9_1 v49_1 fun st =>
   k_1 [v9_1, v50_1] st) (panR R)))))
   (fun k =>
  qb (q_ia 4 v18 (.int .i64 0)) fun v27 =>
  qb (q_load st true 4 v27) fun v28 =>
  qb (q_ia 4 v19 (.int .i64 0)) fun v30 =>
  qb (q_load st true 4 v30) fun v31 =>
  qb (q_ia 4 v18 (.int .i64 2)) fun v33 =>
  qb (q_load st true 4 v33) fun v34 =>
  (callK prog n_impl_Subst [v28, v31, v34] st (fun v35 st =>
  qb (q_ex v35 0) fun v36 =>
  qb (q_ex v35 1) fun v37 =>
  e_alloc st [.int .i64 0, .int .i64 0, .str [], .sl 0 true []] fun v7 st =>
  q_load st true 4 v33 = some v34 ∧ q_load st true 4 v30 = some v31 ∧ q_load st true 4 v27 = some v28 ∧ (e_store st 4 v7 v36 fun st =>
  k [v7, v37] st)) (panR R)) ∧
  (e_alloc st [.int .i64 0, .int .i64 0, .str [], .sl 0 true []] fun v7_1 st =>
  q_load st true 4 v33 = some v34 ∧ q_load st true 4 v30 = some v31 ∧ q_load st true 4 v27 = some v28 ∧ (callK prog n_impl_Subst [v28, v31, v34] st (fun v35_1 st =>
  qb (q_ex v35_1 0) fun v36_1 =>
  qb (q_ex v35_1 1) fun v37_1 =>
  e_store st 4 v7_1 v36_1 fun st =>
  k [v7_1, v37_1] st) (panR R))))) (panR R)) (panR R))
theorem e_laws_FnTyped : Enters prog n_laws_FnTyped := ⟨Go.Proofs.Tryz.f5, by kernel_rfl, by kernel_rfl, by kernel_rfl⟩
theorem c_laws_FnTyped {a0 : PV} {st : St} {R : Res → St → Prop} (h : b_laws_FnTyped a0 st R) : HCalls prog n_laws_FnTyped [a0] st R :=
 hcalls_of_func tyOK mixed (fn := Go.Proofs.Tryz.f5) (by kernel_rfl) (by kernel_rfl) (by kernel_rfl) (ann := [(21, [7, 8]), (25, [9, 10])])
  (show hFunc prog TT [(21, [7, 8]), (25, [9, 10])] Go.Proofs.Tryz.f5 [a0] st R from (show hFunc prog TT [(21, [7, 8]), (25, [9, 10])] Go.Proofs.Tryz.f5 [a0] st R = b_laws_FnTyped a0 st R by kernel_rfl) ▸ h)
def b_laws_FnWeaken (a0 : PV) (st : St) (R : Res → St → Prop) : Prop :=
 qb (q_len a0) fun v18 =>
 qb (q_bin .gtr v18 (.int .i64 1048576)) fun v19 =>
 cb v19 fun b => br b
  (retR R (.bool true) st)
  (callK prog n_spec_JudgedOf [a0] st (fun v22 st =>
  qb (q_ex v22 0) fun v23 =>
  qb (q_ex v22 1) fun v24 =>
  qb (q_ex v22 2) fun v25 =>
  e_alloc st [.int .i64 0, .int .i64 0, .str [], .sl 0 true []] fun v4 st =>
  e_alloc st [.int .i64 0, .int .i64 0, .str [], .sl 0 true []] fun v5 st =>
  e_store st 4 v4 v24 fun st =>
  e_store st 4 v5 v25 fun st =>
  callK prog n_spec_Numbers [] st (fun v26 st =>
  qb (q_load st true 4 v4) fun v30 =>
  qb (q_load st true 4 v5) fun v31 =>
  callK prog n_impl_CheckTerm [v26, v23, v30, v31] st (fun v32 st =>
  qb (q_ex v32 0) fun v33 =>
  qb (q_ex v32 1) fun v34 =>
  qb (q_load st true 4 v4) fun v36 =>
  callK prog n_impl_Lift [v36, (.int .i64 0), (.int .i64 1)] st (fun v37 st =>
  qb (q_ex v37 0) fun v38 =>
  qb (q_ex v37 1) fun v39 =>
  e_alloc st [.int .i64 0, .int .i64 0, .str [], .sl 0 true []] fun v9 st =>
  e_store st 4 v9 v38 fun st =>
  qb (q_load st true 4 v5) fun v41 =>
  callK prog n_impl_Lift [v41, (.int .i64 0), (.int .i64 1)] st (fun v42 st =>
  qb (q_ex v42 0) fun v43 =>
  qb (q_ex v42 1) fun v44 =>
  e_alloc st [.int .i64 0, .int .i64 0, .str [], .sl 0 true []] fun v11 st =>
  e_store st 4 v11 v43 fun st =>
  qb (q_load st true 4 v4) fun v46 =>
  callK prog n_spec_Lift [v46, (.int .i64 0), (.int .i64 1)] st (fun v47 st =>
  qb (q_ex v47 0) fun v48 =>
  qb (q_ex v47 1) fun v49 =>
  e_alloc st [.int .i64 0, .int .i64 0, .str [], .sl 0 true []] fun v13 st =>
  e_store st 4 v13 v48 fun st =>
  qb (q_load st true 4 v9) fun v50 =>
  qb (q_load st true 4 v13) fun v51 =>
  callK prog n_laws_same [v50, v51] st (fun v52 st =>
  qb (q_un .not v52) fun v53 =>
  cb v53 fun b_1 => br b_1
   (retR R (.bool false) st)
   (qb (q_load st true 4 v4) fun v54 =>
   callK prog n_spec_TermOK [v54] st (fun v55 st =>
   qb (q_un .not v55) fun v56 =>
   cb v56 fun b_2 => br b_2
    (qb (q_bin .eql v33 (.int .i64 1)) fun v63 =>
    retR R v63 st)
    (qb (q_load st true 4 v5) fun v58 =>
    callK prog n_spec_FamilyOK [v58] st (fun v59 st =>
    qb (q_un .not v59) fun v60 =>
    cb v60 fun b_3 => br b_3
     (qb (q_bin .eql v33 (.int .i64 1)) fun v63_1 =>
     retR R v63_1 st)
     (qb (q_struct [.int .i64 0, .int .i64 0, .str [], .sl 0 true []] [(0, 1, (.int .i64 3)), (2, 1, (.str [110, 97, 116]))]) fun v67 =>
     qb (q_load st true 4 v9) fun v69 =>
     qb (q_load st true 4 v11) fun v70 =>
     callK prog n_laws_with [v23, v67] st (fun v68 st =>
     q_load st true 4 v11 = some v70 ∧ q_load st true 4 v9 = some v69 ∧ (callK prog n_impl_CheckTerm [v26, v68, v69, v70] st (fun v71 st =>
     qb (q_ex v71 0) fun v72 =>
     qb (q_ex v71 1) fun v73 =>
     qb (q_bin .eql v39 (.int .i64 0)) fun v75 =>
     cb v75 fun b_4 => br b_4
      (qb (q_bin .eql v44 (.int .i64 0)) fun v78 =>
      cb v78 fun b_5 => br b_5
       (qb (q_bin .eql v33 v72) fun v83 =>
       cb v83 fun b_6 => br b_6
        (qb (q_bin .eql v34 v73) fun v88 =>
        retR R v88 st)
        (retR R (.bool false) st))
       (retR R (.bool false) st))
      (retR R (.bool false) st)) (panR R))) (panR R))) (panR R))) (panR R))) (panR R)) (panR R)) (panR R)) (panR R)) (panR R)) (panR R)) (panR R))
theorem e_laws_FnWeaken : Enters prog n_laws_FnWeaken := ⟨Go.Proofs.Tryz.f6, by kernel_rfl, by kernel_rfl, by kernel_rfl⟩
theorem c_laws_FnWeaken {a0 : PV} {st : St} {R : Res → St → Prop} (h : b_laws_FnWeaken a0 st R) : HCalls prog n_laws_FnWeaken [a0] st R :=
 hcalls_of_func tyOK mixed (fn := Go.Proofs.Tryz.f6) (by kernel_rfl) (by kernel_rfl) (by kernel_rfl) (ann := [])
  (show hFunc prog TT [] Go.Proofs.Tryz.f6 [a0] st R from (show hFunc prog TT [] Go.Proofs.Tryz.f6 [a0] st R = b_laws_FnWeaken a0 st R by kernel_rfl) ▸ h)
def b_spec_SimpleOf (a0 : PV) (st : St) (R : Res → St → Prop) : Prop :=
 e_alloc st [.int .i64 0, .int .i64 0, .str [], .sl 0 true []] fun v2 st =>
 callK prog n_spec_l00Source [a0] st (fun v5 st =>
 callK prog n_spec_l00Src_next [v5, (.int .i64 3)] st (fun v8 st =>
 qb (q_bin .add (.int .i64 1) v8) fun v9 =>
 callK prog n_spec_l00Src_simple [v5, v9] st (fun v10 st =>
 e_store st 4 v2 v10 fun st =>
 qb (q_load st true 4 v2) fun r => retR R r st) (panR R)) (panR R)) (panR R)
theorem e_spec_SimpleOf : Enters prog n_spec_SimpleOf := ⟨Go.Proofs.Tryz.f7, by kernel_rfl, by kernel_rfl, by kernel_rfl⟩
theorem c_spec_SimpleOf {a0 : PV} {st : St} {R : Res → St → Prop} (h : b_spec_SimpleOf a0 st R) : HCalls prog n_spec_SimpleOf [a0] st R :=
 hcalls_of_func tyOK mixed (fn := Go.Proofs.Tryz.f7) (by kernel_rfl) (by kernel_rfl) (by kernel_rfl) (ann := [])
  (show hFunc prog TT [] Go.Proofs.Tryz.f7 [a0] st R from (show hFunc prog TT [] Go.Proofs.Tryz.f7 [a0] st R = b_spec_SimpleOf a0 st R by kernel_rfl) ▸ h)
def b_laws_at (a0 a1 a2 : PV) (st : St) (R : Res → St → Prop) : Prop :=
 qb (q_bin .leq a2 (.int .i64 1)) fun v8 =>
 cb v8 fun b => br b
  (retR R (.int .i64 0) st)
  (qb (q_len a0) fun v10 =>
  qb (q_bin .eql v10 (.int .i64 0)) fun v11 =>
  cb v11 fun b_1 => br b_1
   (qb (q_bin .mul a1 (.int .i64 7)) fun v13 =>
   qb (q_bin .rem v13 a2) fun v15 =>
   retR R v15 st)
   (qb (q_len a0) fun v19 =>
   qb (q_bin .rem a1 v19) fun v20 =>
   qb (q_ia 1 a0 v20) fun v21 =>
   qb (q_load st false 1 v21) fun v22 =>
   qb (q_conv .i64 v22) fun v23 =>
   qb (q_bin .mul v23 (.int .i64 31)) fun v24 =>
   qb (q_bin .add a1 (.int .i64 1)) fun v27 =>
   qb (q_len a0) fun v29 =>
   qb (q_bin .rem v27 v29) fun v30 =>
   qb (q_ia 1 a0 v30) fun v31 =>
   qb (q_load st false 1 v31) fun v32 =>
   qb (q_conv .i64 v32) fun v33 =>
   qb (q_bin .add v24 v33) fun v34 =>
   qb (q_len a0) fun v37 =>
   qb (q_bin .quo a1 v37) fun v38 =>
   qb (q_bin .add v34 v38) fun v39 =>
   qb (q_bin .rem v39 a2) fun v41 =>
   retR R v41 st))
theorem e_laws_at : Enters prog n_laws_at := ⟨Go.Proofs.Tryz.f8, by kernel_rfl, by kernel_rfl, by kernel_rfl⟩
theorem c_laws_at {a0 a1 a2 : PV} {st : St} {R : Res → St → Prop} (h : b_laws_at a0 a1 a2 st R) : HCalls prog n_laws_at [a0, a1, a2] st R :=
 hcalls_of_func tyOK mixed (fn := Go.Proofs.Tryz.f8) (by kernel_rfl) (by kernel_rfl) (by kernel_rfl) (ann := [])
  (show hFunc prog TT [] Go.Proofs.Tryz.f8 [a0, a1, a2] st R from (show hFunc prog TT [] Go.Proofs.Tryz.f8 [a0, a1, a2] st R = b_laws_at a0 a1 a2 st R by kernel_rfl) ▸ h)
def b_impl_Long (a0 a1 : PV) (st : St) (R : Res → St → Prop) : Prop :=
 e_box st a0 fun v2 st =>
 e_box st a1 fun v3 st =>
 e_alloc st [.int .i64 0, .int .i64 0, .str [], .sl 0 true []] fun v4 st =>
 qb (q_load st true 4 v3) fun v7 =>
 callK prog n_impl_badSimple [v7] st (fun v8 st =>
 cb v8 fun b => br b
  (qb (q_struct [.int .i64 0, .int .i64 0, .str [], .sl 0 true []] []) fun v9 =>
  e_store st 4 v4 v9 fun st =>
  qb (q_load st true 4 v4) fun r => retR R (.tup [r, (.int .i64 1)]) st)
  (qb (q_load st false 1 v2) fun v11 =>
  callK prog n_impl_in [v11, (.int .i64 0), (.int .i64 100)] st (fun v12 st =>
  qb (q_un .not v12) fun v13 =>
  cb v13 fun b_1 => br b_1
   (qb (q_struct [.int .i64 0, .int .i64 0, .str [], .sl 0 true []] []) fun v14 =>
   e_store st 4 v4 v14 fun st =>
   qb (q_load st true 4 v4) fun r_1 => retR R (.tup [r_1, (.int .i64 16)]) st)
   (callK prog n_impl_result [(.fn (.func n_impl_Long_1) [] [v2, v3])] st (fun v16 st =>
   qb (q_ex v16 0) fun v17 =>
   qb (q_ex v16 1) fun v18 =>
   e_store st 4 v4 v17 fun st =>
   qb (q_load st true 4 v4) fun r_2 => retR R (.tup [r_2, v18]) st) (panR R))) (panR R))) (panR R)
theorem e_impl_Long : Enters prog n_impl_Long := ⟨Go.Proofs.Tryz.f9, by kernel_rfl, by kernel_rfl, by kernel_rfl⟩
theorem c_impl_Long {a0 a1 : PV} {st : St} {R : Res → St → Prop} (h : b_impl_Long a0 a1 st R) : HCalls prog n_impl_Long [a0, a1] st R :=
 hcalls_of_func tyOK mixed (fn := Go.Proofs.Tryz.f9) (by kernel_rfl) (by kernel_rfl) (by kernel_rfl) (ann := [])
  (show hFunc prog TT [] Go.Proofs.Tryz.f9 [a0, a1] st R from (show hFunc prog TT [] Go.Proofs.Tryz.f9 [a0, a1] st R = b_impl_Long a0 a1 st R by kernel_rfl) ▸ h)
def b_spec_Long (a0 a1 : PV) (st : St) (R : Res → St → Prop) : Prop :=
 e_box st a1 fun v3 st =>
 e_alloc st [.int .i64 0, .int .i64 0, .str [], .sl 0 true []] fun v4 st =>
 qb (q_load st true 4 v3) fun v7 =>
 callK prog n_spec_SimpleOK [v7] st (fun v8 st =>
 qb (q_un .not v8) fun v9 =>
 cb v9 fun b => br b
  (qb (q_struct [.int .i64 0, .int .i64 0, .str [], .sl 0 true []] []) fun v10 =>
  e_store st 4 v4 v10 fun st =>
  qb (q_load st true 4 v4) fun r => retR R (.tup [r, (.int .i64 1)]) st)
  (hJ (fun ls st =>
   cb (ls.getD 0 .junk) fun b_1 => br b_1
    (qb (q_struct [.int .i64 0, .int .i64 0, .str [], .sl 0 true []] []) fun v17 =>
    e_store st 4 v4 v17 fun st =>
    qb (q_load st true 4 v4) fun r_1 => retR R (.tup [r_1, (.int .i64 16)]) st)
    (hJ (fun ls_1 st =>
     qb (q_load st true 4 (ls_1.getD 0 .junk)) fun v22 =>
     callK prog n_spec_l03Big [v22] st (fun v23 st =>
     cb v23 fun b_2 => br b_2
      (qb (q_struct [.int .i64 0, .int .i64 0, .str [], .sl 0 true []] []) fun v24 =>
      e_store st 4 v4 v24 fun st =>
      qb (q_load st true 4 v4) fun r_2 => retR R (.tup [r_2, (.int .i64 11)]) st)
      (qb (q_load st true 4 (ls_1.getD 0 .junk)) fun v25 =>
      e_store st 4 v4 v25 fun st =>
      qb (q_load st true 4 v4) fun r_3 => retR R (.tup [r_3, (.int .i64 0)]) st)) (panR R))
     (fun k_1 =>
    qb (q_load st true 4 v3) fun v20 =>
    (callK prog n_spec_l01Var [a0, (.sl 0 true [])] st (fun v19 st =>
    q_load st true 4 v3 = some v20 ∧ ((callK prog n_spec_l03Long [v19, v20] st (fun v21 st =>
    e_alloc st [.int .i64 0, .int .i64 0, .str [], .sl 0 true []] fun v6 st =>
    q_load st true 4 v3 = some v20 ∧ (e_store st 4 v6 v21 fun st =>
    k_1 [v6] st)) (panR R)) ∧
    (e_alloc st [.int .i64 0, .int .i64 0, .str [], .sl 0 true []] fun v6_1 st =>
    q_load st true 4 v3 = some v20 ∧ (callK prog n_spec_l03Long [v19, v20] st (fun v21_1 st =>
    e_store st 4 v6_1 v21_1 fun st =>
    k_1 [v6_1] st) (panR R))))) (panR R)) ∧
    (e_alloc st [.int .i64 0, .int .i64 0, .str [], .sl 0 true []] fun v6_2 st =>
    q_load st true 4 v3 = some v20 ∧ (callK prog n_spec_l01Var [a0, (.sl 0 true [])] st (fun v19_1 st =>
    q_load st true 4 v3 = some v20 ∧ (callK prog n_spec_l03Long [v19_1, v20] st (fun v21_2 st =>
    e_store st 4 v6_2 v21_2 fun st =>
    k_1 [v6_2] st) (panR R))) (panR R))))))
   (fun k =>
  qb (q_bin .lss a0 (.int .i64 0)) fun v12 =>
  cb v12 fun b_3 => br b_3
   (k [(.bool true)] st)
   (qb (q_bin .gtr a0 (.int .i64 100)) fun v15 =>
   k [v15] st)))) (panR R)
theorem e_spec_Long : Enters prog n_spec_Long := ⟨Go.Proofs.Tryz.f10, by kernel_rfl, by kernel_rfl, by kernel_rfl⟩
theorem c_spec_Long {a0 a1 : PV} {st : St} {R : Res → St → Prop} (h : b_spec_Long a0 a1 st R) : HCalls prog n_spec_Long [a0, a1] st R :=
 hcalls_of_func tyOK mixed (fn := Go.Proofs.Tryz.f10) (by kernel_rfl) (by kernel_rfl) (by kernel_rfl) (ann := [(13, [16]), (21, [6])])
  (show hFunc prog TT [(13, [16]), (21, [6])] Go.Proofs.Tryz.f10 [a0, a1] st R from (show hFunc prog TT [(13, [16]), (21, [6])] Go.Proofs.Tryz.f10 [a0, a1] st R = b_spec_Long a0 a1 st R by kernel_rfl) ▸ h)
def b_laws_same (a0 a1 : PV) (st : St) (R : Res → St → Prop) : Prop :=
 e_box st a0 fun v2 st =>
 e_box st a1 fun v3 st =>
 qb (q_fa 0 v2) fun v6 =>
 qb (q_load st false 1 v6) fun v7 =>
 qb (q_fa 0 v3) fun v8 =>
 qb (q_load st false 1 v8) fun v9 =>
 qb (q_bin .neq v7 v9) fun v10 =>
 cb v10 fun b => br b
  (retR R (.bool false) st)
  (qb (q_fa 1 v2) fun v12 =>
  qb (q_load st false 1 v12) fun v13 =>
  qb (q_fa 1 v3) fun v14 =>
  qb (q_load st false 1 v14) fun v15 =>
  qb (q_bin .neq v13 v15) fun v16 =>
  cb v16 fun b_1 => br b_1
   (retR R (.bool false) st)
   (qb (q_fa 2 v2) fun v19 =>
   qb (q_load st false 1 v19) fun v20 =>
   qb (q_fa 2 v3) fun v21 =>
   qb (q_load st false 1 v21) fun v22 =>
   qb (q_bin .neq v20 v22) fun v23 =>
   cb v23 fun b_2 => br b_2
    (retR R (.bool false) st)
    (qb (q_fa 3 v2) fun v26 =>
    qb (q_load st false 1 v26) fun v27 =>
    qb (q_len v27) fun v28 =>
    qb (q_fa 3 v3) fun v29 =>
    qb (q_load st false 1 v29) fun v30 =>
    qb (q_len v30) fun v31 =>
    qb (q_bin .neq v28 v31) fun v32 =>
    cb v32 fun b_3 => br b_3
     (retR R (.bool false) st)
     (hFix (fun ls st X =>
      qb (q_fa 3 v2) fun v35 =>
      qb (q_load st false 1 v35) fun v36 =>
      qb (q_len v36) fun v37 =>
      qb (q_bin .lss (ls.getD 0 .junk) v37) fun v38 =>
      cb v38 fun b_4 => br b_4
       (qb (q_fa 3 v2) fun v41 =>
       qb (q_load st false 1 v41) fun v42 =>
       qb (q_ia 4 v42 (ls.getD 0 .junk)) fun v44 =>
       qb (q_load st true 4 v44) fun v45 =>
       qb (q_fa 3 v3) fun v46 =>
       qb (q_load st false 1 v46) fun v47 =>
       qb (q_ia 4 v47 (ls.getD 0 .junk)) fun v49 =>
       qb (q_load st true 4 v49) fun v50 =>
       callK prog n_laws_same [v45, v50] st (fun v51 st =>
       qb (q_un .not v51) fun v52 =>
       cb v52 fun b_5 => br b_5
        (retR R (.bool false) st)
        (qb (q_bin .add (ls.getD 0 .junk) (.int .i64 1)) fun v40 =>
        X [v40] st)) (panR R))
       (retR R (.bool true) st))
      [(.int .i64 0)] st))))
theorem e_laws_same : Enters prog n_laws_same := ⟨Go.Proofs.Tryz.f11, by kernel_rfl, by kernel_rfl, by kernel_rfl⟩
theorem c_laws_same {a0 a1 : PV} {st : St} {R : Res → St → Prop} (h : b_laws_same a0 a1 st R) : HCalls prog n_laws_same [a0, a1] st R :=
 hcalls_of_func tyOK mixed (fn := Go.Proofs.Tryz.f11) (by kernel_rfl) (by kernel_rfl) (by kernel_rfl) (ann := [(16, [5])])
  (show hFunc prog TT [(16, [5])] Go.Proofs.Tryz.f11 [a0, a1] st R from (show hFunc prog TT [(16, [5])] Go.Proofs.Tryz.f11 [a0, a1] st R = b_laws_same a0 a1 st R by kernel_rfl) ▸ h)
def b_impl_SimpleCheck (a0 a1 a2 a3 a4 : PV) (st : St) (R : Res → St → Prop) : Prop :=
 e_box st a1 fun v6 st =>
 e_box st a3 fun v8 st =>
 e_box st a4 fun v9 st =>
 qb (q_len a0) fun v14 =>
 qb (q_load st false 1 v6) fun v15 =>
 qb (q_len v15) fun v16 =>
 qb (q_len a2) fun v18 =>
 qb (q_lit 1 3 0 [] [(0, v14), (1, v16), (2, v18)]) fun v19 =>
 callK prog n_impl_longLists [v19] st (fun v20 st =>
 cb v20 fun b => br b
  (retR R (.int .i64 2) st)
  (callK prog n_impl_constsOK [a0] st (fun v23 st =>
  qb (q_un .not v23) fun v24 =>
  cb v24 fun b_1 => br b_1
   (retR R (.int .i64 1) st)
   (qb (q_load st false 1 v6) fun v26 =>
   callK prog n_impl_simplesOK [v26, (.int .i64 40)] st (fun v27 st =>
   qb (q_un .not v27) fun v28 =>
   cb v28 fun b_2 => br b_2
    (retR R (.int .i64 1) st)
    (callK prog n_impl_simplesOK [a2, (.int .i64 20)] st (fun v32 st =>
    qb (q_un .not v32) fun v33 =>
    cb v33 fun b_3 => br b_3
     (retR R (.int .i64 1) st)
     (qb (q_load st true 4 v8) fun v36 =>
     callK prog n_impl_badTerm [v36] st (fun v37 st =>
     cb v37 fun b_4 => br b_4
      (retR R (.int .i64 1) st)
      (qb (q_load st true 4 v9) fun v40 =>
      callK prog n_impl_badSimple [v40] st (fun v41 st =>
      cb v41 fun b_5 => br b_5
       (retR R (.int .i64 1) st)
       (qb (q_struct [.sl 0 true [], .sl 0 true []] [(0, 1, a0), (1, 1, a2)]) fun v45 =>
       e_box st v45 fun v46 st =>
       e_alloc st [.nilp] fun v11 st =>
       e_store st 1 v11 v46 fun st =>
       callK prog n_impl_caught [(.fn (.func n_impl_SimpleCheck_1) [] [v11, v6, v8, v9])] st (fun v48 st =>
       qb (q_field false 1 0 v48) fun v49 =>
       retR R v49 st) (panR R))) (panR R))) (panR R))) (panR R))) (panR R))) (panR R))) (panR R)
theorem e_impl_SimpleCheck : Enters prog n_impl_SimpleCheck := ⟨Go.Proofs.Tryz.f12, by kernel_rfl, by kernel_rfl, by kernel_rfl⟩
theorem c_impl_SimpleCheck {a0 a1 a2 a3 a4 : PV} {st : St} {R : Res → St → Prop} (h : b_impl_SimpleCheck a0 a1 a2 a3 a4 st R) : HCalls prog n_impl_SimpleCheck [a0, a1, a2, a3, a4] st R :=
 hcalls_of_func tyOK mixed (fn := Go.Proofs.Tryz.f12) (by kernel_rfl) (by kernel_rfl) (by kernel_rfl) (ann := [])
  (show hFunc prog TT [] Go.Proofs.Tryz.f12 [a0, a1, a2, a3, a4] st R from (show hFunc prog TT [] Go.Proofs.Tryz.f12 [a0, a1, a2, a3, a4] st R = b_impl_SimpleCheck a0 a1 a2 a3 a4 st R by kernel_rfl) ▸ h)
def b_spec_Consts (st : St) (R : Res → St → Prop) : Prop :=
 callK prog n_spec_l03Some [] st (fun v1 st =>
 retR R v1 st) (panR R)
theorem e_spec_Consts : Enters prog n_spec_Consts := ⟨Go.Proofs.Tryz.f13, by kernel_rfl, by kernel_rfl, by kernel_rfl⟩
theorem c_spec_Consts {st : St} {R : Res → St → Prop} (h : b_spec_Consts  st R) : HCalls prog n_spec_Consts [] st R :=
 hcalls_of_func tyOK mixed (fn := Go.Proofs.Tryz.f13) (by kernel_rfl) (by kernel_rfl) (by kernel_rfl) (ann := [])
  (show hFunc prog TT [] Go.Proofs.Tryz.f13 [] st R from (show hFunc prog TT [] Go.Proofs.Tryz.f13 [] st R = b_spec_Consts  st R by kernel_rfl) ▸ h)
def b_spec_JudgedOf (a0 : PV) (st : St) (R : Res → St → Prop) : Prop :=
 e_alloc st [.int .i64 0, .int .i64 0, .str [], .sl 0 true []] fun v3 st =>
 e_alloc st [.int .i64 0, .int .i64 0, .str [], .sl 0 true []] fun v4 st =>
 callK prog n_spec_l00Source [a0] st (fun v10 st =>
 callK prog n_spec_l00Src_natCtx [v10] st (fun v12 st =>
 qb (q_len v12) fun v16 =>
 callK prog n_spec_l00Src_judged [v10, v16] st (fun v17 st =>
 qb (q_ex v17 0) fun v18 =>
 qb (q_ex v17 1) fun v19 =>
 e_alloc st [.int .i64 0, .int .i64 0, .str [], .sl 0 true []] fun v7 st =>
 e_alloc st [.int .i64 0, .int .i64 0, .str [], .sl 0 true []] fun v8 st =>
 e_store st 4 v7 v18 fun st =>
 e_store st 4 v8 v19 fun st =>
 qb (q_load st true 4 v7) fun v21 =>
 qb (q_load st true 4 v8) fun v22 =>
 e_store st 4 v3 v21 fun st =>
 q_load st true 4 v8 = some v22 ∧ (e_store st 4 v4 v22 fun st =>
 qb (q_load st true 4 v3) fun r => qb (q_load st true 4 v4) fun r_1 => retR R (.tup [v12, r, r_1]) st)) (panR R)) (panR R)) (panR R)
theorem e_spec_JudgedOf : Enters prog n_spec_JudgedOf := ⟨Go.Proofs.Tryz.f14, by kernel_rfl, by kernel_rfl, by kernel_rfl⟩
theorem c_spec_JudgedOf {a0 : PV} {st : St} {R : Res → St → Prop} (h : b_spec_JudgedOf a0 st R) : HCalls prog n_spec_JudgedOf [a0] st R :=
 hcalls_of_func tyOK mixed (fn := Go.Proofs.Tryz.f14) (by kernel_rfl) (by kernel_rfl) (by kernel_rfl) (ann := [])
  (show hFunc prog TT [] Go.Proofs.Tryz.f14 [a0] st R from (show hFunc prog TT [] Go.Proofs.Tryz.f14 [a0] st R = b_spec_JudgedOf a0 st R by kernel_rfl) ▸ h)
def b_spec_NumberOf (a0 a1 : PV) (st : St) (R : Res → St → Prop) : Prop :=
 e_alloc st [.int .i64 0, .int .i64 0, .str [], .sl 0 true []] fun v4 st =>
 callK prog n_spec_l00Source [a0] st (fun v6 st =>
 callK prog n_spec_l00Src_nat [v6, a1, (.int .i64 2)] st (fun v8 st =>
 e_store st 4 v4 v8 fun st =>
 qb (q_load st true 4 v4) fun r => retR R r st) (panR R)) (panR R)
theorem e_spec_NumberOf : Enters prog n_spec_NumberOf := ⟨Go.Proofs.Tryz.f15, by kernel_rfl, by kernel_rfl, by kernel_rfl⟩
theorem c_spec_NumberOf {a0 a1 : PV} {st : St} {R : Res → St → Prop} (h : b_spec_NumberOf a0 a1 st R) : HCalls prog n_spec_NumberOf [a0, a1] st R :=
 hcalls_of_func tyOK mixed (fn := Go.Proofs.Tryz.f15) (by kernel_rfl) (by kernel_rfl) (by kernel_rfl) (ann := [])
  (show hFunc prog TT [] Go.Proofs.Tryz.f15 [a0, a1] st R from (show hFunc prog TT [] Go.Proofs.Tryz.f15 [a0, a1] st R = b_spec_NumberOf a0 a1 st R by kernel_rfl) ▸ h)
def b_impl_Subst (a0 a1 a2 : PV) (st : St) (R : Res → St → Prop) : Prop :=
 e_box st a0 fun v3 st =>
 e_box st a1 fun v4 st =>
 e_box st a2 fun v5 st =>
 e_alloc st [.int .i64 0, .int .i64 0, .str [], .sl 0 true []] fun v6 st =>
 hJ (fun ls st =>
  cb (ls.getD 0 .junk) fun b => br b
   (qb (q_struct [.int .i64 0, .int .i64 0, .str [], .sl 0 true []] []) fun v21 =>
   e_store st 4 v6 v21 fun st =>
   qb (q_load st true 4 v6) fun r => retR R (.tup [r, (.int .i64 1)]) st)
   (callK prog n_impl_result [(.fn (.func n_impl_Subst_1) [] [v3, v4, v5])] st (fun v23 st =>
   qb (q_ex v23 0) fun v24 =>
   qb (q_ex v23 1) fun v25 =>
   e_store st 4 v6 v24 fun st =>
   qb (q_load st true 4 v6) fun r_1 => retR R (.tup [r_1, v25]) st) (panR R)))
  (fun k =>
 qb (q_load st true 4 v3) fun v8 =>
 callK prog n_impl_TermOK [v8] st (fun v9 st =>
 qb (q_un .not v9) fun v10 =>
 cb v10 fun b_1 => br b_1
  (k [(.bool true)] st)
  (qb (q_load st true 4 v4) fun v12 =>
  callK prog n_impl_SimpleOK [v12] st (fun v13 st =>
  qb (q_un .not v13) fun v14 =>
  cb v14 fun b_2 => br b_2
   (k [(.bool true)] st)
   (qb (q_load st true 4 v5) fun v17 =>
   callK prog n_impl_treeOK [v17] st (fun v18 st =>
   qb (q_un .not v18) fun v19 =>
   k [v19] st) (panR R))) (panR R))) (panR R))
theorem e_impl_Subst : Enters prog n_impl_Subst := ⟨Go.Proofs.Tryz.f16, by kernel_rfl, by kernel_rfl, by kernel_rfl⟩
theorem c_impl_Subst {a0 a1 a2 : PV} {st : St} {R : Res → St → Prop} (h : b_impl_Subst a0 a1 a2 st R) : HCalls prog n_impl_Subst [a0, a1, a2] st R :=
 hcalls_of_func tyOK mixed (fn := Go.Proofs.Tryz.f16) (by kernel_rfl) (by kernel_rfl) (by kernel_rfl) (ann := [(5, [20])])
  (show hFunc prog TT [(5, [20])] Go.Proofs.Tryz.f16 [a0, a1, a2] st R from (show hFunc prog TT [(5, [20])] Go.Proofs.Tryz.f16 [a0, a1, a2] st R = b_impl_Subst a0 a1 a2 st R by kernel_rfl) ▸ h)
def b_spec_Subst (a0 a1 a2 : PV) (st : St) (R : Res → St → Prop) : Prop :=
 e_box st a0 fun v3 st =>
 e_box st a1 fun v4 st =>
 e_box st a2 fun v5 st =>
 e_alloc st [.int .i64 0, .int .i64 0, .str [], .sl 0 true []] fun v6 st =>
 hJ (fun ls st =>
  cb (ls.getD 0 .junk) fun b => br b
   (qb (q_struct [.int .i64 0, .int .i64 0, .str [], .sl 0 true []] []) fun v22 =>
   e_store st 4 v6 v22 fun st =>
   qb (q_load st true 4 v6) fun r => retR R (.tup [r, (.int .i64 1)]) st)
   (qb (q_struct [.int .i64 0] []) fun v23 =>
   e_box st v23 fun v24 st =>
   qb (q_load st true 4 v3) fun v26 =>
   qb (q_load st true 4 v4) fun v27 =>
   qb (q_load st true 4 v5) fun v28 =>
   callK prog n_spec_l03Run_sub [v24, v26, v27, v28, (.int .i64 0)] st (fun v29 st =>
   qb (q_ex v29 0) fun v30 =>
   qb (q_ex v29 1) fun v31 =>
   e_store st 4 v6 v30 fun st =>
   qb (q_load st true 4 v6) fun r_1 => retR R (.tup [r_1, v31]) st) (panR R)))
  (fun k =>
 qb (q_load st true 4 v3) fun v9 =>
 callK prog n_spec_TermOK [v9] st (fun v10 st =>
 qb (q_un .not v10) fun v11 =>
 cb v11 fun b_1 => br b_1
  (k [(.bool true)] st)
  (qb (q_load st true 4 v4) fun v13 =>
  callK prog n_spec_SimpleOK [v13] st (fun v14 st =>
  qb (q_un .not v14) fun v15 =>
  cb v15 fun b_2 => br b_2
   (k [(.bool true)] st)
   (qb (q_load st true 4 v5) fun v18 =>
   callK prog n_spec_l01Right [v18] st (fun v19 st =>
   qb (q_un .not v19) fun v20 =>
   k [v20] st) (panR R))) (panR R))) (panR R))
theorem e_spec_Subst : Enters prog n_spec_Subst := ⟨Go.Proofs.Tryz.f17, by kernel_rfl, by kernel_rfl, by kernel_rfl⟩
theorem c_spec_Subst {a0 a1 a2 : PV} {st : St} {R : Res → St → Prop} (h : b_spec_Subst a0 a1 a2 st R) : HCalls prog n_spec_Subst [a0, a1, a2] st R :=
 hcalls_of_func tyOK mixed (fn := Go.Proofs.Tryz.f17) (by kernel_rfl) (by kernel_rfl) (by kernel_rfl) (ann := [(5, [21])])
  (show hFunc prog TT [(5, [21])] Go.Proofs.Tryz.f17 [a0, a1, a2] st R from (show hFunc prog TT [(5, [21])] Go.Proofs.Tryz.f17 [a0, a1, a2] st R = b_spec_Subst a0 a1 a2 st R by kernel_rfl) ▸ h)
def b_laws_full (a0 : PV) (st : St) (R : Res → St → Prop) : Prop :=
 qb (q_bin .eql a0 (.int .i64 11)) fun v4 =>
 cb v4 fun b => br b
  (retR R (.bool true) st)
  (qb (q_bin .eql a0 (.int .i64 17)) fun v7 =>
  retR R v7 st)
theorem e_laws_full : Enters prog n_laws_full := ⟨Go.Proofs.Tryz.f18, by kernel_rfl, by kernel_rfl, by kernel_rfl⟩
theorem c_laws_full {a0 : PV} {st : St} {R : Res → St → Prop} (h : b_laws_full a0 st R) : HCalls prog n_laws_full [a0] st R :=
 hcalls_of_func tyOK mixed (fn := Go.Proofs.Tryz.f18) (by kernel_rfl) (by kernel_rfl) (by kernel_rfl) (ann := [])
  (show hFunc prog TT [] Go.Proofs.Tryz.f18 [a0] st R from (show hFunc prog TT [] Go.Proofs.Tryz.f18 [a0] st R = b_laws_full a0 st R by kernel_rfl) ▸ h)
def b_impl_Erase (a0 : PV) (st : St) (R : Res → St → Prop) : Prop :=
 e_box st a0 fun v1 st =>
 e_alloc st [.int .i64 0, .int .i64 0, .str [], .sl 0 true []] fun v2 st =>
 qb (q_load st true 4 v1) fun v4 =>
 callK prog n_impl_FamilyOK [v4] st (fun v5 st =>
 qb (q_un .not v5) fun v6 =>
 cb v6 fun b => br b
  (qb (q_struct [.int .i64 0, .int .i64 0, .str [], .sl 0 true []] []) fun v7 =>
  e_store st 4 v2 v7 fun st =>
  qb (q_load st true 4 v2) fun r => retR R (.tup [r, (.int .i64 1)]) st)
  (qb (q_load st true 4 v1) fun v8 =>
  callK prog n_impl_erase [v8] st (fun v9 st =>
  e_store st 4 v2 v9 fun st =>
  qb (q_load st true 4 v2) fun r_1 => retR R (.tup [r_1, (.int .i64 0)]) st) (panR R))) (panR R)
theorem e_impl_Erase : Enters prog n_impl_Erase := ⟨Go.Proofs.Tryz.f19, by kernel_rfl, by kernel_rfl, by kernel_rfl⟩
theorem c_impl_Erase {a0 : PV} {st : St} {R : Res → St → Prop} (h : b_impl_Erase a0 st R) : HCalls prog n_impl_Erase [a0] st R :=
 hcalls_of_func tyOK mixed (fn := Go.Proofs.Tryz.f19) (by kernel_rfl) (by kernel_rfl) (by kernel_rfl) (ann := [])
  (show hFunc prog TT [] Go.Proofs.Tryz.f19 [a0] st R from (show hFunc prog TT [] Go.Proofs.Tryz.f19 [a0] st R = b_impl_Erase a0 st R by kernel_rfl) ▸ h)
def b_spec_PutOf (a0 : PV) (st : St) (R : Res → St → Prop) : Prop :=
 callK prog n_spec_l00Source [a0] st (fun v15 st =>
 callK prog n_spec_l01Base [(.str [110, 97, 116])] st (fun v16 st =>
 callK prog n_spec_l01Base [(.str [110, 97, 116])] st (fun v17 st =>
 callK prog n_spec_l01Base [(.str [111])] st (fun v18 st =>
 callK prog n_spec_l01Arrow [v17, v18] st (fun v19 st =>
 qb (q_lit 4 2 0 [] [(0, v16), (1, v19)]) fun v20 =>
 callK prog n_spec_l00Src_next [v15, (.int .i64 2)] st (fun v23 st =>
 qb (q_bin .add (.int .i64 1) v23) fun v24 =>
 callK prog n_spec_l00Src_simple [v15, v24] st (fun v25 st =>
 e_alloc st [.int .i64 0, .int .i64 0, .str [], .sl 0 true []] fun v7 st =>
 e_store st 4 v7 v25 fun st =>
 callK prog n_spec_l00Src_next [v15, (.int .i64 2)] st (fun v28 st =>
 qb (q_bin .add (.int .i64 1) v28) fun v29 =>
 callK prog n_spec_l00Src_simple [v15, v29] st (fun v30 st =>
 e_alloc st [.int .i64 0, .int .i64 0, .str [], .sl 0 true []] fun v8 st =>
 e_store st 4 v8 v30 fun st =>
 callK prog n_spec_l00Src_simple [v15, (.int .i64 1)] st (fun v32 st =>
 e_alloc st [.int .i64 0, .int .i64 0, .str [], .sl 0 true []] fun v9 st =>
 e_store st 4 v9 v32 fun st =>
 qb (q_load st true 4 v8) fun v34 =>
 callK prog n_spec_l04More [v20, v34] st (fun v35 st =>
 hJ (fun ls st =>
  hJ (fun ls_1 st =>
   hJ (fun ls_2 st =>
    qb (q_load st true 4 (ls.getD 0 .junk)) fun v60 =>
    qb (q_load st true 4 (ls_1.getD 0 .junk)) fun v61 =>
    qb (q_load st true 4 (ls_2.getD 0 .junk)) fun v62 =>
    qb (q_lit 4 3 0 [] [(0, v60), (1, v61), (2, v62)]) fun v63 =>
    qb (q_load st true 4 v7) fun v64 =>
    qb (q_load st true 4 v8) fun v65 =>
    qb (q_load st true 4 v9) fun v66 =>
    qb (q_lit 4 3 0 [] [(0, v64), (1, v65), (2, v66)]) fun v67 =>
    retR R (.tup [v20, v63, v67]) st)
    (fun k_2 =>
   qb (q_load st true 4 v7) fun v52 =>
   qb (q_load st true 4 v9) fun v54 =>
   (callK prog n_spec_l04More [v35, v52] st (fun v53 st =>
   q_load st true 4 v9 = some v54 ∧ ((callK prog n_spec_l00Src_next [v15, (.int .i64 3)] st (fun v56 st =>
   q_load st true 4 v9 = some v54 ∧ (qb (q_bin .add (.int .i64 1) v56) fun v57 =>
   (callK prog n_spec_l00Src_little [v15, v53, v54, v57] st (fun v58 st =>
   e_alloc st [.int .i64 0, .int .i64 0, .str [], .sl 0 true []] fun v13 st =>
   q_load st true 4 v9 = some v54 ∧ q_load st true 4 v7 = some v52 ∧ (e_store st 4 v13 v58 fun st =>
   k_2 [v13] st)) (panR R)) ∧
   (e_alloc st [.int .i64 0, .int .i64 0, .str [], .sl 0 true []] fun v13_1 st =>
   q_load st true 4 v9 = some v54 ∧ q_load st true 4 v7 = some v52 ∧ (callK prog n_spec_l00Src_little [v15, v53, v54, v57] st (fun v58_1 st =>
   e_store st 4 v13_1 v58_1 fun st =>
   k_2 [v13_1] st) (panR R))))) (panR R)) ∧
   (e_alloc st [.int .i64 0, .int .i64 0, .str [], .sl 0 true []] fun v13_2 st =>
   q_load st true 4 v9 = some v54 ∧ q_load st true 4 v7 = some v52 ∧ (callK prog n_spec_l00Src_next [v15, (.int .i64 3)] st (fun v56_1 st =>
   q_load st true 4 v9 = some v54 ∧ (qb (q_bin .add (.int .i64 1) v56_1) fun v57_1 =>
   callK prog n_spec_l00Src_little [v15, v53, v54, v57_1] st (fun v58_2 st =>
   e_store st 4 v13_2 v58_2 fun st =>
   k_2 [v13_2] st) (panR R))) (panR R))))) (panR R)) ∧
   (e_alloc st [.int .i64 0, .int .i64 0, .str [], .sl 0 true []] fun v13_3 st =>
   q_load st true 4 v9 = some v54 ∧ q_load st true 4 v7 = some v52 ∧ (callK prog n_spec_l04More [v35, v52] st (fun v53_1 st =>
   q_load st true 4 v9 = some v54 ∧ (callK prog n_spec_l00Src_next [v15, (.int .i64 3)] st (fun v56_2 st =>
   q_load st true 4 v9 = some v54 ∧ (qb (q_bin .add (.int .i64 1) v56_2) fun v57_2 =>
   callK prog n_spec_l00Src_little [v15, v53_1, v54, v57_2] st (fun v58_3 st =>
   e_store st 4 v13_3 v58_3 fun st =>
   k_2 [v13_3] st) (panR R))) (panR R))) (panR R)))))
   (fun k_1 =>
  qb (q_load st true 4 v8) fun v45 =>
  (callK prog n_spec_l00Src_next [v15, (.int .i64 2)] st (fun v47 st =>
  q_load st true 4 v8 = some v45 ∧ (qb (q_bin .add (.int .i64 1) v47) fun v48 =>
  (callK prog n_spec_l00Src_little [v15, v20, v45, v48] st (fun v49 st =>
  e_alloc st [.int .i64 0, .int .i64 0, .str [], .sl 0 true []] fun v12 st =>
  q_load st true 4 v8 = some v45 ∧ (e_store st 4 v12 v49 fun st =>
  k_1 [v12] st)) (panR R)) ∧
  (e_alloc st [.int .i64 0, .int .i64 0, .str [], .sl 0 true []] fun v12_1 st =>
  q_load st true 4 v8 = some v45 ∧ (callK prog n_spec_l00Src_little [v15, v20, v45, v48] st (fun v49_1 st =>
  e_store st 4 v12_1 v49_1 fun st =>
  k_1 [v12_1] st) (panR R))))) (panR R)) ∧
  (e_alloc st [.int .i64 0, .int .i64 0, .str [], .sl 0 true []] fun v12_2 st =>
  q_load st true 4 v8 = some v45 ∧ (callK prog n_spec_l00Src_next [v15, (.int .i64 2)] st (fun v47_1 st =>
  q_load st true 4 v8 = some v45 ∧ (qb (q_bin .add (.int .i64 1) v47_1) fun v48_1 =>
  callK prog n_spec_l00Src_little [v15, v20, v45, v48_1] st (fun v49_2 st =>
  e_store st 4 v12_2 v49_2 fun st =>
  k_1 [v12_2] st) (panR R))) (panR R)))))
  (fun k =>
 qb (q_load st true 4 v7) fun v38 =>
 (callK prog n_spec_l00Src_next [v15, (.int .i64 2)] st (fun v40 st =>
 q_load st true 4 v7 = some v38 ∧ (qb (q_bin .add (.int .i64 1) v40) fun v41 =>
 (callK prog n_spec_l00Src_little [v15, v35, v38, v41] st (fun v42 st =>
 e_alloc st [.int .i64 0, .int .i64 0, .str [], .sl 0 true []] fun v11 st =>
 q_load st true 4 v7 = some v38 ∧ (e_store st 4 v11 v42 fun st =>
 k [v11] st)) (panR R)) ∧
 (e_alloc st [.int .i64 0, .int .i64 0, .str [], .sl 0 true []] fun v11_1 st =>
 q_load st true 4 v7 = some v38 ∧ (callK prog n_spec_l00Src_little [v15, v35, v38, v41] st (fun v42_1 st =>
 e_store st 4 v11_1 v42_1 fun st =>
 k [v11_1] st) (panR R))))) (panR R)) ∧
 (e_alloc st [.int .i64 0, .int .i64 0, .str [], .sl 0 true []] fun v11_2 st =>
 q_load st true 4 v7 = some v38 ∧ (callK prog n_spec_l00Src_next [v15, (.int .i64 2)] st (fun v40_1 st =>
 q_load st true 4 v7 = some v38 ∧ (qb (q_bin .add (.int .i64 1) v40_1) fun v41_1 =>
 callK prog n_spec_l00Src_little [v15, v35, v38, v41_1] st (fun v42_2 st =>
 e_store st 4 v11_2 v42_2 fun st =>
 k [v11_2] st) (panR R))) (panR R))))) (panR R)) (panR R)) (panR R)) (panR R)) (panR R)) (panR R)) (panR R)) (panR R)) (panR R)) (panR R)) (panR R)
theorem e_spec_PutOf : Enters prog n_spec_PutOf := ⟨Go.Proofs.Tryz.f20, by kernel_rfl, by kernel_rfl, by kernel_rfl⟩
theorem c_spec_PutOf {a0 : PV} {st : St} {R : Res → St → Prop} (h : b_spec_PutOf a0 st R) : HCalls prog n_spec_PutOf [a0] st R :=
 hcalls_of_func tyOK mixed (fn := Go.Proofs.Tryz.f20) (by kernel_rfl) (by kernel_rfl) (by kernel_rfl) (ann := [(29, [11]), (33, [12]), (37, [13])])
  (show hFunc prog TT [(29, [11]), (33, [12]), (37, [13])] Go.Proofs.Tryz.f20 [a0] st R from (show hFunc prog TT [(29, [11]), (33, [12]), (37, [13])] Go.Proofs.Tryz.f20 [a0] st R = b_spec_PutOf a0 st R by kernel_rfl) ▸ h)
def b_laws_with (a0 a1 : PV) (st : St) (R : Res → St → Prop) : Prop :=
 e_box st a1 fun v3 st =>
 qb (q_lit 4 0 0 [] []) fun v5 =>
 qb (q_load st true 4 v3) fun v8 =>
 qb (q_lit 4 1 0 [] [(0, v8)]) fun v9 =>
 e_append st 4 56 v5 a0 (fun v7 st =>
 q_load st true 4 v3 = some v8 ∧ (e_append st 4 56 v7 v9 (fun v10 st =>
 retR R v10 st)))
theorem e_laws_with : Enters prog n_laws_with := ⟨Go.Proofs.Tryz.f21, by kernel_rfl, by kernel_rfl, by kernel_rfl⟩
theorem c_laws_with {a0 a1 : PV} {st : St} {R : Res → St → Prop} (h : b_laws_with a0 a1 st R) : HCalls prog n_laws_with [a0, a1] st R :=
 hcalls_of_func tyOK mixed (fn := Go.Proofs.Tryz.f21) (by kernel_rfl) (by kernel_rfl) (by kernel_rfl) (ann := [])
  (show hFunc prog TT [] Go.Proofs.Tryz.f21 [a0, a1] st R from (show hFunc prog TT [] Go.Proofs.Tryz.f21 [a0, a1] st R = b_laws_with a0 a1 st R by kernel_rfl) ▸ h)
end Go.H.Tryz
