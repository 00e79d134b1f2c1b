/- Part of a proof that the program answers as the reference does: FS0. -/
import Derived.Test.YtemgbochnkpihaaGreatDoorHT
/- MADE BY PROGRAM (hgen.py): what the functions compute, over pure values. -/
set_option linter.unusedVariables false
set_option maxRecDepth 100000
namespace Go.H.Tryz
open Go Go.H
def b_laws_FnExactSimpleSig (a0 : PV) (st : St) (R : Res → St → Prop) : Prop :=
 callK prog n_laws_szDeclS [a0, (.int .i64 1048576)] st (fun v16 st =>
 qb (q_bin .lss v16 (.int .i64 0)) fun v18 =>
 cb v18 fun b => br b
  (retR R (.bool true) st)
  (callK prog n_laws_toDeclS [a0] st (fun v21 st =>
  callK prog n_spec_SimpleSig [v21] st (fun v22 st =>
  qb (q_ex v22 0) fun v23 =>
  qb (q_ex v22 1) fun v24 =>
  callK prog n_laws_toDeclS [a0] st (fun v26 st =>
  callK prog n_impl_SimpleSig [v26] st (fun v29 st =>
  qb (q_ex v29 0) fun v30 =>
  qb (q_ex v29 1) fun v31 =>
  callK prog n_laws_eqTypedS [v30, v23] st (fun v34 st =>
  qb (q_un .not v34) fun v35 =>
  cb v35 fun b_1 => br b_1
   (retR R (.bool false) st)
   (qb (q_bin .neq v31 v24) fun v39 =>
   cb v39 fun b_2 => br b_2
    (retR R (.bool false) st)
    (callK prog n_laws_toDeclS [a0] st (fun v43 st =>
    callK prog n_laws_eqDeclS [v26, v43] st (fun v44 st =>
    qb (q_un .not v44) fun v45 =>
    cb v45 fun b_3 => br b_3
     (retR R (.bool false) st)
     (callK prog n_laws_markDeclS [v26, (.int .i64 1)] st (fun v48 st =>
     qb (q_bin .lss v48 (.int .i64 0)) fun v50 =>
     cb v50 fun b_4 => br b_4
      (retR R (.bool false) st)
      (callK prog n_laws_eqTypedS [v30, v23] st (fun v54 st =>
      qb (q_un .not v54) fun v55 =>
      cb v55 fun b_5 => br b_5
       (retR R (.bool false) st)
       (qb (q_bin .neq v31 v24) fun v60 =>
       cb v60 fun b_6 => br b_6
        (retR R (.bool false) st)
        (callK prog n_laws_markTypedS [v30, (.int .i64 1)] st (fun v64 st =>
        callK prog n_laws_heldTypedS [v30, (.int .i64 1)] st (fun v67 st =>
        qb (q_bin .lss v67 (.int .i64 0)) fun v69 =>
        cb v69 fun b_7 => br b_7
         (retR R (.bool false) st)
         (qb (q_bin .neq v67 v64) fun v72 =>
         cb v72 fun b_8 => br b_8
          (retR R (.bool false) st)
          (callK prog n_laws_toDeclS [a0] st (fun v75 st =>
          callK prog n_impl_SimpleSig [v75] st (fun v76 st =>
          qb (q_ex v76 0) fun v77 =>
          qb (q_ex v76 1) fun v78 =>
          callK prog n_laws_eqTypedS [v77, v23] st (fun v81 st =>
          qb (q_un .not v81) fun v82 =>
          cb v82 fun b_9 => br b_9
           (retR R (.bool false) st)
           (qb (q_bin .neq v78 v24) fun v86 =>
           cb v86 fun b_10 => br b_10
            (retR R (.bool false) st)
            (callK prog n_laws_heldTypedS [v30, (.int .i64 1)] st (fun v90 st =>
            qb (q_bin .lss v90 (.int .i64 0)) fun v92 =>
            cb v92 fun b_11 => br b_11
             (retR R (.bool false) st)
             (qb (q_bin .neq v90 v64) fun v95 =>
             cb v95 fun b_12 => br b_12
              (retR R (.bool false) st)
              (retR R (.bool true) st))) (panR R)))) (panR R)) (panR R)) (panR R)))) (panR R)) (panR R)))) (panR R))) (panR R))) (panR R)) (panR R)))) (panR R)) (panR R)) (panR R)) (panR R)) (panR R))) (panR R)
theorem c_laws_FnExactSimpleSig {a0 : PV} {st : St} {R : Res → St → Prop} (h : b_laws_FnExactSimpleSig a0 st R) : HCalls prog n_laws_FnExactSimpleSig [a0] st R :=
 hcalls_of_func tyOK mixed (fn := Go.Proofs.Tryz.f3) (by kernel_rfl) (by kernel_rfl) (by kernel_rfl) (ann := [])
  (show hFunc prog TT [] Go.Proofs.Tryz.f3 [a0] st R from (show hFunc prog TT [] Go.Proofs.Tryz.f3 [a0] st R = b_laws_FnExactSimpleSig a0 st R by kernel_rfl) ▸ h)
def b_laws_szDeclS (a0 a1 : PV) (st : St) (R : Res → St → Prop) : Prop :=
 qb (q_len a0) fun v8 =>
 qb (q_bin .sub a1 v8) fun v9 =>
 qb (q_bin .lss v9 (.int .i64 0)) fun v11 =>
 cb v11 fun b => br b
  (retR R (.int .i64 (-1)) st)
  (hFix (fun ls st X =>
   qb (q_len a0) fun v14 =>
   qb (q_bin .lss (ls.getD 1 .junk) v14) fun v15 =>
   cb v15 fun b_1 => br b_1
    (qb (q_ia 6 a0 (ls.getD 1 .junk)) fun v20 =>
    qb (q_load st true 6 v20) fun v21 =>
    callK prog n_laws_szDecl [v21, (ls.getD 0 .junk)] st (fun v23 st =>
    qb (q_bin .lss v23 (.int .i64 0)) fun v25 =>
    cb v25 fun b_2 => br b_2
     (retR R (.int .i64 (-1)) st)
     (qb (q_bin .add (ls.getD 1 .junk) (.int .i64 1)) fun v17 =>
     X [v23, v17] st)) (panR R))
    (retR R (ls.getD 0 .junk) st))
   [v9, (.int .i64 0)] st)
theorem c_laws_szDeclS {a0 a1 : PV} {st : St} {R : Res → St → Prop} (h : b_laws_szDeclS a0 a1 st R) : HCalls prog n_laws_szDeclS [a0, a1] st R :=
 hcalls_of_func tyOK mixed (fn := Go.Proofs.Tryz.f11) (by kernel_rfl) (by kernel_rfl) (by kernel_rfl) (ann := [(20, [1, 5])])
  (show hFunc prog TT [(20, [1, 5])] Go.Proofs.Tryz.f11 [a0, a1] st R from (show hFunc prog TT [(20, [1, 5])] Go.Proofs.Tryz.f11 [a0, a1] st R = b_laws_szDeclS a0 a1 st R by kernel_rfl) ▸ h)
def b_spec_SimpleSig (a0 : PV) (st : St) (R : Res → St → Prop) : Prop :=
 qb (q_len a0) fun v5 =>
 qb (q_bin .gtr v5 (.int .i64 4096)) fun v6 =>
 cb v6 fun b => br b
  (qb (q_lit 5 0 0 [] []) fun v7 =>
  retR R (.tup [v7, (.int .i64 2)]) st)
  (callK prog n_spec_SigOK [a0] st (fun v9 st =>
  qb (q_un .not v9) fun v10 =>
  cb v10 fun b_1 => br b_1
   (qb (q_lit 5 0 0 [] []) fun v11 =>
   retR R (.tup [v11, (.int .i64 1)]) st)
   (callK prog n_spec_l05Simple [a0] st (fun v13 st =>
   retR R (.tup [v13, (.int .i64 0)]) st) (panR R))) (panR R))
theorem c_spec_SimpleSig {a0 : PV} {st : St} {R : Res → St → Prop} (h : b_spec_SimpleSig a0 st R) : HCalls prog n_spec_SimpleSig [a0] st R :=
 hcalls_of_func tyOK mixed (fn := Go.Proofs.Tryz.f12) (by kernel_rfl) (by kernel_rfl) (by kernel_rfl) (ann := [])
  (show hFunc prog TT [] Go.Proofs.Tryz.f12 [a0] st R from (show hFunc prog TT [] Go.Proofs.Tryz.f12 [a0] st R = b_spec_SimpleSig a0 st R by kernel_rfl) ▸ h)
def b_laws_toDeclS (a0 : PV) (st : St) (R : Res → St → Prop) : Prop :=
 qb (q_len a0) fun v6 =>
 e_make st 6 80 (.agg [.str [], .bool false, .int .i64 0, .int .i64 0, .str [], .sl 0 true []]) v6 v6 fun v7 st =>
 hFix (fun ls st X =>
  qb (q_len a0) fun v10 =>
  qb (q_bin .lss (ls.getD 0 .junk) v10) fun v11 =>
  cb v11 fun b => br b
   (qb (q_ia 6 a0 (ls.getD 0 .junk)) fun v18 =>
   qb (q_load st true 6 v18) fun v19 =>
   callK prog n_laws_toDecl [v19] st (fun v20 st =>
   qb (q_ia 6 v7 (ls.getD 0 .junk)) fun v21 =>
   e_store st 6 v21 v20 fun st =>
   qb (q_bin .add (ls.getD 0 .junk) (.int .i64 1)) fun v13 =>
   X [v13] st) (panR R))
   (retR R v7 st))
  [(.int .i64 0)] st
theorem c_laws_toDeclS {a0 : PV} {st : St} {R : Res → St → Prop} (h : b_laws_toDeclS a0 st R) : HCalls prog n_laws_toDeclS [a0] st R :=
 hcalls_of_func tyOK mixed (fn := Go.Proofs.Tryz.f13) (by kernel_rfl) (by kernel_rfl) (by kernel_rfl) (ann := [(12, [4])])
  (show hFunc prog TT [(12, [4])] Go.Proofs.Tryz.f13 [a0] st R from (show hFunc prog TT [(12, [4])] Go.Proofs.Tryz.f13 [a0] st R = b_laws_toDeclS a0 st R by kernel_rfl) ▸ h)
def b_impl_SimpleSig (a0 : PV) (st : St) (R : Res → St → Prop) : Prop :=
 qb (q_len a0) fun v9 =>
 qb (q_lit 1 1 0 [] [(0, v9)]) fun v10 =>
 callK prog n_impl_longLists [v10] st (fun v11 st =>
 cb v11 fun b => br b
  (retR R (.tup [(.sl 0 true []), (.int .i64 2)]) st)
  (callK prog n_impl_SigOK [a0] st (fun v14 st =>
  qb (q_un .not v14) fun v15 =>
  cb v15 fun b_1 => br b_1
   (retR R (.tup [(.sl 0 true []), (.int .i64 1)]) st)
   (qb (q_lit 5 0 0 [] []) fun v16 =>
   qb (q_len a0) fun v18 =>
   hFix (fun ls st X =>
    qb (q_bin .lss (ls.getD 1 .junk) v18) fun v20 =>
    cb v20 fun b_2 => br b_2
     (qb (q_ia 6 a0 (ls.getD 1 .junk)) fun v21 =>
     qb (q_load st true 6 v21) fun v22 =>
     e_alloc st [.str [], .bool false, .int .i64 0, .int .i64 0, .str [], .sl 0 true []] fun v6 st =>
     e_store st 6 v6 v22 fun st =>
     qb (q_fa 1 v6) fun v23 =>
     qb (q_load st false 1 v23) fun v24 =>
     qb (q_un .not v24) fun v25 =>
     cb v25 fun b_3 => br b_3
      (qb (q_fa 0 v6) fun v27 =>
      qb (q_load st false 1 v27) fun v28 =>
      qb (q_fa 2 v6) fun v29 =>
      qb (q_load st true 4 v29) fun v30 =>
      callK prog n_impl_erase [v30] st (fun v31 st =>
      q_load st false 1 v27 = some v28 ∧ (qb (q_struct [.str [], .int .i64 0, .int .i64 0, .str [], .sl 0 true []] [(0, 1, v28), (1, 4, v31)]) fun v32 =>
      qb (q_lit 5 1 0 [] [(0, v32)]) fun v33 =>
      e_append st 5 72 (ls.getD 0 .junk) v33 (fun v34 st =>
      qb (q_bin .add (ls.getD 1 .junk) (.int .i64 1)) fun v35 =>
      X [v34, v35] st))) (panR R))
      (qb (q_bin .add (ls.getD 1 .junk) (.int .i64 1)) fun v35_1 =>
      X [(ls.getD 0 .junk), v35_1] st))
     (retR R (.tup [(ls.getD 0 .junk), (.int .i64 0)]) st))
    [v16, (.int .i64 0)] st)) (panR R))) (panR R)
theorem e_impl_SimpleSig : Enters prog n_impl_SimpleSig := ⟨Go.Proofs.Tryz.f14, by kernel_rfl, by kernel_rfl, by kernel_rfl⟩
theorem c_impl_SimpleSig {a0 : PV} {st : St} {R : Res → St → Prop} (h : b_impl_SimpleSig a0 st R) : HCalls prog n_impl_SimpleSig [a0] st R :=
 hcalls_of_func tyOK mixed (fn := Go.Proofs.Tryz.f14) (by kernel_rfl) (by kernel_rfl) (by kernel_rfl) (ann := [(28, [4, 19])])
  (show hFunc prog TT [(28, [4, 19])] Go.Proofs.Tryz.f14 [a0] st R from (show hFunc prog TT [(28, [4, 19])] Go.Proofs.Tryz.f14 [a0] st R = b_impl_SimpleSig a0 st R by kernel_rfl) ▸ h)
def b_laws_eqTypedS (a0 a1 : PV) (st : St) (R : Res → St → Prop) : Prop :=
 qb (q_len a0) fun v7 =>
 qb (q_len a1) fun v9 =>
 qb (q_bin .neq v7 v9) fun v10 =>
 cb v10 fun b => br b
  (retR R (.bool false) st)
  (hFix (fun ls st X =>
   qb (q_len a0) fun v13 =>
   qb (q_bin .lss (ls.getD 0 .junk) v13) fun v14 =>
   cb v14 fun b_1 => br b_1
    (qb (q_ia 5 a0 (ls.getD 0 .junk)) fun v19 =>
    qb (q_load st true 5 v19) fun v20 =>
    qb (q_ia 5 a1 (ls.getD 0 .junk)) fun v23 =>
    qb (q_load st true 5 v23) fun v24 =>
    callK prog n_laws_eqTyped [v20, v24] st (fun v25 st =>
    qb (q_un .not v25) fun v26 =>
    cb v26 fun b_2 => br b_2
     (retR R (.bool false) st)
     (qb (q_bin .add (ls.getD 0 .junk) (.int .i64 1)) fun v16 =>
     X [v16] st)) (panR R))
    (retR R (.bool true) st))
   [(.int .i64 0)] st)
theorem e_laws_eqTypedS : Enters prog n_laws_eqTypedS := ⟨Go.Proofs.Tryz.f15, by kernel_rfl, by kernel_rfl, by kernel_rfl⟩
theorem c_laws_eqTypedS {a0 a1 : PV} {st : St} {R : Res → St → Prop} (h : b_laws_eqTypedS a0 a1 st R) : HCalls prog n_laws_eqTypedS [a0, a1] st R :=
 hcalls_of_func tyOK mixed (fn := Go.Proofs.Tryz.f15) (by kernel_rfl) (by kernel_rfl) (by kernel_rfl) (ann := [(16, [5])])
  (show hFunc prog TT [(16, [5])] Go.Proofs.Tryz.f15 [a0, a1] st R from (show hFunc prog TT [(16, [5])] Go.Proofs.Tryz.f15 [a0, a1] st R = b_laws_eqTypedS a0 a1 st R by kernel_rfl) ▸ h)
def b_laws_eqDeclS (a0 a1 : PV) (st : St) (R : Res → St → Prop) : Prop :=
 qb (q_len a0) fun v7 =>
 qb (q_len a1) fun v9 =>
 qb (q_bin .neq v7 v9) fun v10 =>
 cb v10 fun b => br b
  (retR R (.bool false) st)
  (hFix (fun ls st X =>
   qb (q_len a0) fun v13 =>
   qb (q_bin .lss (ls.getD 0 .junk) v13) fun v14 =>
   cb v14 fun b_1 => br b_1
    (qb (q_ia 6 a0 (ls.getD 0 .junk)) fun v19 =>
    qb (q_load st true 6 v19) fun v20 =>
    qb (q_ia 6 a1 (ls.getD 0 .junk)) fun v23 =>
    qb (q_load st true 6 v23) fun v24 =>
    callK prog n_laws_eqDecl [v20, v24] st (fun v25 st =>
    qb (q_un .not v25) fun v26 =>
    cb v26 fun b_2 => br b_2
     (retR R (.bool false) st)
     (qb (q_bin .add (ls.getD 0 .junk) (.int .i64 1)) fun v16 =>
     X [v16] st)) (panR R))
    (retR R (.bool true) st))
   [(.int .i64 0)] st)
theorem e_laws_eqDeclS : Enters prog n_laws_eqDeclS := ⟨Go.Proofs.Tryz.f16, by kernel_rfl, by kernel_rfl, by kernel_rfl⟩
theorem c_laws_eqDeclS {a0 a1 : PV} {st : St} {R : Res → St → Prop} (h : b_laws_eqDeclS a0 a1 st R) : HCalls prog n_laws_eqDeclS [a0, a1] st R :=
 hcalls_of_func tyOK mixed (fn := Go.Proofs.Tryz.f16) (by kernel_rfl) (by kernel_rfl) (by kernel_rfl) (ann := [(16, [5])])
  (show hFunc prog TT [(16, [5])] Go.Proofs.Tryz.f16 [a0, a1] st R from (show hFunc prog TT [(16, [5])] Go.Proofs.Tryz.f16 [a0, a1] st R = b_laws_eqDeclS a0 a1 st R by kernel_rfl) ▸ h)
def b_laws_markDeclS (a0 a1 : PV) (st : St) (R : Res → St → Prop) : Prop :=
 hFix (fun ls st X =>
  qb (q_len a0) fun v8 =>
  qb (q_bin .lss (ls.getD 1 .junk) v8) fun v9 =>
  cb v9 fun b => br b
   (callK prog n_laws_markText [(ls.getD 0 .junk)] st (fun v15 st =>
   qb (q_ia 6 a0 (ls.getD 1 .junk)) fun v16 =>
   qb (q_fa 0 v16) fun v17 =>
   e_store st 1 v17 v15 fun st =>
   qb (q_bin .add (ls.getD 0 .junk) (.int .i64 1)) fun v19 =>
   qb (q_bin .rem v19 (.int .i64 3)) fun v23 =>
   qb (q_bin .eql v23 (.int .i64 0)) fun v24 =>
   qb (q_ia 6 a0 (ls.getD 1 .junk)) fun v25 =>
   qb (q_fa 1 v25) fun v26 =>
   e_store st 1 v26 v24 fun st =>
   qb (q_bin .add v19 (.int .i64 1)) fun v28 =>
   qb (q_ia 6 a0 (ls.getD 1 .junk)) fun v32 =>
   qb (q_fa 2 v32) fun v33 =>
   qb (q_fa 0 v33) fun v34 =>
   e_store st 1 v34 v28 fun st =>
   qb (q_bin .add v28 (.int .i64 1)) fun v36 =>
   qb (q_ia 6 a0 (ls.getD 1 .junk)) fun v40 =>
   qb (q_fa 2 v40) fun v41 =>
   qb (q_fa 1 v41) fun v42 =>
   e_store st 1 v42 v36 fun st =>
   qb (q_bin .add v36 (.int .i64 1)) fun v44 =>
   callK prog n_laws_markText [v44] st (fun v48 st =>
   qb (q_ia 6 a0 (ls.getD 1 .junk)) fun v49 =>
   qb (q_fa 2 v49) fun v50 =>
   qb (q_fa 2 v50) fun v51 =>
   e_store st 1 v51 v48 fun st =>
   qb (q_bin .add v44 (.int .i64 1)) fun v53 =>
   qb (q_ia 6 a0 (ls.getD 1 .junk)) fun v56 =>
   qb (q_fa 2 v56) fun v57 =>
   qb (q_fa 3 v57) fun v58 =>
   qb (q_load st false 1 v58) fun v59 =>
   callK prog n_laws_markTreeS [v59, v53] st (fun v61 st =>
   qb (q_bin .add (ls.getD 1 .junk) (.int .i64 1)) fun v11 =>
   X [v61, v11] st) (panR R)) (panR R)) (panR R))
   (retR R (ls.getD 0 .junk) st))
  [a1, (.int .i64 0)] st
theorem c_laws_markDeclS {a0 a1 : PV} {st : St} {R : Res → St → Prop} (h : b_laws_markDeclS a0 a1 st R) : HCalls prog n_laws_markDeclS [a0, a1] st R :=
 hcalls_of_func tyOK mixed (fn := Go.Proofs.Tryz.f17) (by kernel_rfl) (by kernel_rfl) (by kernel_rfl) (ann := [(8, [1, 5])])
  (show hFunc prog TT [(8, [1, 5])] Go.Proofs.Tryz.f17 [a0, a1] st R from (show hFunc prog TT [(8, [1, 5])] Go.Proofs.Tryz.f17 [a0, a1] st R = b_laws_markDeclS a0 a1 st R by kernel_rfl) ▸ h)
def b_laws_markTypedS (a0 a1 : PV) (st : St) (R : Res → St → Prop) : Prop :=
 hFix (fun ls st X =>
  qb (q_len a0) fun v8 =>
  qb (q_bin .lss (ls.getD 1 .junk) v8) fun v9 =>
  cb v9 fun b => br b
   (callK prog n_laws_markText [(ls.getD 0 .junk)] st (fun v15 st =>
   qb (q_ia 5 a0 (ls.getD 1 .junk)) fun v16 =>
   qb (q_fa 0 v16) fun v17 =>
   e_store st 1 v17 v15 fun st =>
   qb (q_bin .add (ls.getD 0 .junk) (.int .i64 1)) fun v19 =>
   qb (q_ia 5 a0 (ls.getD 1 .junk)) fun v23 =>
   qb (q_fa 1 v23) fun v24 =>
   qb (q_fa 0 v24) fun v25 =>
   e_store st 1 v25 v19 fun st =>
   qb (q_bin .add v19 (.int .i64 1)) fun v27 =>
   qb (q_ia 5 a0 (ls.getD 1 .junk)) fun v31 =>
   qb (q_fa 1 v31) fun v32 =>
   qb (q_fa 1 v32) fun v33 =>
   e_store st 1 v33 v27 fun st =>
   qb (q_bin .add v27 (.int .i64 1)) fun v35 =>
   callK prog n_laws_markText [v35] st (fun v39 st =>
   qb (q_ia 5 a0 (ls.getD 1 .junk)) fun v40 =>
   qb (q_fa 1 v40) fun v41 =>
   qb (q_fa 2 v41) fun v42 =>
   e_store st 1 v42 v39 fun st =>
   qb (q_bin .add v35 (.int .i64 1)) fun v44 =>
   qb (q_ia 5 a0 (ls.getD 1 .junk)) fun v47 =>
   qb (q_fa 1 v47) fun v48 =>
   qb (q_fa 3 v48) fun v49 =>
   qb (q_load st false 1 v49) fun v50 =>
   callK prog n_laws_markTreeS [v50, v44] st (fun v52 st =>
   qb (q_bin .add (ls.getD 1 .junk) (.int .i64 1)) fun v11 =>
   X [v52, v11] st) (panR R)) (panR R)) (panR R))
   (retR R (ls.getD 0 .junk) st))
  [a1, (.int .i64 0)] st
theorem c_laws_markTypedS {a0 a1 : PV} {st : St} {R : Res → St → Prop} (h : b_laws_markTypedS a0 a1 st R) : HCalls prog n_laws_markTypedS [a0, a1] st R :=
 hcalls_of_func tyOK mixed (fn := Go.Proofs.Tryz.f18) (by kernel_rfl) (by kernel_rfl) (by kernel_rfl) (ann := [(8, [1, 5])])
  (show hFunc prog TT [(8, [1, 5])] Go.Proofs.Tryz.f18 [a0, a1] st R from (show hFunc prog TT [(8, [1, 5])] Go.Proofs.Tryz.f18 [a0, a1] st R = b_laws_markTypedS a0 a1 st R by kernel_rfl) ▸ h)
def b_laws_heldTypedS (a0 a1 : PV) (st : St) (R : Res → St → Prop) : Prop :=
 hFix (fun ls st X =>
  qb (q_len a0) fun v8 =>
  qb (q_bin .lss (ls.getD 1 .junk) v8) fun v9 =>
  cb v9 fun b => br b
   (qb (q_ia 5 a0 (ls.getD 1 .junk)) fun v14 =>
   qb (q_fa 0 v14) fun v15 =>
   qb (q_load st false 1 v15) fun v16 =>
   callK prog n_laws_markText [(ls.getD 0 .junk)] st (fun v18 st =>
   q_load st false 1 v15 = some v16 ∧ (qb (q_bin .neq v16 v18) fun v19 =>
   cb v19 fun b_1 => br b_1
    (retR R (.int .i64 (-1)) st)
    (qb (q_bin .add (ls.getD 0 .junk) (.int .i64 1)) fun v21 =>
    qb (q_ia 5 a0 (ls.getD 1 .junk)) fun v24 =>
    qb (q_fa 1 v24) fun v25 =>
    qb (q_fa 0 v25) fun v26 =>
    qb (q_load st false 1 v26) fun v27 =>
    qb (q_bin .neq v27 v21) fun v29 =>
    cb v29 fun b_2 => br b_2
     (retR R (.int .i64 (-1)) st)
     (qb (q_bin .add v21 (.int .i64 1)) fun v31 =>
     qb (q_ia 5 a0 (ls.getD 1 .junk)) fun v34 =>
     qb (q_fa 1 v34) fun v35 =>
     qb (q_fa 1 v35) fun v36 =>
     qb (q_load st false 1 v36) fun v37 =>
     qb (q_bin .neq v37 v31) fun v39 =>
     cb v39 fun b_3 => br b_3
      (retR R (.int .i64 (-1)) st)
      (qb (q_bin .add v31 (.int .i64 1)) fun v41 =>
      qb (q_ia 5 a0 (ls.getD 1 .junk)) fun v44 =>
      qb (q_fa 1 v44) fun v45 =>
      qb (q_fa 2 v45) fun v46 =>
      qb (q_load st false 1 v46) fun v47 =>
      callK prog n_laws_markText [v41] st (fun v49 st =>
      q_load st false 1 v46 = some v47 ∧ (qb (q_bin .neq v47 v49) fun v50 =>
      cb v50 fun b_4 => br b_4
       (retR R (.int .i64 (-1)) st)
       (qb (q_bin .add v41 (.int .i64 1)) fun v52 =>
       qb (q_ia 5 a0 (ls.getD 1 .junk)) fun v55 =>
       qb (q_fa 1 v55) fun v56 =>
       qb (q_fa 3 v56) fun v57 =>
       qb (q_load st false 1 v57) fun v58 =>
       callK prog n_laws_heldTreeS [v58, v52] st (fun v60 st =>
       qb (q_bin .lss v60 (.int .i64 0)) fun v62 =>
       cb v62 fun b_5 => br b_5
        (retR R (.int .i64 (-1)) st)
        (qb (q_bin .add (ls.getD 1 .junk) (.int .i64 1)) fun v11 =>
        X [v60, v11] st)) (panR R)))) (panR R)))))) (panR R))
   (retR R (ls.getD 0 .junk) st))
  [a1, (.int .i64 0)] st
theorem c_laws_heldTypedS {a0 a1 : PV} {st : St} {R : Res → St → Prop} (h : b_laws_heldTypedS a0 a1 st R) : HCalls prog n_laws_heldTypedS [a0, a1] st R :=
 hcalls_of_func tyOK mixed (fn := Go.Proofs.Tryz.f19) (by kernel_rfl) (by kernel_rfl) (by kernel_rfl) (ann := [(8, [1, 5])])
  (show hFunc prog TT [(8, [1, 5])] Go.Proofs.Tryz.f19 [a0, a1] st R from (show hFunc prog TT [(8, [1, 5])] Go.Proofs.Tryz.f19 [a0, a1] st R = b_laws_heldTypedS a0 a1 st R by kernel_rfl) ▸ h)
end Go.H.Tryz
