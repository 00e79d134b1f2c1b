/- Part of a proof that the program answers as the reference does: DS0. -/
import Derived.Test.YtmfdgpjmdbdhcaaDoorHT
/- MADE BY PROGRAM (hgen.py): what the functions compute, over pure values. -/
set_option linter.unusedVariables false
set_option maxRecDepth 100000
namespace Go.H.Tryd
open Go Go.H
def b_gosem_cut_init (st : St) (R : Res → St → Prop) : Prop :=
 callK prog n_gosem_cut [] st (fun v0 st =>
 retR R (.tup []) st) (panR R)
theorem e_gosem_cut_init : Enters prog n_gosem_cut_init := ⟨Go.Proofs.Tryd.f2, by kernel_rfl, by kernel_rfl, by kernel_rfl⟩
theorem c_gosem_cut_init {st : St} {R : Res → St → Prop} (h : b_gosem_cut_init  st R) : HCalls prog n_gosem_cut_init [] st R :=
 hcalls_of_func tyOK mixed (fn := Go.Proofs.Tryd.f2) (by kernel_rfl) (by kernel_rfl) (by kernel_rfl) (ann := [])
  (show hFunc prog TT [] Go.Proofs.Tryd.f2 [] st R from (show hFunc prog TT [] Go.Proofs.Tryd.f2 [] st R = b_gosem_cut_init  st R by kernel_rfl) ▸ h)
def b_laws_FnExactSimpleCheck (a0 a1 a2 a3 a4 : PV) (st : St) (R : Res → St → Prop) : Prop :=
 e_box st a3 fun v8 st =>
 e_box st a4 fun v9 st =>
 callK prog n_laws_szTypedS [a0, (.int .i64 1048576)] st (fun v21 st =>
 qb (q_bin .lss v21 (.int .i64 0)) fun v23 =>
 cb v23 fun b => br b
  (retR R (.bool true) st)
  (callK prog n_laws_szTreeS [a1, v21] st (fun v26 st =>
  qb (q_bin .lss v26 (.int .i64 0)) fun v28 =>
  cb v28 fun b_1 => br b_1
   (retR R (.bool true) st)
   (callK prog n_laws_szTreeS [a2, v26] st (fun v31 st =>
   qb (q_bin .lss v31 (.int .i64 0)) fun v33 =>
   cb v33 fun b_2 => br b_2
    (retR R (.bool true) st)
    (qb (q_load st true 4 v8) fun v34 =>
    callK prog n_laws_szTree [v34, v31] st (fun v36 st =>
    qb (q_bin .lss v36 (.int .i64 0)) fun v38 =>
    cb v38 fun b_3 => br b_3
     (retR R (.bool true) st)
     (qb (q_load st true 4 v9) fun v39 =>
     callK prog n_laws_szTree [v39, v36] st (fun v41 st =>
     qb (q_bin .lss v41 (.int .i64 0)) fun v43 =>
     cb v43 fun b_4 => br b_4
      (retR R (.bool true) st)
      (qb (q_load st true 4 v8) fun v50 =>
      qb (q_load st true 4 v9) fun v52 =>
      callK prog n_laws_toTypedS [a0] st (fun v45 st =>
      q_load st true 4 v9 = some v52 ∧ q_load st true 4 v8 = some v50 ∧ (callK prog n_laws_toTreeS [a1] st (fun v47 st =>
      q_load st true 4 v9 = some v52 ∧ q_load st true 4 v8 = some v50 ∧ (callK prog n_laws_toTreeS [a2] st (fun v49 st =>
      q_load st true 4 v9 = some v52 ∧ q_load st true 4 v8 = some v50 ∧ (callK prog n_laws_toTree [v50] st (fun v51 st =>
      q_load st true 4 v9 = some v52 ∧ (callK prog n_laws_toTree [v52] st (fun v53 st =>
      callK prog n_spec_SimpleCheck [v45, v47, v49, v51, v53] st (fun v54 st =>
      callK prog n_laws_toTypedS [a0] st (fun v56 st =>
      callK prog n_laws_toTreeS [a1] st (fun v58 st =>
      callK prog n_laws_toTreeS [a2] st (fun v60 st =>
      qb (q_load st true 4 v8) fun v61 =>
      callK prog n_laws_toTree [v61] st (fun v62 st =>
      e_alloc st [.int .i64 0, .int .i64 0, .str [], .sl 0 true []] fun v16 st =>
      e_store st 4 v16 v62 fun st =>
      qb (q_load st true 4 v9) fun v63 =>
      callK prog n_laws_toTree [v63] st (fun v64 st =>
      e_alloc st [.int .i64 0, .int .i64 0, .str [], .sl 0 true []] fun v17 st =>
      e_store st 4 v17 v64 fun st =>
      qb (q_load st true 4 v16) fun v68 =>
      qb (q_load st true 4 v17) fun v69 =>
      callK prog n_impl_SimpleCheck [v56, v58, v60, v68, v69] st (fun v70 st =>
      qb (q_bin .neq v70 v54) fun v73 =>
      cb v73 fun b_5 => br b_5
       (retR R (.bool false) st)
       (callK prog n_laws_toTypedS [a0] st (fun v76 st =>
       callK prog n_laws_eqTypedS [v56, v76] st (fun v77 st =>
       qb (q_un .not v77) fun v78 =>
       cb v78 fun b_6 => br b_6
        (retR R (.bool false) st)
        (callK prog n_laws_toTreeS [a1] st (fun v81 st =>
        callK prog n_laws_eqTreeS [v58, v81] st (fun v82 st =>
        qb (q_un .not v82) fun v83 =>
        cb v83 fun b_7 => br b_7
         (retR R (.bool false) st)
         (callK prog n_laws_toTreeS [a2] st (fun v86 st =>
         callK prog n_laws_eqTreeS [v60, v86] st (fun v87 st =>
         qb (q_un .not v87) fun v88 =>
         cb v88 fun b_8 => br b_8
          (retR R (.bool false) st)
          (qb (q_load st true 4 v16) fun v89 =>
          qb (q_load st true 4 v8) fun v90 =>
          callK prog n_laws_toTree [v90] st (fun v91 st =>
          q_load st true 4 v16 = some v89 ∧ (callK prog n_laws_eqTree [v89, v91] st (fun v92 st =>
          qb (q_un .not v92) fun v93 =>
          cb v93 fun b_9 => br b_9
           (retR R (.bool false) st)
           (qb (q_load st true 4 v17) fun v94 =>
           qb (q_load st true 4 v9) fun v95 =>
           callK prog n_laws_toTree [v95] st (fun v96 st =>
           q_load st true 4 v17 = some v94 ∧ (callK prog n_laws_eqTree [v94, v96] st (fun v97 st =>
           qb (q_un .not v97) fun v98 =>
           cb v98 fun b_10 => br b_10
            (retR R (.bool false) st)
            (retR R (.bool true) st)) (panR R))) (panR R))) (panR R))) (panR R))) (panR R)) (panR R))) (panR R)) (panR R))) (panR R)) (panR R))) (panR R)) (panR R)) (panR R)) (panR R)) (panR R)) (panR R)) (panR R)) (panR R))) (panR R))) (panR R))) (panR R))) (panR R))) (panR R))) (panR R))) (panR R))) (panR R))) (panR R)
theorem e_laws_FnExactSimpleCheck : Enters prog n_laws_FnExactSimpleCheck := ⟨Go.Proofs.Tryd.f3, by kernel_rfl, by kernel_rfl, by kernel_rfl⟩
theorem c_laws_FnExactSimpleCheck {a0 a1 a2 a3 a4 : PV} {st : St} {R : Res → St → Prop} (h : b_laws_FnExactSimpleCheck a0 a1 a2 a3 a4 st R) : HCalls prog n_laws_FnExactSimpleCheck [a0, a1, a2, a3, a4] st R :=
 hcalls_of_func tyOK mixed (fn := Go.Proofs.Tryd.f3) (by kernel_rfl) (by kernel_rfl) (by kernel_rfl) (ann := [])
  (show hFunc prog TT [] Go.Proofs.Tryd.f3 [a0, a1, a2, a3, a4] st R from (show hFunc prog TT [] Go.Proofs.Tryd.f3 [a0, a1, a2, a3, a4] st R = b_laws_FnExactSimpleCheck a0 a1 a2 a3 a4 st R by kernel_rfl) ▸ h)
def b_laws_FnExactPatternOK (a0 a1 : PV) (st : St) (R : Res → St → Prop) : Prop :=
 e_box st a1 fun v3 st =>
 callK prog n_laws_szTreeS [a0, (.int .i64 1048576)] st (fun v12 st =>
 qb (q_bin .lss v12 (.int .i64 0)) fun v14 =>
 cb v14 fun b => br b
  (retR R (.bool true) st)
  (qb (q_load st true 4 v3) fun v15 =>
  callK prog n_laws_szTree [v15, v12] st (fun v17 st =>
  qb (q_bin .lss v17 (.int .i64 0)) fun v19 =>
  cb v19 fun b_1 => br b_1
   (retR R (.bool true) st)
   (qb (q_load st true 4 v3) fun v22 =>
   callK prog n_laws_toTreeS [a0] st (fun v21 st =>
   q_load st true 4 v3 = some v22 ∧ (callK prog n_laws_toTree [v22] st (fun v23 st =>
   callK prog n_spec_PatternOK [v21, v23] st (fun v24 st =>
   callK prog n_laws_toTreeS [a0] st (fun v26 st =>
   qb (q_load st true 4 v3) fun v27 =>
   callK prog n_laws_toTree [v27] st (fun v28 st =>
   e_alloc st [.int .i64 0, .int .i64 0, .str [], .sl 0 true []] fun v8 st =>
   e_store st 4 v8 v28 fun st =>
   qb (q_load st true 4 v8) fun v30 =>
   callK prog n_impl_PatternOK [v26, v30] st (fun v31 st =>
   qb (q_beq .neq v31 v24) fun v34 =>
   cb v34 fun b_2 => br b_2
    (retR R (.bool false) st)
    (callK prog n_laws_toTreeS [a0] st (fun v37 st =>
    callK prog n_laws_eqTreeS [v26, v37] st (fun v38 st =>
    qb (q_un .not v38) fun v39 =>
    cb v39 fun b_3 => br b_3
     (retR R (.bool false) st)
     (qb (q_load st true 4 v8) fun v40 =>
     qb (q_load st true 4 v3) fun v41 =>
     callK prog n_laws_toTree [v41] st (fun v42 st =>
     q_load st true 4 v8 = some v40 ∧ (callK prog n_laws_eqTree [v40, v42] st (fun v43 st =>
     qb (q_un .not v43) fun v44 =>
     cb v44 fun b_4 => br b_4
      (retR R (.bool false) st)
      (retR R (.bool true) st)) (panR R))) (panR R))) (panR R)) (panR R))) (panR R)) (panR R)) (panR R)) (panR R)) (panR R))) (panR R))) (panR R))) (panR R)
theorem e_laws_FnExactPatternOK : Enters prog n_laws_FnExactPatternOK := ⟨Go.Proofs.Tryd.f4, by kernel_rfl, by kernel_rfl, by kernel_rfl⟩
theorem c_laws_FnExactPatternOK {a0 a1 : PV} {st : St} {R : Res → St → Prop} (h : b_laws_FnExactPatternOK a0 a1 st R) : HCalls prog n_laws_FnExactPatternOK [a0, a1] st R :=
 hcalls_of_func tyOK mixed (fn := Go.Proofs.Tryd.f4) (by kernel_rfl) (by kernel_rfl) (by kernel_rfl) (ann := [])
  (show hFunc prog TT [] Go.Proofs.Tryd.f4 [a0, a1] st R from (show hFunc prog TT [] Go.Proofs.Tryd.f4 [a0, a1] st R = b_laws_FnExactPatternOK a0 a1 st R by kernel_rfl) ▸ h)
def b_laws_szTypedS (a0 a1 : PV) (st : St) (R : Res → St → Prop) : Prop :=
 qb (q_len a0) fun v8 =>
 qb (q_bin .sub a1 v8) fun v9 =>
 qb (q_bin .lss v9 (.int .i64 0)) fun v11 =>
 cb v11 fun b => br b
  (retR R (.int .i64 (-1)) st)
  (hFix (fun ls st X =>
   qb (q_len a0) fun v14 =>
   qb (q_bin .lss (ls.getD 1 .junk) v14) fun v15 =>
   cb v15 fun b_1 => br b_1
    (qb (q_ia 5 a0 (ls.getD 1 .junk)) fun v20 =>
    qb (q_load st true 5 v20) fun v21 =>
    callK prog n_laws_szTyped [v21, (ls.getD 0 .junk)] st (fun v23 st =>
    qb (q_bin .lss v23 (.int .i64 0)) fun v25 =>
    cb v25 fun b_2 => br b_2
     (retR R (.int .i64 (-1)) st)
     (qb (q_bin .add (ls.getD 1 .junk) (.int .i64 1)) fun v17 =>
     X [v23, v17] st)) (panR R))
    (retR R (ls.getD 0 .junk) st))
   [v9, (.int .i64 0)] st)
theorem e_laws_szTypedS : Enters prog n_laws_szTypedS := ⟨Go.Proofs.Tryd.f5, by kernel_rfl, by kernel_rfl, by kernel_rfl⟩
theorem c_laws_szTypedS {a0 a1 : PV} {st : St} {R : Res → St → Prop} (h : b_laws_szTypedS a0 a1 st R) : HCalls prog n_laws_szTypedS [a0, a1] st R :=
 hcalls_of_func tyOK mixed (fn := Go.Proofs.Tryd.f5) (by kernel_rfl) (by kernel_rfl) (by kernel_rfl) (ann := [(20, [1, 5])])
  (show hFunc prog TT [(20, [1, 5])] Go.Proofs.Tryd.f5 [a0, a1] st R from (show hFunc prog TT [(20, [1, 5])] Go.Proofs.Tryd.f5 [a0, a1] st R = b_laws_szTypedS a0 a1 st R by kernel_rfl) ▸ h)
def b_laws_szTreeS (a0 a1 : PV) (st : St) (R : Res → St → Prop) : Prop :=
 qb (q_len a0) fun v8 =>
 qb (q_bin .sub a1 v8) fun v9 =>
 qb (q_bin .lss v9 (.int .i64 0)) fun v11 =>
 cb v11 fun b => br b
  (retR R (.int .i64 (-1)) st)
  (hFix (fun ls st X =>
   qb (q_len a0) fun v14 =>
   qb (q_bin .lss (ls.getD 1 .junk) v14) fun v15 =>
   cb v15 fun b_1 => br b_1
    (qb (q_ia 4 a0 (ls.getD 1 .junk)) fun v20 =>
    qb (q_load st true 4 v20) fun v21 =>
    callK prog n_laws_szTree [v21, (ls.getD 0 .junk)] st (fun v23 st =>
    qb (q_bin .lss v23 (.int .i64 0)) fun v25 =>
    cb v25 fun b_2 => br b_2
     (retR R (.int .i64 (-1)) st)
     (qb (q_bin .add (ls.getD 1 .junk) (.int .i64 1)) fun v17 =>
     X [v23, v17] st)) (panR R))
    (retR R (ls.getD 0 .junk) st))
   [v9, (.int .i64 0)] st)
theorem e_laws_szTreeS : Enters prog n_laws_szTreeS := ⟨Go.Proofs.Tryd.f6, by kernel_rfl, by kernel_rfl, by kernel_rfl⟩
theorem c_laws_szTreeS {a0 a1 : PV} {st : St} {R : Res → St → Prop} (h : b_laws_szTreeS a0 a1 st R) : HCalls prog n_laws_szTreeS [a0, a1] st R :=
 hcalls_of_func tyOK mixed (fn := Go.Proofs.Tryd.f6) (by kernel_rfl) (by kernel_rfl) (by kernel_rfl) (ann := [(20, [1, 5])])
  (show hFunc prog TT [(20, [1, 5])] Go.Proofs.Tryd.f6 [a0, a1] st R from (show hFunc prog TT [(20, [1, 5])] Go.Proofs.Tryd.f6 [a0, a1] st R = b_laws_szTreeS a0 a1 st R by kernel_rfl) ▸ h)
def b_laws_szTree (a0 a1 : PV) (st : St) (R : Res → St → Prop) : Prop :=
 e_box st a0 fun v2 st =>
 qb (q_fa 2 v2) fun v6 =>
 qb (q_load st false 1 v6) fun v7 =>
 qb (q_lenS v7) fun v8 =>
 qb (q_bin .sub a1 v8) fun v9 =>
 qb (q_bin .lss v9 (.int .i64 0)) fun v11 =>
 cb v11 fun b => br b
  (retR R (.int .i64 (-1)) st)
  (qb (q_fa 3 v2) fun v12 =>
  qb (q_load st false 1 v12) fun v13 =>
  callK prog n_laws_szTreeS [v13, v9] st (fun v15 st =>
  qb (q_bin .lss v15 (.int .i64 0)) fun v17 =>
  cb v17 fun b_1 => br b_1
   (retR R (.int .i64 (-1)) st)
   (retR R v15 st)) (panR R))
theorem e_laws_szTree : Enters prog n_laws_szTree := ⟨Go.Proofs.Tryd.f7, by kernel_rfl, by kernel_rfl, by kernel_rfl⟩
theorem c_laws_szTree {a0 a1 : PV} {st : St} {R : Res → St → Prop} (h : b_laws_szTree a0 a1 st R) : HCalls prog n_laws_szTree [a0, a1] st R :=
 hcalls_of_func tyOK mixed (fn := Go.Proofs.Tryd.f7) (by kernel_rfl) (by kernel_rfl) (by kernel_rfl) (ann := [])
  (show hFunc prog TT [] Go.Proofs.Tryd.f7 [a0, a1] st R from (show hFunc prog TT [] Go.Proofs.Tryd.f7 [a0, a1] st R = b_laws_szTree a0 a1 st R by kernel_rfl) ▸ h)
def b_spec_SimpleCheck (a0 a1 a2 a3 a4 : PV) (st : St) (R : Res → St → Prop) : Prop :=
 e_box st a3 fun v8 st =>
 e_box st a4 fun v9 st =>
 qb (q_len a0) fun v12 =>
 qb (q_bin .gtr v12 (.int .i64 4096)) fun v13 =>
 cb v13 fun b => br b
  (retR R (.int .i64 2) st)
  (qb (q_len a1) fun v16 =>
  qb (q_bin .gtr v16 (.int .i64 4096)) fun v17 =>
  cb v17 fun b_1 => br b_1
   (retR R (.int .i64 2) st)
   (qb (q_len a2) fun v21 =>
   qb (q_bin .gtr v21 (.int .i64 4096)) fun v22 =>
   cb v22 fun b_2 => br b_2
    (retR R (.int .i64 2) st)
    (callK prog n_spec_l03Consts [a0] st (fun v25 st =>
    qb (q_un .not v25) fun v26 =>
    cb v26 fun b_3 => br b_3
     (retR R (.int .i64 1) st)
     (callK prog n_spec_l03Simples [a1, (.int .i64 40)] st (fun v29 st =>
     qb (q_un .not v29) fun v30 =>
     cb v30 fun b_4 => br b_4
      (retR R (.int .i64 1) st)
      (callK prog n_spec_l03Simples [a2, (.int .i64 20)] st (fun v34 st =>
      qb (q_un .not v34) fun v35 =>
      cb v35 fun b_5 => br b_5
       (retR R (.int .i64 1) st)
       (qb (q_load st true 4 v8) fun v38 =>
       callK prog n_spec_TermOK [v38] st (fun v39 st =>
       qb (q_un .not v39) fun v40 =>
       cb v40 fun b_6 => br b_6
        (retR R (.int .i64 1) st)
        (qb (q_load st true 4 v9) fun v43 =>
        callK prog n_spec_SimpleOK [v43] st (fun v44 st =>
        qb (q_un .not v44) fun v45 =>
        cb v45 fun b_7 => br b_7
         (retR R (.int .i64 1) st)
         (qb (q_load st true 4 v8) fun v50 =>
         qb (q_load st true 4 v9) fun v51 =>
         callK prog n_spec_l03Typed [a0, a1, a2, v50, v51] st (fun v52 st =>
         retR R v52 st) (panR R))) (panR R))) (panR R))) (panR R))) (panR R))) (panR R))))
theorem e_spec_SimpleCheck : Enters prog n_spec_SimpleCheck := ⟨Go.Proofs.Tryd.f8, by kernel_rfl, by kernel_rfl, by kernel_rfl⟩
theorem c_spec_SimpleCheck {a0 a1 a2 a3 a4 : PV} {st : St} {R : Res → St → Prop} (h : b_spec_SimpleCheck a0 a1 a2 a3 a4 st R) : HCalls prog n_spec_SimpleCheck [a0, a1, a2, a3, a4] st R :=
 hcalls_of_func tyOK mixed (fn := Go.Proofs.Tryd.f8) (by kernel_rfl) (by kernel_rfl) (by kernel_rfl) (ann := [])
  (show hFunc prog TT [] Go.Proofs.Tryd.f8 [a0, a1, a2, a3, a4] st R from (show hFunc prog TT [] Go.Proofs.Tryd.f8 [a0, a1, a2, a3, a4] st R = b_spec_SimpleCheck a0 a1 a2 a3 a4 st R by kernel_rfl) ▸ h)
def b_laws_toTypedS (a0 : PV) (st : St) (R : Res → St → Prop) : Prop :=
 qb (q_len a0) fun v6 =>
 e_make st 5 72 (.agg [.str [], .int .i64 0, .int .i64 0, .str [], .sl 0 true []]) v6 v6 fun v7 st =>
 hFix (fun ls st X =>
  qb (q_len a0) fun v10 =>
  qb (q_bin .lss (ls.getD 0 .junk) v10) fun v11 =>
  cb v11 fun b => br b
   (qb (q_ia 5 a0 (ls.getD 0 .junk)) fun v18 =>
   qb (q_load st true 5 v18) fun v19 =>
   callK prog n_laws_toTyped [v19] st (fun v20 st =>
   qb (q_ia 5 v7 (ls.getD 0 .junk)) fun v21 =>
   e_store st 5 v21 v20 fun st =>
   qb (q_bin .add (ls.getD 0 .junk) (.int .i64 1)) fun v13 =>
   X [v13] st) (panR R))
   (retR R v7 st))
  [(.int .i64 0)] st
theorem e_laws_toTypedS : Enters prog n_laws_toTypedS := ⟨Go.Proofs.Tryd.f9, by kernel_rfl, by kernel_rfl, by kernel_rfl⟩
theorem c_laws_toTypedS {a0 : PV} {st : St} {R : Res → St → Prop} (h : b_laws_toTypedS a0 st R) : HCalls prog n_laws_toTypedS [a0] st R :=
 hcalls_of_func tyOK mixed (fn := Go.Proofs.Tryd.f9) (by kernel_rfl) (by kernel_rfl) (by kernel_rfl) (ann := [(12, [4])])
  (show hFunc prog TT [(12, [4])] Go.Proofs.Tryd.f9 [a0] st R from (show hFunc prog TT [(12, [4])] Go.Proofs.Tryd.f9 [a0] st R = b_laws_toTypedS a0 st R by kernel_rfl) ▸ h)
def b_laws_toTreeS (a0 : PV) (st : St) (R : Res → St → Prop) : Prop :=
 qb (q_len a0) fun v6 =>
 e_make st 4 56 (.agg [.int .i64 0, .int .i64 0, .str [], .sl 0 true []]) v6 v6 fun v7 st =>
 hFix (fun ls st X =>
  qb (q_len a0) fun v10 =>
  qb (q_bin .lss (ls.getD 0 .junk) v10) fun v11 =>
  cb v11 fun b => br b
   (qb (q_ia 4 a0 (ls.getD 0 .junk)) fun v18 =>
   qb (q_load st true 4 v18) fun v19 =>
   callK prog n_laws_toTree [v19] st (fun v20 st =>
   qb (q_ia 4 v7 (ls.getD 0 .junk)) fun v21 =>
   e_store st 4 v21 v20 fun st =>
   qb (q_bin .add (ls.getD 0 .junk) (.int .i64 1)) fun v13 =>
   X [v13] st) (panR R))
   (retR R v7 st))
  [(.int .i64 0)] st
theorem e_laws_toTreeS : Enters prog n_laws_toTreeS := ⟨Go.Proofs.Tryd.f10, by kernel_rfl, by kernel_rfl, by kernel_rfl⟩
theorem c_laws_toTreeS {a0 : PV} {st : St} {R : Res → St → Prop} (h : b_laws_toTreeS a0 st R) : HCalls prog n_laws_toTreeS [a0] st R :=
 hcalls_of_func tyOK mixed (fn := Go.Proofs.Tryd.f10) (by kernel_rfl) (by kernel_rfl) (by kernel_rfl) (ann := [(12, [4])])
  (show hFunc prog TT [(12, [4])] Go.Proofs.Tryd.f10 [a0] st R from (show hFunc prog TT [(12, [4])] Go.Proofs.Tryd.f10 [a0] st R = b_laws_toTreeS a0 st R by kernel_rfl) ▸ h)
def b_laws_toTree (a0 : PV) (st : St) (R : Res → St → Prop) : Prop :=
 e_box st a0 fun v1 st =>
 e_alloc st [.int .i64 0, .int .i64 0, .str [], .sl 0 true []] fun v2 st =>
 e_alloc st [.int .i64 0, .int .i64 0, .str [], .sl 0 true []] fun v3 st =>
 qb (q_fa 0 v1) fun v4 =>
 qb (q_load st false 1 v4) fun v5 =>
 qb (q_fa 0 v3) fun v6 =>
 e_store st 1 v6 v5 fun st =>
 qb (q_fa 1 v1) fun v7 =>
 qb (q_load st false 1 v7) fun v8 =>
 qb (q_fa 1 v3) fun v9 =>
 e_store st 1 v9 v8 fun st =>
 qb (q_fa 2 v1) fun v10 =>
 qb (q_load st false 1 v10) fun v11 =>
 qb (q_fa 2 v3) fun v12 =>
 e_store st 1 v12 v11 fun st =>
 qb (q_fa 3 v1) fun v13 =>
 qb (q_load st false 1 v13) fun v14 =>
 callK prog n_laws_toTreeS [v14] st (fun v15 st =>
 qb (q_fa 3 v3) fun v16 =>
 e_store st 1 v16 v15 fun st =>
 qb (q_load st true 4 v3) fun v17 =>
 e_store st 4 v2 v17 fun st =>
 qb (q_load st true 4 v2) fun r => retR R r st) (panR R)
theorem e_laws_toTree : Enters prog n_laws_toTree := ⟨Go.Proofs.Tryd.f11, by kernel_rfl, by kernel_rfl, by kernel_rfl⟩
theorem c_laws_toTree {a0 : PV} {st : St} {R : Res → St → Prop} (h : b_laws_toTree a0 st R) : HCalls prog n_laws_toTree [a0] st R :=
 hcalls_of_func tyOK mixed (fn := Go.Proofs.Tryd.f11) (by kernel_rfl) (by kernel_rfl) (by kernel_rfl) (ann := [])
  (show hFunc prog TT [] Go.Proofs.Tryd.f11 [a0] st R from (show hFunc prog TT [] Go.Proofs.Tryd.f11 [a0] st R = b_laws_toTree a0 st R by kernel_rfl) ▸ h)
def b_impl_SimpleCheck (a0 a1 a2 a3 a4 : PV) (st : St) (R : Res → St → Prop) : Prop :=
 e_box st a1 fun v6 st =>
 e_box st a3 fun v8 st =>
 e_box st a4 fun v9 st =>
 qb (q_len a0) fun v14 =>
 qb (q_load st false 1 v6) fun v15 =>
 qb (q_len v15) fun v16 =>
 qb (q_len a2) fun v18 =>
 qb (q_lit 1 3 0 [] [(0, v14), (1, v16), (2, v18)]) fun v19 =>
 callK prog n_impl_longLists [v19] st (fun v20 st =>
 cb v20 fun b => br b
  (retR R (.int .i64 2) st)
  (callK prog n_impl_constsOK [a0] st (fun v23 st =>
  qb (q_un .not v23) fun v24 =>
  cb v24 fun b_1 => br b_1
   (retR R (.int .i64 1) st)
   (qb (q_load st false 1 v6) fun v26 =>
   callK prog n_impl_simplesOK [v26, (.int .i64 40)] st (fun v27 st =>
   qb (q_un .not v27) fun v28 =>
   cb v28 fun b_2 => br b_2
    (retR R (.int .i64 1) st)
    (callK prog n_impl_simplesOK [a2, (.int .i64 20)] st (fun v32 st =>
    qb (q_un .not v32) fun v33 =>
    cb v33 fun b_3 => br b_3
     (retR R (.int .i64 1) st)
     (qb (q_load st true 4 v8) fun v36 =>
     callK prog n_impl_badTerm [v36] st (fun v37 st =>
     cb v37 fun b_4 => br b_4
      (retR R (.int .i64 1) st)
      (qb (q_load st true 4 v9) fun v40 =>
      callK prog n_impl_badSimple [v40] st (fun v41 st =>
      cb v41 fun b_5 => br b_5
       (retR R (.int .i64 1) st)
       (qb (q_struct [.sl 0 true [], .sl 0 true []] [(0, 1, a0), (1, 1, a2)]) fun v45 =>
       e_box st v45 fun v46 st =>
       e_alloc st [.nilp] fun v11 st =>
       e_store st 1 v11 v46 fun st =>
       callK prog n_impl_caught [(.fn (.func n_impl_SimpleCheck_1) [] [v11, v6, v8, v9])] st (fun v48 st =>
       qb (q_field false 1 0 v48) fun v49 =>
       retR R v49 st) (panR R))) (panR R))) (panR R))) (panR R))) (panR R))) (panR R))) (panR R)
theorem e_impl_SimpleCheck : Enters prog n_impl_SimpleCheck := ⟨Go.Proofs.Tryd.f12, by kernel_rfl, by kernel_rfl, by kernel_rfl⟩
theorem c_impl_SimpleCheck {a0 a1 a2 a3 a4 : PV} {st : St} {R : Res → St → Prop} (h : b_impl_SimpleCheck a0 a1 a2 a3 a4 st R) : HCalls prog n_impl_SimpleCheck [a0, a1, a2, a3, a4] st R :=
 hcalls_of_func tyOK mixed (fn := Go.Proofs.Tryd.f12) (by kernel_rfl) (by kernel_rfl) (by kernel_rfl) (ann := [])
  (show hFunc prog TT [] Go.Proofs.Tryd.f12 [a0, a1, a2, a3, a4] st R from (show hFunc prog TT [] Go.Proofs.Tryd.f12 [a0, a1, a2, a3, a4] st R = b_impl_SimpleCheck a0 a1 a2 a3 a4 st R by kernel_rfl) ▸ h)
def b_laws_eqTypedS (a0 a1 : PV) (st : St) (R : Res → St → Prop) : Prop :=
 qb (q_len a0) fun v7 =>
 qb (q_len a1) fun v9 =>
 qb (q_bin .neq v7 v9) fun v10 =>
 cb v10 fun b => br b
  (retR R (.bool false) st)
  (hFix (fun ls st X =>
   qb (q_len a0) fun v13 =>
   qb (q_bin .lss (ls.getD 0 .junk) v13) fun v14 =>
   cb v14 fun b_1 => br b_1
    (qb (q_ia 5 a0 (ls.getD 0 .junk)) fun v19 =>
    qb (q_load st true 5 v19) fun v20 =>
    qb (q_ia 5 a1 (ls.getD 0 .junk)) fun v23 =>
    qb (q_load st true 5 v23) fun v24 =>
    callK prog n_laws_eqTyped [v20, v24] st (fun v25 st =>
    qb (q_un .not v25) fun v26 =>
    cb v26 fun b_2 => br b_2
     (retR R (.bool false) st)
     (qb (q_bin .add (ls.getD 0 .junk) (.int .i64 1)) fun v16 =>
     X [v16] st)) (panR R))
    (retR R (.bool true) st))
   [(.int .i64 0)] st)
theorem e_laws_eqTypedS : Enters prog n_laws_eqTypedS := ⟨Go.Proofs.Tryd.f13, by kernel_rfl, by kernel_rfl, by kernel_rfl⟩
theorem c_laws_eqTypedS {a0 a1 : PV} {st : St} {R : Res → St → Prop} (h : b_laws_eqTypedS a0 a1 st R) : HCalls prog n_laws_eqTypedS [a0, a1] st R :=
 hcalls_of_func tyOK mixed (fn := Go.Proofs.Tryd.f13) (by kernel_rfl) (by kernel_rfl) (by kernel_rfl) (ann := [(16, [5])])
  (show hFunc prog TT [(16, [5])] Go.Proofs.Tryd.f13 [a0, a1] st R from (show hFunc prog TT [(16, [5])] Go.Proofs.Tryd.f13 [a0, a1] st R = b_laws_eqTypedS a0 a1 st R by kernel_rfl) ▸ h)
def b_laws_eqTreeS (a0 a1 : PV) (st : St) (R : Res → St → Prop) : Prop :=
 qb (q_len a0) fun v7 =>
 qb (q_len a1) fun v9 =>
 qb (q_bin .neq v7 v9) fun v10 =>
 cb v10 fun b => br b
  (retR R (.bool false) st)
  (hFix (fun ls st X =>
   qb (q_len a0) fun v13 =>
   qb (q_bin .lss (ls.getD 0 .junk) v13) fun v14 =>
   cb v14 fun b_1 => br b_1
    (qb (q_ia 4 a0 (ls.getD 0 .junk)) fun v19 =>
    qb (q_load st true 4 v19) fun v20 =>
    qb (q_ia 4 a1 (ls.getD 0 .junk)) fun v23 =>
    qb (q_load st true 4 v23) fun v24 =>
    callK prog n_laws_eqTree [v20, v24] st (fun v25 st =>
    qb (q_un .not v25) fun v26 =>
    cb v26 fun b_2 => br b_2
     (retR R (.bool false) st)
     (qb (q_bin .add (ls.getD 0 .junk) (.int .i64 1)) fun v16 =>
     X [v16] st)) (panR R))
    (retR R (.bool true) st))
   [(.int .i64 0)] st)
theorem e_laws_eqTreeS : Enters prog n_laws_eqTreeS := ⟨Go.Proofs.Tryd.f14, by kernel_rfl, by kernel_rfl, by kernel_rfl⟩
theorem c_laws_eqTreeS {a0 a1 : PV} {st : St} {R : Res → St → Prop} (h : b_laws_eqTreeS a0 a1 st R) : HCalls prog n_laws_eqTreeS [a0, a1] st R :=
 hcalls_of_func tyOK mixed (fn := Go.Proofs.Tryd.f14) (by kernel_rfl) (by kernel_rfl) (by kernel_rfl) (ann := [(16, [5])])
  (show hFunc prog TT [(16, [5])] Go.Proofs.Tryd.f14 [a0, a1] st R from (show hFunc prog TT [(16, [5])] Go.Proofs.Tryd.f14 [a0, a1] st R = b_laws_eqTreeS a0 a1 st R by kernel_rfl) ▸ h)
def b_laws_eqTree (a0 a1 : PV) (st : St) (R : Res → St → Prop) : Prop :=
 e_box st a0 fun v2 st =>
 e_box st a1 fun v3 st =>
 qb (q_fa 0 v2) fun v5 =>
 qb (q_load st false 1 v5) fun v6 =>
 qb (q_fa 0 v3) fun v7 =>
 qb (q_load st false 1 v7) fun v8 =>
 qb (q_bin .neq v6 v8) fun v9 =>
 cb v9 fun b => br b
  (retR R (.bool false) st)
  (qb (q_fa 1 v2) fun v10 =>
  qb (q_load st false 1 v10) fun v11 =>
  qb (q_fa 1 v3) fun v12 =>
  qb (q_load st false 1 v12) fun v13 =>
  qb (q_bin .neq v11 v13) fun v14 =>
  cb v14 fun b_1 => br b_1
   (retR R (.bool false) st)
   (qb (q_fa 2 v2) fun v15 =>
   qb (q_load st false 1 v15) fun v16 =>
   qb (q_fa 2 v3) fun v17 =>
   qb (q_load st false 1 v17) fun v18 =>
   qb (q_bin .neq v16 v18) fun v19 =>
   cb v19 fun b_2 => br b_2
    (retR R (.bool false) st)
    (qb (q_fa 3 v2) fun v20 =>
    qb (q_load st false 1 v20) fun v21 =>
    qb (q_fa 3 v3) fun v22 =>
    qb (q_load st false 1 v22) fun v23 =>
    callK prog n_laws_eqTreeS [v21, v23] st (fun v24 st =>
    qb (q_un .not v24) fun v25 =>
    cb v25 fun b_3 => br b_3
     (retR R (.bool false) st)
     (retR R (.bool true) st)) (panR R))))
theorem e_laws_eqTree : Enters prog n_laws_eqTree := ⟨Go.Proofs.Tryd.f15, by kernel_rfl, by kernel_rfl, by kernel_rfl⟩
theorem c_laws_eqTree {a0 a1 : PV} {st : St} {R : Res → St → Prop} (h : b_laws_eqTree a0 a1 st R) : HCalls prog n_laws_eqTree [a0, a1] st R :=
 hcalls_of_func tyOK mixed (fn := Go.Proofs.Tryd.f15) (by kernel_rfl) (by kernel_rfl) (by kernel_rfl) (ann := [])
  (show hFunc prog TT [] Go.Proofs.Tryd.f15 [a0, a1] st R from (show hFunc prog TT [] Go.Proofs.Tryd.f15 [a0, a1] st R = b_laws_eqTree a0 a1 st R by kernel_rfl) ▸ h)
def b_spec_PatternOK (a0 a1 : PV) (st : St) (R : Res → St → Prop) : Prop :=
 e_box st a1 fun v3 st =>
 callK prog n_spec_l03Simples [a0, (.int .i64 20)] st (fun v6 st =>
 cb v6 fun b => br b
  (qb (q_load st true 4 v3) fun v8 =>
  callK prog n_spec_TermOK [v8] st (fun v9 st =>
  cb v9 fun b_1 => br b_1
   (qb (q_load st true 4 v3) fun v13 =>
   callK prog n_spec_l06Pattern [a0, v13] st (fun v14 st =>
   retR R v14 st) (panR R))
   (retR R (.bool false) st)) (panR R))
  (retR R (.bool false) st)) (panR R)
theorem e_spec_PatternOK : Enters prog n_spec_PatternOK := ⟨Go.Proofs.Tryd.f16, by kernel_rfl, by kernel_rfl, by kernel_rfl⟩
theorem c_spec_PatternOK {a0 a1 : PV} {st : St} {R : Res → St → Prop} (h : b_spec_PatternOK a0 a1 st R) : HCalls prog n_spec_PatternOK [a0, a1] st R :=
 hcalls_of_func tyOK mixed (fn := Go.Proofs.Tryd.f16) (by kernel_rfl) (by kernel_rfl) (by kernel_rfl) (ann := [])
  (show hFunc prog TT [] Go.Proofs.Tryd.f16 [a0, a1] st R from (show hFunc prog TT [] Go.Proofs.Tryd.f16 [a0, a1] st R = b_spec_PatternOK a0 a1 st R by kernel_rfl) ▸ h)
def b_impl_PatternOK (a0 a1 : PV) (st : St) (R : Res → St → Prop) : Prop :=
 e_box st a1 fun v3 st =>
 callK prog n_impl_simplesOK [a0, (.int .i64 20)] st (fun v6 st =>
 cb v6 fun b => br b
  (qb (q_load st true 4 v3) fun v8 =>
  callK prog n_impl_TermOK [v8] st (fun v9 st =>
  cb v9 fun b_1 => br b_1
   (qb (q_load st true 4 v3) fun v13 =>
   callK prog n_impl_patterns [a0, v13] st (fun v14 st =>
   retR R v14 st) (panR R))
   (retR R (.bool false) st)) (panR R))
  (retR R (.bool false) st)) (panR R)
theorem e_impl_PatternOK : Enters prog n_impl_PatternOK := ⟨Go.Proofs.Tryd.f17, by kernel_rfl, by kernel_rfl, by kernel_rfl⟩
theorem c_impl_PatternOK {a0 a1 : PV} {st : St} {R : Res → St → Prop} (h : b_impl_PatternOK a0 a1 st R) : HCalls prog n_impl_PatternOK [a0, a1] st R :=
 hcalls_of_func tyOK mixed (fn := Go.Proofs.Tryd.f17) (by kernel_rfl) (by kernel_rfl) (by kernel_rfl) (ann := [])
  (show hFunc prog TT [] Go.Proofs.Tryd.f17 [a0, a1] st R from (show hFunc prog TT [] Go.Proofs.Tryd.f17 [a0, a1] st R = b_impl_PatternOK a0 a1 st R by kernel_rfl) ▸ h)
def b_laws_szTyped (a0 a1 : PV) (st : St) (R : Res → St → Prop) : Prop :=
 e_box st a0 fun v2 st =>
 qb (q_fa 0 v2) fun v6 =>
 qb (q_load st false 1 v6) fun v7 =>
 qb (q_lenS v7) fun v8 =>
 qb (q_bin .sub a1 v8) fun v9 =>
 qb (q_bin .lss v9 (.int .i64 0)) fun v11 =>
 cb v11 fun b => br b
  (retR R (.int .i64 (-1)) st)
  (qb (q_fa 1 v2) fun v12 =>
  qb (q_load st true 4 v12) fun v13 =>
  callK prog n_laws_szTree [v13, v9] st (fun v15 st =>
  qb (q_bin .lss v15 (.int .i64 0)) fun v17 =>
  cb v17 fun b_1 => br b_1
   (retR R (.int .i64 (-1)) st)
   (retR R v15 st)) (panR R))
theorem e_laws_szTyped : Enters prog n_laws_szTyped := ⟨Go.Proofs.Tryd.f18, by kernel_rfl, by kernel_rfl, by kernel_rfl⟩
theorem c_laws_szTyped {a0 a1 : PV} {st : St} {R : Res → St → Prop} (h : b_laws_szTyped a0 a1 st R) : HCalls prog n_laws_szTyped [a0, a1] st R :=
 hcalls_of_func tyOK mixed (fn := Go.Proofs.Tryd.f18) (by kernel_rfl) (by kernel_rfl) (by kernel_rfl) (ann := [])
  (show hFunc prog TT [] Go.Proofs.Tryd.f18 [a0, a1] st R from (show hFunc prog TT [] Go.Proofs.Tryd.f18 [a0, a1] st R = b_laws_szTyped a0 a1 st R by kernel_rfl) ▸ h)
def b_spec_l03Consts (a0 : PV) (st : St) (R : Res → St → Prop) : Prop :=
 qb (q_len a0) fun v5 =>
 qb (q_bin .gtr v5 (.int .i64 60)) fun v6 =>
 cb v6 fun b => br b
  (retR R (.bool false) st)
  (hFix (fun ls st X =>
   qb (q_len a0) fun v9 =>
   qb (q_bin .lss (ls.getD 0 .junk) v9) fun v10 =>
   cb v10 fun b_1 => br b_1
    (qb (q_ia 5 a0 (ls.getD 0 .junk)) fun v15 =>
    qb (q_fa 0 v15) fun v16 =>
    qb (q_load st false 1 v16) fun v17 =>
    callK prog n_spec_NameOK [v17] st (fun v18 st =>
    qb (q_un .not v18) fun v19 =>
    cb v19 fun b_2 => br b_2
     (retR R (.bool false) st)
     (qb (q_ia 5 a0 (ls.getD 0 .junk)) fun v23 =>
     qb (q_fa 1 v23) fun v24 =>
     qb (q_load st true 4 v24) fun v25 =>
     callK prog n_spec_SimpleOK [v25] st (fun v26 st =>
     qb (q_un .not v26) fun v27 =>
     cb v27 fun b_3 => br b_3
      (retR R (.bool false) st)
      (qb (q_sliceE 5 a0 none (some (ls.getD 0 .junk)) none) fun v32 =>
      qb (q_ia 5 a0 (ls.getD 0 .junk)) fun v35 =>
      qb (q_fa 0 v35) fun v36 =>
      qb (q_load st false 1 v36) fun v37 =>
      callK prog n_spec_l03Const [v32, v37] st (fun v38 st =>
      qb (q_bin .geq v38 (.int .i64 0)) fun v39 =>
      cb v39 fun b_4 => br b_4
       (retR R (.bool false) st)
       (qb (q_bin .add (ls.getD 0 .junk) (.int .i64 1)) fun v12 =>
       X [v12] st)) (panR R))) (panR R))) (panR R))
    (retR R (.bool true) st))
   [(.int .i64 0)] st)
theorem e_spec_l03Consts : Enters prog n_spec_l03Consts := ⟨Go.Proofs.Tryd.f19, by kernel_rfl, by kernel_rfl, by kernel_rfl⟩
theorem c_spec_l03Consts {a0 : PV} {st : St} {R : Res → St → Prop} (h : b_spec_l03Consts a0 st R) : HCalls prog n_spec_l03Consts [a0] st R :=
 hcalls_of_func tyOK mixed (fn := Go.Proofs.Tryd.f19) (by kernel_rfl) (by kernel_rfl) (by kernel_rfl) (ann := [(16, [3])])
  (show hFunc prog TT [(16, [3])] Go.Proofs.Tryd.f19 [a0] st R from (show hFunc prog TT [(16, [3])] Go.Proofs.Tryd.f19 [a0] st R = b_spec_l03Consts a0 st R by kernel_rfl) ▸ h)
def b_spec_l03Simples (a0 a1 : PV) (st : St) (R : Res → St → Prop) : Prop :=
 qb (q_len a0) fun v7 =>
 qb (q_bin .gtr v7 a1) fun v9 =>
 cb v9 fun b => br b
  (retR R (.bool false) st)
  (hFix (fun ls st X =>
   qb (q_len a0) fun v12 =>
   qb (q_bin .lss (ls.getD 0 .junk) v12) fun v13 =>
   cb v13 fun b_1 => br b_1
    (qb (q_ia 4 a0 (ls.getD 0 .junk)) fun v18 =>
    qb (q_load st true 4 v18) fun v19 =>
    callK prog n_spec_SimpleOK [v19] st (fun v20 st =>
    qb (q_un .not v20) fun v21 =>
    cb v21 fun b_2 => br b_2
     (retR R (.bool false) st)
     (qb (q_bin .add (ls.getD 0 .junk) (.int .i64 1)) fun v15 =>
     X [v15] st)) (panR R))
    (retR R (.bool true) st))
   [(.int .i64 0)] st)
theorem e_spec_l03Simples : Enters prog n_spec_l03Simples := ⟨Go.Proofs.Tryd.f20, by kernel_rfl, by kernel_rfl, by kernel_rfl⟩
theorem c_spec_l03Simples {a0 a1 : PV} {st : St} {R : Res → St → Prop} (h : b_spec_l03Simples a0 a1 st R) : HCalls prog n_spec_l03Simples [a0, a1] st R :=
 hcalls_of_func tyOK mixed (fn := Go.Proofs.Tryd.f20) (by kernel_rfl) (by kernel_rfl) (by kernel_rfl) (ann := [(16, [5])])
  (show hFunc prog TT [(16, [5])] Go.Proofs.Tryd.f20 [a0, a1] st R from (show hFunc prog TT [(16, [5])] Go.Proofs.Tryd.f20 [a0, a1] st R = b_spec_l03Simples a0 a1 st R by kernel_rfl) ▸ h)
def b_spec_TermOK (a0 : PV) (st : St) (R : Res → St → Prop) : Prop :=
 e_box st a0 fun v1 st =>
 qb (q_load st true 4 v1) fun v3 =>
 callK prog n_spec_l01Small [v3] st (fun v4 st =>
 cb v4 fun b => br b
  (qb (q_load st true 4 v1) fun v6 =>
  callK prog n_spec_l01Term [v6, (.bool false)] st (fun v7 st =>
  retR R v7 st) (panR R))
  (retR R (.bool false) st)) (panR R)
theorem e_spec_TermOK : Enters prog n_spec_TermOK := ⟨Go.Proofs.Tryd.f21, by kernel_rfl, by kernel_rfl, by kernel_rfl⟩
theorem c_spec_TermOK {a0 : PV} {st : St} {R : Res → St → Prop} (h : b_spec_TermOK a0 st R) : HCalls prog n_spec_TermOK [a0] st R :=
 hcalls_of_func tyOK mixed (fn := Go.Proofs.Tryd.f21) (by kernel_rfl) (by kernel_rfl) (by kernel_rfl) (ann := [])
  (show hFunc prog TT [] Go.Proofs.Tryd.f21 [a0] st R from (show hFunc prog TT [] Go.Proofs.Tryd.f21 [a0] st R = b_spec_TermOK a0 st R by kernel_rfl) ▸ h)
end Go.H.Tryd
