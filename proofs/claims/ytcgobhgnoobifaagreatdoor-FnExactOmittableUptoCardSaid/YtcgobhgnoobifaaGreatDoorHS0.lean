/- Part of a proof that the program answers as the reference does: EDS0. -/
import Derived.Test.YtcgobhgnoobifaaGreatDoorHT
/- MADE BY PROGRAM (hgen.py): what the functions compute, over pure values. -/
set_option linter.unusedVariables false
set_option maxRecDepth 100000
namespace Go.H.Tryz
open Go Go.H
def b_gosem_cut_init (st : St) (R : Res → St → Prop) : Prop :=
 callK prog n_gosem_cut [] st (fun v0 st =>
 retR R (.tup []) st) (panR R)
theorem e_gosem_cut_init : Enters prog n_gosem_cut_init := ⟨Go.Proofs.Tryz.f2, by kernel_rfl, by kernel_rfl, by kernel_rfl⟩
theorem c_gosem_cut_init {st : St} {R : Res → St → Prop} (h : b_gosem_cut_init  st R) : HCalls prog n_gosem_cut_init [] st R :=
 hcalls_of_func tyOK mixed (fn := Go.Proofs.Tryz.f2) (by kernel_rfl) (by kernel_rfl) (by kernel_rfl) (ann := [])
  (show hFunc prog TT [] Go.Proofs.Tryz.f2 [] st R from (show hFunc prog TT [] Go.Proofs.Tryz.f2 [] st R = b_gosem_cut_init  st R by kernel_rfl) ▸ h)
def b_laws_FnExactOmittable (a0 a1 : PV) (st : St) (R : Res → St → Prop) : Prop :=
 qb (q_lenS a1) fun v17 =>
 qb (q_bin .gtr v17 (.int .i64 1048576)) fun v18 =>
 cb v18 fun b => br b
  (retR R (.bool true) st)
  (callK prog n_laws_szDeclS [a0, (.int .i64 1048576)] st (fun v21 st =>
  qb (q_bin .lss v21 (.int .i64 0)) fun v23 =>
  cb v23 fun b_1 => br b_1
   (retR R (.bool true) st)
   (callK prog n_laws_toDeclS [a0] st (fun v26 st =>
   callK prog n_spec_Omittable [v26, a1] st (fun v28 st =>
   qb (q_ex v28 0) fun v29 =>
   qb (q_ex v28 1) fun v30 =>
   callK prog n_laws_toDeclS [a0] st (fun v32 st =>
   callK prog n_impl_Omittable [v32, a1] st (fun v36 st =>
   qb (q_ex v36 0) fun v37 =>
   qb (q_ex v36 1) fun v38 =>
   callK prog n_laws_eqBoolS [v37, v29] st (fun v41 st =>
   qb (q_un .not v41) fun v42 =>
   cb v42 fun b_2 => br b_2
    (retR R (.bool false) st)
    (qb (q_bin .neq v38 v30) fun v46 =>
    cb v46 fun b_3 => br b_3
     (retR R (.bool false) st)
     (callK prog n_laws_toDeclS [a0] st (fun v50 st =>
     callK prog n_laws_eqDeclS [v32, v50] st (fun v51 st =>
     qb (q_un .not v51) fun v52 =>
     cb v52 fun b_4 => br b_4
      (retR R (.bool false) st)
      (callK prog n_laws_markDeclS [v32, (.int .i64 1)] st (fun v55 st =>
      qb (q_bin .lss v55 (.int .i64 0)) fun v57 =>
      cb v57 fun b_5 => br b_5
       (retR R (.bool false) st)
       (callK prog n_laws_eqBoolS [v37, v29] st (fun v61 st =>
       qb (q_un .not v61) fun v62 =>
       cb v62 fun b_6 => br b_6
        (retR R (.bool false) st)
        (qb (q_bin .neq v38 v30) fun v67 =>
        cb v67 fun b_7 => br b_7
         (retR R (.bool false) st)
         (callK prog n_laws_markBoolS [v37, (.int .i64 1)] st (fun v71 st =>
         callK prog n_laws_heldBoolS [v37, (.int .i64 1)] st (fun v74 st =>
         qb (q_bin .lss v74 (.int .i64 0)) fun v76 =>
         cb v76 fun b_8 => br b_8
          (retR R (.bool false) st)
          (qb (q_bin .neq v74 v71) fun v79 =>
          cb v79 fun b_9 => br b_9
           (retR R (.bool false) st)
           (callK prog n_laws_toDeclS [a0] st (fun v82 st =>
           callK prog n_impl_Omittable [v82, a1] st (fun v84 st =>
           qb (q_ex v84 0) fun v85 =>
           qb (q_ex v84 1) fun v86 =>
           callK prog n_laws_eqBoolS [v85, v29] st (fun v89 st =>
           qb (q_un .not v89) fun v90 =>
           cb v90 fun b_10 => br b_10
            (retR R (.bool false) st)
            (qb (q_bin .neq v86 v30) fun v94 =>
            cb v94 fun b_11 => br b_11
             (retR R (.bool false) st)
             (callK prog n_laws_heldBoolS [v37, (.int .i64 1)] st (fun v98 st =>
             qb (q_bin .lss v98 (.int .i64 0)) fun v100 =>
             cb v100 fun b_12 => br b_12
              (retR R (.bool false) st)
              (qb (q_bin .neq v98 v71) fun v103 =>
              cb v103 fun b_13 => br b_13
               (retR R (.bool false) st)
               (retR R (.bool true) st))) (panR R)))) (panR R)) (panR R)) (panR R)))) (panR R)) (panR R)))) (panR R))) (panR R))) (panR R)) (panR R)))) (panR R)) (panR R)) (panR R)) (panR R)) (panR R))) (panR R))
theorem e_laws_FnExactOmittable : Enters prog n_laws_FnExactOmittable := ⟨Go.Proofs.Tryz.f13, by kernel_rfl, by kernel_rfl, by kernel_rfl⟩
theorem c_laws_FnExactOmittable {a0 a1 : PV} {st : St} {R : Res → St → Prop} (h : b_laws_FnExactOmittable a0 a1 st R) : HCalls prog n_laws_FnExactOmittable [a0, a1] st R :=
 hcalls_of_func tyOK mixed (fn := Go.Proofs.Tryz.f13) (by kernel_rfl) (by kernel_rfl) (by kernel_rfl) (ann := [])
  (show hFunc prog TT [] Go.Proofs.Tryz.f13 [a0, a1] st R from (show hFunc prog TT [] Go.Proofs.Tryz.f13 [a0, a1] st R = b_laws_FnExactOmittable a0 a1 st R by kernel_rfl) ▸ h)
def b_laws_szDeclS (a0 a1 : PV) (st : St) (R : Res → St → Prop) : Prop :=
 qb (q_len a0) fun v8 =>
 qb (q_bin .sub a1 v8) fun v9 =>
 qb (q_bin .lss v9 (.int .i64 0)) fun v11 =>
 cb v11 fun b => br b
  (retR R (.int .i64 (-1)) st)
  (hFix (fun ls st X =>
   qb (q_len a0) fun v14 =>
   qb (q_bin .lss (ls.getD 1 .junk) v14) fun v15 =>
   cb v15 fun b_1 => br b_1
    (qb (q_ia 6 a0 (ls.getD 1 .junk)) fun v20 =>
    qb (q_load st true 6 v20) fun v21 =>
    callK prog n_laws_szDecl [v21, (ls.getD 0 .junk)] st (fun v23 st =>
    qb (q_bin .lss v23 (.int .i64 0)) fun v25 =>
    cb v25 fun b_2 => br b_2
     (retR R (.int .i64 (-1)) st)
     (qb (q_bin .add (ls.getD 1 .junk) (.int .i64 1)) fun v17 =>
     X [v23, v17] st)) (panR R))
    (retR R (ls.getD 0 .junk) st))
   [v9, (.int .i64 0)] st)
theorem e_laws_szDeclS : Enters prog n_laws_szDeclS := ⟨Go.Proofs.Tryz.f15, by kernel_rfl, by kernel_rfl, by kernel_rfl⟩
theorem c_laws_szDeclS {a0 a1 : PV} {st : St} {R : Res → St → Prop} (h : b_laws_szDeclS a0 a1 st R) : HCalls prog n_laws_szDeclS [a0, a1] st R :=
 hcalls_of_func tyOK mixed (fn := Go.Proofs.Tryz.f15) (by kernel_rfl) (by kernel_rfl) (by kernel_rfl) (ann := [(20, [1, 5])])
  (show hFunc prog TT [(20, [1, 5])] Go.Proofs.Tryz.f15 [a0, a1] st R from (show hFunc prog TT [(20, [1, 5])] Go.Proofs.Tryz.f15 [a0, a1] st R = b_laws_szDeclS a0 a1 st R by kernel_rfl) ▸ h)
def b_spec_SigOK (a0 : PV) (st : St) (R : Res → St → Prop) : Prop :=
 qb (q_len a0) fun v7 =>
 qb (q_bin .gtr v7 (.int .i64 40)) fun v8 =>
 cb v8 fun b => br b
  (retR R (.bool false) st)
  (hFix (fun ls st X =>
   qb (q_len a0) fun v11 =>
   qb (q_bin .lss (ls.getD 0 .junk) v11) fun v12 =>
   cb v12 fun b_1 => br b_1
    (qb (q_sliceE 6 a0 none (some (ls.getD 0 .junk)) none) fun v18 =>
    qb (q_ia 6 a0 (ls.getD 0 .junk)) fun v21 =>
    qb (q_load st true 6 v21) fun v22 =>
    callK prog n_spec_l04Decl [v18, v22] st (fun v23 st =>
    qb (q_ex v23 0) fun v24 =>
    qb (q_ex v23 1) fun v25 =>
    qb (q_bin .neq v24 (.int .i64 0)) fun v27 =>
    cb v27 fun b_2 => br b_2
     (retR R (.bool false) st)
     (qb (q_bin .add (ls.getD 0 .junk) (.int .i64 1)) fun v14 =>
     X [v14] st)) (panR R))
    (retR R (.bool true) st))
   [(.int .i64 0)] st)
theorem e_spec_SigOK : Enters prog n_spec_SigOK := ⟨Go.Proofs.Tryz.f16, by kernel_rfl, by kernel_rfl, by kernel_rfl⟩
theorem c_spec_SigOK {a0 : PV} {st : St} {R : Res → St → Prop} (h : b_spec_SigOK a0 st R) : HCalls prog n_spec_SigOK [a0] st R :=
 hcalls_of_func tyOK mixed (fn := Go.Proofs.Tryz.f16) (by kernel_rfl) (by kernel_rfl) (by kernel_rfl) (ann := [(16, [3])])
  (show hFunc prog TT [(16, [3])] Go.Proofs.Tryz.f16 [a0] st R from (show hFunc prog TT [(16, [3])] Go.Proofs.Tryz.f16 [a0] st R = b_spec_SigOK a0 st R by kernel_rfl) ▸ h)
def b_laws_toDeclS (a0 : PV) (st : St) (R : Res → St → Prop) : Prop :=
 qb (q_len a0) fun v6 =>
 e_make st 6 80 (.agg [.str [], .bool false, .int .i64 0, .int .i64 0, .str [], .sl 0 true []]) v6 v6 fun v7 st =>
 hFix (fun ls st X =>
  qb (q_len a0) fun v10 =>
  qb (q_bin .lss (ls.getD 0 .junk) v10) fun v11 =>
  cb v11 fun b => br b
   (qb (q_ia 6 a0 (ls.getD 0 .junk)) fun v18 =>
   qb (q_load st true 6 v18) fun v19 =>
   callK prog n_laws_toDecl [v19] st (fun v20 st =>
   qb (q_ia 6 v7 (ls.getD 0 .junk)) fun v21 =>
   e_store st 6 v21 v20 fun st =>
   qb (q_bin .add (ls.getD 0 .junk) (.int .i64 1)) fun v13 =>
   X [v13] st) (panR R))
   (retR R v7 st))
  [(.int .i64 0)] st
theorem e_laws_toDeclS : Enters prog n_laws_toDeclS := ⟨Go.Proofs.Tryz.f17, by kernel_rfl, by kernel_rfl, by kernel_rfl⟩
theorem c_laws_toDeclS {a0 : PV} {st : St} {R : Res → St → Prop} (h : b_laws_toDeclS a0 st R) : HCalls prog n_laws_toDeclS [a0] st R :=
 hcalls_of_func tyOK mixed (fn := Go.Proofs.Tryz.f17) (by kernel_rfl) (by kernel_rfl) (by kernel_rfl) (ann := [(12, [4])])
  (show hFunc prog TT [(12, [4])] Go.Proofs.Tryz.f17 [a0] st R from (show hFunc prog TT [(12, [4])] Go.Proofs.Tryz.f17 [a0] st R = b_laws_toDeclS a0 st R by kernel_rfl) ▸ h)
def b_impl_SigOK (a0 : PV) (st : St) (R : Res → St → Prop) : Prop :=
 qb (q_len a0) fun v6 =>
 qb (q_bin .gtr v6 (.int .i64 40)) fun v7 =>
 cb v7 fun b => br b
  (retR R (.bool false) st)
  (qb (q_len a0) fun v9 =>
  hFix (fun ls st X =>
   qb (q_bin .lss (ls.getD 0 .junk) v9) fun v11 =>
   cb v11 fun b_1 => br b_1
    (qb (q_ia 6 a0 (ls.getD 0 .junk)) fun v13 =>
    qb (q_load st true 6 v13) fun v14 =>
    e_alloc st [.str [], .bool false, .int .i64 0, .int .i64 0, .str [], .sl 0 true []] fun v4 st =>
    e_store st 6 v4 v14 fun st =>
    qb (q_load st true 6 v4) fun v15 =>
    callK prog n_impl_declForm [v15] st (fun v16 st =>
    qb (q_un .not v16) fun v17 =>
    cb v17 fun b_2 => br b_2
     (retR R (.bool false) st)
     (qb (q_sliceE 6 a0 none (some (ls.getD 0 .junk)) none) fun v21 =>
     qb (q_fa 0 v4) fun v22 =>
     qb (q_load st false 1 v22) fun v23 =>
     callK prog n_impl_has [v21, v23] st (fun v24 st =>
     cb v24 fun b_3 => br b_3
      (retR R (.bool false) st)
      (qb (q_sliceE 6 a0 none (some (ls.getD 0 .junk)) none) fun v29 =>
      qb (q_load st true 6 v4) fun v30 =>
      callK prog n_impl_declFault [v29, v30] st (fun v31 st =>
      qb (q_field false 1 0 v31) fun v32 =>
      qb (q_bin .neq v32 (.int .i64 0)) fun v33 =>
      cb v33 fun b_4 => br b_4
       (retR R (.bool false) st)
       (qb (q_bin .add (ls.getD 0 .junk) (.int .i64 1)) fun v35 =>
       X [v35] st)) (panR R))) (panR R))) (panR R))
    (retR R (.bool true) st))
   [(.int .i64 0)] st)
theorem e_impl_SigOK : Enters prog n_impl_SigOK := ⟨Go.Proofs.Tryz.f18, by kernel_rfl, by kernel_rfl, by kernel_rfl⟩
theorem c_impl_SigOK {a0 : PV} {st : St} {R : Res → St → Prop} (h : b_impl_SigOK a0 st R) : HCalls prog n_impl_SigOK [a0] st R :=
 hcalls_of_func tyOK mixed (fn := Go.Proofs.Tryz.f18) (by kernel_rfl) (by kernel_rfl) (by kernel_rfl) (ann := [(16, [10])])
  (show hFunc prog TT [(16, [10])] Go.Proofs.Tryz.f18 [a0] st R from (show hFunc prog TT [(16, [10])] Go.Proofs.Tryz.f18 [a0] st R = b_impl_SigOK a0 st R by kernel_rfl) ▸ h)
def b_laws_eqDeclS (a0 a1 : PV) (st : St) (R : Res → St → Prop) : Prop :=
 qb (q_len a0) fun v7 =>
 qb (q_len a1) fun v9 =>
 qb (q_bin .neq v7 v9) fun v10 =>
 cb v10 fun b => br b
  (retR R (.bool false) st)
  (hFix (fun ls st X =>
   qb (q_len a0) fun v13 =>
   qb (q_bin .lss (ls.getD 0 .junk) v13) fun v14 =>
   cb v14 fun b_1 => br b_1
    (qb (q_ia 6 a0 (ls.getD 0 .junk)) fun v19 =>
    qb (q_load st true 6 v19) fun v20 =>
    qb (q_ia 6 a1 (ls.getD 0 .junk)) fun v23 =>
    qb (q_load st true 6 v23) fun v24 =>
    callK prog n_laws_eqDecl [v20, v24] st (fun v25 st =>
    qb (q_un .not v25) fun v26 =>
    cb v26 fun b_2 => br b_2
     (retR R (.bool false) st)
     (qb (q_bin .add (ls.getD 0 .junk) (.int .i64 1)) fun v16 =>
     X [v16] st)) (panR R))
    (retR R (.bool true) st))
   [(.int .i64 0)] st)
theorem e_laws_eqDeclS : Enters prog n_laws_eqDeclS := ⟨Go.Proofs.Tryz.f19, by kernel_rfl, by kernel_rfl, by kernel_rfl⟩
theorem c_laws_eqDeclS {a0 a1 : PV} {st : St} {R : Res → St → Prop} (h : b_laws_eqDeclS a0 a1 st R) : HCalls prog n_laws_eqDeclS [a0, a1] st R :=
 hcalls_of_func tyOK mixed (fn := Go.Proofs.Tryz.f19) (by kernel_rfl) (by kernel_rfl) (by kernel_rfl) (ann := [(16, [5])])
  (show hFunc prog TT [(16, [5])] Go.Proofs.Tryz.f19 [a0, a1] st R from (show hFunc prog TT [(16, [5])] Go.Proofs.Tryz.f19 [a0, a1] st R = b_laws_eqDeclS a0 a1 st R by kernel_rfl) ▸ h)
def b_laws_szTreeS (a0 a1 : PV) (st : St) (R : Res → St → Prop) : Prop :=
 qb (q_len a0) fun v8 =>
 qb (q_bin .sub a1 v8) fun v9 =>
 qb (q_bin .lss v9 (.int .i64 0)) fun v11 =>
 cb v11 fun b => br b
  (retR R (.int .i64 (-1)) st)
  (hFix (fun ls st X =>
   qb (q_len a0) fun v14 =>
   qb (q_bin .lss (ls.getD 1 .junk) v14) fun v15 =>
   cb v15 fun b_1 => br b_1
    (qb (q_ia 4 a0 (ls.getD 1 .junk)) fun v20 =>
    qb (q_load st true 4 v20) fun v21 =>
    callK prog n_laws_szTree [v21, (ls.getD 0 .junk)] st (fun v23 st =>
    qb (q_bin .lss v23 (.int .i64 0)) fun v25 =>
    cb v25 fun b_2 => br b_2
     (retR R (.int .i64 (-1)) st)
     (qb (q_bin .add (ls.getD 1 .junk) (.int .i64 1)) fun v17 =>
     X [v23, v17] st)) (panR R))
    (retR R (ls.getD 0 .junk) st))
   [v9, (.int .i64 0)] st)
theorem e_laws_szTreeS : Enters prog n_laws_szTreeS := ⟨Go.Proofs.Tryz.f20, by kernel_rfl, by kernel_rfl, by kernel_rfl⟩
theorem c_laws_szTreeS {a0 a1 : PV} {st : St} {R : Res → St → Prop} (h : b_laws_szTreeS a0 a1 st R) : HCalls prog n_laws_szTreeS [a0, a1] st R :=
 hcalls_of_func tyOK mixed (fn := Go.Proofs.Tryz.f20) (by kernel_rfl) (by kernel_rfl) (by kernel_rfl) (ann := [(20, [1, 5])])
  (show hFunc prog TT [(20, [1, 5])] Go.Proofs.Tryz.f20 [a0, a1] st R from (show hFunc prog TT [(20, [1, 5])] Go.Proofs.Tryz.f20 [a0, a1] st R = b_laws_szTreeS a0 a1 st R by kernel_rfl) ▸ h)
def b_spec_CtxOK (a0 a1 : PV) (st : St) (R : Res → St → Prop) : Prop :=
 callK prog n_spec_SigOK [a0] st (fun v6 st =>
 cb v6 fun b => br b
  (callK prog n_spec_l04Ctx [a0, a1] st (fun v10 st =>
  retR R v10 st) (panR R))
  (retR R (.bool false) st)) (panR R)
theorem e_spec_CtxOK : Enters prog n_spec_CtxOK := ⟨Go.Proofs.Tryz.f21, by kernel_rfl, by kernel_rfl, by kernel_rfl⟩
theorem c_spec_CtxOK {a0 a1 : PV} {st : St} {R : Res → St → Prop} (h : b_spec_CtxOK a0 a1 st R) : HCalls prog n_spec_CtxOK [a0, a1] st R :=
 hcalls_of_func tyOK mixed (fn := Go.Proofs.Tryz.f21) (by kernel_rfl) (by kernel_rfl) (by kernel_rfl) (ann := [])
  (show hFunc prog TT [] Go.Proofs.Tryz.f21 [a0, a1] st R from (show hFunc prog TT [] Go.Proofs.Tryz.f21 [a0, a1] st R = b_spec_CtxOK a0 a1 st R by kernel_rfl) ▸ h)
end Go.H.Tryz
