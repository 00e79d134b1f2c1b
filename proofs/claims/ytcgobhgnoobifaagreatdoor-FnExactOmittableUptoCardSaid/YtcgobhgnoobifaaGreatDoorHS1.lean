/- Part of a proof that the program answers as the reference does: EDS1. -/
import Derived.Test.YtcgobhgnoobifaaGreatDoorHT
/- MADE BY PROGRAM (hgen.py): what the functions compute, over pure values. -/
set_option linter.unusedVariables false
set_option maxRecDepth 100000
namespace Go.H.Tryz
open Go Go.H
def b_laws_toTreeS (a0 : PV) (st : St) (R : Res → St → Prop) : Prop :=
 qb (q_len a0) fun v6 =>
 e_make st 4 56 (.agg [.int .i64 0, .int .i64 0, .str [], .sl 0 true []]) v6 v6 fun v7 st =>
 hFix (fun ls st X =>
  qb (q_len a0) fun v10 =>
  qb (q_bin .lss (ls.getD 0 .junk) v10) fun v11 =>
  cb v11 fun b => br b
   (qb (q_ia 4 a0 (ls.getD 0 .junk)) fun v18 =>
   qb (q_load st true 4 v18) fun v19 =>
   callK prog n_laws_toTree [v19] st (fun v20 st =>
   qb (q_ia 4 v7 (ls.getD 0 .junk)) fun v21 =>
   e_store st 4 v21 v20 fun st =>
   qb (q_bin .add (ls.getD 0 .junk) (.int .i64 1)) fun v13 =>
   X [v13] st) (panR R))
   (retR R v7 st))
  [(.int .i64 0)] st
theorem e_laws_toTreeS : Enters prog n_laws_toTreeS := ⟨Go.Proofs.Tryz.f22, by kernel_rfl, by kernel_rfl, by kernel_rfl⟩
theorem c_laws_toTreeS {a0 : PV} {st : St} {R : Res → St → Prop} (h : b_laws_toTreeS a0 st R) : HCalls prog n_laws_toTreeS [a0] st R :=
 hcalls_of_func tyOK mixed (fn := Go.Proofs.Tryz.f22) (by kernel_rfl) (by kernel_rfl) (by kernel_rfl) (ann := [(12, [4])])
  (show hFunc prog TT [(12, [4])] Go.Proofs.Tryz.f22 [a0] st R from (show hFunc prog TT [(12, [4])] Go.Proofs.Tryz.f22 [a0] st R = b_laws_toTreeS a0 st R by kernel_rfl) ▸ h)
def b_impl_CtxOK (a0 a1 : PV) (st : St) (R : Res → St → Prop) : Prop :=
 qb (q_len a1) fun v8 =>
 qb (q_bin .gtr v8 (.int .i64 40)) fun v9 =>
 cb v9 fun b => br b
  (retR R (.bool false) st)
  (callK prog n_impl_SigOK [a0] st (fun v12 st =>
  qb (q_un .not v12) fun v13 =>
  cb v13 fun b_1 => br b_1
   (retR R (.bool false) st)
   (qb (q_len a1) fun v16 =>
   hFix (fun ls st X =>
    qb (q_bin .lss (ls.getD 0 .junk) v16) fun v18 =>
    cb v18 fun b_2 => br b_2
     (qb (q_ia 4 a1 (ls.getD 0 .junk)) fun v20 =>
     qb (q_load st true 4 v20) fun v21 =>
     e_alloc st [.int .i64 0, .int .i64 0, .str [], .sl 0 true []] fun v6 st =>
     e_store st 4 v6 v21 fun st =>
     qb (q_load st true 4 v6) fun v22 =>
     callK prog n_impl_FamilyOK [v22] st (fun v23 st =>
     qb (q_un .not v23) fun v24 =>
     cb v24 fun b_3 => br b_3
      (retR R (.bool false) st)
      (qb (q_sliceE 4 a1 none (some (ls.getD 0 .junk)) none) fun v29 =>
      qb (q_load st true 4 v6) fun v30 =>
      callK prog n_impl_familyFault [a0, v29, v30] st (fun v31 st =>
      qb (q_field false 1 0 v31) fun v32 =>
      qb (q_bin .neq v32 (.int .i64 0)) fun v33 =>
      cb v33 fun b_4 => br b_4
       (retR R (.bool false) st)
       (qb (q_bin .add (ls.getD 0 .junk) (.int .i64 1)) fun v35 =>
       X [v35] st)) (panR R))) (panR R))
     (retR R (.bool true) st))
    [(.int .i64 0)] st)) (panR R))
theorem e_impl_CtxOK : Enters prog n_impl_CtxOK := ⟨Go.Proofs.Tryz.f23, by kernel_rfl, by kernel_rfl, by kernel_rfl⟩
theorem c_impl_CtxOK {a0 a1 : PV} {st : St} {R : Res → St → Prop} (h : b_impl_CtxOK a0 a1 st R) : HCalls prog n_impl_CtxOK [a0, a1] st R :=
 hcalls_of_func tyOK mixed (fn := Go.Proofs.Tryz.f23) (by kernel_rfl) (by kernel_rfl) (by kernel_rfl) (ann := [(16, [17])])
  (show hFunc prog TT [(16, [17])] Go.Proofs.Tryz.f23 [a0, a1] st R from (show hFunc prog TT [(16, [17])] Go.Proofs.Tryz.f23 [a0, a1] st R = b_impl_CtxOK a0 a1 st R by kernel_rfl) ▸ h)
def b_laws_eqTreeS (a0 a1 : PV) (st : St) (R : Res → St → Prop) : Prop :=
 qb (q_len a0) fun v7 =>
 qb (q_len a1) fun v9 =>
 qb (q_bin .neq v7 v9) fun v10 =>
 cb v10 fun b => br b
  (retR R (.bool false) st)
  (hFix (fun ls st X =>
   qb (q_len a0) fun v13 =>
   qb (q_bin .lss (ls.getD 0 .junk) v13) fun v14 =>
   cb v14 fun b_1 => br b_1
    (qb (q_ia 4 a0 (ls.getD 0 .junk)) fun v19 =>
    qb (q_load st true 4 v19) fun v20 =>
    qb (q_ia 4 a1 (ls.getD 0 .junk)) fun v23 =>
    qb (q_load st true 4 v23) fun v24 =>
    callK prog n_laws_eqTree [v20, v24] st (fun v25 st =>
    qb (q_un .not v25) fun v26 =>
    cb v26 fun b_2 => br b_2
     (retR R (.bool false) st)
     (qb (q_bin .add (ls.getD 0 .junk) (.int .i64 1)) fun v16 =>
     X [v16] st)) (panR R))
    (retR R (.bool true) st))
   [(.int .i64 0)] st)
theorem e_laws_eqTreeS : Enters prog n_laws_eqTreeS := ⟨Go.Proofs.Tryz.f24, by kernel_rfl, by kernel_rfl, by kernel_rfl⟩
theorem c_laws_eqTreeS {a0 a1 : PV} {st : St} {R : Res → St → Prop} (h : b_laws_eqTreeS a0 a1 st R) : HCalls prog n_laws_eqTreeS [a0, a1] st R :=
 hcalls_of_func tyOK mixed (fn := Go.Proofs.Tryz.f24) (by kernel_rfl) (by kernel_rfl) (by kernel_rfl) (ann := [(16, [5])])
  (show hFunc prog TT [(16, [5])] Go.Proofs.Tryz.f24 [a0, a1] st R from (show hFunc prog TT [(16, [5])] Go.Proofs.Tryz.f24 [a0, a1] st R = b_laws_eqTreeS a0 a1 st R by kernel_rfl) ▸ h)
def b_laws_szTree (a0 a1 : PV) (st : St) (R : Res → St → Prop) : Prop :=
 e_box st a0 fun v2 st =>
 qb (q_fa 2 v2) fun v6 =>
 qb (q_load st false 1 v6) fun v7 =>
 qb (q_lenS v7) fun v8 =>
 qb (q_bin .sub a1 v8) fun v9 =>
 qb (q_bin .lss v9 (.int .i64 0)) fun v11 =>
 cb v11 fun b => br b
  (retR R (.int .i64 (-1)) st)
  (qb (q_fa 3 v2) fun v12 =>
  qb (q_load st false 1 v12) fun v13 =>
  callK prog n_laws_szTreeS [v13, v9] st (fun v15 st =>
  qb (q_bin .lss v15 (.int .i64 0)) fun v17 =>
  cb v17 fun b_1 => br b_1
   (retR R (.int .i64 (-1)) st)
   (retR R v15 st)) (panR R))
theorem e_laws_szTree : Enters prog n_laws_szTree := ⟨Go.Proofs.Tryz.f25, by kernel_rfl, by kernel_rfl, by kernel_rfl⟩
theorem c_laws_szTree {a0 a1 : PV} {st : St} {R : Res → St → Prop} (h : b_laws_szTree a0 a1 st R) : HCalls prog n_laws_szTree [a0, a1] st R :=
 hcalls_of_func tyOK mixed (fn := Go.Proofs.Tryz.f25) (by kernel_rfl) (by kernel_rfl) (by kernel_rfl) (ann := [])
  (show hFunc prog TT [] Go.Proofs.Tryz.f25 [a0, a1] st R from (show hFunc prog TT [] Go.Proofs.Tryz.f25 [a0, a1] st R = b_laws_szTree a0 a1 st R by kernel_rfl) ▸ h)
def b_spec_CheckFamily (a0 a1 a2 : PV) (st : St) (R : Res → St → Prop) : Prop :=
 e_box st a2 fun v5 st =>
 qb (q_load st true 4 v5) fun v12 =>
 callK prog n_spec_FamilyOK [v12] st (fun v13 st =>
 callK prog n_spec_l04Begin [a0, a1, v13] st (fun v14 st =>
 qb (q_bin .neq v14 (.int .i64 0)) fun v16 =>
 cb v16 fun b => br b
  (retR R (.tup [v14, (.int .i64 0)]) st)
  (callK prog n_spec_l04Check [a0] st (fun v19 st =>
  qb (q_load st true 4 v5) fun v22 =>
  callK prog n_spec_l04Run_family [v19, a1, v22, (.int .i64 0)] st (fun v23 st =>
  qb (q_nil v19) fun v25 =>
  qb (q_fa 2 v25) fun v26 =>
  qb (q_load st false 1 v26) fun v27 =>
  qb (q_nil v19) fun v29 =>
  qb (q_fa 3 v29) fun v30 =>
  qb (q_load st false 1 v30) fun v31 =>
  retR R (.tup [v27, v31]) st) (panR R)) (panR R))) (panR R)) (panR R)
theorem e_spec_CheckFamily : Enters prog n_spec_CheckFamily := ⟨Go.Proofs.Tryz.f26, by kernel_rfl, by kernel_rfl, by kernel_rfl⟩
theorem c_spec_CheckFamily {a0 a1 a2 : PV} {st : St} {R : Res → St → Prop} (h : b_spec_CheckFamily a0 a1 a2 st R) : HCalls prog n_spec_CheckFamily [a0, a1, a2] st R :=
 hcalls_of_func tyOK mixed (fn := Go.Proofs.Tryz.f26) (by kernel_rfl) (by kernel_rfl) (by kernel_rfl) (ann := [])
  (show hFunc prog TT [] Go.Proofs.Tryz.f26 [a0, a1, a2] st R from (show hFunc prog TT [] Go.Proofs.Tryz.f26 [a0, a1, a2] st R = b_spec_CheckFamily a0 a1 a2 st R by kernel_rfl) ▸ h)
def b_laws_toTree (a0 : PV) (st : St) (R : Res → St → Prop) : Prop :=
 e_box st a0 fun v1 st =>
 e_alloc st [.int .i64 0, .int .i64 0, .str [], .sl 0 true []] fun v2 st =>
 e_alloc st [.int .i64 0, .int .i64 0, .str [], .sl 0 true []] fun v3 st =>
 qb (q_fa 0 v1) fun v4 =>
 qb (q_load st false 1 v4) fun v5 =>
 qb (q_fa 0 v3) fun v6 =>
 e_store st 1 v6 v5 fun st =>
 qb (q_fa 1 v1) fun v7 =>
 qb (q_load st false 1 v7) fun v8 =>
 qb (q_fa 1 v3) fun v9 =>
 e_store st 1 v9 v8 fun st =>
 qb (q_fa 2 v1) fun v10 =>
 qb (q_load st false 1 v10) fun v11 =>
 qb (q_fa 2 v3) fun v12 =>
 e_store st 1 v12 v11 fun st =>
 qb (q_fa 3 v1) fun v13 =>
 qb (q_load st false 1 v13) fun v14 =>
 callK prog n_laws_toTreeS [v14] st (fun v15 st =>
 qb (q_fa 3 v3) fun v16 =>
 e_store st 1 v16 v15 fun st =>
 qb (q_load st true 4 v3) fun v17 =>
 e_store st 4 v2 v17 fun st =>
 qb (q_load st true 4 v2) fun r => retR R r st) (panR R)
theorem e_laws_toTree : Enters prog n_laws_toTree := ⟨Go.Proofs.Tryz.f27, by kernel_rfl, by kernel_rfl, by kernel_rfl⟩
theorem c_laws_toTree {a0 : PV} {st : St} {R : Res → St → Prop} (h : b_laws_toTree a0 st R) : HCalls prog n_laws_toTree [a0] st R :=
 hcalls_of_func tyOK mixed (fn := Go.Proofs.Tryz.f27) (by kernel_rfl) (by kernel_rfl) (by kernel_rfl) (ann := [])
  (show hFunc prog TT [] Go.Proofs.Tryz.f27 [a0] st R from (show hFunc prog TT [] Go.Proofs.Tryz.f27 [a0] st R = b_laws_toTree a0 st R by kernel_rfl) ▸ h)
def b_impl_CheckFamily (a0 a1 a2 : PV) (st : St) (R : Res → St → Prop) : Prop :=
 e_box st a1 fun v4 st =>
 e_box st a2 fun v5 st =>
 qb (q_load st false 1 v4) fun v9 =>
 callK prog n_impl_checked [a0, v9, (.fn (.func n_impl_CheckFamily_1) [] [v5]), (.fn (.func n_impl_CheckFamily_2) [] [v4, v5])] st (fun v12 st =>
 qb (q_ex v12 0) fun v13 =>
 qb (q_ex v12 1) fun v14 =>
 retR R (.tup [v13, v14]) st) (panR R)
theorem e_impl_CheckFamily : Enters prog n_impl_CheckFamily := ⟨Go.Proofs.Tryz.f28, by kernel_rfl, by kernel_rfl, by kernel_rfl⟩
theorem c_impl_CheckFamily {a0 a1 a2 : PV} {st : St} {R : Res → St → Prop} (h : b_impl_CheckFamily a0 a1 a2 st R) : HCalls prog n_impl_CheckFamily [a0, a1, a2] st R :=
 hcalls_of_func tyOK mixed (fn := Go.Proofs.Tryz.f28) (by kernel_rfl) (by kernel_rfl) (by kernel_rfl) (ann := [])
  (show hFunc prog TT [] Go.Proofs.Tryz.f28 [a0, a1, a2] st R from (show hFunc prog TT [] Go.Proofs.Tryz.f28 [a0, a1, a2] st R = b_impl_CheckFamily a0 a1 a2 st R by kernel_rfl) ▸ h)
def b_laws_eqTree (a0 a1 : PV) (st : St) (R : Res → St → Prop) : Prop :=
 e_box st a0 fun v2 st =>
 e_box st a1 fun v3 st =>
 qb (q_fa 0 v2) fun v5 =>
 qb (q_load st false 1 v5) fun v6 =>
 qb (q_fa 0 v3) fun v7 =>
 qb (q_load st false 1 v7) fun v8 =>
 qb (q_bin .neq v6 v8) fun v9 =>
 cb v9 fun b => br b
  (retR R (.bool false) st)
  (qb (q_fa 1 v2) fun v10 =>
  qb (q_load st false 1 v10) fun v11 =>
  qb (q_fa 1 v3) fun v12 =>
  qb (q_load st false 1 v12) fun v13 =>
  qb (q_bin .neq v11 v13) fun v14 =>
  cb v14 fun b_1 => br b_1
   (retR R (.bool false) st)
   (qb (q_fa 2 v2) fun v15 =>
   qb (q_load st false 1 v15) fun v16 =>
   qb (q_fa 2 v3) fun v17 =>
   qb (q_load st false 1 v17) fun v18 =>
   qb (q_bin .neq v16 v18) fun v19 =>
   cb v19 fun b_2 => br b_2
    (retR R (.bool false) st)
    (qb (q_fa 3 v2) fun v20 =>
    qb (q_load st false 1 v20) fun v21 =>
    qb (q_fa 3 v3) fun v22 =>
    qb (q_load st false 1 v22) fun v23 =>
    callK prog n_laws_eqTreeS [v21, v23] st (fun v24 st =>
    qb (q_un .not v24) fun v25 =>
    cb v25 fun b_3 => br b_3
     (retR R (.bool false) st)
     (retR R (.bool true) st)) (panR R))))
theorem e_laws_eqTree : Enters prog n_laws_eqTree := ⟨Go.Proofs.Tryz.f29, by kernel_rfl, by kernel_rfl, by kernel_rfl⟩
theorem c_laws_eqTree {a0 a1 : PV} {st : St} {R : Res → St → Prop} (h : b_laws_eqTree a0 a1 st R) : HCalls prog n_laws_eqTree [a0, a1] st R :=
 hcalls_of_func tyOK mixed (fn := Go.Proofs.Tryz.f29) (by kernel_rfl) (by kernel_rfl) (by kernel_rfl) (ann := [])
  (show hFunc prog TT [] Go.Proofs.Tryz.f29 [a0, a1] st R from (show hFunc prog TT [] Go.Proofs.Tryz.f29 [a0, a1] st R = b_laws_eqTree a0 a1 st R by kernel_rfl) ▸ h)
def b_spec_CheckKind (a0 a1 a2 : PV) (st : St) (R : Res → St → Prop) : Prop :=
 e_box st a2 fun v5 st =>
 qb (q_load st true 4 v5) fun v12 =>
 callK prog n_spec_KindOK [v12] st (fun v13 st =>
 callK prog n_spec_l04Begin [a0, a1, v13] st (fun v14 st =>
 qb (q_bin .neq v14 (.int .i64 0)) fun v16 =>
 cb v16 fun b => br b
  (retR R (.tup [v14, (.int .i64 0)]) st)
  (callK prog n_spec_l04Check [a0] st (fun v19 st =>
  qb (q_load st true 4 v5) fun v22 =>
  callK prog n_spec_l04Run_kind [v19, a1, v22, (.int .i64 0)] st (fun v23 st =>
  qb (q_nil v19) fun v25 =>
  qb (q_fa 2 v25) fun v26 =>
  qb (q_load st false 1 v26) fun v27 =>
  qb (q_nil v19) fun v29 =>
  qb (q_fa 3 v29) fun v30 =>
  qb (q_load st false 1 v30) fun v31 =>
  retR R (.tup [v27, v31]) st) (panR R)) (panR R))) (panR R)) (panR R)
theorem e_spec_CheckKind : Enters prog n_spec_CheckKind := ⟨Go.Proofs.Tryz.f30, by kernel_rfl, by kernel_rfl, by kernel_rfl⟩
theorem c_spec_CheckKind {a0 a1 a2 : PV} {st : St} {R : Res → St → Prop} (h : b_spec_CheckKind a0 a1 a2 st R) : HCalls prog n_spec_CheckKind [a0, a1, a2] st R :=
 hcalls_of_func tyOK mixed (fn := Go.Proofs.Tryz.f30) (by kernel_rfl) (by kernel_rfl) (by kernel_rfl) (ann := [])
  (show hFunc prog TT [] Go.Proofs.Tryz.f30 [a0, a1, a2] st R from (show hFunc prog TT [] Go.Proofs.Tryz.f30 [a0, a1, a2] st R = b_spec_CheckKind a0 a1 a2 st R by kernel_rfl) ▸ h)
def b_impl_CheckKind (a0 a1 a2 : PV) (st : St) (R : Res → St → Prop) : Prop :=
 e_box st a1 fun v4 st =>
 e_box st a2 fun v5 st =>
 qb (q_load st false 1 v4) fun v9 =>
 callK prog n_impl_checked [a0, v9, (.fn (.func n_impl_CheckKind_1) [] [v5]), (.fn (.func n_impl_CheckKind_2) [] [v4, v5])] st (fun v12 st =>
 qb (q_ex v12 0) fun v13 =>
 qb (q_ex v12 1) fun v14 =>
 retR R (.tup [v13, v14]) st) (panR R)
theorem e_impl_CheckKind : Enters prog n_impl_CheckKind := ⟨Go.Proofs.Tryz.f31, by kernel_rfl, by kernel_rfl, by kernel_rfl⟩
theorem c_impl_CheckKind {a0 a1 a2 : PV} {st : St} {R : Res → St → Prop} (h : b_impl_CheckKind a0 a1 a2 st R) : HCalls prog n_impl_CheckKind [a0, a1, a2] st R :=
 hcalls_of_func tyOK mixed (fn := Go.Proofs.Tryz.f31) (by kernel_rfl) (by kernel_rfl) (by kernel_rfl) (ann := [])
  (show hFunc prog TT [] Go.Proofs.Tryz.f31 [a0, a1, a2] st R from (show hFunc prog TT [] Go.Proofs.Tryz.f31 [a0, a1, a2] st R = b_impl_CheckKind a0 a1 a2 st R by kernel_rfl) ▸ h)
def b_spec_CheckTerm (a0 a1 a2 a3 : PV) (st : St) (R : Res → St → Prop) : Prop :=
 e_box st a2 fun v6 st =>
 e_box st a3 fun v7 st =>
 hJ (fun ls st =>
  qb (q_bin .neq (ls.getD 0 .junk) (.int .i64 0)) fun v22 =>
  cb v22 fun b => br b
   (retR R (.tup [(ls.getD 0 .junk), (.int .i64 0)]) st)
   (qb (q_load st true 4 v7) fun v27 =>
   callK prog n_spec_l04Check [a0] st (fun v25 st =>
   q_load st true 4 v7 = some v27 ∧ (callK prog n_spec_l04Run_family [v25, a1, v27, (.int .i64 0)] st (fun v28 st =>
   qb (q_un .not v28) fun v29 =>
   cb v29 fun b_1 => br b_1
    (retR R (.tup [(.int .i64 1), (.int .i64 0)]) st)
    (callK prog n_spec_l04Check [a0] st (fun v31 st =>
    qb (q_load st true 4 v6) fun v34 =>
    qb (q_load st true 4 v7) fun v35 =>
    callK prog n_spec_l04Run_term [v31, a1, v34, v35, (.int .i64 0)] st (fun v36 st =>
    qb (q_nil v31) fun v38 =>
    qb (q_fa 2 v38) fun v39 =>
    qb (q_load st false 1 v39) fun v40 =>
    qb (q_nil v31) fun v42 =>
    qb (q_fa 3 v42) fun v43 =>
    qb (q_load st false 1 v43) fun v44 =>
    retR R (.tup [v40, v44]) st) (panR R)) (panR R))) (panR R))) (panR R)))
  (fun k =>
 qb (q_load st true 4 v6) fun v14 =>
 callK prog n_spec_TermOK [v14] st (fun v15 st =>
 cb v15 fun b_2 => br b_2
  (qb (q_load st true 4 v7) fun v17 =>
  callK prog n_spec_FamilyOK [v17] st (fun v18 st =>
  callK prog n_spec_l04Begin [a0, a1, v18] st (fun v20 st =>
  k [v20] st) (panR R)) (panR R))
  (callK prog n_spec_l04Begin [a0, a1, (.bool false)] st (fun v20_1 st =>
  k [v20_1] st) (panR R))) (panR R))
theorem e_spec_CheckTerm : Enters prog n_spec_CheckTerm := ⟨Go.Proofs.Tryz.f32, by kernel_rfl, by kernel_rfl, by kernel_rfl⟩
theorem c_spec_CheckTerm {a0 a1 a2 a3 : PV} {st : St} {R : Res → St → Prop} (h : b_spec_CheckTerm a0 a1 a2 a3 st R) : HCalls prog n_spec_CheckTerm [a0, a1, a2, a3] st R :=
 hcalls_of_func tyOK mixed (fn := Go.Proofs.Tryz.f32) (by kernel_rfl) (by kernel_rfl) (by kernel_rfl) (ann := [(5, [10])])
  (show hFunc prog TT [(5, [10])] Go.Proofs.Tryz.f32 [a0, a1, a2, a3] st R from (show hFunc prog TT [(5, [10])] Go.Proofs.Tryz.f32 [a0, a1, a2, a3] st R = b_spec_CheckTerm a0 a1 a2 a3 st R by kernel_rfl) ▸ h)
def b_impl_CheckTerm (a0 a1 a2 a3 : PV) (st : St) (R : Res → St → Prop) : Prop :=
 e_box st a0 fun v4 st =>
 e_box st a1 fun v5 st =>
 e_box st a2 fun v6 st =>
 e_box st a3 fun v7 st =>
 qb (q_load st false 1 v4) fun v10 =>
 qb (q_load st false 1 v5) fun v11 =>
 callK prog n_impl_checked [v10, v11, (.fn (.func n_impl_CheckTerm_1) [] [v6, v4, v5, v7]), (.fn (.func n_impl_CheckTerm_2) [] [v5, v6, v7])] st (fun v14 st =>
 qb (q_ex v14 0) fun v15 =>
 qb (q_ex v14 1) fun v16 =>
 retR R (.tup [v15, v16]) st) (panR R)
theorem e_impl_CheckTerm : Enters prog n_impl_CheckTerm := ⟨Go.Proofs.Tryz.f33, by kernel_rfl, by kernel_rfl, by kernel_rfl⟩
theorem c_impl_CheckTerm {a0 a1 a2 a3 : PV} {st : St} {R : Res → St → Prop} (h : b_impl_CheckTerm a0 a1 a2 a3 st R) : HCalls prog n_impl_CheckTerm [a0, a1, a2, a3] st R :=
 hcalls_of_func tyOK mixed (fn := Go.Proofs.Tryz.f33) (by kernel_rfl) (by kernel_rfl) (by kernel_rfl) (ann := [])
  (show hFunc prog TT [] Go.Proofs.Tryz.f33 [a0, a1, a2, a3] st R from (show hFunc prog TT [] Go.Proofs.Tryz.f33 [a0, a1, a2, a3] st R = b_impl_CheckTerm a0 a1 a2 a3 st R by kernel_rfl) ▸ h)
def b_impl_BuildSig (a0 : PV) (st : St) (R : Res → St → Prop) : Prop :=
 qb (q_len a0) fun v11 =>
 qb (q_lit 1 1 0 [] [(0, v11)]) fun v12 =>
 callK prog n_impl_longLists [v12] st (fun v13 st =>
 cb v13 fun b => br b
  (retR R (.tup [(.sl 0 true []), (.int .i64 2), (.int .i64 0), (.int .i64 0)]) st)
  (qb (q_len a0) fun v16 =>
  qb (q_bin .gtr v16 (.int .i64 40)) fun v17 =>
  cb v17 fun b_1 => br b_1
   (retR R (.tup [(.sl 0 true []), (.int .i64 17), (.int .i64 0), (.int .i64 0)]) st)
   (qb (q_len a0) fun v19 =>
   hFix (fun ls st X =>
    qb (q_bin .lss (ls.getD 0 .junk) v19) fun v21 =>
    cb v21 fun b_2 => br b_2
     (qb (q_ia 6 a0 (ls.getD 0 .junk)) fun v23 =>
     qb (q_load st true 6 v23) fun v24 =>
     e_alloc st [.str [], .bool false, .int .i64 0, .int .i64 0, .str [], .sl 0 true []] fun v7 st =>
     e_store st 6 v7 v24 fun st =>
     hJ (fun ls_1 st =>
      qb (q_fa 0 (ls_1.getD 0 .junk)) fun v30 =>
      qb (q_load st false 1 v30) fun v31 =>
      qb (q_bin .neq v31 (.int .i64 0)) fun v32 =>
      cb v32 fun b_3 => br b_3
       (qb (q_fa 0 (ls_1.getD 0 .junk)) fun v33 =>
       qb (q_load st false 1 v33) fun v34 =>
       qb (q_fa 1 (ls_1.getD 0 .junk)) fun v36 =>
       qb (q_load st false 1 v36) fun v37 =>
       retR R (.tup [(.sl 0 true []), v34, (ls.getD 0 .junk), v37]) st)
       (qb (q_bin .add (ls.getD 0 .junk) (.int .i64 1)) fun v38 =>
       X [v38] st))
      (fun k =>
     qb (q_sliceE 6 a0 none (some (ls.getD 0 .junk)) none) fun v27 =>
     qb (q_load st true 6 v7) fun v28 =>
     (callK prog n_impl_addFault [v27, v28] st (fun v29 st =>
     e_alloc st [.int .i64 0, .int .i64 0] fun v8 st =>
     q_load st true 6 v7 = some v28 ∧ (e_store st 2 v8 v29 fun st =>
     k [v8] st)) (panR R)) ∧
     (e_alloc st [.int .i64 0, .int .i64 0] fun v8_1 st =>
     q_load st true 6 v7 = some v28 ∧ (callK prog n_impl_addFault [v27, v28] st (fun v29_1 st =>
     e_store st 2 v8_1 v29_1 fun st =>
     k [v8_1] st) (panR R)))))
     (callK prog n_impl_cloneSig [a0] st (fun v40 st =>
     retR R (.tup [v40, (.int .i64 0), (.int .i64 0), (.int .i64 0)]) st) (panR R)))
    [(.int .i64 0)] st))) (panR R)
theorem e_impl_BuildSig : Enters prog n_impl_BuildSig := ⟨Go.Proofs.Tryz.f35, by kernel_rfl, by kernel_rfl, by kernel_rfl⟩
theorem c_impl_BuildSig {a0 : PV} {st : St} {R : Res → St → Prop} (h : b_impl_BuildSig a0 st R) : HCalls prog n_impl_BuildSig [a0] st R :=
 hcalls_of_func tyOK mixed (fn := Go.Proofs.Tryz.f35) (by kernel_rfl) (by kernel_rfl) (by kernel_rfl) (ann := [(24, [20]), (33, [8])])
  (show hFunc prog TT [(24, [20]), (33, [8])] Go.Proofs.Tryz.f35 [a0] st R from (show hFunc prog TT [(24, [20]), (33, [8])] Go.Proofs.Tryz.f35 [a0] st R = b_impl_BuildSig a0 st R by kernel_rfl) ▸ h)
def b_laws_markDeclS (a0 a1 : PV) (st : St) (R : Res → St → Prop) : Prop :=
 hFix (fun ls st X =>
  qb (q_len a0) fun v8 =>
  qb (q_bin .lss (ls.getD 1 .junk) v8) fun v9 =>
  cb v9 fun b => br b
   (callK prog n_laws_markText [(ls.getD 0 .junk)] st (fun v15 st =>
   qb (q_ia 6 a0 (ls.getD 1 .junk)) fun v16 =>
   qb (q_fa 0 v16) fun v17 =>
   e_store st 1 v17 v15 fun st =>
   qb (q_bin .add (ls.getD 0 .junk) (.int .i64 1)) fun v19 =>
   qb (q_bin .rem v19 (.int .i64 3)) fun v23 =>
   qb (q_bin .eql v23 (.int .i64 0)) fun v24 =>
   qb (q_ia 6 a0 (ls.getD 1 .junk)) fun v25 =>
   qb (q_fa 1 v25) fun v26 =>
   e_store st 1 v26 v24 fun st =>
   qb (q_bin .add v19 (.int .i64 1)) fun v28 =>
   qb (q_ia 6 a0 (ls.getD 1 .junk)) fun v32 =>
   qb (q_fa 2 v32) fun v33 =>
   qb (q_fa 0 v33) fun v34 =>
   e_store st 1 v34 v28 fun st =>
   qb (q_bin .add v28 (.int .i64 1)) fun v36 =>
   qb (q_ia 6 a0 (ls.getD 1 .junk)) fun v40 =>
   qb (q_fa 2 v40) fun v41 =>
   qb (q_fa 1 v41) fun v42 =>
   e_store st 1 v42 v36 fun st =>
   qb (q_bin .add v36 (.int .i64 1)) fun v44 =>
   callK prog n_laws_markText [v44] st (fun v48 st =>
   qb (q_ia 6 a0 (ls.getD 1 .junk)) fun v49 =>
   qb (q_fa 2 v49) fun v50 =>
   qb (q_fa 2 v50) fun v51 =>
   e_store st 1 v51 v48 fun st =>
   qb (q_bin .add v44 (.int .i64 1)) fun v53 =>
   qb (q_ia 6 a0 (ls.getD 1 .junk)) fun v56 =>
   qb (q_fa 2 v56) fun v57 =>
   qb (q_fa 3 v57) fun v58 =>
   qb (q_load st false 1 v58) fun v59 =>
   callK prog n_laws_markTreeS [v59, v53] st (fun v61 st =>
   qb (q_bin .add (ls.getD 1 .junk) (.int .i64 1)) fun v11 =>
   X [v61, v11] st) (panR R)) (panR R)) (panR R))
   (retR R (ls.getD 0 .junk) st))
  [a1, (.int .i64 0)] st
theorem e_laws_markDeclS : Enters prog n_laws_markDeclS := ⟨Go.Proofs.Tryz.f36, by kernel_rfl, by kernel_rfl, by kernel_rfl⟩
theorem c_laws_markDeclS {a0 a1 : PV} {st : St} {R : Res → St → Prop} (h : b_laws_markDeclS a0 a1 st R) : HCalls prog n_laws_markDeclS [a0, a1] st R :=
 hcalls_of_func tyOK mixed (fn := Go.Proofs.Tryz.f36) (by kernel_rfl) (by kernel_rfl) (by kernel_rfl) (ann := [(8, [1, 5])])
  (show hFunc prog TT [(8, [1, 5])] Go.Proofs.Tryz.f36 [a0, a1] st R from (show hFunc prog TT [(8, [1, 5])] Go.Proofs.Tryz.f36 [a0, a1] st R = b_laws_markDeclS a0 a1 st R by kernel_rfl) ▸ h)
def b_laws_heldDeclS (a0 a1 : PV) (st : St) (R : Res → St → Prop) : Prop :=
 hFix (fun ls st X =>
  qb (q_len a0) fun v8 =>
  qb (q_bin .lss (ls.getD 1 .junk) v8) fun v9 =>
  cb v9 fun b => br b
   (qb (q_ia 6 a0 (ls.getD 1 .junk)) fun v14 =>
   qb (q_fa 0 v14) fun v15 =>
   qb (q_load st false 1 v15) fun v16 =>
   callK prog n_laws_markText [(ls.getD 0 .junk)] st (fun v18 st =>
   q_load st false 1 v15 = some v16 ∧ (qb (q_bin .neq v16 v18) fun v19 =>
   cb v19 fun b_1 => br b_1
    (retR R (.int .i64 (-1)) st)
    (qb (q_bin .add (ls.getD 0 .junk) (.int .i64 1)) fun v21 =>
    qb (q_ia 6 a0 (ls.getD 1 .junk)) fun v24 =>
    qb (q_fa 1 v24) fun v25 =>
    qb (q_load st false 1 v25) fun v26 =>
    qb (q_bin .rem v21 (.int .i64 3)) fun v28 =>
    qb (q_bin .eql v28 (.int .i64 0)) fun v29 =>
    qb (q_beq .neq v26 v29) fun v30 =>
    cb v30 fun b_2 => br b_2
     (retR R (.int .i64 (-1)) st)
     (qb (q_bin .add v21 (.int .i64 1)) fun v32 =>
     qb (q_ia 6 a0 (ls.getD 1 .junk)) fun v35 =>
     qb (q_fa 2 v35) fun v36 =>
     qb (q_fa 0 v36) fun v37 =>
     qb (q_load st false 1 v37) fun v38 =>
     qb (q_bin .neq v38 v32) fun v40 =>
     cb v40 fun b_3 => br b_3
      (retR R (.int .i64 (-1)) st)
      (qb (q_bin .add v32 (.int .i64 1)) fun v42 =>
      qb (q_ia 6 a0 (ls.getD 1 .junk)) fun v45 =>
      qb (q_fa 2 v45) fun v46 =>
      qb (q_fa 1 v46) fun v47 =>
      qb (q_load st false 1 v47) fun v48 =>
      qb (q_bin .neq v48 v42) fun v50 =>
      cb v50 fun b_4 => br b_4
       (retR R (.int .i64 (-1)) st)
       (qb (q_bin .add v42 (.int .i64 1)) fun v52 =>
       qb (q_ia 6 a0 (ls.getD 1 .junk)) fun v55 =>
       qb (q_fa 2 v55) fun v56 =>
       qb (q_fa 2 v56) fun v57 =>
       qb (q_load st false 1 v57) fun v58 =>
       callK prog n_laws_markText [v52] st (fun v60 st =>
       q_load st false 1 v57 = some v58 ∧ (qb (q_bin .neq v58 v60) fun v61 =>
       cb v61 fun b_5 => br b_5
        (retR R (.int .i64 (-1)) st)
        (qb (q_bin .add v52 (.int .i64 1)) fun v63 =>
        qb (q_ia 6 a0 (ls.getD 1 .junk)) fun v66 =>
        qb (q_fa 2 v66) fun v67 =>
        qb (q_fa 3 v67) fun v68 =>
        qb (q_load st false 1 v68) fun v69 =>
        callK prog n_laws_heldTreeS [v69, v63] st (fun v71 st =>
        qb (q_bin .lss v71 (.int .i64 0)) fun v73 =>
        cb v73 fun b_6 => br b_6
         (retR R (.int .i64 (-1)) st)
         (qb (q_bin .add (ls.getD 1 .junk) (.int .i64 1)) fun v11 =>
         X [v71, v11] st)) (panR R)))) (panR R))))))) (panR R))
   (retR R (ls.getD 0 .junk) st))
  [a1, (.int .i64 0)] st
theorem e_laws_heldDeclS : Enters prog n_laws_heldDeclS := ⟨Go.Proofs.Tryz.f37, by kernel_rfl, by kernel_rfl, by kernel_rfl⟩
theorem c_laws_heldDeclS {a0 a1 : PV} {st : St} {R : Res → St → Prop} (h : b_laws_heldDeclS a0 a1 st R) : HCalls prog n_laws_heldDeclS [a0, a1] st R :=
 hcalls_of_func tyOK mixed (fn := Go.Proofs.Tryz.f37) (by kernel_rfl) (by kernel_rfl) (by kernel_rfl) (ann := [(8, [1, 5])])
  (show hFunc prog TT [(8, [1, 5])] Go.Proofs.Tryz.f37 [a0, a1] st R from (show hFunc prog TT [(8, [1, 5])] Go.Proofs.Tryz.f37 [a0, a1] st R = b_laws_heldDeclS a0 a1 st R by kernel_rfl) ▸ h)
end Go.H.Tryz
