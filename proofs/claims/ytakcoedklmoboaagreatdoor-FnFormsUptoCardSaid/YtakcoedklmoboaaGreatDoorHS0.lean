/- Part of a proof that the program answers as the reference does: ZFS0. -/
import Derived.Test.YtakcoedklmoboaaGreatDoorHT
/- MADE BY PROGRAM (hgen.py): what the functions compute, over pure values. -/
set_option linter.unusedVariables false
set_option maxRecDepth 100000
namespace Go.H.Tryz
open Go Go.H
def b_laws_FnForms (a0 : PV) (st : St) (R : Res → St → Prop) : Prop :=
 qb (q_len a0) fun v11 =>
 qb (q_bin .gtr v11 (.int .i64 1048576)) fun v12 =>
 cb v12 fun b => br b
  (retR R (.bool true) st)
  (callK prog n_spec_FormOf [a0] st (fun v14 st =>
  e_alloc st [.int .i64 0, .int .i64 0, .sl 0 true []] fun v3 st =>
  e_store st 3 v3 v14 fun st =>
  qb (q_load st true 3 v3) fun v16 =>
  callK prog n_impl_EncodeForm [v16] st (fun v17 st =>
  qb (q_ex v17 0) fun v18 =>
  qb (q_ex v17 1) fun v19 =>
  e_alloc st [.int .i64 0, .int .i64 0, .str [], .sl 0 true []] fun v4 st =>
  e_store st 4 v4 v18 fun st =>
  qb (q_load st true 4 v4) fun v21 =>
  callK prog n_impl_DecodeForm [v21] st (fun v22 st =>
  qb (q_ex v22 0) fun v23 =>
  qb (q_ex v22 1) fun v24 =>
  e_alloc st [.int .i64 0, .int .i64 0, .sl 0 true []] fun v6 st =>
  e_store st 3 v6 v23 fun st =>
  qb (q_load st true 4 v4) fun v27 =>
  qb (q_struct [.int .i64 0, .int .i64 0, .str [], .sl 0 true []] [(0, 1, (.int .i64 3)), (2, 1, (.str [111]))]) fun v28 =>
  callK prog n_impl_LogicSig [] st (fun v26 st =>
  q_load st true 4 v4 = some v27 ∧ (callK prog n_impl_CheckTerm [v26, (.sl 0 true []), v27, v28] st (fun v29 st =>
  qb (q_ex v29 0) fun v30 =>
  qb (q_ex v29 1) fun v31 =>
  qb (q_bin .eql v19 (.int .i64 0)) fun v33 =>
  cb v33 fun b_1 => br b_1
   (qb (q_bin .eql v24 (.int .i64 0)) fun v36 =>
   cb v36 fun b_2 => br b_2
    (qb (q_load st true 3 v6) fun v39 =>
    qb (q_load st true 3 v3) fun v40 =>
    callK prog n_laws_sameForm [v39, v40] st (fun v41 st =>
    cb v41 fun b_3 => br b_3
     (qb (q_bin .eql v30 (.int .i64 0)) fun v45 =>
     cb v45 fun b_4 => br b_4
      (retR R (.bool true) st)
      (callK prog n_laws_full [v30] st (fun v48 st =>
      retR R v48 st) (panR R)))
     (retR R (.bool false) st)) (panR R))
    (retR R (.bool false) st))
   (retR R (.bool false) st)) (panR R))) (panR R)) (panR R)) (panR R)) (panR R))
theorem c_laws_FnForms {a0 : PV} {st : St} {R : Res → St → Prop} (h : b_laws_FnForms a0 st R) : HCalls prog n_laws_FnForms [a0] st R :=
 hcalls_of_func tyOK mixed (fn := Go.Proofs.Tryz.f3) (by kernel_rfl) (by kernel_rfl) (by kernel_rfl) (ann := [])
  (show hFunc prog TT [] Go.Proofs.Tryz.f3 [a0] st R from (show hFunc prog TT [] Go.Proofs.Tryz.f3 [a0] st R = b_laws_FnForms a0 st R by kernel_rfl) ▸ h)
def b_spec_FormOf (a0 : PV) (st : St) (R : Res → St → Prop) : Prop :=
 e_alloc st [.int .i64 0, .int .i64 0, .sl 0 true []] fun v2 st =>
 callK prog n_spec_l00Source [a0] st (fun v5 st =>
 callK prog n_spec_l00Src_next [v5, (.int .i64 4)] st (fun v8 st =>
 callK prog n_spec_l00Src_form [v5, v8] st (fun v9 st =>
 e_store st 3 v2 v9 fun st =>
 qb (q_load st true 3 v2) fun r => retR R r st) (panR R)) (panR R)) (panR R)
theorem c_spec_FormOf {a0 : PV} {st : St} {R : Res → St → Prop} (h : b_spec_FormOf a0 st R) : HCalls prog n_spec_FormOf [a0] st R :=
 hcalls_of_func tyOK mixed (fn := Go.Proofs.Tryz.f5) (by kernel_rfl) (by kernel_rfl) (by kernel_rfl) (ann := [])
  (show hFunc prog TT [] Go.Proofs.Tryz.f5 [a0] st R from (show hFunc prog TT [] Go.Proofs.Tryz.f5 [a0] st R = b_spec_FormOf a0 st R by kernel_rfl) ▸ h)
def b_impl_EncodeForm (a0 : PV) (st : St) (R : Res → St → Prop) : Prop :=
 e_box st a0 fun v1 st =>
 e_alloc st [.int .i64 0, .int .i64 0, .str [], .sl 0 true []] fun v2 st =>
 qb (q_load st true 3 v1) fun v4 =>
 callK prog n_impl_FormOK [v4] st (fun v5 st =>
 callK prog n_impl_encoded [v5, (.fn (.func n_impl_EncodeForm_1) [] [v1])] st (fun v7 st =>
 qb (q_ex v7 0) fun v8 =>
 qb (q_ex v7 1) fun v9 =>
 e_store st 4 v2 v8 fun st =>
 qb (q_load st true 4 v2) fun r => retR R (.tup [r, v9]) st) (panR R)) (panR R)
theorem c_impl_EncodeForm {a0 : PV} {st : St} {R : Res → St → Prop} (h : b_impl_EncodeForm a0 st R) : HCalls prog n_impl_EncodeForm [a0] st R :=
 hcalls_of_func tyOK mixed (fn := Go.Proofs.Tryz.f6) (by kernel_rfl) (by kernel_rfl) (by kernel_rfl) (ann := [])
  (show hFunc prog TT [] Go.Proofs.Tryz.f6 [a0] st R from (show hFunc prog TT [] Go.Proofs.Tryz.f6 [a0] st R = b_impl_EncodeForm a0 st R by kernel_rfl) ▸ h)
def b_impl_DecodeForm (a0 : PV) (st : St) (R : Res → St → Prop) : Prop :=
 e_box st a0 fun v1 st =>
 e_alloc st [.int .i64 0, .int .i64 0, .sl 0 true []] fun v2 st =>
 qb (q_load st true 4 v1) fun v6 =>
 callK prog n_impl_badTerm [v6] st (fun v7 st =>
 cb v7 fun b => br b
  (qb (q_struct [.int .i64 0, .int .i64 0, .sl 0 true []] []) fun v8 =>
  e_store st 3 v2 v8 fun st =>
  qb (q_load st true 3 v2) fun r => retR R (.tup [r, (.int .i64 1)]) st)
  (qb (q_struct [.int .i64 0, .int .i64 0, .sl 0 true []] []) fun v9 =>
  e_alloc st [.int .i64 0, .int .i64 0, .sl 0 true []] fun v4 st =>
  e_store st 3 v4 v9 fun st =>
  callK prog n_impl_caught [(.fn (.func n_impl_DecodeForm_1) [] [v1, v4])] st (fun v11 st =>
  e_alloc st [.int .i64 0, .int .i64 0] fun v5 st =>
  e_store st 2 v5 v11 fun st =>
  qb (q_fa 0 v5) fun v12 =>
  qb (q_load st false 1 v12) fun v13 =>
  qb (q_bin .neq v13 (.int .i64 0)) fun v14 =>
  cb v14 fun b_1 => br b_1
   (qb (q_struct [.int .i64 0, .int .i64 0, .sl 0 true []] []) fun v15 =>
   qb (q_fa 0 v5) fun v16 =>
   qb (q_load st false 1 v16) fun v17 =>
   e_store st 3 v2 v15 fun st =>
   q_load st false 1 v16 = some v17 ∧ (qb (q_load st true 3 v2) fun r_1 => retR R (.tup [r_1, v17]) st))
   (qb (q_load st true 3 v4) fun v18 =>
   e_store st 3 v2 v18 fun st =>
   qb (q_load st true 3 v2) fun r_2 => retR R (.tup [r_2, (.int .i64 0)]) st)) (panR R))) (panR R)
theorem c_impl_DecodeForm {a0 : PV} {st : St} {R : Res → St → Prop} (h : b_impl_DecodeForm a0 st R) : HCalls prog n_impl_DecodeForm [a0] st R :=
 hcalls_of_func tyOK mixed (fn := Go.Proofs.Tryz.f7) (by kernel_rfl) (by kernel_rfl) (by kernel_rfl) (ann := [])
  (show hFunc prog TT [] Go.Proofs.Tryz.f7 [a0] st R from (show hFunc prog TT [] Go.Proofs.Tryz.f7 [a0] st R = b_impl_DecodeForm a0 st R by kernel_rfl) ▸ h)
def b_impl_CheckTerm (a0 a1 a2 a3 : PV) (st : St) (R : Res → St → Prop) : Prop :=
 e_box st a0 fun v4 st =>
 e_box st a1 fun v5 st =>
 e_box st a2 fun v6 st =>
 e_box st a3 fun v7 st =>
 qb (q_load st false 1 v4) fun v10 =>
 qb (q_load st false 1 v5) fun v11 =>
 callK prog n_impl_checked [v10, v11, (.fn (.func n_impl_CheckTerm_1) [] [v6, v4, v5, v7]), (.fn (.func n_impl_CheckTerm_2) [] [v5, v6, v7])] st (fun v14 st =>
 qb (q_ex v14 0) fun v15 =>
 qb (q_ex v14 1) fun v16 =>
 retR R (.tup [v15, v16]) st) (panR R)
theorem c_impl_CheckTerm {a0 a1 a2 a3 : PV} {st : St} {R : Res → St → Prop} (h : b_impl_CheckTerm a0 a1 a2 a3 st R) : HCalls prog n_impl_CheckTerm [a0, a1, a2, a3] st R :=
 hcalls_of_func tyOK mixed (fn := Go.Proofs.Tryz.f8) (by kernel_rfl) (by kernel_rfl) (by kernel_rfl) (ann := [])
  (show hFunc prog TT [] Go.Proofs.Tryz.f8 [a0, a1, a2, a3] st R from (show hFunc prog TT [] Go.Proofs.Tryz.f8 [a0, a1, a2, a3] st R = b_impl_CheckTerm a0 a1 a2 a3 st R by kernel_rfl) ▸ h)
def b_impl_LogicSig (st : St) (R : Res → St → Prop) : Prop :=
 callK prog n_impl_builtIn [(.str [111, 32, 58, 32, 116, 121, 112, 101, 10, 112, 48, 32, 58, 32, 111, 10, 112, 49, 32, 58, 32, 111, 10, 112, 50, 32, 58, 32, 111, 10, 112, 51, 32, 58, 32, 111, 10, 112, 52, 32, 58, 32, 111, 10, 112, 53, 32, 58, 32, 111, 10, 98, 111, 116, 32, 58, 32, 111, 10, 97, 110, 100, 32, 58, 32, 111, 32, 45, 62, 32, 111, 32, 45, 62, 32, 111, 10, 105, 109, 112, 32, 58, 32, 111, 32, 45, 62, 32, 111, 32, 45, 62, 32, 111, 10, 112, 102, 32, 58, 32, 111, 32, 45, 62, 32, 116, 121, 112, 101, 10, 97, 110, 100, 73, 32, 58, 32, 123, 120, 48, 58, 111, 125, 32, 123, 120, 49, 58, 111, 125, 32, 112, 102, 32, 120, 48, 32, 45, 62, 32, 112, 102, 32, 120, 49, 32, 45, 62, 32, 112, 102, 32, 40, 97, 110, 100, 32, 120, 48, 32, 120, 49, 41, 10, 102, 115, 116, 32, 58, 32, 123, 120, 48, 58, 111, 125, 32, 123, 120, 49, 58, 111, 125, 32, 112, 102, 32, 40, 97, 110, 100, 32, 120, 48, 32, 120, 49, 41, 32, 45, 62, 32, 112, 102, 32, 120, 48, 10, 115, 110, 100, 32, 58, 32, 123, 120, 48, 58, 111, 125, 32, 123, 120, 49, 58, 111, 125, 32, 112, 102, 32, 40, 97, 110, 100, 32, 120, 48, 32, 120, 49, 41, 32, 45, 62, 32, 112, 102, 32, 120, 49, 10, 102, 117, 110, 73, 32, 58, 32, 123, 120, 48, 58, 111, 125, 32, 123, 120, 49, 58, 111, 125, 32, 40, 112, 102, 32, 120, 48, 32, 45, 62, 32, 112, 102, 32, 120, 49, 41, 32, 45, 62, 32, 112, 102, 32, 40, 105, 109, 112, 32, 120, 48, 32, 120, 49, 41, 10, 117, 115, 101, 32, 58, 32, 123, 120, 48, 58, 111, 125, 32, 123, 120, 49, 58, 111, 125, 32, 112, 102, 32, 40, 105, 109, 112, 32, 120, 48, 32, 120, 49, 41, 32, 45, 62, 32, 112, 102, 32, 120, 48, 32, 45, 62, 32, 112, 102, 32, 120, 49, 10, 98, 111, 116, 69, 32, 58, 32, 123, 120, 48, 58, 111, 125, 32, 112, 102, 32, 98, 111, 116, 32, 45, 62, 32, 112, 102, 32, 120, 48, 10])] st (fun v1 st =>
 retR R v1 st) (panR R)
theorem c_impl_LogicSig {st : St} {R : Res → St → Prop} (h : b_impl_LogicSig  st R) : HCalls prog n_impl_LogicSig [] st R :=
 hcalls_of_func tyOK mixed (fn := Go.Proofs.Tryz.f9) (by kernel_rfl) (by kernel_rfl) (by kernel_rfl) (ann := [])
  (show hFunc prog TT [] Go.Proofs.Tryz.f9 [] st R from (show hFunc prog TT [] Go.Proofs.Tryz.f9 [] st R = b_impl_LogicSig  st R by kernel_rfl) ▸ h)
def b_laws_sameForm (a0 a1 : PV) (st : St) (R : Res → St → Prop) : Prop :=
 e_box st a0 fun v2 st =>
 e_box st a1 fun v3 st =>
 qb (q_fa 0 v2) fun v6 =>
 qb (q_load st false 1 v6) fun v7 =>
 qb (q_fa 0 v3) fun v8 =>
 qb (q_load st false 1 v8) fun v9 =>
 qb (q_bin .neq v7 v9) fun v10 =>
 cb v10 fun b => br b
  (retR R (.bool false) st)
  (qb (q_fa 1 v2) fun v12 =>
  qb (q_load st false 1 v12) fun v13 =>
  qb (q_fa 1 v3) fun v14 =>
  qb (q_load st false 1 v14) fun v15 =>
  qb (q_bin .neq v13 v15) fun v16 =>
  cb v16 fun b_1 => br b_1
   (retR R (.bool false) st)
   (qb (q_fa 2 v2) fun v19 =>
   qb (q_load st false 1 v19) fun v20 =>
   qb (q_len v20) fun v21 =>
   qb (q_fa 2 v3) fun v22 =>
   qb (q_load st false 1 v22) fun v23 =>
   qb (q_len v23) fun v24 =>
   qb (q_bin .neq v21 v24) fun v25 =>
   cb v25 fun b_2 => br b_2
    (retR R (.bool false) st)
    (hFix (fun ls st X =>
     qb (q_fa 2 v2) fun v28 =>
     qb (q_load st false 1 v28) fun v29 =>
     qb (q_len v29) fun v30 =>
     qb (q_bin .lss (ls.getD 0 .junk) v30) fun v31 =>
     cb v31 fun b_3 => br b_3
      (qb (q_fa 2 v2) fun v34 =>
      qb (q_load st false 1 v34) fun v35 =>
      qb (q_ia 3 v35 (ls.getD 0 .junk)) fun v37 =>
      qb (q_load st true 3 v37) fun v38 =>
      qb (q_fa 2 v3) fun v39 =>
      qb (q_load st false 1 v39) fun v40 =>
      qb (q_ia 3 v40 (ls.getD 0 .junk)) fun v42 =>
      qb (q_load st true 3 v42) fun v43 =>
      callK prog n_laws_sameForm [v38, v43] st (fun v44 st =>
      qb (q_un .not v44) fun v45 =>
      cb v45 fun b_4 => br b_4
       (retR R (.bool false) st)
       (qb (q_bin .add (ls.getD 0 .junk) (.int .i64 1)) fun v33 =>
       X [v33] st)) (panR R))
      (retR R (.bool true) st))
     [(.int .i64 0)] st)))
theorem c_laws_sameForm {a0 a1 : PV} {st : St} {R : Res → St → Prop} (h : b_laws_sameForm a0 a1 st R) : HCalls prog n_laws_sameForm [a0, a1] st R :=
 hcalls_of_func tyOK mixed (fn := Go.Proofs.Tryz.f10) (by kernel_rfl) (by kernel_rfl) (by kernel_rfl) (ann := [(16, [5])])
  (show hFunc prog TT [(16, [5])] Go.Proofs.Tryz.f10 [a0, a1] st R from (show hFunc prog TT [(16, [5])] Go.Proofs.Tryz.f10 [a0, a1] st R = b_laws_sameForm a0 a1 st R by kernel_rfl) ▸ h)
def b_spec_l00Source (a0 : PV) (st : St) (R : Res → St → Prop) : Prop :=
 qb (q_len a0) fun v5 =>
 qb (q_bin .rem v5 (.int .i64 1000)) fun v6 =>
 qb (q_struct [.sl 0 true [], .int .i64 0, .int .i64 0] [(0, 1, a0), (2, 1, v6)]) fun v7 =>
 e_box st v7 fun v8 st =>
 retR R v8 st
theorem c_spec_l00Source {a0 : PV} {st : St} {R : Res → St → Prop} (h : b_spec_l00Source a0 st R) : HCalls prog n_spec_l00Source [a0] st R :=
 hcalls_of_func tyOK mixed (fn := Go.Proofs.Tryz.f21) (by kernel_rfl) (by kernel_rfl) (by kernel_rfl) (ann := [])
  (show hFunc prog TT [] Go.Proofs.Tryz.f21 [a0] st R from (show hFunc prog TT [] Go.Proofs.Tryz.f21 [a0] st R = b_spec_l00Source a0 st R by kernel_rfl) ▸ h)
end Go.H.Tryz
