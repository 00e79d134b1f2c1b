/- Part of a proof that the program answers as the reference does: FS4. -/
import Derived.Test.YtemgbochnkpihaaGreatDoorHT
/- MADE BY PROGRAM (hgen.py): what the functions compute, over pure values. -/
set_option linter.unusedVariables false
set_option maxRecDepth 100000
namespace Go.H.Tryz
open Go Go.H
def b_strings_Lines (a0 : PV) (st : St) (R : Res → St → Prop) : Prop :=
 e_box st a0 fun v1 st =>
 retR R (.fn (.func n_strings_Lines_1) [] [v1]) st
theorem c_strings_Lines {a0 : PV} {st : St} {R : Res → St → Prop} (h : b_strings_Lines a0 st R) : HCalls prog n_strings_Lines [a0] st R :=
 hcalls_of_func tyOK mixed (fn := Go.Proofs.Tryz.f83) (by kernel_rfl) (by kernel_rfl) (by kernel_rfl) (ann := [])
  (show hFunc prog TT [] Go.Proofs.Tryz.f83 [a0] st R from (show hFunc prog TT [] Go.Proofs.Tryz.f83 [a0] st R = b_strings_Lines a0 st R by kernel_rfl) ▸ h)
def b_strings_TrimSuffix (a0 a1 : PV) (st : St) (R : Res → St → Prop) : Prop :=
 callK prog n_internal_stringslite_TrimSuffix [a0, a1] st (fun v7 st =>
 retR R v7 st) (panR R)
theorem c_strings_TrimSuffix {a0 a1 : PV} {st : St} {R : Res → St → Prop} (h : b_strings_TrimSuffix a0 a1 st R) : HCalls prog n_strings_TrimSuffix [a0, a1] st R :=
 hcalls_of_func tyOK mixed (fn := Go.Proofs.Tryz.f84) (by kernel_rfl) (by kernel_rfl) (by kernel_rfl) (ann := [])
  (show hFunc prog TT [] Go.Proofs.Tryz.f84 [a0, a1] st R from (show hFunc prog TT [] Go.Proofs.Tryz.f84 [a0, a1] st R = b_strings_TrimSuffix a0 a1 st R by kernel_rfl) ▸ h)
def b_impl_says (a0 : PV) (st : St) (R : Res → St → Prop) : Prop :=
 callK prog n_impl_blankEnd [a0, (.int .i64 0)] st (fun v5 st =>
 qb (q_lenS a0) fun v8 =>
 qb (q_bin .lss v5 v8) fun v9 =>
 cb v9 fun b => br b
  (qb (q_ix a0 v5) fun v13 =>
  qb (q_bin .neq v13 (.int .u8 37)) fun v14 =>
  retR R v14 st)
  (retR R (.bool false) st)) (panR R)
theorem c_impl_says {a0 : PV} {st : St} {R : Res → St → Prop} (h : b_impl_says a0 st R) : HCalls prog n_impl_says [a0] st R :=
 hcalls_of_func tyOK mixed (fn := Go.Proofs.Tryz.f85) (by kernel_rfl) (by kernel_rfl) (by kernel_rfl) (ann := [])
  (show hFunc prog TT [] Go.Proofs.Tryz.f85 [a0] st R from (show hFunc prog TT [] Go.Proofs.Tryz.f85 [a0] st R = b_impl_says a0 st R by kernel_rfl) ▸ h)
def b_impl_ReadSig_1 (a0 a1 : PV) (st : St) (R : Res → St → Prop) : Prop :=
 qb (q_load st false 1 a0) fun v2 =>
 qb (q_load st false 1 a1) fun v3 =>
 callK prog n_impl_addLine [v2, v3] st (fun v4 st =>
 e_store st 1 a0 v4 fun st =>
 retR R (.tup []) st) (panR R)
theorem c_impl_ReadSig_1 {a0 a1 : PV} {st : St} {R : Res → St → Prop} (h : b_impl_ReadSig_1 a0 a1 st R) : HCalls prog n_impl_ReadSig_1 [a0, a1] st R :=
 hcalls_of_func tyOK mixed (fn := Go.Proofs.Tryz.f87) (by kernel_rfl) (by kernel_rfl) (by kernel_rfl) (ann := [])
  (show hFunc prog TT [] Go.Proofs.Tryz.f87 [a0, a1] st R from (show hFunc prog TT [] Go.Proofs.Tryz.f87 [a0, a1] st R = b_impl_ReadSig_1 a0 a1 st R by kernel_rfl) ▸ h)
def b_impl_addLine (a0 a1 : PV) (st : St) (R : Res → St → Prop) : Prop :=
 callK prog n_impl_readDecl [a1] st (fun v8 st =>
 e_alloc st [.str [], .bool false, .int .i64 0, .int .i64 0, .str [], .sl 0 true []] fun v5 st =>
 e_store st 6 v5 v8 fun st =>
 qb (q_load st true 6 v5) fun v10 =>
 callK prog n_impl_addFault [a0, v10] st (fun v11 st =>
 e_alloc st [.int .i64 0, .int .i64 0] fun v6 st =>
 e_store st 2 v6 v11 fun st =>
 qb (q_fa 0 v6) fun v12 =>
 qb (q_load st false 1 v12) fun v13 =>
 qb (q_bin .neq v13 (.int .i64 0)) fun v14 =>
 cb v14 fun b => br b
  (qb (q_fa 0 v6) fun v15 =>
  qb (q_load st false 1 v15) fun v16 =>
  qb (q_fa 1 v6) fun v17 =>
  qb (q_load st false 1 v17) fun v18 =>
  callK prog n_impl_stop [v16, v18] st (fun v19 st =>
  qb (q_load st true 6 v5) fun v21 =>
  qb (q_lit 6 1 0 [] [(0, v21)]) fun v22 =>
  e_append st 6 80 a0 v22 (fun v23 st =>
  retR R v23 st)) (panR R))
  (qb (q_load st true 6 v5) fun v21_1 =>
  qb (q_lit 6 1 0 [] [(0, v21_1)]) fun v22_1 =>
  e_append st 6 80 a0 v22_1 (fun v23_1 st =>
  retR R v23_1 st))) (panR R)) (panR R)
theorem c_impl_addLine {a0 a1 : PV} {st : St} {R : Res → St → Prop} (h : b_impl_addLine a0 a1 st R) : HCalls prog n_impl_addLine [a0, a1] st R :=
 hcalls_of_func tyOK mixed (fn := Go.Proofs.Tryz.f88) (by kernel_rfl) (by kernel_rfl) (by kernel_rfl) (ann := [])
  (show hFunc prog TT [] Go.Proofs.Tryz.f88 [a0, a1] st R from (show hFunc prog TT [] Go.Proofs.Tryz.f88 [a0, a1] st R = b_impl_addLine a0 a1 st R by kernel_rfl) ▸ h)
def b_impl_declForm (a0 : PV) (st : St) (R : Res → St → Prop) : Prop :=
 e_box st a0 fun v1 st =>
 qb (q_fa 1 v1) fun v3 =>
 qb (q_load st false 1 v3) fun v4 =>
 cb v4 fun b => br b
  (qb (q_fa 0 v1) fun v5 =>
  qb (q_load st false 1 v5) fun v6 =>
  callK prog n_impl_NameOK [v6] st (fun v7 st =>
  cb v7 fun b_1 => br b_1
   (qb (q_fa 2 v1) fun v9 =>
   qb (q_load st true 4 v9) fun v10 =>
   callK prog n_impl_KindOK [v10] st (fun v11 st =>
   retR R v11 st) (panR R))
   (retR R (.bool false) st)) (panR R))
  (qb (q_fa 0 v1) fun v13 =>
  qb (q_load st false 1 v13) fun v14 =>
  callK prog n_impl_NameOK [v14] st (fun v15 st =>
  cb v15 fun b_2 => br b_2
   (qb (q_fa 2 v1) fun v17 =>
   qb (q_load st true 4 v17) fun v18 =>
   callK prog n_impl_FamilyOK [v18] st (fun v19 st =>
   retR R v19 st) (panR R))
   (retR R (.bool false) st)) (panR R))
theorem c_impl_declForm {a0 : PV} {st : St} {R : Res → St → Prop} (h : b_impl_declForm a0 st R) : HCalls prog n_impl_declForm [a0] st R :=
 hcalls_of_func tyOK mixed (fn := Go.Proofs.Tryz.f93) (by kernel_rfl) (by kernel_rfl) (by kernel_rfl) (ann := [])
  (show hFunc prog TT [] Go.Proofs.Tryz.f93 [a0] st R from (show hFunc prog TT [] Go.Proofs.Tryz.f93 [a0] st R = b_impl_declForm a0 st R by kernel_rfl) ▸ h)
def b_impl_declFault (a0 a1 : PV) (st : St) (R : Res → St → Prop) : Prop :=
 e_box st a0 fun v2 st =>
 e_box st a1 fun v3 st =>
 e_alloc st [.int .i64 0, .int .i64 0] fun v4 st =>
 callK prog n_impl_caught [(.fn (.func n_impl_declFault_1) [] [v2, v3])] st (fun v6 st =>
 e_store st 2 v4 v6 fun st =>
 qb (q_load st true 2 v4) fun r => retR R r st) (panR R)
theorem c_impl_declFault {a0 a1 : PV} {st : St} {R : Res → St → Prop} (h : b_impl_declFault a0 a1 st R) : HCalls prog n_impl_declFault [a0, a1] st R :=
 hcalls_of_func tyOK mixed (fn := Go.Proofs.Tryz.f94) (by kernel_rfl) (by kernel_rfl) (by kernel_rfl) (ann := [])
  (show hFunc prog TT [] Go.Proofs.Tryz.f94 [a0, a1] st R from (show hFunc prog TT [] Go.Proofs.Tryz.f94 [a0, a1] st R = b_impl_declFault a0 a1 st R by kernel_rfl) ▸ h)
def b_slices_ContainsFunc_impl_Decl_impl_Decl (a0 a1 : PV) (st : St) (R : Res → St → Prop) : Prop :=
 callK prog n_slices_IndexFunc_impl_Decl_impl_Decl [a0, a1] st (fun v7 st =>
 qb (q_bin .geq v7 (.int .i64 0)) fun v8 =>
 retR R v8 st) (panR R)
theorem c_slices_ContainsFunc_impl_Decl_impl_Decl {a0 a1 : PV} {st : St} {R : Res → St → Prop} (h : b_slices_ContainsFunc_impl_Decl_impl_Decl a0 a1 st R) : HCalls prog n_slices_ContainsFunc_impl_Decl_impl_Decl [a0, a1] st R :=
 hcalls_of_func tyOK mixed (fn := Go.Proofs.Tryz.f95) (by kernel_rfl) (by kernel_rfl) (by kernel_rfl) (ann := [])
  (show hFunc prog TT [] Go.Proofs.Tryz.f95 [a0, a1] st R from (show hFunc prog TT [] Go.Proofs.Tryz.f95 [a0, a1] st R = b_slices_ContainsFunc_impl_Decl_impl_Decl a0 a1 st R by kernel_rfl) ▸ h)
def b_impl_has_1 (a0 a1 : PV) (st : St) (R : Res → St → Prop) : Prop :=
 e_box st a0 fun v2 st =>
 qb (q_fa 0 v2) fun v4 =>
 qb (q_load st false 1 v4) fun v5 =>
 qb (q_load st false 1 a1) fun v6 =>
 qb (q_bin .eql v5 v6) fun v7 =>
 retR R v7 st
theorem c_impl_has_1 {a0 a1 : PV} {st : St} {R : Res → St → Prop} (h : b_impl_has_1 a0 a1 st R) : HCalls prog n_impl_has_1 [a0, a1] st R :=
 hcalls_of_func tyOK mixed (fn := Go.Proofs.Tryz.f96) (by kernel_rfl) (by kernel_rfl) (by kernel_rfl) (ann := [])
  (show hFunc prog TT [] Go.Proofs.Tryz.f96 [a0, a1] st R from (show hFunc prog TT [] Go.Proofs.Tryz.f96 [a0, a1] st R = b_impl_has_1 a0 a1 st R by kernel_rfl) ▸ h)
def b_slices_IndexFunc_impl_Decl_impl_Decl (a0 a1 : PV) (st : St) (R : Res → St → Prop) : Prop :=
 qb (q_len a0) fun v7 =>
 hFix (fun ls st X =>
  qb (q_bin .lss (ls.getD 0 .junk) v7) fun v9 =>
  cb v9 fun b => br b
   (qb (q_ia 6 a0 (ls.getD 0 .junk)) fun v14 =>
   qb (q_load st true 6 v14) fun v15 =>
   e_call prog st a1 [v15] (fun v16 st =>
   cb v16 fun b_1 => br b_1
    (retR R (ls.getD 0 .junk) st)
    (qb (q_bin .add (ls.getD 0 .junk) (.int .i64 1)) fun v18 =>
    X [v18] st)) (panR R))
   (retR R (.int .i64 (-1)) st))
  [(.int .i64 0)] st
theorem c_slices_IndexFunc_impl_Decl_impl_Decl {a0 a1 : PV} {st : St} {R : Res → St → Prop} (h : b_slices_IndexFunc_impl_Decl_impl_Decl a0 a1 st R) : HCalls prog n_slices_IndexFunc_impl_Decl_impl_Decl [a0, a1] st R :=
 hcalls_of_func tyOK mixed (fn := Go.Proofs.Tryz.f97) (by kernel_rfl) (by kernel_rfl) (by kernel_rfl) (ann := [(8, [8])])
  (show hFunc prog TT [(8, [8])] Go.Proofs.Tryz.f97 [a0, a1] st R from (show hFunc prog TT [(8, [8])] Go.Proofs.Tryz.f97 [a0, a1] st R = b_slices_IndexFunc_impl_Decl_impl_Decl a0 a1 st R by kernel_rfl) ▸ h)
end Go.H.Tryz
