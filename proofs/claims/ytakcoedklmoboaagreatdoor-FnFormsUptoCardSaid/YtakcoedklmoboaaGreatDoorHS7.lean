/- Part of a proof that the program answers as the reference does: ZFS7. -/
import Derived.Test.YtakcoedklmoboaaGreatDoorHT
/- MADE BY PROGRAM (hgen.py): what the functions compute, over pure values. -/
set_option linter.unusedVariables false
set_option maxRecDepth 100000
namespace Go.H.Tryz
open Go Go.H
def b_impl_cloneAll (a0 : PV) (st : St) (R : Res → St → Prop) : Prop :=
 qb (q_lit 4 0 0 [] []) fun v6 =>
 qb (q_len a0) fun v8 =>
 hFix (fun ls st X =>
  qb (q_bin .lss (ls.getD 1 .junk) v8) fun v10 =>
  cb v10 fun b => br b
   (qb (q_ia 4 a0 (ls.getD 1 .junk)) fun v11 =>
   qb (q_load st true 4 v11) fun v12 =>
   e_alloc st [.int .i64 0, .int .i64 0, .str [], .sl 0 true []] fun v5 st =>
   e_store st 4 v5 v12 fun st =>
   qb (q_load st true 4 v5) fun v14 =>
   callK prog n_impl_clone [v14] st (fun v15 st =>
   qb (q_lit 4 1 0 [] [(0, v15)]) fun v16 =>
   e_append st 4 56 (ls.getD 0 .junk) v16 (fun v17 st =>
   qb (q_bin .add (ls.getD 1 .junk) (.int .i64 1)) fun v18 =>
   X [v17, v18] st)) (panR R))
   (retR R (ls.getD 0 .junk) st))
  [v6, (.int .i64 0)] st
theorem c_impl_cloneAll {a0 : PV} {st : St} {R : Res → St → Prop} (h : b_impl_cloneAll a0 st R) : HCalls prog n_impl_cloneAll [a0] st R :=
 hcalls_of_func tyOK mixed (fn := Go.Proofs.Tryz.f144) (by kernel_rfl) (by kernel_rfl) (by kernel_rfl) (ann := [(12, [3, 9])])
  (show hFunc prog TT [(12, [3, 9])] Go.Proofs.Tryz.f144 [a0] st R from (show hFunc prog TT [(12, [3, 9])] Go.Proofs.Tryz.f144 [a0] st R = b_impl_cloneAll a0 st R by kernel_rfl) ▸ h)
def b_impl_Tree_binds (a0 a1 : PV) (st : St) (R : Res → St → Prop) : Prop :=
 qb (q_nil a0) fun v6 =>
 qb (q_fa 0 v6) fun v7 =>
 qb (q_load st false 1 v7) fun v8 =>
 qb (q_bin .eql v8 (.int .i64 4)) fun v9 =>
 cb v9 fun b => br b
  (retR R (.bool true) st)
  (qb (q_nil a0) fun v12 =>
  qb (q_fa 0 v12) fun v13 =>
  qb (q_load st false 1 v13) fun v14 =>
  qb (q_bin .eql v14 (.int .i64 2)) fun v15 =>
  cb v15 fun b_1 => br b_1
   (qb (q_bin .eql a1 (.int .i64 1)) fun v18 =>
   retR R v18 st)
   (retR R (.bool false) st))
theorem c_impl_Tree_binds {a0 a1 : PV} {st : St} {R : Res → St → Prop} (h : b_impl_Tree_binds a0 a1 st R) : HCalls prog n_impl_Tree_binds [a0, a1] st R :=
 hcalls_of_func tyOK mixed (fn := Go.Proofs.Tryz.f145) (by kernel_rfl) (by kernel_rfl) (by kernel_rfl) (ann := [])
  (show hFunc prog TT [] Go.Proofs.Tryz.f145 [a0, a1] st R from (show hFunc prog TT [] Go.Proofs.Tryz.f145 [a0, a1] st R = b_impl_Tree_binds a0 a1 st R by kernel_rfl) ▸ h)
def b_impl_turned (a0 a1 a2 : PV) (st : St) (R : Res → St → Prop) : Prop :=
 e_box st a0 fun v3 st =>
 e_alloc st [.int .i64 0, .int .i64 0, .str [], .sl 0 true []] fun v6 st =>
 qb (q_lit 4 0 0 [] []) fun v10 =>
 qb (q_fa 3 v3) fun v11 =>
 qb (q_load st false 1 v11) fun v12 =>
 qb (q_len v12) fun v13 =>
 hJ (fun ls st =>
  qb (q_fa 3 v3) fun v31 =>
  e_store st 1 v31 (ls.getD 0 .junk) fun st =>
  qb (q_fa 0 v3) fun v32 =>
  qb (q_load st false 1 v32) fun v33 =>
  qb (q_bin .eql v33 (.int .i64 5)) fun v34 =>
  cb v34 fun b => br b
   (qb (q_load st true 4 v3) fun v36 =>
   e_call prog st a2 [v36, a1] (fun v38 st =>
   e_store st 4 v6 v38 fun st =>
   qb (q_load st true 4 v6) fun r => retR R r st) (panR R))
   (qb (q_load st true 4 v3) fun v39 =>
   e_store st 4 v6 v39 fun st =>
   qb (q_load st true 4 v6) fun r_1 => retR R r_1 st))
  (fun k =>
 hFix (fun ls_1 st X =>
  qb (q_bin .lss (ls_1.getD 1 .junk) v13) fun v15 =>
  cb v15 fun b_1 => br b_1
   (qb (q_ia 4 v12 (ls_1.getD 1 .junk)) fun v17 =>
   qb (q_load st true 4 v17) fun v18 =>
   e_alloc st [.int .i64 0, .int .i64 0, .str [], .sl 0 true []] fun v9 st =>
   e_store st 4 v9 v18 fun st =>
   qb (q_load st true 4 v9) fun v20 =>
   callK prog n_impl_Tree_under [v3, (ls_1.getD 1 .junk)] st (fun v23 st =>
   q_load st true 4 v9 = some v20 ∧ (qb (q_bin .add a1 v23) fun v24 =>
   callK prog n_impl_turned [v20, v24, a2] st (fun v26 st =>
   qb (q_lit 4 1 0 [] [(0, v26)]) fun v27 =>
   e_append st 4 56 (ls_1.getD 0 .junk) v27 (fun v28 st =>
   qb (q_bin .add (ls_1.getD 1 .junk) (.int .i64 1)) fun v29 =>
   X [v28, v29] st)) (panR R))) (panR R))
   (k [(ls_1.getD 0 .junk)] st))
  [v10, (.int .i64 0)] st)
theorem c_impl_turned {a0 a1 a2 : PV} {st : St} {R : Res → St → Prop} (h : b_impl_turned a0 a1 a2 st R) : HCalls prog n_impl_turned [a0, a1, a2] st R :=
 hcalls_of_func tyOK mixed (fn := Go.Proofs.Tryz.f146) (by kernel_rfl) (by kernel_rfl) (by kernel_rfl) (ann := [(12, [7, 14]), (3, [7])])
  (show hFunc prog TT [(12, [7, 14]), (3, [7])] Go.Proofs.Tryz.f146 [a0, a1, a2] st R from (show hFunc prog TT [(12, [7, 14]), (3, [7])] Go.Proofs.Tryz.f146 [a0, a1, a2] st R = b_impl_turned a0 a1 a2 st R by kernel_rfl) ▸ h)
def b_impl_lift_1 (a0 a1 a2 a3 : PV) (st : St) (R : Res → St → Prop) : Prop :=
 e_box st a0 fun v4 st =>
 e_alloc st [.int .i64 0, .int .i64 0, .str [], .sl 0 true []] fun v6 st =>
 qb (q_fa 1 v4) fun v7 =>
 qb (q_load st false 1 v7) fun v8 =>
 qb (q_load st false 1 a2) fun v9 =>
 qb (q_bin .add v9 a1) fun v11 =>
 qb (q_bin .geq v8 v11) fun v12 =>
 cb v12 fun b => br b
  (qb (q_fa 1 v4) fun v13 =>
  qb (q_load st false 1 v13) fun v14 =>
  qb (q_load st false 1 a3) fun v15 =>
  qb (q_bin .add v14 v15) fun v16 =>
  qb (q_fa 1 v4) fun v17 =>
  e_store st 1 v17 v16 fun st =>
  qb (q_load st true 4 v4) fun v18 =>
  e_store st 4 v6 v18 fun st =>
  qb (q_load st true 4 v6) fun r => retR R r st)
  (qb (q_load st true 4 v4) fun v18_1 =>
  e_store st 4 v6 v18_1 fun st =>
  qb (q_load st true 4 v6) fun r_1 => retR R r_1 st)
theorem c_impl_lift_1 {a0 a1 a2 a3 : PV} {st : St} {R : Res → St → Prop} (h : b_impl_lift_1 a0 a1 a2 a3 st R) : HCalls prog n_impl_lift_1 [a0, a1, a2, a3] st R :=
 hcalls_of_func tyOK mixed (fn := Go.Proofs.Tryz.f147) (by kernel_rfl) (by kernel_rfl) (by kernel_rfl) (ann := [])
  (show hFunc prog TT [] Go.Proofs.Tryz.f147 [a0, a1, a2, a3] st R from (show hFunc prog TT [] Go.Proofs.Tryz.f147 [a0, a1, a2, a3] st R = b_impl_lift_1 a0 a1 a2 a3 st R by kernel_rfl) ▸ h)
def b_impl_declForm (a0 : PV) (st : St) (R : Res → St → Prop) : Prop :=
 e_box st a0 fun v1 st =>
 qb (q_fa 1 v1) fun v3 =>
 qb (q_load st false 1 v3) fun v4 =>
 cb v4 fun b => br b
  (qb (q_fa 0 v1) fun v5 =>
  qb (q_load st false 1 v5) fun v6 =>
  callK prog n_impl_NameOK [v6] st (fun v7 st =>
  cb v7 fun b_1 => br b_1
   (qb (q_fa 2 v1) fun v9 =>
   qb (q_load st true 4 v9) fun v10 =>
   callK prog n_impl_KindOK [v10] st (fun v11 st =>
   retR R v11 st) (panR R))
   (retR R (.bool false) st)) (panR R))
  (qb (q_fa 0 v1) fun v13 =>
  qb (q_load st false 1 v13) fun v14 =>
  callK prog n_impl_NameOK [v14] st (fun v15 st =>
  cb v15 fun b_2 => br b_2
   (qb (q_fa 2 v1) fun v17 =>
   qb (q_load st true 4 v17) fun v18 =>
   callK prog n_impl_FamilyOK [v18] st (fun v19 st =>
   retR R v19 st) (panR R))
   (retR R (.bool false) st)) (panR R))
theorem c_impl_declForm {a0 : PV} {st : St} {R : Res → St → Prop} (h : b_impl_declForm a0 st R) : HCalls prog n_impl_declForm [a0] st R :=
 hcalls_of_func tyOK mixed (fn := Go.Proofs.Tryz.f148) (by kernel_rfl) (by kernel_rfl) (by kernel_rfl) (ann := [])
  (show hFunc prog TT [] Go.Proofs.Tryz.f148 [a0] st R from (show hFunc prog TT [] Go.Proofs.Tryz.f148 [a0] st R = b_impl_declForm a0 st R by kernel_rfl) ▸ h)
def b_impl_has (a0 a1 : PV) (st : St) (R : Res → St → Prop) : Prop :=
 e_box st a1 fun v3 st =>
 callK prog n_slices_ContainsFunc_impl_Decl_impl_Decl [a0, (.fn (.func n_impl_has_1) [] [v3])] st (fun v7 st =>
 retR R v7 st) (panR R)
theorem c_impl_has {a0 a1 : PV} {st : St} {R : Res → St → Prop} (h : b_impl_has a0 a1 st R) : HCalls prog n_impl_has [a0, a1] st R :=
 hcalls_of_func tyOK mixed (fn := Go.Proofs.Tryz.f149) (by kernel_rfl) (by kernel_rfl) (by kernel_rfl) (ann := [])
  (show hFunc prog TT [] Go.Proofs.Tryz.f149 [a0, a1] st R from (show hFunc prog TT [] Go.Proofs.Tryz.f149 [a0, a1] st R = b_impl_has a0 a1 st R by kernel_rfl) ▸ h)
def b_impl_declFault (a0 a1 : PV) (st : St) (R : Res → St → Prop) : Prop :=
 e_box st a0 fun v2 st =>
 e_box st a1 fun v3 st =>
 e_alloc st [.int .i64 0, .int .i64 0] fun v4 st =>
 callK prog n_impl_caught [(.fn (.func n_impl_declFault_1) [] [v2, v3])] st (fun v6 st =>
 e_store st 2 v4 v6 fun st =>
 qb (q_load st true 2 v4) fun r => retR R r st) (panR R)
theorem c_impl_declFault {a0 a1 : PV} {st : St} {R : Res → St → Prop} (h : b_impl_declFault a0 a1 st R) : HCalls prog n_impl_declFault [a0, a1] st R :=
 hcalls_of_func tyOK mixed (fn := Go.Proofs.Tryz.f150) (by kernel_rfl) (by kernel_rfl) (by kernel_rfl) (ann := [])
  (show hFunc prog TT [] Go.Proofs.Tryz.f150 [a0, a1] st R from (show hFunc prog TT [] Go.Proofs.Tryz.f150 [a0, a1] st R = b_impl_declFault a0 a1 st R by kernel_rfl) ▸ h)
def b_impl_wordOK (a0 : PV) (st : St) (R : Res → St → Prop) : Prop :=
 qb (q_lenS a0) fun v4 =>
 callK prog n_impl_in [v4, (.int .i64 1), (.int .i64 40)] st (fun v5 st =>
 cb v5 fun b => br b
  (qb (q_ix a0 (.int .i64 0)) fun v8 =>
  callK prog n_impl_isHead [v8] st (fun v9 st =>
  cb v9 fun b_1 => br b_1
   (callK prog n_impl_over [a0, (.str [97, 98, 99, 100, 101, 102, 103, 104, 105, 106, 107, 108, 109, 110, 111, 112, 113, 114, 115, 116, 117, 118, 119, 120, 121, 122, 65, 66, 67, 68, 69, 70, 71, 72, 73, 74, 75, 76, 77, 78, 79, 80, 81, 82, 83, 84, 85, 86, 87, 88, 89, 90, 95, 48, 49, 50, 51, 52, 53, 54, 55, 56, 57])] st (fun v13 st =>
   retR R v13 st) (panR R))
   (retR R (.bool false) st)) (panR R))
  (retR R (.bool false) st)) (panR R)
theorem c_impl_wordOK {a0 : PV} {st : St} {R : Res → St → Prop} (h : b_impl_wordOK a0 st R) : HCalls prog n_impl_wordOK [a0] st R :=
 hcalls_of_func tyOK mixed (fn := Go.Proofs.Tryz.f151) (by kernel_rfl) (by kernel_rfl) (by kernel_rfl) (ann := [])
  (show hFunc prog TT [] Go.Proofs.Tryz.f151 [a0] st R from (show hFunc prog TT [] Go.Proofs.Tryz.f151 [a0] st R = b_impl_wordOK a0 st R by kernel_rfl) ▸ h)
def b_strings_CutPrefix (a0 a1 : PV) (st : St) (R : Res → St → Prop) : Prop :=
 callK prog n_internal_stringslite_CutPrefix [a0, a1] st (fun v8 st =>
 qb (q_ex v8 0) fun v9 =>
 qb (q_ex v8 1) fun v10 =>
 retR R (.tup [v9, v10]) st) (panR R)
theorem c_strings_CutPrefix {a0 a1 : PV} {st : St} {R : Res → St → Prop} (h : b_strings_CutPrefix a0 a1 st R) : HCalls prog n_strings_CutPrefix [a0, a1] st R :=
 hcalls_of_func tyOK mixed (fn := Go.Proofs.Tryz.f152) (by kernel_rfl) (by kernel_rfl) (by kernel_rfl) (ann := [])
  (show hFunc prog TT [] Go.Proofs.Tryz.f152 [a0, a1] st R from (show hFunc prog TT [] Go.Proofs.Tryz.f152 [a0, a1] st R = b_strings_CutPrefix a0 a1 st R by kernel_rfl) ▸ h)
def b_impl_over (a0 a1 : PV) (st : St) (R : Res → St → Prop) : Prop :=
 callK prog n_strings_Trim [a0, a1] st (fun v7 st =>
 qb (q_bin .eql v7 (.str [])) fun v8 =>
 retR R v8 st) (panR R)
theorem c_impl_over {a0 a1 : PV} {st : St} {R : Res → St → Prop} (h : b_impl_over a0 a1 st R) : HCalls prog n_impl_over [a0, a1] st R :=
 hcalls_of_func tyOK mixed (fn := Go.Proofs.Tryz.f153) (by kernel_rfl) (by kernel_rfl) (by kernel_rfl) (ann := [])
  (show hFunc prog TT [] Go.Proofs.Tryz.f153 [a0, a1] st R from (show hFunc prog TT [] Go.Proofs.Tryz.f153 [a0, a1] st R = b_impl_over a0 a1 st R by kernel_rfl) ▸ h)
def b_impl_checker_declared (a0 a1 a2 : PV) (st : St) (R : Res → St → Prop) : Prop :=
 e_box st a1 fun v4 st =>
 e_box st a2 fun v5 st =>
 e_alloc st [.int .i64 0, .int .i64 0, .str [], .sl 0 true []] fun v6 st =>
 qb (q_nil a0) fun v10 =>
 qb (q_fa 1 v10) fun v11 =>
 qb (q_load st false 1 v11) fun v12 =>
 callK prog n_slices_IndexFunc_impl_Decl_impl_Decl [v12, (.fn (.func n_impl_checker_declared_1) [] [v4, v5])] st (fun v14 st =>
 qb (q_bin .lss v14 (.int .i64 0)) fun v16 =>
 cb v16 fun b => br b
  (qb (q_struct [.int .i64 0, .int .i64 0, .str [], .sl 0 true []] []) fun v17 =>
  e_store st 4 v6 v17 fun st =>
  qb (q_load st true 4 v6) fun r => retR R (.tup [r, (.bool false)]) st)
  (qb (q_nil a0) fun v19 =>
  qb (q_fa 1 v19) fun v20 =>
  qb (q_load st false 1 v20) fun v21 =>
  qb (q_ia 6 v21 v14) fun v23 =>
  qb (q_fa 2 v23) fun v24 =>
  qb (q_load st true 4 v24) fun v25 =>
  e_store st 4 v6 v25 fun st =>
  qb (q_load st true 4 v6) fun r_1 => retR R (.tup [r_1, (.bool true)]) st)) (panR R)
theorem c_impl_checker_declared {a0 a1 a2 : PV} {st : St} {R : Res → St → Prop} (h : b_impl_checker_declared a0 a1 a2 st R) : HCalls prog n_impl_checker_declared [a0, a1, a2] st R :=
 hcalls_of_func tyOK mixed (fn := Go.Proofs.Tryz.f155) (by kernel_rfl) (by kernel_rfl) (by kernel_rfl) (ann := [])
  (show hFunc prog TT [] Go.Proofs.Tryz.f155 [a0, a1, a2] st R from (show hFunc prog TT [] Go.Proofs.Tryz.f155 [a0, a1, a2] st R = b_impl_checker_declared a0 a1 a2 st R by kernel_rfl) ▸ h)
def b_impl_checker_left (a0 a1 a2 a3 : PV) (st : St) (R : Res → St → Prop) : Prop :=
 e_box st a0 fun v4 st =>
 e_box st a1 fun v5 st =>
 e_box st a2 fun v6 st =>
 e_alloc st [.int .i64 0, .int .i64 0, .str [], .sl 0 true []] fun v8 st =>
 qb (q_struct [.int .i64 0, .int .i64 0, .str [], .sl 0 true []] []) fun v10 =>
 e_alloc st [.int .i64 0, .int .i64 0, .str [], .sl 0 true []] fun v9 st =>
 e_store st 4 v9 v10 fun st =>
 callK prog n_impl_at [a3, (.fn (.func n_impl_checker_left_1) [] [v4, v5, v6, v9])] st (fun v13 st =>
 qb (q_load st true 4 v9) fun v14 =>
 e_store st 4 v8 v14 fun st =>
 qb (q_load st true 4 v8) fun r => retR R r st) (panR R)
theorem c_impl_checker_left {a0 a1 a2 a3 : PV} {st : St} {R : Res → St → Prop} (h : b_impl_checker_left a0 a1 a2 a3 st R) : HCalls prog n_impl_checker_left [a0, a1, a2, a3] st R :=
 hcalls_of_func tyOK mixed (fn := Go.Proofs.Tryz.f156) (by kernel_rfl) (by kernel_rfl) (by kernel_rfl) (ann := [])
  (show hFunc prog TT [] Go.Proofs.Tryz.f156 [a0, a1, a2, a3] st R from (show hFunc prog TT [] Go.Proofs.Tryz.f156 [a0, a1, a2, a3] st R = b_impl_checker_left a0 a1 a2 a3 st R by kernel_rfl) ▸ h)
def b_strings_Lines_1 (a0 a1 : PV) (st : St) (R : Res → St → Prop) : Prop :=
 hFix (fun ls st X =>
  qb (q_load st false 1 a1) fun v5 =>
  qb (q_lenS v5) fun v6 =>
  qb (q_bin .gtr v6 (.int .i64 0)) fun v7 =>
  cb v7 fun b => br b
   (qb (q_load st false 1 a1) fun v8 =>
   callK prog n_strings_IndexByte [v8, (.int .u8 10)] st (fun v9 st =>
   qb (q_bin .geq v9 (.int .i64 0)) fun v11 =>
   cb v11 fun b_1 => br b_1
    (qb (q_load st false 1 a1) fun v12 =>
    qb (q_bin .add v9 (.int .i64 1)) fun v14 =>
    qb (q_sliceS v12 none (some v14) none) fun v15 =>
    qb (q_load st false 1 a1) fun v16 =>
    qb (q_bin .add v9 (.int .i64 1)) fun v18 =>
    qb (q_sliceS v16 (some v18) none none) fun v19 =>
    e_store st 1 a1 v19 fun st =>
    e_call prog st a0 [v15] (fun v23 st =>
    qb (q_un .not v23) fun v24 =>
    cb v24 fun b_2 => br b_2
     (retR R (.tup []) st)
     (X [] st)) (panR R))
    (qb (q_load st false 1 a1) fun v20 =>
    e_store st 1 a1 (.str []) fun st =>
    e_call prog st a0 [v20] (fun v23_1 st =>
    qb (q_un .not v23_1) fun v24_1 =>
    cb v24_1 fun b_3 => br b_3
     (retR R (.tup []) st)
     (X [] st)) (panR R))) (panR R))
   (retR R (.tup []) st))
  [] st
theorem c_strings_Lines_1 {a0 a1 : PV} {st : St} {R : Res → St → Prop} (h : b_strings_Lines_1 a0 a1 st R) : HCalls prog n_strings_Lines_1 [a0, a1] st R :=
 hcalls_of_func tyOK mixed (fn := Go.Proofs.Tryz.f157) (by kernel_rfl) (by kernel_rfl) (by kernel_rfl) (ann := [(0, [])])
  (show hFunc prog TT [(0, [])] Go.Proofs.Tryz.f157 [a0, a1] st R from (show hFunc prog TT [(0, [])] Go.Proofs.Tryz.f157 [a0, a1] st R = b_strings_Lines_1 a0 a1 st R by kernel_rfl) ▸ h)
theorem e_strings_IndexByte : Enters prog n_strings_IndexByte := ⟨Go.Proofs.Tryz.f158, by kernel_rfl, by kernel_rfl, by kernel_rfl⟩
def b_internal_stringslite_TrimSuffix (a0 a1 : PV) (st : St) (R : Res → St → Prop) : Prop :=
 callK prog n_internal_stringslite_HasSuffix [a0, a1] st (fun v7 st =>
 cb v7 fun b => br b
  (qb (q_lenS a0) fun v10 =>
  qb (q_lenS a1) fun v12 =>
  qb (q_bin .sub v10 v12) fun v13 =>
  qb (q_sliceS a0 none (some v13) none) fun v14 =>
  retR R v14 st)
  (retR R a0 st)) (panR R)
theorem c_internal_stringslite_TrimSuffix {a0 a1 : PV} {st : St} {R : Res → St → Prop} (h : b_internal_stringslite_TrimSuffix a0 a1 st R) : HCalls prog n_internal_stringslite_TrimSuffix [a0, a1] st R :=
 hcalls_of_func tyOK mixed (fn := Go.Proofs.Tryz.f159) (by kernel_rfl) (by kernel_rfl) (by kernel_rfl) (ann := [])
  (show hFunc prog TT [] Go.Proofs.Tryz.f159 [a0, a1] st R from (show hFunc prog TT [] Go.Proofs.Tryz.f159 [a0, a1] st R = b_internal_stringslite_TrimSuffix a0 a1 st R by kernel_rfl) ▸ h)
def b_impl_blankEnd (a0 a1 : PV) (st : St) (R : Res → St → Prop) : Prop :=
 hFix (fun ls st X =>
  qb (q_lenS a0) fun v7 =>
  qb (q_bin .lss (ls.getD 0 .junk) v7) fun v8 =>
  cb v8 fun b => br b
   (qb (q_ix a0 (ls.getD 0 .junk)) fun v12 =>
   callK prog n_strings_IndexByte [(.str [32, 9, 13]), v12] st (fun v13 st =>
   qb (q_bin .geq v13 (.int .i64 0)) fun v14 =>
   cb v14 fun b_1 => br b_1
    (qb (q_bin .add (ls.getD 0 .junk) (.int .i64 1)) fun v17 =>
    X [v17] st)
    (retR R (ls.getD 0 .junk) st)) (panR R))
   (retR R (ls.getD 0 .junk) st))
  [a1] st
theorem c_impl_blankEnd {a0 a1 : PV} {st : St} {R : Res → St → Prop} (h : b_impl_blankEnd a0 a1 st R) : HCalls prog n_impl_blankEnd [a0, a1] st R :=
 hcalls_of_func tyOK mixed (fn := Go.Proofs.Tryz.f160) (by kernel_rfl) (by kernel_rfl) (by kernel_rfl) (ann := [(4, [1])])
  (show hFunc prog TT [(4, [1])] Go.Proofs.Tryz.f160 [a0, a1] st R from (show hFunc prog TT [(4, [1])] Go.Proofs.Tryz.f160 [a0, a1] st R = b_impl_blankEnd a0 a1 st R by kernel_rfl) ▸ h)
def b_impl_readDecl (a0 : PV) (st : St) (R : Res → St → Prop) : Prop :=
 e_alloc st [.str [], .bool false, .int .i64 0, .int .i64 0, .str [], .sl 0 true []] fun v2 st =>
 callK prog n_impl_blankEnd [a0, (.int .i64 0)] st (fun v10 st =>
 hJ (fun ls st =>
  qb (q_sliceS a0 (some v10) (some (ls.getD 0 .junk)) none) fun v28 =>
  callK prog n_impl_NameOK [v28] st (fun v29 st =>
  qb (q_un .not v29) fun v30 =>
  hJ (fun ls_1 st =>
   callK prog n_impl_blankEnd [a0, (ls.getD 0 .junk)] st (fun v35 st =>
   hJ (fun ls_2 st =>
    cb (ls_2.getD 0 .junk) fun b_1 => br b_1
     (callK prog n_impl_stop [(.int .i64 4), v35] st (fun v47 st =>
     qb (q_bin .add v35 (.int .i64 1)) fun v51 =>
     qb (q_sliceS a0 (some v51) none none) fun v52 =>
     callK prog n_impl_ParseFamily [v52, (.int .i64 0)] st (fun v53 st =>
     qb (q_ex v53 0) fun v54 =>
     qb (q_ex v53 1) fun v55 =>
     qb (q_ex v53 2) fun v56 =>
     e_alloc st [.int .i64 0, .int .i64 0, .str [], .sl 0 true []] fun v6 st =>
     e_store st 4 v6 v54 fun st =>
     qb (q_bin .neq v55 (.int .i64 0)) fun v58 =>
     hJ (fun ls_3 st =>
      qb (q_sliceS a0 (some v10) (some (ls.getD 0 .junk)) none) fun v75 =>
      qb (q_load st true 4 v6) fun v76 =>
      qb (q_load st true 4 v6) fun v78 =>
      callK prog n_impl_isKind [v76] st (fun v77 st =>
      q_load st true 4 v6 = some v78 ∧ (qb (q_struct [.str [], .bool false, .int .i64 0, .int .i64 0, .str [], .sl 0 true []] [(0, 1, v75), (1, 1, v77), (2, 4, v78)]) fun v79 =>
      e_store st 6 v2 v79 fun st =>
      qb (q_load st true 6 v2) fun r => retR R r st)) (panR R))
      (fun k_3 =>
     cb v58 fun b_2 => br b_2
      (qb (q_bin .neq v55 (.int .i64 11)) fun v60 =>
      cb v60 fun b_3 => br b_3
       (qb (q_bin .add v35 (.int .i64 1)) fun v67 =>
       qb (q_bin .add v56 v67) fun v68 =>
       callK prog n_impl_stop [v55, v68] st (fun v71 st =>
       k_3 [] st) (panR R))
       (qb (q_bin .gtr v56 (.int .i64 0)) fun v63 =>
       cb v63 fun b_4 => br b_4
        (qb (q_bin .add v35 (.int .i64 1)) fun v67_1 =>
        qb (q_bin .add v56 v67_1) fun v68_1 =>
        callK prog n_impl_stop [v55, v68_1] st (fun v71_1 st =>
        k_3 [] st) (panR R))
        (callK prog n_impl_stop [v55, v56] st (fun v71_2 st =>
        k_3 [] st) (panR R))))
      (k_3 [] st))) (panR R)) (panR R))
     (qb (q_bin .add v35 (.int .i64 1)) fun v51_1 =>
     qb (q_sliceS a0 (some v51_1) none none) fun v52_1 =>
     callK prog n_impl_ParseFamily [v52_1, (.int .i64 0)] st (fun v53_1 st =>
     qb (q_ex v53_1 0) fun v54_1 =>
     qb (q_ex v53_1 1) fun v55_1 =>
     qb (q_ex v53_1 2) fun v56_1 =>
     e_alloc st [.int .i64 0, .int .i64 0, .str [], .sl 0 true []] fun v6_1 st =>
     e_store st 4 v6_1 v54_1 fun st =>
     qb (q_bin .neq v55_1 (.int .i64 0)) fun v58_1 =>
     hJ (fun ls_4 st =>
      qb (q_sliceS a0 (some v10) (some (ls.getD 0 .junk)) none) fun v75_1 =>
      qb (q_load st true 4 v6_1) fun v76_1 =>
      qb (q_load st true 4 v6_1) fun v78_1 =>
      callK prog n_impl_isKind [v76_1] st (fun v77_1 st =>
      q_load st true 4 v6_1 = some v78_1 ∧ (qb (q_struct [.str [], .bool false, .int .i64 0, .int .i64 0, .str [], .sl 0 true []] [(0, 1, v75_1), (1, 1, v77_1), (2, 4, v78_1)]) fun v79_1 =>
      e_store st 6 v2 v79_1 fun st =>
      qb (q_load st true 6 v2) fun r_1 => retR R r_1 st)) (panR R))
      (fun k_4 =>
     cb v58_1 fun b_5 => br b_5
      (qb (q_bin .neq v55_1 (.int .i64 11)) fun v60_1 =>
      cb v60_1 fun b_6 => br b_6
       (qb (q_bin .add v35 (.int .i64 1)) fun v67_2 =>
       qb (q_bin .add v56_1 v67_2) fun v68_2 =>
       callK prog n_impl_stop [v55_1, v68_2] st (fun v71_3 st =>
       k_4 [] st) (panR R))
       (qb (q_bin .gtr v56_1 (.int .i64 0)) fun v63_1 =>
       cb v63_1 fun b_7 => br b_7
        (qb (q_bin .add v35 (.int .i64 1)) fun v67_3 =>
        qb (q_bin .add v56_1 v67_3) fun v68_3 =>
        callK prog n_impl_stop [v55_1, v68_3] st (fun v71_4 st =>
        k_4 [] st) (panR R))
        (callK prog n_impl_stop [v55_1, v56_1] st (fun v71_5 st =>
        k_4 [] st) (panR R))))
      (k_4 [] st))) (panR R)))
    (fun k_2 =>
   qb (q_lenS a0) fun v38 =>
   qb (q_bin .eql v35 v38) fun v39 =>
   cb v39 fun b_8 => br b_8
    (k_2 [(.bool true)] st)
    (qb (q_ix a0 v35) fun v43 =>
    qb (q_bin .neq v43 (.int .u8 58)) fun v44 =>
    k_2 [v44] st))) (panR R))
   (fun k_1 =>
  cb v30 fun b => br b
   (callK prog n_impl_stop [(.int .i64 4), v10] st (fun v32 st =>
   k_1 [] st) (panR R))
   (k_1 [] st))) (panR R))
  (fun k =>
 hFix (fun ls_5 st X =>
  qb (q_lenS a0) fun v14 =>
  qb (q_bin .lss (ls_5.getD 0 .junk) v14) fun v15 =>
  cb v15 fun b_9 => br b_9
   (qb (q_ix a0 (ls_5.getD 0 .junk)) fun v19 =>
   callK prog n_strings_IndexByte [(.str [97, 98, 99, 100, 101, 102, 103, 104, 105, 106, 107, 108, 109, 110, 111, 112, 113, 114, 115, 116, 117, 118, 119, 120, 121, 122, 65, 66, 67, 68, 69, 70, 71, 72, 73, 74, 75, 76, 77, 78, 79, 80, 81, 82, 83, 84, 85, 86, 87, 88, 89, 90, 95, 48, 49, 50, 51, 52, 53, 54, 55, 56, 57]), v19] st (fun v20 st =>
   qb (q_bin .geq v20 (.int .i64 0)) fun v21 =>
   cb v21 fun b_10 => br b_10
    (qb (q_bin .add (ls_5.getD 0 .junk) (.int .i64 1)) fun v24 =>
    X [v24] st)
    (k [(ls_5.getD 0 .junk)] st)) (panR R))
   (k [(ls_5.getD 0 .junk)] st))
  [v10] st)) (panR R)
theorem c_impl_readDecl {a0 : PV} {st : St} {R : Res → St → Prop} (h : b_impl_readDecl a0 st R) : HCalls prog n_impl_readDecl [a0] st R :=
 hcalls_of_func tyOK mixed (fn := Go.Proofs.Tryz.f161) (by kernel_rfl) (by kernel_rfl) (by kernel_rfl) (ann := [(12, [4]), (3, [4]), (26, []), (33, [45]), (50, [])])
  (show hFunc prog TT [(12, [4]), (3, [4]), (26, []), (33, [45]), (50, [])] Go.Proofs.Tryz.f161 [a0] st R from (show hFunc prog TT [(12, [4]), (3, [4]), (26, []), (33, [45]), (50, [])] Go.Proofs.Tryz.f161 [a0] st R = b_impl_readDecl a0 st R by kernel_rfl) ▸ h)
def b_impl_addFault (a0 a1 : PV) (st : St) (R : Res → St → Prop) : Prop :=
 e_box st a1 fun v3 st =>
 e_alloc st [.int .i64 0, .int .i64 0] fun v4 st =>
 qb (q_load st true 6 v3) fun v7 =>
 callK prog n_impl_declForm [v7] st (fun v8 st =>
 qb (q_un .not v8) fun v9 =>
 cb v9 fun b => br b
  (qb (q_struct [.int .i64 0, .int .i64 0] [(0, 1, (.int .i64 1))]) fun v10 =>
  e_store st 2 v4 v10 fun st =>
  qb (q_load st true 2 v4) fun r => retR R r st)
  (qb (q_fa 0 v3) fun v13 =>
  qb (q_load st false 1 v13) fun v14 =>
  callK prog n_impl_has [a0, v14] st (fun v15 st =>
  cb v15 fun b_1 => br b_1
   (qb (q_struct [.int .i64 0, .int .i64 0] [(0, 1, (.int .i64 6))]) fun v16 =>
   e_store st 2 v4 v16 fun st =>
   qb (q_load st true 2 v4) fun r_1 => retR R r_1 st)
   (qb (q_load st true 6 v3) fun v18 =>
   callK prog n_impl_declFault [a0, v18] st (fun v19 st =>
   e_alloc st [.int .i64 0, .int .i64 0] fun v5 st =>
   e_store st 2 v5 v19 fun st =>
   qb (q_fa 0 v5) fun v20 =>
   qb (q_load st false 1 v20) fun v21 =>
   qb (q_bin .neq v21 (.int .i64 0)) fun v22 =>
   cb v22 fun b_2 => br b_2
    (qb (q_load st true 2 v5) fun v23 =>
    e_store st 2 v4 v23 fun st =>
    qb (q_load st true 2 v4) fun r_2 => retR R r_2 st)
    (qb (q_len a0) fun v25 =>
    qb (q_bin .geq v25 (.int .i64 40)) fun v26 =>
    cb v26 fun b_3 => br b_3
     (qb (q_struct [.int .i64 0, .int .i64 0] [(0, 1, (.int .i64 17))]) fun v27 =>
     e_store st 2 v4 v27 fun st =>
     qb (q_load st true 2 v4) fun r_3 => retR R r_3 st)
     (qb (q_struct [.int .i64 0, .int .i64 0] []) fun v28 =>
     e_store st 2 v4 v28 fun st =>
     qb (q_load st true 2 v4) fun r_4 => retR R r_4 st))) (panR R))) (panR R))) (panR R)
theorem c_impl_addFault {a0 a1 : PV} {st : St} {R : Res → St → Prop} (h : b_impl_addFault a0 a1 st R) : HCalls prog n_impl_addFault [a0, a1] st R :=
 hcalls_of_func tyOK mixed (fn := Go.Proofs.Tryz.f162) (by kernel_rfl) (by kernel_rfl) (by kernel_rfl) (ann := [])
  (show hFunc prog TT [] Go.Proofs.Tryz.f162 [a0, a1] st R from (show hFunc prog TT [] Go.Proofs.Tryz.f162 [a0, a1] st R = b_impl_addFault a0 a1 st R by kernel_rfl) ▸ h)
def b_slices_ContainsFunc_impl_Decl_impl_Decl (a0 a1 : PV) (st : St) (R : Res → St → Prop) : Prop :=
 callK prog n_slices_IndexFunc_impl_Decl_impl_Decl [a0, a1] st (fun v7 st =>
 qb (q_bin .geq v7 (.int .i64 0)) fun v8 =>
 retR R v8 st) (panR R)
theorem c_slices_ContainsFunc_impl_Decl_impl_Decl {a0 a1 : PV} {st : St} {R : Res → St → Prop} (h : b_slices_ContainsFunc_impl_Decl_impl_Decl a0 a1 st R) : HCalls prog n_slices_ContainsFunc_impl_Decl_impl_Decl [a0, a1] st R :=
 hcalls_of_func tyOK mixed (fn := Go.Proofs.Tryz.f163) (by kernel_rfl) (by kernel_rfl) (by kernel_rfl) (ann := [])
  (show hFunc prog TT [] Go.Proofs.Tryz.f163 [a0, a1] st R from (show hFunc prog TT [] Go.Proofs.Tryz.f163 [a0, a1] st R = b_slices_ContainsFunc_impl_Decl_impl_Decl a0 a1 st R by kernel_rfl) ▸ h)
end Go.H.Tryz
