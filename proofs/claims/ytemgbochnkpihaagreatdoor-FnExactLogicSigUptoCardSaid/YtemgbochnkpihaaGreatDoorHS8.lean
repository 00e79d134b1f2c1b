/- Part of a proof that the program answers as the reference does: FS8. -/
import Derived.Test.YtemgbochnkpihaaGreatDoorHT
/- MADE BY PROGRAM (hgen.py): what the functions compute, over pure values. -/
set_option linter.unusedVariables false
set_option maxRecDepth 100000
namespace Go.H.Tryz
open Go Go.H
def b_impl_parser_end_1 (a0 a1 : PV) (st : St) (R : Res → St → Prop) : Prop :=
 qb (q_nil a0) fun v6 =>
 qb (q_fa 0 v6) fun v7 =>
 qb (q_load st false 1 v7) fun v8 =>
 qb (q_bin .eql v8 (.int .i64 5)) fun v9 =>
 cb v9 fun b => br b
  (qb (q_nil a0) fun v12 =>
  qb (q_fa 1 v12) fun v13 =>
  qb (q_load st false 1 v13) fun v14 =>
  qb (q_bin .gtr v14 (.int .i64 100)) fun v15 =>
  retR R v15 st)
  (retR R (.bool false) st)
theorem c_impl_parser_end_1 {a0 a1 : PV} {st : St} {R : Res → St → Prop} (h : b_impl_parser_end_1 a0 a1 st R) : HCalls prog n_impl_parser_end_1 [a0, a1] st R :=
 hcalls_of_func tyOK mixed (fn := Go.Proofs.Tryz.f171) (by kernel_rfl) (by kernel_rfl) (by kernel_rfl) (ann := [])
  (show hFunc prog TT [] Go.Proofs.Tryz.f171 [a0, a1] st R from (show hFunc prog TT [] Go.Proofs.Tryz.f171 [a0, a1] st R = b_impl_parser_end_1 a0 a1 st R by kernel_rfl) ▸ h)
def b_impl_cloneAll (a0 : PV) (st : St) (R : Res → St → Prop) : Prop :=
 qb (q_lit 4 0 0 [] []) fun v6 =>
 qb (q_len a0) fun v8 =>
 hFix (fun ls st X =>
  qb (q_bin .lss (ls.getD 1 .junk) v8) fun v10 =>
  cb v10 fun b => br b
   (qb (q_ia 4 a0 (ls.getD 1 .junk)) fun v11 =>
   qb (q_load st true 4 v11) fun v12 =>
   e_alloc st [.int .i64 0, .int .i64 0, .str [], .sl 0 true []] fun v5 st =>
   e_store st 4 v5 v12 fun st =>
   qb (q_load st true 4 v5) fun v14 =>
   callK prog n_impl_clone [v14] st (fun v15 st =>
   qb (q_lit 4 1 0 [] [(0, v15)]) fun v16 =>
   e_append st 4 56 (ls.getD 0 .junk) v16 (fun v17 st =>
   qb (q_bin .add (ls.getD 1 .junk) (.int .i64 1)) fun v18 =>
   X [v17, v18] st)) (panR R))
   (retR R (ls.getD 0 .junk) st))
  [v6, (.int .i64 0)] st
theorem c_impl_cloneAll {a0 : PV} {st : St} {R : Res → St → Prop} (h : b_impl_cloneAll a0 st R) : HCalls prog n_impl_cloneAll [a0] st R :=
 hcalls_of_func tyOK mixed (fn := Go.Proofs.Tryz.f172) (by kernel_rfl) (by kernel_rfl) (by kernel_rfl) (ann := [(12, [3, 9])])
  (show hFunc prog TT [(12, [3, 9])] Go.Proofs.Tryz.f172 [a0] st R from (show hFunc prog TT [(12, [3, 9])] Go.Proofs.Tryz.f172 [a0] st R = b_impl_cloneAll a0 st R by kernel_rfl) ▸ h)
def b_impl_isHead (a0 : PV) (st : St) (R : Res → St → Prop) : Prop :=
 callK prog n_strings_IndexByte [(.str [97, 98, 99, 100, 101, 102, 103, 104, 105, 106, 107, 108, 109, 110, 111, 112, 113, 114, 115, 116, 117, 118, 119, 120, 121, 122, 65, 66, 67, 68, 69, 70, 71, 72, 73, 74, 75, 76, 77, 78, 79, 80, 81, 82, 83, 84, 85, 86, 87, 88, 89, 90, 95]), a0] st (fun v4 st =>
 qb (q_bin .geq v4 (.int .i64 0)) fun v5 =>
 retR R v5 st) (panR R)
theorem c_impl_isHead {a0 : PV} {st : St} {R : Res → St → Prop} (h : b_impl_isHead a0 st R) : HCalls prog n_impl_isHead [a0] st R :=
 hcalls_of_func tyOK mixed (fn := Go.Proofs.Tryz.f173) (by kernel_rfl) (by kernel_rfl) (by kernel_rfl) (ann := [])
  (show hFunc prog TT [] Go.Proofs.Tryz.f173 [a0] st R from (show hFunc prog TT [] Go.Proofs.Tryz.f173 [a0] st R = b_impl_isHead a0 st R by kernel_rfl) ▸ h)
def b_impl_parser_run (a0 a1 : PV) (st : St) (R : Res → St → Prop) : Prop :=
 qb (q_nil a0) fun v7 =>
 qb (q_fa 1 v7) fun v8 =>
 qb (q_load st false 1 v8) fun v9 =>
 hJ (fun ls st =>
  qb (q_nil a0) fun v42 =>
  qb (q_fa 0 v42) fun v43 =>
  qb (q_load st false 1 v43) fun v44 =>
  qb (q_nil a0) fun v47 =>
  qb (q_fa 1 v47) fun v48 =>
  qb (q_load st false 1 v48) fun v49 =>
  qb (q_sliceS v44 (some v9) (some v49) none) fun v50 =>
  retR R v50 st)
  (fun k =>
 hFix (fun ls_1 st X =>
  hJ (fun ls_2 st =>
   cb (ls_2.getD 0 .junk) fun b => br b
    (qb (q_nil a0) fun v35 =>
    qb (q_fa 1 v35) fun v36 =>
    qb (q_load st false 1 v36) fun v37 =>
    qb (q_bin .add v37 (.int .i64 1)) fun v38 =>
    qb (q_nil a0) fun v39 =>
    qb (q_fa 1 v39) fun v40 =>
    e_store st 1 v40 v38 fun st =>
    X [] st)
    (k [] st))
   (fun k_1 =>
  qb (q_nil a0) fun v11 =>
  qb (q_fa 1 v11) fun v12 =>
  qb (q_load st false 1 v12) fun v13 =>
  qb (q_nil a0) fun v15 =>
  qb (q_fa 0 v15) fun v16 =>
  qb (q_load st false 1 v16) fun v17 =>
  qb (q_lenS v17) fun v18 =>
  qb (q_bin .lss v13 v18) fun v19 =>
  cb v19 fun b_1 => br b_1
   (qb (q_nil a0) fun v23 =>
   qb (q_fa 0 v23) fun v24 =>
   qb (q_load st false 1 v24) fun v25 =>
   qb (q_nil a0) fun v27 =>
   qb (q_fa 1 v27) fun v28 =>
   qb (q_load st false 1 v28) fun v29 =>
   qb (q_ix v25 v29) fun v30 =>
   callK prog n_strings_IndexByte [a1, v30] st (fun v31 st =>
   qb (q_bin .geq v31 (.int .i64 0)) fun v32 =>
   k_1 [v32] st) (panR R))
   (k_1 [(.bool false)] st)))
  [] st)
theorem c_impl_parser_run {a0 a1 : PV} {st : St} {R : Res → St → Prop} (h : b_impl_parser_run a0 a1 st R) : HCalls prog n_impl_parser_run [a0, a1] st R :=
 hcalls_of_func tyOK mixed (fn := Go.Proofs.Tryz.f174) (by kernel_rfl) (by kernel_rfl) (by kernel_rfl) (ann := [(8, []), (3, []), (9, [33])])
  (show hFunc prog TT [(8, []), (3, []), (9, [33])] Go.Proofs.Tryz.f174 [a0, a1] st R from (show hFunc prog TT [(8, []), (3, []), (9, [33])] Go.Proofs.Tryz.f174 [a0, a1] st R = b_impl_parser_run a0 a1 st R by kernel_rfl) ▸ h)
def b_impl_wordOK (a0 : PV) (st : St) (R : Res → St → Prop) : Prop :=
 qb (q_lenS a0) fun v4 =>
 callK prog n_impl_in [v4, (.int .i64 1), (.int .i64 40)] st (fun v5 st =>
 cb v5 fun b => br b
  (qb (q_ix a0 (.int .i64 0)) fun v8 =>
  callK prog n_impl_isHead [v8] st (fun v9 st =>
  cb v9 fun b_1 => br b_1
   (callK prog n_impl_over [a0, (.str [97, 98, 99, 100, 101, 102, 103, 104, 105, 106, 107, 108, 109, 110, 111, 112, 113, 114, 115, 116, 117, 118, 119, 120, 121, 122, 65, 66, 67, 68, 69, 70, 71, 72, 73, 74, 75, 76, 77, 78, 79, 80, 81, 82, 83, 84, 85, 86, 87, 88, 89, 90, 95, 48, 49, 50, 51, 52, 53, 54, 55, 56, 57])] st (fun v13 st =>
   retR R v13 st) (panR R))
   (retR R (.bool false) st)) (panR R))
  (retR R (.bool false) st)) (panR R)
theorem c_impl_wordOK {a0 : PV} {st : St} {R : Res → St → Prop} (h : b_impl_wordOK a0 st R) : HCalls prog n_impl_wordOK [a0] st R :=
 hcalls_of_func tyOK mixed (fn := Go.Proofs.Tryz.f175) (by kernel_rfl) (by kernel_rfl) (by kernel_rfl) (ann := [])
  (show hFunc prog TT [] Go.Proofs.Tryz.f175 [a0] st R from (show hFunc prog TT [] Go.Proofs.Tryz.f175 [a0] st R = b_impl_wordOK a0 st R by kernel_rfl) ▸ h)
def b_impl_parser_bound (a0 a1 : PV) (st : St) (R : Res → St → Prop) : Prop :=
 e_box st a0 fun v2 st =>
 e_box st a1 fun v3 st =>
 e_alloc st [.int .i64 0] fun v4 st =>
 qb (q_load st false 1 v2) fun v7 =>
 qb (q_nil v7) fun v8 =>
 qb (q_fa 2 v8) fun v9 =>
 qb (q_load st false 1 v9) fun v10 =>
 callK prog n_slices_Backward_string_string [v10] st (fun v11 st =>
 hRange prog v11 st (fun ar st B X => if ar.length = 2 then
  B st fun st =>
  qb (q_load st false 1 v3) fun v15 =>
  qb (q_bin .eql (ar.getD 1 .junk) v15) fun v16 =>
  cb v16 fun b => br b
   (qb (q_load st false 1 v2) fun v17 =>
   qb (q_nil v17) fun v18 =>
   qb (q_fa 2 v18) fun v19 =>
   qb (q_load st false 1 v19) fun v20 =>
   qb (q_len v20) fun v21 =>
   qb (q_bin .sub v21 (.int .i64 1)) fun v22 =>
   qb (q_bin .sub v22 (ar.getD 0 .junk)) fun v24 =>
   e_store st 1 v4 v24 fun st =>
   X .ret st)
   (X .normal st)
  else False)
  (fun st =>
  e_store st 1 v4 (.int .i64 (-1)) fun st =>
  qb (q_load st false 1 v4) fun r => retR R r st)
  [(.ret, fun st =>
  qb (q_load st false 1 v4) fun r_1 => retR R r_1 st)]) (panR R)
theorem c_impl_parser_bound {a0 a1 : PV} {st : St} {R : Res → St → Prop} (h : b_impl_parser_bound a0 a1 st R) : HCalls prog n_impl_parser_bound [a0, a1] st R :=
 hcalls_of_func tyOK mixed (fn := Go.Proofs.Tryz.f177) (by kernel_rfl) (by kernel_rfl) (by kernel_rfl) (ann := [])
  (show hFunc prog TT [] Go.Proofs.Tryz.f177 [a0, a1] st R from (show hFunc prog TT [] Go.Proofs.Tryz.f177 [a0, a1] st R = b_impl_parser_bound a0 a1 st R by kernel_rfl) ▸ h)
def b_impl_variable (a0 a1 : PV) (st : St) (R : Res → St → Prop) : Prop :=
 e_alloc st [.int .i64 0, .int .i64 0, .str [], .sl 0 true []] fun v4 st =>
 qb (q_struct [.int .i64 0, .int .i64 0, .str [], .sl 0 true []] [(0, 1, (.int .i64 5)), (1, 1, a0), (3, 1, a1)]) fun v7 =>
 e_store st 4 v4 v7 fun st =>
 qb (q_load st true 4 v4) fun r => retR R r st
theorem c_impl_variable {a0 a1 : PV} {st : St} {R : Res → St → Prop} (h : b_impl_variable a0 a1 st R) : HCalls prog n_impl_variable [a0, a1] st R :=
 hcalls_of_func tyOK mixed (fn := Go.Proofs.Tryz.f178) (by kernel_rfl) (by kernel_rfl) (by kernel_rfl) (ann := [])
  (show hFunc prog TT [] Go.Proofs.Tryz.f178 [a0, a1] st R from (show hFunc prog TT [] Go.Proofs.Tryz.f178 [a0, a1] st R = b_impl_variable a0 a1 st R by kernel_rfl) ▸ h)
def b_impl_constant (a0 a1 : PV) (st : St) (R : Res → St → Prop) : Prop :=
 e_alloc st [.int .i64 0, .int .i64 0, .str [], .sl 0 true []] fun v4 st =>
 qb (q_struct [.int .i64 0, .int .i64 0, .str [], .sl 0 true []] [(0, 1, (.int .i64 6)), (2, 1, a0), (3, 1, a1)]) fun v7 =>
 e_store st 4 v4 v7 fun st =>
 qb (q_load st true 4 v4) fun r => retR R r st
theorem c_impl_constant {a0 a1 : PV} {st : St} {R : Res → St → Prop} (h : b_impl_constant a0 a1 st R) : HCalls prog n_impl_constant [a0, a1] st R :=
 hcalls_of_func tyOK mixed (fn := Go.Proofs.Tryz.f179) (by kernel_rfl) (by kernel_rfl) (by kernel_rfl) (ann := [])
  (show hFunc prog TT [] Go.Proofs.Tryz.f179 [a0, a1] st R from (show hFunc prog TT [] Go.Proofs.Tryz.f179 [a0, a1] st R = b_impl_constant a0 a1 st R by kernel_rfl) ▸ h)
def b_impl_parser_argument (a0 : PV) (st : St) (R : Res → St → Prop) : Prop :=
 e_alloc st [.int .i64 0, .int .i64 0, .str [], .sl 0 true []] fun v2 st =>
 qb (q_nil a0) fun v5 =>
 qb (q_fa 1 v5) fun v6 =>
 qb (q_load st false 1 v6) fun v7 =>
 hJ (fun ls st =>
  cb (ls.getD 0 .junk) fun b => br b
   (callK prog n_impl_parser_node [a0, v7] st (fun v19 st =>
   qb (q_struct [.int .i64 0, .int .i64 0, .str [], .sl 0 true []] [(0, 1, (.int .i64 8))]) fun v20 =>
   e_store st 4 v2 v20 fun st =>
   qb (q_load st true 4 v2) fun r => retR R r st) (panR R))
   (qb (q_nil a0) fun v23 =>
   qb (q_fa 1 v23) fun v24 =>
   e_store st 1 v24 v7 fun st =>
   callK prog n_impl_parser_head [a0] st (fun v26 st =>
   e_store st 4 v2 v26 fun st =>
   qb (q_load st true 4 v2) fun r_1 => retR R r_1 st) (panR R)))
  (fun k =>
 qb (q_nil a0) fun v9 =>
 qb (q_fa 4 v9) fun v10 =>
 qb (q_load st false 1 v10) fun v11 =>
 cb v11 fun b_1 => br b_1
  (callK prog n_impl_parser_run [a0, (.str [97, 98, 99, 100, 101, 102, 103, 104, 105, 106, 107, 108, 109, 110, 111, 112, 113, 114, 115, 116, 117, 118, 119, 120, 121, 122, 65, 66, 67, 68, 69, 70, 71, 72, 73, 74, 75, 76, 77, 78, 79, 80, 81, 82, 83, 84, 85, 86, 87, 88, 89, 90, 95, 48, 49, 50, 51, 52, 53, 54, 55, 56, 57])] st (fun v14 st =>
  qb (q_bin .eql v14 (.str [95])) fun v15 =>
  k [v15] st) (panR R))
  (k [(.bool false)] st))
theorem c_impl_parser_argument {a0 : PV} {st : St} {R : Res → St → Prop} (h : b_impl_parser_argument a0 st R) : HCalls prog n_impl_parser_argument [a0] st R :=
 hcalls_of_func tyOK mixed (fn := Go.Proofs.Tryz.f180) (by kernel_rfl) (by kernel_rfl) (by kernel_rfl) (ann := [(9, [16])])
  (show hFunc prog TT [(9, [16])] Go.Proofs.Tryz.f180 [a0] st R from (show hFunc prog TT [(9, [16])] Go.Proofs.Tryz.f180 [a0] st R = b_impl_parser_argument a0 st R by kernel_rfl) ▸ h)
end Go.H.Tryz
