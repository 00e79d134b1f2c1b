/- Part of a proof that the program answers as the reference does: EFS8. -/
import Derived.Test.YtlhiejikjncgpaaGreatDoorHT
/- MADE BY PROGRAM (hgen.py): what the functions compute, over pure values. -/
set_option linter.unusedVariables false
set_option maxRecDepth 100000
namespace Go.H.Tryz
open Go Go.H
def b_slices_ContainsFunc_impl_Tree_impl_Tree (a0 a1 : PV) (st : St) (R : Res → St → Prop) : Prop :=
 callK prog n_slices_IndexFunc_impl_Tree_impl_Tree [a0, a1] st (fun v7 st =>
 qb (q_bin .geq v7 (.int .i64 0)) fun v8 =>
 retR R v8 st) (panR R)
theorem c_slices_ContainsFunc_impl_Tree_impl_Tree {a0 a1 : PV} {st : St} {R : Res → St → Prop} (h : b_slices_ContainsFunc_impl_Tree_impl_Tree a0 a1 st R) : HCalls prog n_slices_ContainsFunc_impl_Tree_impl_Tree [a0, a1] st R :=
 hcalls_of_func tyOK mixed (fn := Go.Proofs.Tryz.f163) (by kernel_rfl) (by kernel_rfl) (by kernel_rfl) (ann := [])
  (show hFunc prog TT [] Go.Proofs.Tryz.f163 [a0, a1] st R from (show hFunc prog TT [] Go.Proofs.Tryz.f163 [a0, a1] st R = b_slices_ContainsFunc_impl_Tree_impl_Tree a0 a1 st R by kernel_rfl) ▸ h)
def b_impl_tells_1 (a0 a1 : PV) (st : St) (R : Res → St → Prop) : Prop :=
 e_box st a0 fun v2 st =>
 qb (q_load st true 4 v2) fun v4 =>
 qb (q_load st true 4 a1) fun v5 =>
 callK prog n_impl_same [v4, v5] st (fun v6 st =>
 cb v6 fun b => br b
  (retR R (.bool true) st)
  (qb (q_fa 0 v2) fun v8 =>
  qb (q_load st false 1 v8) fun v9 =>
  qb (q_bin .eql v9 (.int .i64 6)) fun v10 =>
  cb v10 fun b_1 => br b_1
   (qb (q_fa 3 v2) fun v12 =>
   qb (q_load st false 1 v12) fun v13 =>
   qb (q_load st true 4 a1) fun v14 =>
   callK prog n_impl_tells [v13, v14] st (fun v15 st =>
   retR R v15 st) (panR R))
   (retR R (.bool false) st))) (panR R)
theorem c_impl_tells_1 {a0 a1 : PV} {st : St} {R : Res → St → Prop} (h : b_impl_tells_1 a0 a1 st R) : HCalls prog n_impl_tells_1 [a0, a1] st R :=
 hcalls_of_func tyOK mixed (fn := Go.Proofs.Tryz.f164) (by kernel_rfl) (by kernel_rfl) (by kernel_rfl) (ann := [])
  (show hFunc prog TT [] Go.Proofs.Tryz.f164 [a0, a1] st R from (show hFunc prog TT [] Go.Proofs.Tryz.f164 [a0, a1] st R = b_impl_tells_1 a0 a1 st R by kernel_rfl) ▸ h)
def b_impl_takes (a0 : PV) (st : St) (R : Res → St → Prop) : Prop :=
 e_box st a0 fun v1 st =>
 e_alloc st [.int .i64 0, .int .i64 0, .str [], .sl 0 true []] fun v3 st =>
 qb (q_lit 4 0 0 [] []) fun v5 =>
 hFix (fun ls st X =>
  qb (q_fa 0 v1) fun v6 =>
  qb (q_load st false 1 v6) fun v7 =>
  qb (q_bin .eql v7 (.int .i64 10)) fun v8 =>
  cb v8 fun b => br b
   (qb (q_fa 3 v1) fun v10 =>
   qb (q_load st false 1 v10) fun v11 =>
   qb (q_ia 4 v11 (.int .i64 0)) fun v12 =>
   qb (q_load st true 4 v12) fun v13 =>
   qb (q_lit 4 1 0 [] [(0, v13)]) fun v14 =>
   qb (q_fa 3 v1) fun v16 =>
   qb (q_load st false 1 v16) fun v17 =>
   qb (q_ia 4 v17 (.int .i64 1)) fun v18 =>
   qb (q_load st true 4 v18) fun v19 =>
   e_append st 4 56 (ls.getD 0 .junk) v14 (fun v15 st =>
   q_load st true 4 v18 = some v19 ∧ q_load st false 1 v16 = some v17 ∧ (e_store st 4 v1 v19 fun st =>
   X [v15] st)))
   (qb (q_load st true 4 v1) fun v21 =>
   e_store st 4 v3 v21 fun st =>
   qb (q_load st true 4 v3) fun r => retR R (.tup [(ls.getD 0 .junk), r]) st))
  [v5] st
theorem c_impl_takes {a0 : PV} {st : St} {R : Res → St → Prop} (h : b_impl_takes a0 st R) : HCalls prog n_impl_takes [a0] st R :=
 hcalls_of_func tyOK mixed (fn := Go.Proofs.Tryz.f165) (by kernel_rfl) (by kernel_rfl) (by kernel_rfl) (ann := [(8, [4])])
  (show hFunc prog TT [(8, [4])] Go.Proofs.Tryz.f165 [a0] st R from (show hFunc prog TT [(8, [4])] Go.Proofs.Tryz.f165 [a0] st R = b_impl_takes a0 st R by kernel_rfl) ▸ h)
def b_impl_lam (a0 : PV) (st : St) (R : Res → St → Prop) : Prop :=
 e_box st a0 fun v1 st =>
 e_alloc st [.int .i64 0, .int .i64 0, .str [], .sl 0 true []] fun v2 st =>
 qb (q_load st true 4 v1) fun v3 =>
 qb (q_lit 4 1 0 [] [(0, v3)]) fun v4 =>
 qb (q_struct [.int .i64 0, .int .i64 0, .str [], .sl 0 true []] [(0, 1, (.int .i64 4)), (3, 1, v4)]) fun v5 =>
 e_store st 4 v2 v5 fun st =>
 qb (q_load st true 4 v2) fun r => retR R r st
theorem c_impl_lam {a0 : PV} {st : St} {R : Res → St → Prop} (h : b_impl_lam a0 st R) : HCalls prog n_impl_lam [a0] st R :=
 hcalls_of_func tyOK mixed (fn := Go.Proofs.Tryz.f166) (by kernel_rfl) (by kernel_rfl) (by kernel_rfl) (ann := [])
  (show hFunc prog TT [] Go.Proofs.Tryz.f166 [a0] st R from (show hFunc prog TT [] Go.Proofs.Tryz.f166 [a0] st R = b_impl_lam a0 st R by kernel_rfl) ▸ h)
def b_spec_l07Fixed (a0 a1 a2 : PV) (st : St) (R : Res → St → Prop) : Prop :=
 e_box st a0 fun v3 st =>
 e_box st a2 fun v5 st =>
 qb (q_load st true 4 v3) fun v8 =>
 qb (q_load st true 4 v5) fun v9 =>
 callK prog n_spec_l06Var [v8, v9] st (fun v10 st =>
 qb (q_bin .eql v10 a1) fun v12 =>
 cb v12 fun b => br b
  (retR R (.bool true) st)
  (qb (q_fa 0 v3) fun v13 =>
  qb (q_load st false 1 v13) fun v14 =>
  qb (q_bin .neq v14 (.int .i64 6)) fun v15 =>
  cb v15 fun b_1 => br b_1
   (retR R (.bool false) st)
   (hFix (fun ls st X =>
    qb (q_fa 3 v3) fun v17 =>
    qb (q_load st false 1 v17) fun v18 =>
    qb (q_len v18) fun v19 =>
    qb (q_bin .lss (ls.getD 0 .junk) v19) fun v20 =>
    cb v20 fun b_2 => br b_2
     (qb (q_fa 3 v3) fun v23 =>
     qb (q_load st false 1 v23) fun v24 =>
     qb (q_ia 4 v24 (ls.getD 0 .junk)) fun v26 =>
     qb (q_load st true 4 v26) fun v27 =>
     qb (q_load st true 4 v5) fun v29 =>
     callK prog n_spec_l07Fixed [v27, a1, v29] st (fun v30 st =>
     cb v30 fun b_3 => br b_3
      (retR R (.bool true) st)
      (qb (q_bin .add (ls.getD 0 .junk) (.int .i64 1)) fun v22 =>
      X [v22] st)) (panR R))
     (retR R (.bool false) st))
    [(.int .i64 0)] st))) (panR R)
theorem c_spec_l07Fixed {a0 a1 a2 : PV} {st : St} {R : Res → St → Prop} (h : b_spec_l07Fixed a0 a1 a2 st R) : HCalls prog n_spec_l07Fixed [a0, a1, a2] st R :=
 hcalls_of_func tyOK mixed (fn := Go.Proofs.Tryz.f167) (by kernel_rfl) (by kernel_rfl) (by kernel_rfl) (ann := [(24, [7])])
  (show hFunc prog TT [(24, [7])] Go.Proofs.Tryz.f167 [a0, a1, a2] st R from (show hFunc prog TT [(24, [7])] Go.Proofs.Tryz.f167 [a0, a1, a2] st R = b_spec_l07Fixed a0 a1 a2 st R by kernel_rfl) ▸ h)
def b_impl_wordOK (a0 : PV) (st : St) (R : Res → St → Prop) : Prop :=
 qb (q_lenS a0) fun v4 =>
 callK prog n_impl_in [v4, (.int .i64 1), (.int .i64 40)] st (fun v5 st =>
 cb v5 fun b => br b
  (qb (q_ix a0 (.int .i64 0)) fun v8 =>
  callK prog n_impl_isHead [v8] st (fun v9 st =>
  cb v9 fun b_1 => br b_1
   (callK prog n_impl_over [a0, (.str [97, 98, 99, 100, 101, 102, 103, 104, 105, 106, 107, 108, 109, 110, 111, 112, 113, 114, 115, 116, 117, 118, 119, 120, 121, 122, 65, 66, 67, 68, 69, 70, 71, 72, 73, 74, 75, 76, 77, 78, 79, 80, 81, 82, 83, 84, 85, 86, 87, 88, 89, 90, 95, 48, 49, 50, 51, 52, 53, 54, 55, 56, 57])] st (fun v13 st =>
   retR R v13 st) (panR R))
   (retR R (.bool false) st)) (panR R))
  (retR R (.bool false) st)) (panR R)
theorem c_impl_wordOK {a0 : PV} {st : St} {R : Res → St → Prop} (h : b_impl_wordOK a0 st R) : HCalls prog n_impl_wordOK [a0] st R :=
 hcalls_of_func tyOK mixed (fn := Go.Proofs.Tryz.f168) (by kernel_rfl) (by kernel_rfl) (by kernel_rfl) (ann := [])
  (show hFunc prog TT [] Go.Proofs.Tryz.f168 [a0] st R from (show hFunc prog TT [] Go.Proofs.Tryz.f168 [a0] st R = b_impl_wordOK a0 st R by kernel_rfl) ▸ h)
def b_strings_CutPrefix (a0 a1 : PV) (st : St) (R : Res → St → Prop) : Prop :=
 callK prog n_internal_stringslite_CutPrefix [a0, a1] st (fun v8 st =>
 qb (q_ex v8 0) fun v9 =>
 qb (q_ex v8 1) fun v10 =>
 retR R (.tup [v9, v10]) st) (panR R)
theorem c_strings_CutPrefix {a0 a1 : PV} {st : St} {R : Res → St → Prop} (h : b_strings_CutPrefix a0 a1 st R) : HCalls prog n_strings_CutPrefix [a0, a1] st R :=
 hcalls_of_func tyOK mixed (fn := Go.Proofs.Tryz.f169) (by kernel_rfl) (by kernel_rfl) (by kernel_rfl) (ann := [])
  (show hFunc prog TT [] Go.Proofs.Tryz.f169 [a0, a1] st R from (show hFunc prog TT [] Go.Proofs.Tryz.f169 [a0, a1] st R = b_strings_CutPrefix a0 a1 st R by kernel_rfl) ▸ h)
def b_impl_over (a0 a1 : PV) (st : St) (R : Res → St → Prop) : Prop :=
 callK prog n_strings_Trim [a0, a1] st (fun v7 st =>
 qb (q_bin .eql v7 (.str [])) fun v8 =>
 retR R v8 st) (panR R)
theorem c_impl_over {a0 a1 : PV} {st : St} {R : Res → St → Prop} (h : b_impl_over a0 a1 st R) : HCalls prog n_impl_over [a0, a1] st R :=
 hcalls_of_func tyOK mixed (fn := Go.Proofs.Tryz.f170) (by kernel_rfl) (by kernel_rfl) (by kernel_rfl) (ann := [])
  (show hFunc prog TT [] Go.Proofs.Tryz.f170 [a0, a1] st R from (show hFunc prog TT [] Go.Proofs.Tryz.f170 [a0, a1] st R = b_impl_over a0 a1 st R by kernel_rfl) ▸ h)
def b_spec_l00Letter (a0 : PV) (st : St) (R : Res → St → Prop) : Prop :=
 qb (q_bin .geq a0 (.int .u8 97)) fun v4 =>
 cb v4 fun b => br b
  (qb (q_bin .leq a0 (.int .u8 122)) fun v7 =>
  cb v7 fun b_1 => br b_1
   (retR R (.bool true) st)
   (qb (q_bin .geq a0 (.int .u8 65)) fun v11 =>
   cb v11 fun b_2 => br b_2
    (qb (q_bin .leq a0 (.int .u8 90)) fun v14 =>
    cb v14 fun b_3 => br b_3
     (retR R (.bool true) st)
     (qb (q_bin .eql a0 (.int .u8 95)) fun v19 =>
     retR R v19 st))
    (qb (q_bin .eql a0 (.int .u8 95)) fun v19_1 =>
    retR R v19_1 st)))
  (qb (q_bin .geq a0 (.int .u8 65)) fun v11_1 =>
  cb v11_1 fun b_4 => br b_4
   (qb (q_bin .leq a0 (.int .u8 90)) fun v14_1 =>
   cb v14_1 fun b_5 => br b_5
    (retR R (.bool true) st)
    (qb (q_bin .eql a0 (.int .u8 95)) fun v19_2 =>
    retR R v19_2 st))
   (qb (q_bin .eql a0 (.int .u8 95)) fun v19_3 =>
   retR R v19_3 st))
theorem c_spec_l00Letter {a0 : PV} {st : St} {R : Res → St → Prop} (h : b_spec_l00Letter a0 st R) : HCalls prog n_spec_l00Letter [a0] st R :=
 hcalls_of_func tyOK mixed (fn := Go.Proofs.Tryz.f171) (by kernel_rfl) (by kernel_rfl) (by kernel_rfl) (ann := [])
  (show hFunc prog TT [] Go.Proofs.Tryz.f171 [a0] st R from (show hFunc prog TT [] Go.Proofs.Tryz.f171 [a0] st R = b_spec_l00Letter a0 st R by kernel_rfl) ▸ h)
def b_spec_l01Arrow (a0 a1 : PV) (st : St) (R : Res → St → Prop) : Prop :=
 e_box st a0 fun v2 st =>
 e_box st a1 fun v3 st =>
 e_alloc st [.int .i64 0, .int .i64 0, .str [], .sl 0 true []] fun v4 st =>
 qb (q_load st true 4 v2) fun v5 =>
 qb (q_load st true 4 v3) fun v6 =>
 qb (q_lit 4 2 0 [] [(0, v5), (1, v6)]) fun v7 =>
 qb (q_struct [.int .i64 0, .int .i64 0, .str [], .sl 0 true []] [(0, 1, (.int .i64 10)), (3, 1, v7)]) fun v8 =>
 e_store st 4 v4 v8 fun st =>
 qb (q_load st true 4 v4) fun r => retR R r st
theorem c_spec_l01Arrow {a0 a1 : PV} {st : St} {R : Res → St → Prop} (h : b_spec_l01Arrow a0 a1 st R) : HCalls prog n_spec_l01Arrow [a0, a1] st R :=
 hcalls_of_func tyOK mixed (fn := Go.Proofs.Tryz.f172) (by kernel_rfl) (by kernel_rfl) (by kernel_rfl) (ann := [])
  (show hFunc prog TT [] Go.Proofs.Tryz.f172 [a0, a1] st R from (show hFunc prog TT [] Go.Proofs.Tryz.f172 [a0, a1] st R = b_spec_l01Arrow a0 a1 st R by kernel_rfl) ▸ h)
def b_spec_l01Base (a0 : PV) (st : St) (R : Res → St → Prop) : Prop :=
 e_alloc st [.int .i64 0, .int .i64 0, .str [], .sl 0 true []] fun v2 st =>
 qb (q_struct [.int .i64 0, .int .i64 0, .str [], .sl 0 true []] [(0, 1, (.int .i64 9)), (2, 1, a0)]) fun v4 =>
 e_store st 4 v2 v4 fun st =>
 qb (q_load st true 4 v2) fun r => retR R r st
theorem c_spec_l01Base {a0 : PV} {st : St} {R : Res → St → Prop} (h : b_spec_l01Base a0 st R) : HCalls prog n_spec_l01Base [a0] st R :=
 hcalls_of_func tyOK mixed (fn := Go.Proofs.Tryz.f173) (by kernel_rfl) (by kernel_rfl) (by kernel_rfl) (ann := [])
  (show hFunc prog TT [] Go.Proofs.Tryz.f173 [a0] st R from (show hFunc prog TT [] Go.Proofs.Tryz.f173 [a0] st R = b_spec_l01Base a0 st R by kernel_rfl) ▸ h)
def b_impl_at (a0 a1 : PV) (st : St) (R : Res → St → Prop) : Prop :=
 callK prog n_impl_caught [a1] st (fun v6 st =>
 e_alloc st [.int .i64 0, .int .i64 0] fun v4 st =>
 e_store st 2 v4 v6 fun st =>
 qb (q_fa 0 v4) fun v7 =>
 qb (q_load st false 1 v7) fun v8 =>
 qb (q_bin .neq v8 (.int .i64 0)) fun v9 =>
 cb v9 fun b => br b
  (qb (q_fa 0 v4) fun v10 =>
  qb (q_load st false 1 v10) fun v11 =>
  callK prog n_impl_stop [v11, a0] st (fun v13 st =>
  retR R (.tup []) st) (panR R))
  (retR R (.tup []) st)) (panR R)
theorem c_impl_at {a0 a1 : PV} {st : St} {R : Res → St → Prop} (h : b_impl_at a0 a1 st R) : HCalls prog n_impl_at [a0, a1] st R :=
 hcalls_of_func tyOK mixed (fn := Go.Proofs.Tryz.f174) (by kernel_rfl) (by kernel_rfl) (by kernel_rfl) (ann := [])
  (show hFunc prog TT [] Go.Proofs.Tryz.f174 [a0, a1] st R from (show hFunc prog TT [] Go.Proofs.Tryz.f174 [a0, a1] st R = b_impl_at a0 a1 st R by kernel_rfl) ▸ h)
def b_impl_checker_left_1 (a0 a1 a2 a3 : PV) (st : St) (R : Res → St → Prop) : Prop :=
 qb (q_load st false 1 a0) fun v4 =>
 qb (q_nil v4) fun v5 =>
 qb (q_fa 0 v5) fun v6 =>
 qb (q_load st true 4 a1) fun v7 =>
 qb (q_fa 3 a2) fun v8 =>
 qb (q_load st false 1 v8) fun v9 =>
 qb (q_ia 4 v9 (.int .i64 0)) fun v10 =>
 qb (q_load st true 4 v10) fun v11 =>
 qb (q_fa 3 a2) fun v13 =>
 qb (q_load st false 1 v13) fun v14 =>
 qb (q_ia 4 v14 (.int .i64 1)) fun v15 =>
 qb (q_load st true 4 v15) fun v16 =>
 callK prog n_impl_erase [v11] st (fun v12 st =>
 q_load st true 4 v15 = some v16 ∧ q_load st false 1 v13 = some v14 ∧ q_load st true 4 a1 = some v7 ∧ q_load st false 1 a0 = some v4 ∧ (callK prog n_impl_work_put [v6, v7, v12, (.int .i64 0), v16] st (fun v17 st =>
 e_store st 4 a3 v17 fun st =>
 retR R (.tup []) st) (panR R))) (panR R)
theorem c_impl_checker_left_1 {a0 a1 a2 a3 : PV} {st : St} {R : Res → St → Prop} (h : b_impl_checker_left_1 a0 a1 a2 a3 st R) : HCalls prog n_impl_checker_left_1 [a0, a1, a2, a3] st R :=
 hcalls_of_func tyOK mixed (fn := Go.Proofs.Tryz.f175) (by kernel_rfl) (by kernel_rfl) (by kernel_rfl) (ann := [])
  (show hFunc prog TT [] Go.Proofs.Tryz.f175 [a0, a1, a2, a3] st R from (show hFunc prog TT [] Go.Proofs.Tryz.f175 [a0, a1, a2, a3] st R = b_impl_checker_left_1 a0 a1 a2 a3 st R by kernel_rfl) ▸ h)
def b_slices_IndexFunc_impl_Tree_impl_Tree (a0 a1 : PV) (st : St) (R : Res → St → Prop) : Prop :=
 qb (q_len a0) fun v7 =>
 hFix (fun ls st X =>
  qb (q_bin .lss (ls.getD 0 .junk) v7) fun v9 =>
  cb v9 fun b => br b
   (qb (q_ia 4 a0 (ls.getD 0 .junk)) fun v14 =>
   qb (q_load st true 4 v14) fun v15 =>
   e_call prog st a1 [v15] (fun v16 st =>
   cb v16 fun b_1 => br b_1
    (retR R (ls.getD 0 .junk) st)
    (qb (q_bin .add (ls.getD 0 .junk) (.int .i64 1)) fun v18 =>
    X [v18] st)) (panR R))
   (retR R (.int .i64 (-1)) st))
  [(.int .i64 0)] st
theorem e_slices_IndexFunc_impl_Tree_impl_Tree : Enters prog n_slices_IndexFunc_impl_Tree_impl_Tree := ⟨Go.Proofs.Tryz.f176, by kernel_rfl, by kernel_rfl, by kernel_rfl⟩
theorem c_slices_IndexFunc_impl_Tree_impl_Tree {a0 a1 : PV} {st : St} {R : Res → St → Prop} (h : b_slices_IndexFunc_impl_Tree_impl_Tree a0 a1 st R) : HCalls prog n_slices_IndexFunc_impl_Tree_impl_Tree [a0, a1] st R :=
 hcalls_of_func tyOK mixed (fn := Go.Proofs.Tryz.f176) (by kernel_rfl) (by kernel_rfl) (by kernel_rfl) (ann := [(8, [8])])
  (show hFunc prog TT [(8, [8])] Go.Proofs.Tryz.f176 [a0, a1] st R from (show hFunc prog TT [(8, [8])] Go.Proofs.Tryz.f176 [a0, a1] st R = b_slices_IndexFunc_impl_Tree_impl_Tree a0 a1 st R by kernel_rfl) ▸ h)
def b_spec_l06Var (a0 a1 : PV) (st : St) (R : Res → St → Prop) : Prop :=
 e_box st a0 fun v2 st =>
 e_box st a1 fun v3 st =>
 qb (q_load st true 4 v2) fun v7 =>
 e_alloc st [.int .i64 0, .int .i64 0, .str [], .sl 0 true []] fun v6 st =>
 e_store st 4 v6 v7 fun st =>
 hJ (fun ls st =>
  qb (q_fa 0 v6) fun v17 =>
  qb (q_load st false 1 v17) fun v18 =>
  qb (q_bin .neq v18 (.int .i64 5)) fun v19 =>
  cb v19 fun b => br b
   (retR R (.int .i64 (-1)) st)
   (qb (q_fa 1 v6) fun v21 =>
   qb (q_load st false 1 v21) fun v22 =>
   qb (q_bin .lss v22 (ls.getD 0 .junk)) fun v24 =>
   cb v24 fun b_1 => br b_1
    (retR R (.int .i64 (-1)) st)
    (qb (q_load st true 4 v2) fun v26 =>
    qb (q_fa 1 v6) fun v27 =>
    qb (q_load st false 1 v27) fun v28 =>
    qb (q_bin .sub v28 (ls.getD 0 .junk)) fun v30 =>
    qb (q_load st true 4 v3) fun v32 =>
    callK prog n_spec_l01Var [v30, (.sl 0 true [])] st (fun v31 st =>
    q_load st true 4 v3 = some v32 ∧ q_load st true 4 v2 = some v26 ∧ (callK prog n_spec_l03Long [v31, v32] st (fun v33 st =>
    q_load st true 4 v2 = some v26 ∧ (callK prog n_spec_l01Same [v26, v33] st (fun v34 st =>
    qb (q_un .not v34) fun v35 =>
    cb v35 fun b_2 => br b_2
     (retR R (.int .i64 (-1)) st)
     (qb (q_fa 1 v6) fun v36 =>
     qb (q_load st false 1 v36) fun v37 =>
     qb (q_bin .sub v37 (ls.getD 0 .junk)) fun v39 =>
     retR R v39 st)) (panR R))) (panR R))) (panR R))))
  (fun k =>
 hFix (fun ls_1 st X =>
  qb (q_fa 0 v6) fun v8 =>
  qb (q_load st false 1 v8) fun v9 =>
  qb (q_bin .eql v9 (.int .i64 4)) fun v10 =>
  cb v10 fun b_3 => br b_3
   (qb (q_fa 3 v6) fun v11 =>
   qb (q_load st false 1 v11) fun v12 =>
   qb (q_ia 4 v12 (.int .i64 0)) fun v13 =>
   qb (q_load st true 4 v13) fun v14 =>
   e_store st 4 v6 v14 fun st =>
   qb (q_bin .add (ls_1.getD 0 .junk) (.int .i64 1)) fun v16 =>
   X [v16] st)
   (k [(ls_1.getD 0 .junk)] st))
  [(.int .i64 0)] st)
theorem c_spec_l06Var {a0 a1 : PV} {st : St} {R : Res → St → Prop} (h : b_spec_l06Var a0 a1 st R) : HCalls prog n_spec_l06Var [a0, a1] st R :=
 hcalls_of_func tyOK mixed (fn := Go.Proofs.Tryz.f177) (by kernel_rfl) (by kernel_rfl) (by kernel_rfl) (ann := [(12, [5]), (3, [5])])
  (show hFunc prog TT [(12, [5]), (3, [5])] Go.Proofs.Tryz.f177 [a0, a1] st R from (show hFunc prog TT [(12, [5]), (3, [5])] Go.Proofs.Tryz.f177 [a0, a1] st R = b_spec_l06Var a0 a1 st R by kernel_rfl) ▸ h)
def b_impl_isHead (a0 : PV) (st : St) (R : Res → St → Prop) : Prop :=
 callK prog n_strings_IndexByte [(.str [97, 98, 99, 100, 101, 102, 103, 104, 105, 106, 107, 108, 109, 110, 111, 112, 113, 114, 115, 116, 117, 118, 119, 120, 121, 122, 65, 66, 67, 68, 69, 70, 71, 72, 73, 74, 75, 76, 77, 78, 79, 80, 81, 82, 83, 84, 85, 86, 87, 88, 89, 90, 95]), a0] st (fun v4 st =>
 qb (q_bin .geq v4 (.int .i64 0)) fun v5 =>
 retR R v5 st) (panR R)
theorem c_impl_isHead {a0 : PV} {st : St} {R : Res → St → Prop} (h : b_impl_isHead a0 st R) : HCalls prog n_impl_isHead [a0] st R :=
 hcalls_of_func tyOK mixed (fn := Go.Proofs.Tryz.f178) (by kernel_rfl) (by kernel_rfl) (by kernel_rfl) (ann := [])
  (show hFunc prog TT [] Go.Proofs.Tryz.f178 [a0] st R from (show hFunc prog TT [] Go.Proofs.Tryz.f178 [a0] st R = b_impl_isHead a0 st R by kernel_rfl) ▸ h)
def b_internal_stringslite_CutPrefix (a0 a1 : PV) (st : St) (R : Res → St → Prop) : Prop :=
 callK prog n_internal_stringslite_HasPrefix [a0, a1] st (fun v8 st =>
 qb (q_un .not v8) fun v9 =>
 cb v9 fun b => br b
  (retR R (.tup [a0, (.bool false)]) st)
  (qb (q_lenS a1) fun v13 =>
  qb (q_sliceS a0 (some v13) none none) fun v14 =>
  retR R (.tup [v14, (.bool true)]) st)) (panR R)
theorem c_internal_stringslite_CutPrefix {a0 a1 : PV} {st : St} {R : Res → St → Prop} (h : b_internal_stringslite_CutPrefix a0 a1 st R) : HCalls prog n_internal_stringslite_CutPrefix [a0, a1] st R :=
 hcalls_of_func tyOK mixed (fn := Go.Proofs.Tryz.f179) (by kernel_rfl) (by kernel_rfl) (by kernel_rfl) (ann := [])
  (show hFunc prog TT [] Go.Proofs.Tryz.f179 [a0, a1] st R from (show hFunc prog TT [] Go.Proofs.Tryz.f179 [a0, a1] st R = b_internal_stringslite_CutPrefix a0 a1 st R by kernel_rfl) ▸ h)
theorem e_strings_Trim : Enters prog n_strings_Trim := ⟨Go.Proofs.Tryz.f180, by kernel_rfl, by kernel_rfl, by kernel_rfl⟩
def b_spec_l03Long (a0 a1 : PV) (st : St) (R : Res → St → Prop) : Prop :=
 e_box st a0 fun v2 st =>
 e_box st a1 fun v3 st =>
 e_alloc st [.int .i64 0, .int .i64 0, .str [], .sl 0 true []] fun v4 st =>
 qb (q_load st true 4 v3) fun v10 =>
 e_alloc st [.int .i64 0, .int .i64 0, .str [], .sl 0 true []] fun v6 st =>
 e_store st 4 v6 v10 fun st =>
 hFix (fun ls st X =>
  qb (q_fa 0 (ls.getD 1 .junk)) fun v11 =>
  qb (q_load st false 1 v11) fun v12 =>
  qb (q_bin .eql v12 (.int .i64 10)) fun v13 =>
  cb v13 fun b => br b
   (qb (q_bin .add (ls.getD 0 .junk) (.int .i64 1)) fun v19 =>
   qb (q_load st true 4 (ls.getD 1 .junk)) fun v20 =>
   e_alloc st [.int .i64 0, .int .i64 0, .str [], .sl 0 true []] fun v6_1 st =>
   e_store st 4 v6_1 v20 fun st =>
   qb (q_fa 3 v6_1) fun v14 =>
   qb (q_load st false 1 v14) fun v15 =>
   qb (q_ia 4 v15 (.int .i64 1)) fun v16 =>
   qb (q_load st true 4 v16) fun v17 =>
   e_store st 4 v6_1 v17 fun st =>
   X [v19, v6_1] st)
   (qb (q_load st true 4 v2) fun v21 =>
   callK prog n_spec_l01Lift [v21, (.int .i64 0), (ls.getD 0 .junk)] st (fun v23 st =>
   e_alloc st [.int .i64 0, .int .i64 0, .str [], .sl 0 true []] fun v7 st =>
   e_store st 4 v7 v23 fun st =>
   qb (q_lit 4 0 0 [] []) fun v24 =>
   qb (q_fa 3 v7) fun v25 =>
   qb (q_load st false 1 v25) fun v26 =>
   e_append st 4 56 v24 v26 (fun v27 st =>
   qb (q_bin .sub (ls.getD 0 .junk) (.int .i64 1)) fun v29 =>
   hFix (fun ls_1 st X_1 =>
    qb (q_bin .geq (ls_1.getD 1 .junk) (.int .i64 0)) fun v31 =>
    cb v31 fun b_1 => br b_1
     (qb (q_fa 3 v3) fun v37 =>
     qb (q_load st false 1 v37) fun v38 =>
     qb (q_ia 4 v38 (.int .i64 0)) fun v39 =>
     qb (q_load st true 4 v39) fun v40 =>
     callK prog n_spec_l01Var [(ls_1.getD 1 .junk), (.sl 0 true [])] st (fun v36 st =>
     q_load st true 4 v39 = some v40 ∧ q_load st false 1 v37 = some v38 ∧ (callK prog n_spec_l03Long [v36, v40] st (fun v41 st =>
     qb (q_lit 4 1 0 [] [(0, v41)]) fun v42 =>
     e_append st 4 56 (ls_1.getD 0 .junk) v42 (fun v43 st =>
     qb (q_fa 3 v3) fun v44 =>
     qb (q_load st false 1 v44) fun v45 =>
     qb (q_ia 4 v45 (.int .i64 1)) fun v46 =>
     qb (q_load st true 4 v46) fun v47 =>
     e_store st 4 v3 v47 fun st =>
     qb (q_bin .sub (ls_1.getD 1 .junk) (.int .i64 1)) fun v33 =>
     X_1 [v43, v33] st)) (panR R))) (panR R))
     (qb (q_load st true 4 v7) fun v48 =>
     callK prog n_spec_l01With [v48, (ls_1.getD 0 .junk)] st (fun v50 st =>
     e_store st 4 v7 v50 fun st =>
     hFix (fun ls_2 st X_2 =>
      qb (q_bin .gtr (ls_2.getD 0 .junk) (.int .i64 0)) fun v52 =>
      cb v52 fun b_2 => br b_2
       (qb (q_load st true 4 v7) fun v55 =>
       callK prog n_spec_l01Lam [v55] st (fun v56 st =>
       e_store st 4 v7 v56 fun st =>
       qb (q_bin .sub (ls_2.getD 0 .junk) (.int .i64 1)) fun v54 =>
       X_2 [v54] st) (panR R))
       (qb (q_load st true 4 v7) fun v57 =>
       e_store st 4 v4 v57 fun st =>
       qb (q_load st true 4 v4) fun r => retR R r st))
      [(ls.getD 0 .junk)] st) (panR R)))
    [v27, v29] st)) (panR R)))
  [(.int .i64 0), v6] st
theorem c_spec_l03Long {a0 a1 : PV} {st : St} {R : Res → St → Prop} (h : b_spec_l03Long a0 a1 st R) : HCalls prog n_spec_l03Long [a0, a1] st R :=
 hcalls_of_func tyOK mixed (fn := Go.Proofs.Tryz.f181) (by kernel_rfl) (by kernel_rfl) (by kernel_rfl) (ann := [(64, [5]), (44, [8, 9]), (12, [5, 6])])
  (show hFunc prog TT [(64, [5]), (44, [8, 9]), (12, [5, 6])] Go.Proofs.Tryz.f181 [a0, a1] st R from (show hFunc prog TT [(64, [5]), (44, [8, 9]), (12, [5, 6])] Go.Proofs.Tryz.f181 [a0, a1] st R = b_spec_l03Long a0 a1 st R by kernel_rfl) ▸ h)
theorem e_strings_IndexByte : Enters prog n_strings_IndexByte := ⟨Go.Proofs.Tryz.f182, by kernel_rfl, by kernel_rfl, by kernel_rfl⟩
end Go.H.Tryz
