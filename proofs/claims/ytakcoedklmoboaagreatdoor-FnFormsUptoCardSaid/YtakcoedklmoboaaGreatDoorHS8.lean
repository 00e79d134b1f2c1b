/- Part of a proof that the program answers as the reference does: ZFS8. -/
import Derived.Test.YtakcoedklmoboaaGreatDoorHT
/- MADE BY PROGRAM (hgen.py): what the functions compute, over pure values. -/
set_option linter.unusedVariables false
set_option maxRecDepth 100000
namespace Go.H.Tryz
open Go Go.H
def b_impl_has_1 (a0 a1 : PV) (st : St) (R : Res → St → Prop) : Prop :=
 e_box st a0 fun v2 st =>
 qb (q_fa 0 v2) fun v4 =>
 qb (q_load st false 1 v4) fun v5 =>
 qb (q_load st false 1 a1) fun v6 =>
 qb (q_bin .eql v5 v6) fun v7 =>
 retR R v7 st
theorem c_impl_has_1 {a0 a1 : PV} {st : St} {R : Res → St → Prop} (h : b_impl_has_1 a0 a1 st R) : HCalls prog n_impl_has_1 [a0, a1] st R :=
 hcalls_of_func tyOK mixed (fn := Go.Proofs.Tryz.f164) (by kernel_rfl) (by kernel_rfl) (by kernel_rfl) (ann := [])
  (show hFunc prog TT [] Go.Proofs.Tryz.f164 [a0, a1] st R from (show hFunc prog TT [] Go.Proofs.Tryz.f164 [a0, a1] st R = b_impl_has_1 a0 a1 st R by kernel_rfl) ▸ h)
def b_impl_declFault_1 (a0 a1 : PV) (st : St) (R : Res → St → Prop) : Prop :=
 qb (q_load st false 1 a0) fun v2 =>
 qb (q_struct [.int .i64 0, .sl 0 true []] [(1, 1, v2)]) fun v3 =>
 e_box st v3 fun v4 st =>
 qb (q_fa 2 a1) fun v5 =>
 qb (q_load st true 4 v5) fun v6 =>
 callK prog n_impl_checker_family [v4, (.sl 0 true []), v6, (.int .i64 0)] st (fun v7 st =>
 retR R (.tup []) st) (panR R)
theorem c_impl_declFault_1 {a0 a1 : PV} {st : St} {R : Res → St → Prop} (h : b_impl_declFault_1 a0 a1 st R) : HCalls prog n_impl_declFault_1 [a0, a1] st R :=
 hcalls_of_func tyOK mixed (fn := Go.Proofs.Tryz.f165) (by kernel_rfl) (by kernel_rfl) (by kernel_rfl) (ann := [])
  (show hFunc prog TT [] Go.Proofs.Tryz.f165 [a0, a1] st R from (show hFunc prog TT [] Go.Proofs.Tryz.f165 [a0, a1] st R = b_impl_declFault_1 a0 a1 st R by kernel_rfl) ▸ h)
def b_impl_isHead (a0 : PV) (st : St) (R : Res → St → Prop) : Prop :=
 callK prog n_strings_IndexByte [(.str [97, 98, 99, 100, 101, 102, 103, 104, 105, 106, 107, 108, 109, 110, 111, 112, 113, 114, 115, 116, 117, 118, 119, 120, 121, 122, 65, 66, 67, 68, 69, 70, 71, 72, 73, 74, 75, 76, 77, 78, 79, 80, 81, 82, 83, 84, 85, 86, 87, 88, 89, 90, 95]), a0] st (fun v4 st =>
 qb (q_bin .geq v4 (.int .i64 0)) fun v5 =>
 retR R v5 st) (panR R)
theorem c_impl_isHead {a0 : PV} {st : St} {R : Res → St → Prop} (h : b_impl_isHead a0 st R) : HCalls prog n_impl_isHead [a0] st R :=
 hcalls_of_func tyOK mixed (fn := Go.Proofs.Tryz.f166) (by kernel_rfl) (by kernel_rfl) (by kernel_rfl) (ann := [])
  (show hFunc prog TT [] Go.Proofs.Tryz.f166 [a0] st R from (show hFunc prog TT [] Go.Proofs.Tryz.f166 [a0] st R = b_impl_isHead a0 st R by kernel_rfl) ▸ h)
def b_internal_stringslite_CutPrefix (a0 a1 : PV) (st : St) (R : Res → St → Prop) : Prop :=
 callK prog n_internal_stringslite_HasPrefix [a0, a1] st (fun v8 st =>
 qb (q_un .not v8) fun v9 =>
 cb v9 fun b => br b
  (retR R (.tup [a0, (.bool false)]) st)
  (qb (q_lenS a1) fun v13 =>
  qb (q_sliceS a0 (some v13) none none) fun v14 =>
  retR R (.tup [v14, (.bool true)]) st)) (panR R)
theorem c_internal_stringslite_CutPrefix {a0 a1 : PV} {st : St} {R : Res → St → Prop} (h : b_internal_stringslite_CutPrefix a0 a1 st R) : HCalls prog n_internal_stringslite_CutPrefix [a0, a1] st R :=
 hcalls_of_func tyOK mixed (fn := Go.Proofs.Tryz.f167) (by kernel_rfl) (by kernel_rfl) (by kernel_rfl) (ann := [])
  (show hFunc prog TT [] Go.Proofs.Tryz.f167 [a0, a1] st R from (show hFunc prog TT [] Go.Proofs.Tryz.f167 [a0, a1] st R = b_internal_stringslite_CutPrefix a0 a1 st R by kernel_rfl) ▸ h)
theorem e_strings_Trim : Enters prog n_strings_Trim := ⟨Go.Proofs.Tryz.f168, by kernel_rfl, by kernel_rfl, by kernel_rfl⟩
def b_slices_IndexFunc_impl_Decl_impl_Decl (a0 a1 : PV) (st : St) (R : Res → St → Prop) : Prop :=
 qb (q_len a0) fun v7 =>
 hFix (fun ls st X =>
  qb (q_bin .lss (ls.getD 0 .junk) v7) fun v9 =>
  cb v9 fun b => br b
   (qb (q_ia 6 a0 (ls.getD 0 .junk)) fun v14 =>
   qb (q_load st true 6 v14) fun v15 =>
   e_call prog st a1 [v15] (fun v16 st =>
   cb v16 fun b_1 => br b_1
    (retR R (ls.getD 0 .junk) st)
    (qb (q_bin .add (ls.getD 0 .junk) (.int .i64 1)) fun v18 =>
    X [v18] st)) (panR R))
   (retR R (.int .i64 (-1)) st))
  [(.int .i64 0)] st
theorem c_slices_IndexFunc_impl_Decl_impl_Decl {a0 a1 : PV} {st : St} {R : Res → St → Prop} (h : b_slices_IndexFunc_impl_Decl_impl_Decl a0 a1 st R) : HCalls prog n_slices_IndexFunc_impl_Decl_impl_Decl [a0, a1] st R :=
 hcalls_of_func tyOK mixed (fn := Go.Proofs.Tryz.f169) (by kernel_rfl) (by kernel_rfl) (by kernel_rfl) (ann := [(8, [8])])
  (show hFunc prog TT [(8, [8])] Go.Proofs.Tryz.f169 [a0, a1] st R from (show hFunc prog TT [(8, [8])] Go.Proofs.Tryz.f169 [a0, a1] st R = b_slices_IndexFunc_impl_Decl_impl_Decl a0 a1 st R by kernel_rfl) ▸ h)
def b_impl_checker_declared_1 (a0 a1 a2 : PV) (st : St) (R : Res → St → Prop) : Prop :=
 e_box st a0 fun v3 st =>
 qb (q_fa 0 v3) fun v5 =>
 qb (q_load st false 1 v5) fun v6 =>
 qb (q_load st false 1 a1) fun v7 =>
 qb (q_bin .eql v6 v7) fun v8 =>
 cb v8 fun b => br b
  (qb (q_fa 1 v3) fun v10 =>
  qb (q_load st false 1 v10) fun v11 =>
  qb (q_load st false 1 a2) fun v12 =>
  qb (q_beq .eql v11 v12) fun v13 =>
  retR R v13 st)
  (retR R (.bool false) st)
theorem c_impl_checker_declared_1 {a0 a1 a2 : PV} {st : St} {R : Res → St → Prop} (h : b_impl_checker_declared_1 a0 a1 a2 st R) : HCalls prog n_impl_checker_declared_1 [a0, a1, a2] st R :=
 hcalls_of_func tyOK mixed (fn := Go.Proofs.Tryz.f170) (by kernel_rfl) (by kernel_rfl) (by kernel_rfl) (ann := [])
  (show hFunc prog TT [] Go.Proofs.Tryz.f170 [a0, a1, a2] st R from (show hFunc prog TT [] Go.Proofs.Tryz.f170 [a0, a1, a2] st R = b_impl_checker_declared_1 a0 a1 a2 st R by kernel_rfl) ▸ h)
def b_impl_at (a0 a1 : PV) (st : St) (R : Res → St → Prop) : Prop :=
 callK prog n_impl_caught [a1] st (fun v6 st =>
 e_alloc st [.int .i64 0, .int .i64 0] fun v4 st =>
 e_store st 2 v4 v6 fun st =>
 qb (q_fa 0 v4) fun v7 =>
 qb (q_load st false 1 v7) fun v8 =>
 qb (q_bin .neq v8 (.int .i64 0)) fun v9 =>
 cb v9 fun b => br b
  (qb (q_fa 0 v4) fun v10 =>
  qb (q_load st false 1 v10) fun v11 =>
  callK prog n_impl_stop [v11, a0] st (fun v13 st =>
  retR R (.tup []) st) (panR R))
  (retR R (.tup []) st)) (panR R)
theorem c_impl_at {a0 a1 : PV} {st : St} {R : Res → St → Prop} (h : b_impl_at a0 a1 st R) : HCalls prog n_impl_at [a0, a1] st R :=
 hcalls_of_func tyOK mixed (fn := Go.Proofs.Tryz.f171) (by kernel_rfl) (by kernel_rfl) (by kernel_rfl) (ann := [])
  (show hFunc prog TT [] Go.Proofs.Tryz.f171 [a0, a1] st R from (show hFunc prog TT [] Go.Proofs.Tryz.f171 [a0, a1] st R = b_impl_at a0 a1 st R by kernel_rfl) ▸ h)
def b_impl_checker_left_1 (a0 a1 a2 a3 : PV) (st : St) (R : Res → St → Prop) : Prop :=
 qb (q_load st false 1 a0) fun v4 =>
 qb (q_nil v4) fun v5 =>
 qb (q_fa 0 v5) fun v6 =>
 qb (q_load st true 4 a1) fun v7 =>
 qb (q_fa 3 a2) fun v8 =>
 qb (q_load st false 1 v8) fun v9 =>
 qb (q_ia 4 v9 (.int .i64 0)) fun v10 =>
 qb (q_load st true 4 v10) fun v11 =>
 qb (q_fa 3 a2) fun v13 =>
 qb (q_load st false 1 v13) fun v14 =>
 qb (q_ia 4 v14 (.int .i64 1)) fun v15 =>
 qb (q_load st true 4 v15) fun v16 =>
 callK prog n_impl_erase [v11] st (fun v12 st =>
 q_load st true 4 v15 = some v16 ∧ q_load st false 1 v13 = some v14 ∧ q_load st true 4 a1 = some v7 ∧ q_load st false 1 a0 = some v4 ∧ (callK prog n_impl_work_put [v6, v7, v12, (.int .i64 0), v16] st (fun v17 st =>
 e_store st 4 a3 v17 fun st =>
 retR R (.tup []) st) (panR R))) (panR R)
theorem c_impl_checker_left_1 {a0 a1 a2 a3 : PV} {st : St} {R : Res → St → Prop} (h : b_impl_checker_left_1 a0 a1 a2 a3 st R) : HCalls prog n_impl_checker_left_1 [a0, a1, a2, a3] st R :=
 hcalls_of_func tyOK mixed (fn := Go.Proofs.Tryz.f172) (by kernel_rfl) (by kernel_rfl) (by kernel_rfl) (ann := [])
  (show hFunc prog TT [] Go.Proofs.Tryz.f172 [a0, a1, a2, a3] st R from (show hFunc prog TT [] Go.Proofs.Tryz.f172 [a0, a1, a2, a3] st R = b_impl_checker_left_1 a0 a1 a2 a3 st R by kernel_rfl) ▸ h)
def b_impl_erase (a0 : PV) (st : St) (R : Res → St → Prop) : Prop :=
 e_box st a0 fun v1 st =>
 e_alloc st [.int .i64 0, .int .i64 0, .str [], .sl 0 true []] fun v2 st =>
 qb (q_fa 0 v1) fun v3 =>
 qb (q_load st false 1 v3) fun v4 =>
 qb (q_bin .eql v4 (.int .i64 2)) fun v5 =>
 cb v5 fun b => br b
  (qb (q_fa 3 v1) fun v6 =>
  qb (q_load st false 1 v6) fun v7 =>
  qb (q_ia 4 v7 (.int .i64 0)) fun v8 =>
  qb (q_load st true 4 v8) fun v9 =>
  qb (q_fa 3 v1) fun v11 =>
  qb (q_load st false 1 v11) fun v12 =>
  qb (q_ia 4 v12 (.int .i64 1)) fun v13 =>
  qb (q_load st true 4 v13) fun v14 =>
  callK prog n_impl_erase [v9] st (fun v10 st =>
  q_load st true 4 v13 = some v14 ∧ q_load st false 1 v11 = some v12 ∧ (callK prog n_impl_erase [v14] st (fun v15 st =>
  qb (q_lit 4 2 0 [] [(0, v10), (1, v15)]) fun v16 =>
  qb (q_struct [.int .i64 0, .int .i64 0, .str [], .sl 0 true []] [(0, 1, (.int .i64 10)), (3, 1, v16)]) fun v17 =>
  e_store st 4 v2 v17 fun st =>
  qb (q_load st true 4 v2) fun r => retR R r st) (panR R))) (panR R))
  (qb (q_fa 2 v1) fun v18 =>
  qb (q_load st false 1 v18) fun v19 =>
  qb (q_struct [.int .i64 0, .int .i64 0, .str [], .sl 0 true []] [(0, 1, (.int .i64 9)), (2, 1, v19)]) fun v20 =>
  e_store st 4 v2 v20 fun st =>
  qb (q_load st true 4 v2) fun r_1 => retR R r_1 st)
theorem c_impl_erase {a0 : PV} {st : St} {R : Res → St → Prop} (h : b_impl_erase a0 st R) : HCalls prog n_impl_erase [a0] st R :=
 hcalls_of_func tyOK mixed (fn := Go.Proofs.Tryz.f173) (by kernel_rfl) (by kernel_rfl) (by kernel_rfl) (ann := [])
  (show hFunc prog TT [] Go.Proofs.Tryz.f173 [a0] st R from (show hFunc prog TT [] Go.Proofs.Tryz.f173 [a0] st R = b_impl_erase a0 st R by kernel_rfl) ▸ h)
def b_internal_stringslite_HasSuffix (a0 a1 : PV) (st : St) (R : Res → St → Prop) : Prop :=
 qb (q_lenS a0) fun v6 =>
 qb (q_lenS a1) fun v8 =>
 qb (q_bin .geq v6 v8) fun v9 =>
 cb v9 fun b => br b
  (qb (q_lenS a0) fun v13 =>
  qb (q_lenS a1) fun v15 =>
  qb (q_bin .sub v13 v15) fun v16 =>
  qb (q_sliceS a0 (some v16) none none) fun v17 =>
  qb (q_bin .eql v17 a1) fun v19 =>
  retR R v19 st)
  (retR R (.bool false) st)
theorem c_internal_stringslite_HasSuffix {a0 a1 : PV} {st : St} {R : Res → St → Prop} (h : b_internal_stringslite_HasSuffix a0 a1 st R) : HCalls prog n_internal_stringslite_HasSuffix [a0, a1] st R :=
 hcalls_of_func tyOK mixed (fn := Go.Proofs.Tryz.f175) (by kernel_rfl) (by kernel_rfl) (by kernel_rfl) (ann := [])
  (show hFunc prog TT [] Go.Proofs.Tryz.f175 [a0, a1] st R from (show hFunc prog TT [] Go.Proofs.Tryz.f175 [a0, a1] st R = b_internal_stringslite_HasSuffix a0 a1 st R by kernel_rfl) ▸ h)
def b_impl_ParseFamily (a0 a1 : PV) (st : St) (R : Res → St → Prop) : Prop :=
 e_alloc st [.int .i64 0, .int .i64 0, .str [], .sl 0 true []] fun v4 st =>
 callK prog n_impl_parsed [a0, a1, (.fn (.func n_impl_parser_family) [] [])] st (fun v9 st =>
 qb (q_ex v9 0) fun v10 =>
 qb (q_ex v9 1) fun v11 =>
 qb (q_ex v9 2) fun v12 =>
 e_store st 4 v4 v10 fun st =>
 qb (q_load st true 4 v4) fun r => retR R (.tup [r, v11, v12]) st) (panR R)
theorem c_impl_ParseFamily {a0 a1 : PV} {st : St} {R : Res → St → Prop} (h : b_impl_ParseFamily a0 a1 st R) : HCalls prog n_impl_ParseFamily [a0, a1] st R :=
 hcalls_of_func tyOK mixed (fn := Go.Proofs.Tryz.f176) (by kernel_rfl) (by kernel_rfl) (by kernel_rfl) (ann := [])
  (show hFunc prog TT [] Go.Proofs.Tryz.f176 [a0, a1] st R from (show hFunc prog TT [] Go.Proofs.Tryz.f176 [a0, a1] st R = b_impl_ParseFamily a0 a1 st R by kernel_rfl) ▸ h)
def b_impl_isKind (a0 : PV) (st : St) (R : Res → St → Prop) : Prop :=
 e_box st a0 fun v1 st =>
 hFix (fun ls st X =>
  qb (q_fa 0 v1) fun v3 =>
  qb (q_load st false 1 v3) fun v4 =>
  qb (q_bin .eql v4 (.int .i64 2)) fun v5 =>
  cb v5 fun b => br b
   (qb (q_fa 3 v1) fun v6 =>
   qb (q_load st false 1 v6) fun v7 =>
   qb (q_ia 4 v7 (.int .i64 1)) fun v8 =>
   qb (q_load st true 4 v8) fun v9 =>
   e_store st 4 v1 v9 fun st =>
   X [] st)
   (qb (q_fa 0 v1) fun v10 =>
   qb (q_load st false 1 v10) fun v11 =>
   qb (q_bin .eql v11 (.int .i64 1)) fun v12 =>
   retR R v12 st))
  [] st
theorem c_impl_isKind {a0 : PV} {st : St} {R : Res → St → Prop} (h : b_impl_isKind a0 st R) : HCalls prog n_impl_isKind [a0] st R :=
 hcalls_of_func tyOK mixed (fn := Go.Proofs.Tryz.f177) (by kernel_rfl) (by kernel_rfl) (by kernel_rfl) (ann := [(4, [])])
  (show hFunc prog TT [(4, [])] Go.Proofs.Tryz.f177 [a0] st R from (show hFunc prog TT [(4, [])] Go.Proofs.Tryz.f177 [a0] st R = b_impl_isKind a0 st R by kernel_rfl) ▸ h)
def b_internal_stringslite_HasPrefix (a0 a1 : PV) (st : St) (R : Res → St → Prop) : Prop :=
 qb (q_lenS a0) fun v6 =>
 qb (q_lenS a1) fun v8 =>
 qb (q_bin .geq v6 v8) fun v9 =>
 cb v9 fun b => br b
  (qb (q_lenS a1) fun v13 =>
  qb (q_sliceS a0 none (some v13) none) fun v14 =>
  qb (q_bin .eql v14 a1) fun v16 =>
  retR R v16 st)
  (retR R (.bool false) st)
theorem c_internal_stringslite_HasPrefix {a0 a1 : PV} {st : St} {R : Res → St → Prop} (h : b_internal_stringslite_HasPrefix a0 a1 st R) : HCalls prog n_internal_stringslite_HasPrefix [a0, a1] st R :=
 hcalls_of_func tyOK mixed (fn := Go.Proofs.Tryz.f178) (by kernel_rfl) (by kernel_rfl) (by kernel_rfl) (ann := [])
  (show hFunc prog TT [] Go.Proofs.Tryz.f178 [a0, a1] st R from (show hFunc prog TT [] Go.Proofs.Tryz.f178 [a0, a1] st R = b_internal_stringslite_HasPrefix a0 a1 st R by kernel_rfl) ▸ h)
end Go.H.Tryz
