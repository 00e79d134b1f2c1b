/- Part of a proof that the program answers as the reference does: ZFS7. -/
import Derived.Test.YtakcoedklmoboaaGreatDoorHT
/- MADE BY PROGRAM (hgen.py): what the functions compute, over pure values. -/
set_option linter.unusedVariables false
set_option maxRecDepth 100000
namespace Go.H.Tryz
open Go Go.H
def b_impl_cloneAll (a0 : PV) (st : St) (R : Res → St → Prop) : Prop :=
 qb (q_lit 4 0 0 [] []) fun v6 =>
 qb (q_len a0) fun v8 =>
 hFix (fun ls st X =>
  qb (q_bin .lss (ls.getD 1 .junk) v8) fun v10 =>
  cb v10 fun b => br b
   (qb (q_ia 4 a0 (ls.getD 1 .junk)) fun v11 =>
   qb (q_load st true 4 v11) fun v12 =>
   e_alloc st [.int .i64 0, .int .i64 0, .str [], .sl 0 true []] fun v5 st =>
   e_store st 4 v5 v12 fun st =>
   qb (q_load st true 4 v5) fun v14 =>
   callK prog n_impl_clone [v14] st (fun v15 st =>
   qb (q_lit 4 1 0 [] [(0, v15)]) fun v16 =>
   e_append st 4 56 (ls.getD 0 .junk) v16 (fun v17 st =>
   qb (q_bin .add (ls.getD 1 .junk) (.int .i64 1)) fun v18 =>
   X [v17, v18] st)) (panR R))
   (retR R (ls.getD 0 .junk) st))
  [v6, (.int .i64 0)] st
theorem c_impl_cloneAll {a0 : PV} {st : St} {R : Res → St → Prop} (h : b_impl_cloneAll a0 st R) : HCalls prog n_impl_cloneAll [a0] st R :=
 hcalls_of_func tyOK mixed (fn := Go.Proofs.Tryz.f144) (by kernel_rfl) (by kernel_rfl) (by kernel_rfl) (ann := [(12, [3, 9])])
  (show hFunc prog TT [(12, [3, 9])] Go.Proofs.Tryz.f144 [a0] st R from (show hFunc prog TT [(12, [3, 9])] Go.Proofs.Tryz.f144 [a0] st R = b_impl_cloneAll a0 st R by kernel_rfl) ▸ h)
def b_impl_Tree_binds (a0 a1 : PV) (st : St) (R : Res → St → Prop) : Prop :=
 qb (q_nil a0) fun v6 =>
 qb (q_fa 0 v6) fun v7 =>
 qb (q_load st false 1 v7) fun v8 =>
 qb (q_bin .eql v8 (.int .i64 4)) fun v9 =>
 cb v9 fun b => br b
  (retR R (.bool true) st)
  (qb (q_nil a0) fun v12 =>
  qb (q_fa 0 v12) fun v13 =>
  qb (q_load st false 1 v13) fun v14 =>
  qb (q_bin .eql v14 (.int .i64 2)) fun v15 =>
  cb v15 fun b_1 => br b_1
   (qb (q_bin .eql a1 (.int .i64 1)) fun v18 =>
   retR R v18 st)
   (retR R (.bool false) st))
theorem c_impl_Tree_binds {a0 a1 : PV} {st : St} {R : Res → St → Prop} (h : b_impl_Tree_binds a0 a1 st R) : HCalls prog n_impl_Tree_binds [a0, a1] st R :=
 hcalls_of_func tyOK mixed (fn := Go.Proofs.Tryz.f145) (by kernel_rfl) (by kernel_rfl) (by kernel_rfl) (ann := [])
  (show hFunc prog TT [] Go.Proofs.Tryz.f145 [a0, a1] st R from (show hFunc prog TT [] Go.Proofs.Tryz.f145 [a0, a1] st R = b_impl_Tree_binds a0 a1 st R by kernel_rfl) ▸ h)
def b_impl_turned (a0 a1 a2 : PV) (st : St) (R : Res → St → Prop) : Prop :=
 e_box st a0 fun v3 st =>
 e_alloc st [.int .i64 0, .int .i64 0, .str [], .sl 0 true []] fun v6 st =>
 qb (q_lit 4 0 0 [] []) fun v10 =>
 qb (q_fa 3 v3) fun v11 =>
 qb (q_load st false 1 v11) fun v12 =>
 qb (q_len v12) fun v13 =>
 hJ (fun ls st =>
  qb (q_fa 3 v3) fun v31 =>
  e_store st 1 v31 (ls.getD 0 .junk) fun st =>
  qb (q_fa 0 v3) fun v32 =>
  qb (q_load st false 1 v32) fun v33 =>
  qb (q_bin .eql v33 (.int .i64 5)) fun v34 =>
  cb v34 fun b => br b
   (qb (q_load st true 4 v3) fun v36 =>
   e_call prog st a2 [v36, a1] (fun v38 st =>
   e_store st 4 v6 v38 fun st =>
   qb (q_load st true 4 v6) fun r => retR R r st) (panR R))
   (qb (q_load st true 4 v3) fun v39 =>
   e_store st 4 v6 v39 fun st =>
   qb (q_load st true 4 v6) fun r_1 => retR R r_1 st))
  (fun k =>
 hFix (fun ls_1 st X =>
  qb (q_bin .lss (ls_1.getD 1 .junk) v13) fun v15 =>
  cb v15 fun b_1 => br b_1
   (qb (q_ia 4 v12 (ls_1.getD 1 .junk)) fun v17 =>
   qb (q_load st true 4 v17) fun v18 =>
   e_alloc st [.int .i64 0, .int .i64 0, .str [], .sl 0 true []] fun v9 st =>
   e_store st 4 v9 v18 fun st =>
   qb (q_load st true 4 v9) fun v20 =>
   callK prog n_impl_Tree_under [v3, (ls_1.getD 1 .junk)] st (fun v23 st =>
   q_load st true 4 v9 = some v20 ∧ (qb (q_bin .add a1 v23) fun v24 =>
   callK prog n_impl_turned [v20, v24, a2] st (fun v26 st =>
   qb (q_lit 4 1 0 [] [(0, v26)]) fun v27 =>
   e_append st 4 56 (ls_1.getD 0 .junk) v27 (fun v28 st =>
   qb (q_bin .add (ls_1.getD 1 .junk) (.int .i64 1)) fun v29 =>
   X [v28, v29] st)) (panR R))) (panR R))
   (k [(ls_1.getD 0 .junk)] st))
  [v10, (.int .i64 0)] st)
theorem c_impl_turned {a0 a1 a2 : PV} {st : St} {R : Res → St → Prop} (h : b_impl_turned a0 a1 a2 st R) : HCalls prog n_impl_turned [a0, a1, a2] st R :=
 hcalls_of_func tyOK mixed (fn := Go.Proofs.Tryz.f146) (by kernel_rfl) (by kernel_rfl) (by kernel_rfl) (ann := [(12, [7, 14]), (3, [7])])
  (show hFunc prog TT [(12, [7, 14]), (3, [7])] Go.Proofs.Tryz.f146 [a0, a1, a2] st R from (show hFunc prog TT [(12, [7, 14]), (3, [7])] Go.Proofs.Tryz.f146 [a0, a1, a2] st R = b_impl_turned a0 a1 a2 st R by kernel_rfl) ▸ h)
def b_impl_lift_1 (a0 a1 a2 a3 : PV) (st : St) (R : Res → St → Prop) : Prop :=
 e_box st a0 fun v4 st =>
 e_alloc st [.int .i64 0, .int .i64 0, .str [], .sl 0 true []] fun v6 st =>
 qb (q_fa 1 v4) fun v7 =>
 qb (q_load st false 1 v7) fun v8 =>
 qb (q_load st false 1 a2) fun v9 =>
 qb (q_bin .add v9 a1) fun v11 =>
 qb (q_bin .geq v8 v11) fun v12 =>
 cb v12 fun b => br b
  (qb (q_fa 1 v4) fun v13 =>
  qb (q_load st false 1 v13) fun v14 =>
  qb (q_load st false 1 a3) fun v15 =>
  qb (q_bin .add v14 v15) fun v16 =>
  qb (q_fa 1 v4) fun v17 =>
  e_store st 1 v17 v16 fun st =>
  qb (q_load st true 4 v4) fun v18 =>
  e_store st 4 v6 v18 fun st =>
  qb (q_load st true 4 v6) fun r => retR R r st)
  (qb (q_load st true 4 v4) fun v18_1 =>
  e_store st 4 v6 v18_1 fun st =>
  qb (q_load st true 4 v6) fun r_1 => retR R r_1 st)
theorem c_impl_lift_1 {a0 a1 a2 a3 : PV} {st : St} {R : Res → St → Prop} (h : b_impl_lift_1 a0 a1 a2 a3 st R) : HCalls prog n_impl_lift_1 [a0, a1, a2, a3] st R :=
 hcalls_of_func tyOK mixed (fn := Go.Proofs.Tryz.f147) (by kernel_rfl) (by kernel_rfl) (by kernel_rfl) (ann := [])
  (show hFunc prog TT [] Go.Proofs.Tryz.f147 [a0, a1, a2, a3] st R from (show hFunc prog TT [] Go.Proofs.Tryz.f147 [a0, a1, a2, a3] st R = b_impl_lift_1 a0 a1 a2 a3 st R by kernel_rfl) ▸ h)
def b_impl_wordOK (a0 : PV) (st : St) (R : Res → St → Prop) : Prop :=
 qb (q_lenS a0) fun v4 =>
 callK prog n_impl_in [v4, (.int .i64 1), (.int .i64 40)] st (fun v5 st =>
 cb v5 fun b => br b
  (qb (q_ix a0 (.int .i64 0)) fun v8 =>
  callK prog n_impl_isHead [v8] st (fun v9 st =>
  cb v9 fun b_1 => br b_1
   (callK prog n_impl_over [a0, (.str [97, 98, 99, 100, 101, 102, 103, 104, 105, 106, 107, 108, 109, 110, 111, 112, 113, 114, 115, 116, 117, 118, 119, 120, 121, 122, 65, 66, 67, 68, 69, 70, 71, 72, 73, 74, 75, 76, 77, 78, 79, 80, 81, 82, 83, 84, 85, 86, 87, 88, 89, 90, 95, 48, 49, 50, 51, 52, 53, 54, 55, 56, 57])] st (fun v13 st =>
   retR R v13 st) (panR R))
   (retR R (.bool false) st)) (panR R))
  (retR R (.bool false) st)) (panR R)
theorem c_impl_wordOK {a0 : PV} {st : St} {R : Res → St → Prop} (h : b_impl_wordOK a0 st R) : HCalls prog n_impl_wordOK [a0] st R :=
 hcalls_of_func tyOK mixed (fn := Go.Proofs.Tryz.f151) (by kernel_rfl) (by kernel_rfl) (by kernel_rfl) (ann := [])
  (show hFunc prog TT [] Go.Proofs.Tryz.f151 [a0] st R from (show hFunc prog TT [] Go.Proofs.Tryz.f151 [a0] st R = b_impl_wordOK a0 st R by kernel_rfl) ▸ h)
def b_strings_CutPrefix (a0 a1 : PV) (st : St) (R : Res → St → Prop) : Prop :=
 callK prog n_internal_stringslite_CutPrefix [a0, a1] st (fun v8 st =>
 qb (q_ex v8 0) fun v9 =>
 qb (q_ex v8 1) fun v10 =>
 retR R (.tup [v9, v10]) st) (panR R)
theorem c_strings_CutPrefix {a0 a1 : PV} {st : St} {R : Res → St → Prop} (h : b_strings_CutPrefix a0 a1 st R) : HCalls prog n_strings_CutPrefix [a0, a1] st R :=
 hcalls_of_func tyOK mixed (fn := Go.Proofs.Tryz.f152) (by kernel_rfl) (by kernel_rfl) (by kernel_rfl) (ann := [])
  (show hFunc prog TT [] Go.Proofs.Tryz.f152 [a0, a1] st R from (show hFunc prog TT [] Go.Proofs.Tryz.f152 [a0, a1] st R = b_strings_CutPrefix a0 a1 st R by kernel_rfl) ▸ h)
def b_impl_over (a0 a1 : PV) (st : St) (R : Res → St → Prop) : Prop :=
 callK prog n_strings_Trim [a0, a1] st (fun v7 st =>
 qb (q_bin .eql v7 (.str [])) fun v8 =>
 retR R v8 st) (panR R)
theorem c_impl_over {a0 a1 : PV} {st : St} {R : Res → St → Prop} (h : b_impl_over a0 a1 st R) : HCalls prog n_impl_over [a0, a1] st R :=
 hcalls_of_func tyOK mixed (fn := Go.Proofs.Tryz.f153) (by kernel_rfl) (by kernel_rfl) (by kernel_rfl) (ann := [])
  (show hFunc prog TT [] Go.Proofs.Tryz.f153 [a0, a1] st R from (show hFunc prog TT [] Go.Proofs.Tryz.f153 [a0, a1] st R = b_impl_over a0 a1 st R by kernel_rfl) ▸ h)
theorem e_strings_IndexByte : Enters prog n_strings_IndexByte := ⟨Go.Proofs.Tryz.f158, by kernel_rfl, by kernel_rfl, by kernel_rfl⟩
end Go.H.Tryz
