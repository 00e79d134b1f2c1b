/- Part of a proof that the program answers as the reference does: ZFS4. -/
import Derived.Test.YtakcoedklmoboaaGreatDoorHT
/- MADE BY PROGRAM (hgen.py): what the functions compute, over pure values. -/
set_option linter.unusedVariables false
set_option maxRecDepth 100000
namespace Go.H.Tryz
open Go Go.H
def b_impl_checker_found (a0 a1 a2 a3 : PV) (st : St) (R : Res → St → Prop) : Prop :=
 e_box st a2 fun v6 st =>
 e_alloc st [.int .i64 0, .int .i64 0, .str [], .sl 0 true []] fun v8 st =>
 hJ (fun ls st =>
  qb (q_fa 0 (ls.getD 0 .junk)) fun v22 =>
  qb (q_load st false 1 v22) fun v23 =>
  qb (q_bin .neq v23 (.int .i64 3)) fun v24 =>
  cb v24 fun b => br b
   (callK prog n_impl_stop [(.int .i64 8), a3] st (fun v26 st =>
   qb (q_load st true 4 (ls.getD 0 .junk)) fun v27 =>
   e_store st 4 v8 v27 fun st =>
   qb (q_load st true 4 v8) fun r => retR R r st) (panR R))
   (qb (q_load st true 4 (ls.getD 0 .junk)) fun v27_1 =>
   e_store st 4 v8 v27_1 fun st =>
   qb (q_load st true 4 v8) fun r_1 => retR R r_1 st))
  (fun k =>
 qb (q_fa 3 v6) fun v12 =>
 qb (q_load st false 1 v12) fun v13 =>
 qb (q_load st true 4 v6) fun v16 =>
 qb (q_bin .add a3 (.int .i64 1)) fun v20 =>
 (callK prog n_impl_checker_head [a0, a1, v16, a3] st (fun v18 st =>
 q_load st false 1 v12 = some v13 ∧ ((callK prog n_impl_checker_args [a0, a1, v13, v18, v20] st (fun v21 st =>
 e_alloc st [.int .i64 0, .int .i64 0, .str [], .sl 0 true []] fun v9 st =>
 q_load st true 4 v6 = some v16 ∧ q_load st false 1 v12 = some v13 ∧ (e_store st 4 v9 v21 fun st =>
 k [v9] st)) (panR R)) ∧
 (e_alloc st [.int .i64 0, .int .i64 0, .str [], .sl 0 true []] fun v9_1 st =>
 q_load st true 4 v6 = some v16 ∧ q_load st false 1 v12 = some v13 ∧ (callK prog n_impl_checker_args [a0, a1, v13, v18, v20] st (fun v21_1 st =>
 e_store st 4 v9_1 v21_1 fun st =>
 k [v9_1] st) (panR R))))) (panR R)) ∧
 (e_alloc st [.int .i64 0, .int .i64 0, .str [], .sl 0 true []] fun v9_2 st =>
 q_load st true 4 v6 = some v16 ∧ q_load st false 1 v12 = some v13 ∧ (callK prog n_impl_checker_head [a0, a1, v16, a3] st (fun v18_1 st =>
 q_load st false 1 v12 = some v13 ∧ (callK prog n_impl_checker_args [a0, a1, v13, v18_1, v20] st (fun v21_2 st =>
 e_store st 4 v9_2 v21_2 fun st =>
 k [v9_2] st) (panR R))) (panR R))))
theorem c_impl_checker_found {a0 a1 a2 a3 : PV} {st : St} {R : Res → St → Prop} (h : b_impl_checker_found a0 a1 a2 a3 st R) : HCalls prog n_impl_checker_found [a0, a1, a2, a3] st R :=
 hcalls_of_func tyOK mixed (fn := Go.Proofs.Tryz.f84) (by kernel_rfl) (by kernel_rfl) (by kernel_rfl) (ann := [(5, [9])])
  (show hFunc prog TT [(5, [9])] Go.Proofs.Tryz.f84 [a0, a1, a2, a3] st R from (show hFunc prog TT [(5, [9])] Go.Proofs.Tryz.f84 [a0, a1, a2, a3] st R = b_impl_checker_found a0 a1 a2 a3 st R by kernel_rfl) ▸ h)
def b_impl_ReadSig (a0 : PV) (st : St) (R : Res → St → Prop) : Prop :=
 e_alloc st [.sl 0 true []] fun v2 st =>
 e_alloc st [.int .i64 0] fun v3 st =>
 e_alloc st [.int .i64 0] fun v4 st =>
 e_alloc st [.int .i64 0] fun v5 st =>
 callK prog n_impl_longText [a0] st (fun v11 st =>
 cb v11 fun b => br b
  (e_store st 1 v2 (.sl 0 true []) fun st =>
  e_store st 1 v3 (.int .i64 2) fun st =>
  e_store st 1 v4 (.int .i64 0) fun st =>
  e_store st 1 v5 (.int .i64 0) fun st =>
  qb (q_load st false 1 v2) fun r => qb (q_load st false 1 v3) fun r_1 => qb (q_load st false 1 v4) fun r_2 => qb (q_load st false 1 v5) fun r_3 => retR R (.tup [r, r_1, r_2, r_3]) st)
  (qb (q_lit 6 0 0 [] []) fun v12 =>
  e_alloc st [.sl 0 true []] fun v6 st =>
  e_alloc st [.int .i64 0] fun v7 st =>
  e_store st 1 v6 v12 fun st =>
  e_store st 1 v7 (.int .i64 0) fun st =>
  callK prog n_strings_Lines [a0] st (fun v14 st =>
  hRange prog v14 st (fun ar st B X => if ar.length = 1 then
   e_alloc st [.str []] fun v8 st =>
   e_store st 1 v8 (ar.getD 0 .junk) fun st =>
   B st fun st =>
   qb (q_load st false 1 v7) fun v16 =>
   qb (q_bin .add v16 (.int .i64 1)) fun v17 =>
   e_store st 1 v7 v17 fun st =>
   qb (q_load st false 1 v8) fun v18 =>
   callK prog n_strings_TrimSuffix [v18, (.str [10])] st (fun v19 st =>
   e_store st 1 v8 v19 fun st =>
   qb (q_load st false 1 v8) fun v20 =>
   callK prog n_impl_says [v20] st (fun v21 st =>
   qb (q_un .not v21) fun v22 =>
   cb v22 fun b_1 => br b_1
    (X .normal st)
    (qb (q_load st false 1 v8) fun v23 =>
    qb (q_lenS v23) fun v24 =>
    qb (q_bin .gtr v24 (.int .i64 4096)) fun v25 =>
    cb v25 fun b_2 => br b_2
     (qb (q_load st false 1 v7) fun v26 =>
     e_store st 1 v2 (.sl 0 true []) fun st =>
     q_load st false 1 v7 = some v26 ∧ (e_store st 1 v3 (.int .i64 11) fun st =>
     q_load st false 1 v7 = some v26 ∧ (e_store st 1 v4 v26 fun st =>
     e_store st 1 v5 (.int .i64 0) fun st =>
     X .ret st)))
     (callK prog n_impl_caught [(.fn (.func n_impl_ReadSig_1) [] [v6, v8])] st (fun v28 st =>
     e_alloc st [.int .i64 0, .int .i64 0] fun v9 st =>
     e_store st 2 v9 v28 fun st =>
     qb (q_fa 0 v9) fun v29 =>
     qb (q_load st false 1 v29) fun v30 =>
     qb (q_bin .neq v30 (.int .i64 0)) fun v31 =>
     cb v31 fun b_3 => br b_3
      (qb (q_fa 0 v9) fun v32 =>
      qb (q_load st false 1 v32) fun v33 =>
      qb (q_load st false 1 v7) fun v34 =>
      qb (q_fa 1 v9) fun v35 =>
      qb (q_load st false 1 v35) fun v36 =>
      e_store st 1 v2 (.sl 0 true []) fun st =>
      q_load st false 1 v35 = some v36 ∧ q_load st false 1 v7 = some v34 ∧ q_load st false 1 v32 = some v33 ∧ (e_store st 1 v3 v33 fun st =>
      q_load st false 1 v35 = some v36 ∧ q_load st false 1 v7 = some v34 ∧ (e_store st 1 v4 v34 fun st =>
      q_load st false 1 v35 = some v36 ∧ (e_store st 1 v5 v36 fun st =>
      X .ret st))))
      (X .normal st)) (fun p st => X (.pan p) st)))) (fun p st => X (.pan p) st)) (fun p st => X (.pan p) st)
   else False)
   (fun st =>
   qb (q_load st false 1 v6) fun v37 =>
   e_store st 1 v2 v37 fun st =>
   e_store st 1 v3 (.int .i64 0) fun st =>
   e_store st 1 v4 (.int .i64 0) fun st =>
   e_store st 1 v5 (.int .i64 0) fun st =>
   qb (q_load st false 1 v2) fun r_4 => qb (q_load st false 1 v3) fun r_5 => qb (q_load st false 1 v4) fun r_6 => qb (q_load st false 1 v5) fun r_7 => retR R (.tup [r_4, r_5, r_6, r_7]) st)
   [((.exit 1), fun st =>
   False), (.ret, fun st =>
   qb (q_load st false 1 v2) fun r_8 => qb (q_load st false 1 v3) fun r_9 => qb (q_load st false 1 v4) fun r_10 => qb (q_load st false 1 v5) fun r_11 => retR R (.tup [r_8, r_9, r_10, r_11]) st), (.ret, fun st =>
   qb (q_load st false 1 v2) fun r_12 => qb (q_load st false 1 v3) fun r_13 => qb (q_load st false 1 v4) fun r_14 => qb (q_load st false 1 v5) fun r_15 => retR R (.tup [r_12, r_13, r_14, r_15]) st)]) (panR R))) (panR R)
theorem c_impl_ReadSig {a0 : PV} {st : St} {R : Res → St → Prop} (h : b_impl_ReadSig a0 st R) : HCalls prog n_impl_ReadSig [a0] st R :=
 hcalls_of_func tyOK mixed (fn := Go.Proofs.Tryz.f85) (by kernel_rfl) (by kernel_rfl) (by kernel_rfl) (ann := [])
  (show hFunc prog TT [] Go.Proofs.Tryz.f85 [a0] st R from (show hFunc prog TT [] Go.Proofs.Tryz.f85 [a0] st R = b_impl_ReadSig a0 st R by kernel_rfl) ▸ h)
def b_slices_Max_int_int (a0 : PV) (st : St) (R : Res → St → Prop) : Prop :=
 qb (q_len a0) fun v6 =>
 qb (q_bin .lss v6 (.int .i64 1)) fun v7 =>
 cb v7 fun b => br b
  (qb (q_iface ty_string (.str [115, 108, 105, 99, 101, 115, 46, 77, 97, 120, 58, 32, 101, 109, 112, 116, 121, 32, 108, 105, 115, 116])) fun v8 =>
  e_panic v8 st (panR R))
  (qb (q_ia 1 a0 (.int .i64 0)) fun v10 =>
  qb (q_load st false 1 v10) fun v11 =>
  hFix (fun ls st X =>
   qb (q_len a0) fun v14 =>
   qb (q_bin .lss (ls.getD 1 .junk) v14) fun v15 =>
   cb v15 fun b_1 => br b_1
    (qb (q_ia 1 a0 (ls.getD 1 .junk)) fun v21 =>
    qb (q_load st false 1 v21) fun v22 =>
    qb (q_max (ls.getD 0 .junk) v22) fun v23 =>
    qb (q_bin .add (ls.getD 1 .junk) (.int .i64 1)) fun v17 =>
    X [v23, v17] st)
    (retR R (ls.getD 0 .junk) st))
   [v11, (.int .i64 1)] st)
theorem c_slices_Max_int_int {a0 : PV} {st : St} {R : Res → St → Prop} (h : b_slices_Max_int_int a0 st R) : HCalls prog n_slices_Max_int_int [a0] st R :=
 hcalls_of_func tyOK mixed (fn := Go.Proofs.Tryz.f90) (by kernel_rfl) (by kernel_rfl) (by kernel_rfl) (ann := [(20, [3, 4])])
  (show hFunc prog TT [(20, [3, 4])] Go.Proofs.Tryz.f90 [a0] st R from (show hFunc prog TT [(20, [3, 4])] Go.Proofs.Tryz.f90 [a0] st R = b_slices_Max_int_int a0 st R by kernel_rfl) ▸ h)
def b_impl_variable (a0 a1 : PV) (st : St) (R : Res → St → Prop) : Prop :=
 e_alloc st [.int .i64 0, .int .i64 0, .str [], .sl 0 true []] fun v4 st =>
 qb (q_struct [.int .i64 0, .int .i64 0, .str [], .sl 0 true []] [(0, 1, (.int .i64 5)), (1, 1, a0), (3, 1, a1)]) fun v7 =>
 e_store st 4 v4 v7 fun st =>
 qb (q_load st true 4 v4) fun r => retR R r st
theorem c_impl_variable {a0 a1 : PV} {st : St} {R : Res → St → Prop} (h : b_impl_variable a0 a1 st R) : HCalls prog n_impl_variable [a0, a1] st R :=
 hcalls_of_func tyOK mixed (fn := Go.Proofs.Tryz.f103) (by kernel_rfl) (by kernel_rfl) (by kernel_rfl) (ann := [])
  (show hFunc prog TT [] Go.Proofs.Tryz.f103 [a0, a1] st R from (show hFunc prog TT [] Go.Proofs.Tryz.f103 [a0, a1] st R = b_impl_variable a0 a1 st R by kernel_rfl) ▸ h)
end Go.H.Tryz
