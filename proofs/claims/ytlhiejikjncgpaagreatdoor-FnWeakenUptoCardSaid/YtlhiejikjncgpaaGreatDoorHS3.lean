/- Part of a proof that the program answers as the reference does: EFS3. -/
import Derived.Test.YtlhiejikjncgpaaGreatDoorHT
/- MADE BY PROGRAM (hgen.py): what the functions compute, over pure values. -/
set_option linter.unusedVariables false
set_option maxRecDepth 100000
namespace Go.H.Tryz
open Go Go.H
def b_impl_stop (a0 a1 : PV) (st : St) (R : Res → St → Prop) : Prop :=
 qb (q_struct [.int .i64 0, .int .i64 0] [(0, 1, a0), (1, 1, a1)]) fun v6 =>
 qb (q_iface ty_impl_halt v6) fun v7 =>
 e_panic v7 st (panR R)
theorem c_impl_stop {a0 a1 : PV} {st : St} {R : Res → St → Prop} (h : b_impl_stop a0 a1 st R) : HCalls prog n_impl_stop [a0, a1] st R :=
 hcalls_of_func tyOK mixed (fn := Go.Proofs.Tryz.f68) (by kernel_rfl) (by kernel_rfl) (by kernel_rfl) (ann := [])
  (show hFunc prog TT [] Go.Proofs.Tryz.f68 [a0, a1] st R from (show hFunc prog TT [] Go.Proofs.Tryz.f68 [a0, a1] st R = b_impl_stop a0 a1 st R by kernel_rfl) ▸ h)
def b_impl_checker_found (a0 a1 a2 a3 : PV) (st : St) (R : Res → St → Prop) : Prop :=
 e_box st a2 fun v6 st =>
 e_alloc st [.int .i64 0, .int .i64 0, .str [], .sl 0 true []] fun v8 st =>
 hJ (fun ls st =>
  qb (q_fa 0 (ls.getD 0 .junk)) fun v22 =>
  qb (q_load st false 1 v22) fun v23 =>
  qb (q_bin .neq v23 (.int .i64 3)) fun v24 =>
  cb v24 fun b => br b
   (callK prog n_impl_stop [(.int .i64 8), a3] st (fun v26 st =>
   qb (q_load st true 4 (ls.getD 0 .junk)) fun v27 =>
   e_store st 4 v8 v27 fun st =>
   qb (q_load st true 4 v8) fun r => retR R r st) (panR R))
   (qb (q_load st true 4 (ls.getD 0 .junk)) fun v27_1 =>
   e_store st 4 v8 v27_1 fun st =>
   qb (q_load st true 4 v8) fun r_1 => retR R r_1 st))
  (fun k =>
 qb (q_fa 3 v6) fun v12 =>
 qb (q_load st false 1 v12) fun v13 =>
 qb (q_load st true 4 v6) fun v16 =>
 qb (q_bin .add a3 (.int .i64 1)) fun v20 =>
 (callK prog n_impl_checker_head [a0, a1, v16, a3] st (fun v18 st =>
 q_load st false 1 v12 = some v13 ∧ ((callK prog n_impl_checker_args [a0, a1, v13, v18, v20] st (fun v21 st =>
 e_alloc st [.int .i64 0, .int .i64 0, .str [], .sl 0 true []] fun v9 st =>
 q_load st true 4 v6 = some v16 ∧ q_load st false 1 v12 = some v13 ∧ (e_store st 4 v9 v21 fun st =>
 k [v9] st)) (panR R)) ∧
 (e_alloc st [.int .i64 0, .int .i64 0, .str [], .sl 0 true []] fun v9_1 st =>
 q_load st true 4 v6 = some v16 ∧ q_load st false 1 v12 = some v13 ∧ (callK prog n_impl_checker_args [a0, a1, v13, v18, v20] st (fun v21_1 st =>
 e_store st 4 v9_1 v21_1 fun st =>
 k [v9_1] st) (panR R))))) (panR R)) ∧
 (e_alloc st [.int .i64 0, .int .i64 0, .str [], .sl 0 true []] fun v9_2 st =>
 q_load st true 4 v6 = some v16 ∧ q_load st false 1 v12 = some v13 ∧ (callK prog n_impl_checker_head [a0, a1, v16, a3] st (fun v18_1 st =>
 q_load st false 1 v12 = some v13 ∧ (callK prog n_impl_checker_args [a0, a1, v13, v18_1, v20] st (fun v21_2 st =>
 e_store st 4 v9_2 v21_2 fun st =>
 k [v9_2] st) (panR R))) (panR R))))
theorem c_impl_checker_found {a0 a1 a2 a3 : PV} {st : St} {R : Res → St → Prop} (h : b_impl_checker_found a0 a1 a2 a3 st R) : HCalls prog n_impl_checker_found [a0, a1, a2, a3] st R :=
 hcalls_of_func tyOK mixed (fn := Go.Proofs.Tryz.f69) (by kernel_rfl) (by kernel_rfl) (by kernel_rfl) (ann := [(5, [9])])
  (show hFunc prog TT [(5, [9])] Go.Proofs.Tryz.f69 [a0, a1, a2, a3] st R from (show hFunc prog TT [(5, [9])] Go.Proofs.Tryz.f69 [a0, a1, a2, a3] st R = b_impl_checker_found a0 a1 a2 a3 st R by kernel_rfl) ▸ h)
def b_impl_longLists (a0 : PV) (st : St) (R : Res → St → Prop) : Prop :=
 callK prog n_slices_Max_int_int [a0] st (fun v4 st =>
 qb (q_bin .gtr v4 (.int .i64 4096)) fun v5 =>
 retR R v5 st) (panR R)
theorem c_impl_longLists {a0 : PV} {st : St} {R : Res → St → Prop} (h : b_impl_longLists a0 st R) : HCalls prog n_impl_longLists [a0] st R :=
 hcalls_of_func tyOK mixed (fn := Go.Proofs.Tryz.f71) (by kernel_rfl) (by kernel_rfl) (by kernel_rfl) (ann := [])
  (show hFunc prog TT [] Go.Proofs.Tryz.f71 [a0] st R from (show hFunc prog TT [] Go.Proofs.Tryz.f71 [a0] st R = b_impl_longLists a0 st R by kernel_rfl) ▸ h)
def b_impl_SigOK (a0 : PV) (st : St) (R : Res → St → Prop) : Prop :=
 qb (q_len a0) fun v6 =>
 qb (q_bin .gtr v6 (.int .i64 40)) fun v7 =>
 cb v7 fun b => br b
  (retR R (.bool false) st)
  (qb (q_len a0) fun v9 =>
  hFix (fun ls st X =>
   qb (q_bin .lss (ls.getD 0 .junk) v9) fun v11 =>
   cb v11 fun b_1 => br b_1
    (qb (q_ia 6 a0 (ls.getD 0 .junk)) fun v13 =>
    qb (q_load st true 6 v13) fun v14 =>
    e_alloc st [.str [], .bool false, .int .i64 0, .int .i64 0, .str [], .sl 0 true []] fun v4 st =>
    e_store st 6 v4 v14 fun st =>
    qb (q_load st true 6 v4) fun v15 =>
    callK prog n_impl_declForm [v15] st (fun v16 st =>
    qb (q_un .not v16) fun v17 =>
    cb v17 fun b_2 => br b_2
     (retR R (.bool false) st)
     (qb (q_sliceE 6 a0 none (some (ls.getD 0 .junk)) none) fun v21 =>
     qb (q_fa 0 v4) fun v22 =>
     qb (q_load st false 1 v22) fun v23 =>
     callK prog n_impl_has [v21, v23] st (fun v24 st =>
     cb v24 fun b_3 => br b_3
      (retR R (.bool false) st)
      (qb (q_sliceE 6 a0 none (some (ls.getD 0 .junk)) none) fun v29 =>
      qb (q_load st true 6 v4) fun v30 =>
      callK prog n_impl_declFault [v29, v30] st (fun v31 st =>
      qb (q_field false 1 0 v31) fun v32 =>
      qb (q_bin .neq v32 (.int .i64 0)) fun v33 =>
      cb v33 fun b_4 => br b_4
       (retR R (.bool false) st)
       (qb (q_bin .add (ls.getD 0 .junk) (.int .i64 1)) fun v35 =>
       X [v35] st)) (panR R))) (panR R))) (panR R))
    (retR R (.bool true) st))
   [(.int .i64 0)] st)
theorem c_impl_SigOK {a0 : PV} {st : St} {R : Res → St → Prop} (h : b_impl_SigOK a0 st R) : HCalls prog n_impl_SigOK [a0] st R :=
 hcalls_of_func tyOK mixed (fn := Go.Proofs.Tryz.f72) (by kernel_rfl) (by kernel_rfl) (by kernel_rfl) (ann := [(16, [10])])
  (show hFunc prog TT [(16, [10])] Go.Proofs.Tryz.f72 [a0] st R from (show hFunc prog TT [(16, [10])] Go.Proofs.Tryz.f72 [a0] st R = b_impl_SigOK a0 st R by kernel_rfl) ▸ h)
def b_impl_Tree_each (a0 a1 a2 : PV) (st : St) (R : Res → St → Prop) : Prop :=
 e_call prog st a2 [a0, a1] (fun v11 st =>
 cb v11 fun b => br b
  (retR R (.bool true) st)
  (qb (q_nil a0) fun v13 =>
  qb (q_fa 3 v13) fun v14 =>
  qb (q_load st false 1 v14) fun v15 =>
  qb (q_len v15) fun v16 =>
  hFix (fun ls st X =>
   qb (q_bin .lss (ls.getD 0 .junk) v16) fun v18 =>
   cb v18 fun b_1 => br b_1
    (qb (q_nil a0) fun v21 =>
    qb (q_fa 3 v21) fun v22 =>
    qb (q_load st false 1 v22) fun v23 =>
    qb (q_ia 4 v23 (ls.getD 0 .junk)) fun v25 =>
    callK prog n_impl_Tree_under [a0, (ls.getD 0 .junk)] st (fun v29 st =>
    q_load st false 1 v22 = some v23 ∧ (qb (q_bin .add a1 v29) fun v30 =>
    callK prog n_impl_Tree_each [v25, v30, a2] st (fun v32 st =>
    cb v32 fun b_2 => br b_2
     (retR R (.bool true) st)
     (qb (q_bin .add (ls.getD 0 .junk) (.int .i64 1)) fun v33 =>
     X [v33] st)) (panR R))) (panR R))
    (retR R (.bool false) st))
   [(.int .i64 0)] st)) (panR R)
theorem c_impl_Tree_each {a0 a1 a2 : PV} {st : St} {R : Res → St → Prop} (h : b_impl_Tree_each a0 a1 a2 st R) : HCalls prog n_impl_Tree_each [a0, a1, a2] st R :=
 hcalls_of_func tyOK mixed (fn := Go.Proofs.Tryz.f78) (by kernel_rfl) (by kernel_rfl) (by kernel_rfl) (ann := [(16, [17])])
  (show hFunc prog TT [(16, [17])] Go.Proofs.Tryz.f78 [a0, a1, a2] st R from (show hFunc prog TT [(16, [17])] Go.Proofs.Tryz.f78 [a0, a1, a2] st R = b_impl_Tree_each a0 a1 a2 st R by kernel_rfl) ▸ h)
end Go.H.Tryz
