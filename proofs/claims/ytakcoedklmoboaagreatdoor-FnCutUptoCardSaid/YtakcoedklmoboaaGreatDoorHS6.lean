/- Part of a proof that the program answers as the reference does: ZFS6. -/
import Derived.Test.YtakcoedklmoboaaGreatDoorHT
/- MADE BY PROGRAM (hgen.py): what the functions compute, over pure values. -/
set_option linter.unusedVariables false
set_option maxRecDepth 100000
namespace Go.H.Tryz
open Go Go.H
def b_slices_IndexFunc_impl_Form_impl_Form (a0 a1 : PV) (st : St) (R : Res → St → Prop) : Prop :=
 qb (q_len a0) fun v7 =>
 hFix (fun ls st X =>
  qb (q_bin .lss (ls.getD 0 .junk) v7) fun v9 =>
  cb v9 fun b => br b
   (qb (q_ia 3 a0 (ls.getD 0 .junk)) fun v14 =>
   qb (q_load st true 3 v14) fun v15 =>
   e_call prog st a1 [v15] (fun v16 st =>
   cb v16 fun b_1 => br b_1
    (retR R (ls.getD 0 .junk) st)
    (qb (q_bin .add (ls.getD 0 .junk) (.int .i64 1)) fun v18 =>
    X [v18] st)) (panR R))
   (retR R (.int .i64 (-1)) st))
  [(.int .i64 0)] st
theorem c_slices_IndexFunc_impl_Form_impl_Form {a0 a1 : PV} {st : St} {R : Res → St → Prop} (h : b_slices_IndexFunc_impl_Form_impl_Form a0 a1 st R) : HCalls prog n_slices_IndexFunc_impl_Form_impl_Form [a0, a1] st R :=
 hcalls_of_func tyOK mixed (fn := Go.Proofs.Tryz.f133) (by kernel_rfl) (by kernel_rfl) (by kernel_rfl) (ann := [(8, [8])])
  (show hFunc prog TT [(8, [8])] Go.Proofs.Tryz.f133 [a0, a1] st R from (show hFunc prog TT [(8, [8])] Go.Proofs.Tryz.f133 [a0, a1] st R = b_slices_IndexFunc_impl_Form_impl_Form a0 a1 st R by kernel_rfl) ▸ h)
def b_impl_ruleOf_1 (a0 : PV) (st : St) (R : Res → St → Prop) : Prop :=
 qb (q_ia 3 a0 (.int .i64 0)) fun v4 =>
 qb (q_load st true 3 v4) fun v5 =>
 qb (q_ia 3 a0 (.int .i64 1)) fun v7 =>
 qb (q_load st true 3 v7) fun v8 =>
 callK prog n_impl_and [v5, v8] st (fun v9 st =>
 qb (q_lit 3 1 0 [] [(0, v9)]) fun v10 =>
 retR R v10 st) (panR R)
theorem c_impl_ruleOf_1 {a0 : PV} {st : St} {R : Res → St → Prop} (h : b_impl_ruleOf_1 a0 st R) : HCalls prog n_impl_ruleOf_1 [a0] st R :=
 hcalls_of_func tyOK mixed (fn := Go.Proofs.Tryz.f134) (by kernel_rfl) (by kernel_rfl) (by kernel_rfl) (ann := [])
  (show hFunc prog TT [] Go.Proofs.Tryz.f134 [a0] st R from (show hFunc prog TT [] Go.Proofs.Tryz.f134 [a0] st R = b_impl_ruleOf_1 a0 st R by kernel_rfl) ▸ h)
def b_impl_ruleOf_2 (a0 : PV) (st : St) (R : Res → St → Prop) : Prop :=
 e_alloc st [.int .i64 0, .int .i64 0, .sl 0 true []] fun v2 st =>
 qb (q_ia 3 a0 (.int .i64 0)) fun v4 =>
 qb (q_load st true 3 v4) fun v5 =>
 e_store st 3 v2 v5 fun st =>
 qb (q_load st true 3 v2) fun r => retR R r st
theorem c_impl_ruleOf_2 {a0 : PV} {st : St} {R : Res → St → Prop} (h : b_impl_ruleOf_2 a0 st R) : HCalls prog n_impl_ruleOf_2 [a0] st R :=
 hcalls_of_func tyOK mixed (fn := Go.Proofs.Tryz.f135) (by kernel_rfl) (by kernel_rfl) (by kernel_rfl) (ann := [])
  (show hFunc prog TT [] Go.Proofs.Tryz.f135 [a0] st R from (show hFunc prog TT [] Go.Proofs.Tryz.f135 [a0] st R = b_impl_ruleOf_2 a0 st R by kernel_rfl) ▸ h)
def b_impl_ruleOf_3 (a0 : PV) (st : St) (R : Res → St → Prop) : Prop :=
 e_alloc st [.int .i64 0, .int .i64 0, .sl 0 true []] fun v2 st =>
 qb (q_ia 3 a0 (.int .i64 1)) fun v4 =>
 qb (q_load st true 3 v4) fun v5 =>
 e_store st 3 v2 v5 fun st =>
 qb (q_load st true 3 v2) fun r => retR R r st
theorem c_impl_ruleOf_3 {a0 : PV} {st : St} {R : Res → St → Prop} (h : b_impl_ruleOf_3 a0 st R) : HCalls prog n_impl_ruleOf_3 [a0] st R :=
 hcalls_of_func tyOK mixed (fn := Go.Proofs.Tryz.f136) (by kernel_rfl) (by kernel_rfl) (by kernel_rfl) (ann := [])
  (show hFunc prog TT [] Go.Proofs.Tryz.f136 [a0] st R from (show hFunc prog TT [] Go.Proofs.Tryz.f136 [a0] st R = b_impl_ruleOf_3 a0 st R by kernel_rfl) ▸ h)
def b_impl_ruleOf_4 (a0 : PV) (st : St) (R : Res → St → Prop) : Prop :=
 retR R a0 st
theorem c_impl_ruleOf_4 {a0 : PV} {st : St} {R : Res → St → Prop} (h : b_impl_ruleOf_4 a0 st R) : HCalls prog n_impl_ruleOf_4 [a0] st R :=
 hcalls_of_func tyOK mixed (fn := Go.Proofs.Tryz.f137) (by kernel_rfl) (by kernel_rfl) (by kernel_rfl) (ann := [])
  (show hFunc prog TT [] Go.Proofs.Tryz.f137 [a0] st R from (show hFunc prog TT [] Go.Proofs.Tryz.f137 [a0] st R = b_impl_ruleOf_4 a0 st R by kernel_rfl) ▸ h)
def b_impl_ruleOf_5 (a0 : PV) (st : St) (R : Res → St → Prop) : Prop :=
 e_alloc st [.int .i64 0, .int .i64 0, .sl 0 true []] fun v2 st =>
 qb (q_ia 3 a0 (.int .i64 0)) fun v4 =>
 qb (q_load st true 3 v4) fun v5 =>
 qb (q_ia 3 a0 (.int .i64 1)) fun v7 =>
 qb (q_load st true 3 v7) fun v8 =>
 callK prog n_impl_and [v5, v8] st (fun v9 st =>
 e_store st 3 v2 v9 fun st =>
 qb (q_load st true 3 v2) fun r => retR R r st) (panR R)
theorem c_impl_ruleOf_5 {a0 : PV} {st : St} {R : Res → St → Prop} (h : b_impl_ruleOf_5 a0 st R) : HCalls prog n_impl_ruleOf_5 [a0] st R :=
 hcalls_of_func tyOK mixed (fn := Go.Proofs.Tryz.f138) (by kernel_rfl) (by kernel_rfl) (by kernel_rfl) (ann := [])
  (show hFunc prog TT [] Go.Proofs.Tryz.f138 [a0] st R from (show hFunc prog TT [] Go.Proofs.Tryz.f138 [a0] st R = b_impl_ruleOf_5 a0 st R by kernel_rfl) ▸ h)
def b_impl_ruleOf_6 (a0 : PV) (st : St) (R : Res → St → Prop) : Prop :=
 qb (q_sliceE 3 a0 (some (.int .i64 1)) none none) fun v4 =>
 retR R v4 st
theorem c_impl_ruleOf_6 {a0 : PV} {st : St} {R : Res → St → Prop} (h : b_impl_ruleOf_6 a0 st R) : HCalls prog n_impl_ruleOf_6 [a0] st R :=
 hcalls_of_func tyOK mixed (fn := Go.Proofs.Tryz.f139) (by kernel_rfl) (by kernel_rfl) (by kernel_rfl) (ann := [])
  (show hFunc prog TT [] Go.Proofs.Tryz.f139 [a0] st R from (show hFunc prog TT [] Go.Proofs.Tryz.f139 [a0] st R = b_impl_ruleOf_6 a0 st R by kernel_rfl) ▸ h)
def b_impl_ruleOf_7 (a0 : PV) (st : St) (R : Res → St → Prop) : Prop :=
 e_alloc st [.int .i64 0, .int .i64 0, .sl 0 true []] fun v2 st =>
 qb (q_ia 3 a0 (.int .i64 0)) fun v4 =>
 qb (q_load st true 3 v4) fun v5 =>
 qb (q_ia 3 a0 (.int .i64 1)) fun v7 =>
 qb (q_load st true 3 v7) fun v8 =>
 callK prog n_impl_implies [v5, v8] st (fun v9 st =>
 e_store st 3 v2 v9 fun st =>
 qb (q_load st true 3 v2) fun r => retR R r st) (panR R)
theorem c_impl_ruleOf_7 {a0 : PV} {st : St} {R : Res → St → Prop} (h : b_impl_ruleOf_7 a0 st R) : HCalls prog n_impl_ruleOf_7 [a0] st R :=
 hcalls_of_func tyOK mixed (fn := Go.Proofs.Tryz.f140) (by kernel_rfl) (by kernel_rfl) (by kernel_rfl) (ann := [])
  (show hFunc prog TT [] Go.Proofs.Tryz.f140 [a0] st R from (show hFunc prog TT [] Go.Proofs.Tryz.f140 [a0] st R = b_impl_ruleOf_7 a0 st R by kernel_rfl) ▸ h)
def b_impl_ruleOf_8 (a0 : PV) (st : St) (R : Res → St → Prop) : Prop :=
 qb (q_ia 3 a0 (.int .i64 0)) fun v4 =>
 qb (q_load st true 3 v4) fun v5 =>
 qb (q_ia 3 a0 (.int .i64 1)) fun v7 =>
 qb (q_load st true 3 v7) fun v8 =>
 qb (q_ia 3 a0 (.int .i64 0)) fun v11 =>
 qb (q_load st true 3 v11) fun v12 =>
 callK prog n_impl_implies [v5, v8] st (fun v9 st =>
 q_load st true 3 v11 = some v12 ∧ (qb (q_lit 3 2 0 [] [(0, v9), (1, v12)]) fun v13 =>
 retR R v13 st)) (panR R)
theorem c_impl_ruleOf_8 {a0 : PV} {st : St} {R : Res → St → Prop} (h : b_impl_ruleOf_8 a0 st R) : HCalls prog n_impl_ruleOf_8 [a0] st R :=
 hcalls_of_func tyOK mixed (fn := Go.Proofs.Tryz.f141) (by kernel_rfl) (by kernel_rfl) (by kernel_rfl) (ann := [])
  (show hFunc prog TT [] Go.Proofs.Tryz.f141 [a0] st R from (show hFunc prog TT [] Go.Proofs.Tryz.f141 [a0] st R = b_impl_ruleOf_8 a0 st R by kernel_rfl) ▸ h)
def b_impl_ruleOf_9 (a0 : PV) (st : St) (R : Res → St → Prop) : Prop :=
 callK prog n_impl_bottom [] st (fun v3 st =>
 qb (q_lit 3 1 0 [] [(0, v3)]) fun v4 =>
 retR R v4 st) (panR R)
theorem c_impl_ruleOf_9 {a0 : PV} {st : St} {R : Res → St → Prop} (h : b_impl_ruleOf_9 a0 st R) : HCalls prog n_impl_ruleOf_9 [a0] st R :=
 hcalls_of_func tyOK mixed (fn := Go.Proofs.Tryz.f142) (by kernel_rfl) (by kernel_rfl) (by kernel_rfl) (ann := [])
  (show hFunc prog TT [] Go.Proofs.Tryz.f142 [a0] st R from (show hFunc prog TT [] Go.Proofs.Tryz.f142 [a0] st R = b_impl_ruleOf_9 a0 st R by kernel_rfl) ▸ h)
def b_slices_EqualFunc_impl_Form_impl_Form_impl_Form_impl_Form (a0 a1 a2 : PV) (st : St) (R : Res → St → Prop) : Prop :=
 qb (q_len a0) fun v11 =>
 qb (q_len a1) fun v13 =>
 qb (q_bin .neq v11 v13) fun v14 =>
 cb v14 fun b => br b
  (retR R (.bool false) st)
  (qb (q_len a0) fun v16 =>
  hFix (fun ls st X =>
   qb (q_bin .lss (ls.getD 0 .junk) v16) fun v18 =>
   cb v18 fun b_1 => br b_1
    (qb (q_ia 3 a0 (ls.getD 0 .junk)) fun v20 =>
    qb (q_load st true 3 v20) fun v21 =>
    e_alloc st [.int .i64 0, .int .i64 0, .sl 0 true []] fun v8 st =>
    e_store st 3 v8 v21 fun st =>
    qb (q_ia 3 a1 (ls.getD 0 .junk)) fun v24 =>
    qb (q_load st true 3 v24) fun v25 =>
    e_alloc st [.int .i64 0, .int .i64 0, .sl 0 true []] fun v9 st =>
    e_store st 3 v9 v25 fun st =>
    qb (q_load st true 3 v8) fun v27 =>
    qb (q_load st true 3 v9) fun v28 =>
    e_call prog st a2 [v27, v28] (fun v29 st =>
    qb (q_un .not v29) fun v30 =>
    cb v30 fun b_2 => br b_2
     (retR R (.bool false) st)
     (qb (q_bin .add (ls.getD 0 .junk) (.int .i64 1)) fun v31 =>
     X [v31] st)) (panR R))
    (retR R (.bool true) st))
   [(.int .i64 0)] st)
theorem c_slices_EqualFunc_impl_Form_impl_Form_impl_Form_impl_Form {a0 a1 a2 : PV} {st : St} {R : Res → St → Prop} (h : b_slices_EqualFunc_impl_Form_impl_Form_impl_Form_impl_Form a0 a1 a2 st R) : HCalls prog n_slices_EqualFunc_impl_Form_impl_Form_impl_Form_impl_Form [a0, a1, a2] st R :=
 hcalls_of_func tyOK mixed (fn := Go.Proofs.Tryz.f143) (by kernel_rfl) (by kernel_rfl) (by kernel_rfl) (ann := [(16, [17])])
  (show hFunc prog TT [(16, [17])] Go.Proofs.Tryz.f143 [a0, a1, a2] st R from (show hFunc prog TT [(16, [17])] Go.Proofs.Tryz.f143 [a0, a1, a2] st R = b_slices_EqualFunc_impl_Form_impl_Form_impl_Form_impl_Form a0 a1 a2 st R by kernel_rfl) ▸ h)
end Go.H.Tryz
