/- Part of a proof that the program answers as the reference does: ZDS1. -/
import Derived.Test.YtmfdgpjmdbdhcaaGreatDoorHT
/- MADE BY PROGRAM (hgen.py): what the functions compute, over pure values. -/
set_option linter.unusedVariables false
set_option maxRecDepth 100000
namespace Go.H.Tryz
open Go Go.H
def b_spec_Numbers (st : St) (R : Res → St → Prop) : Prop :=
 callK prog n_spec_l04Some [] st (fun v1 st =>
 retR R v1 st) (panR R)
theorem e_spec_Numbers : Enters prog n_spec_Numbers := ⟨Go.Proofs.Tryz.f22, by kernel_rfl, by kernel_rfl, by kernel_rfl⟩
theorem c_spec_Numbers {st : St} {R : Res → St → Prop} (h : b_spec_Numbers  st R) : HCalls prog n_spec_Numbers [] st R :=
 hcalls_of_func tyOK mixed (fn := Go.Proofs.Tryz.f22) (by kernel_rfl) (by kernel_rfl) (by kernel_rfl) (ann := [])
  (show hFunc prog TT [] Go.Proofs.Tryz.f22 [] st R from (show hFunc prog TT [] Go.Proofs.Tryz.f22 [] st R = b_spec_Numbers  st R by kernel_rfl) ▸ h)
def b_impl_CheckTerm (a0 a1 a2 a3 : PV) (st : St) (R : Res → St → Prop) : Prop :=
 e_box st a0 fun v4 st =>
 e_box st a1 fun v5 st =>
 e_box st a2 fun v6 st =>
 e_box st a3 fun v7 st =>
 qb (q_load st false 1 v4) fun v10 =>
 qb (q_load st false 1 v5) fun v11 =>
 callK prog n_impl_checked [v10, v11, (.fn (.func n_impl_CheckTerm_1) [] [v6, v4, v5, v7]), (.fn (.func n_impl_CheckTerm_2) [] [v5, v6, v7])] st (fun v14 st =>
 qb (q_ex v14 0) fun v15 =>
 qb (q_ex v14 1) fun v16 =>
 retR R (.tup [v15, v16]) st) (panR R)
theorem e_impl_CheckTerm : Enters prog n_impl_CheckTerm := ⟨Go.Proofs.Tryz.f23, by kernel_rfl, by kernel_rfl, by kernel_rfl⟩
theorem c_impl_CheckTerm {a0 a1 a2 a3 : PV} {st : St} {R : Res → St → Prop} (h : b_impl_CheckTerm a0 a1 a2 a3 st R) : HCalls prog n_impl_CheckTerm [a0, a1, a2, a3] st R :=
 hcalls_of_func tyOK mixed (fn := Go.Proofs.Tryz.f23) (by kernel_rfl) (by kernel_rfl) (by kernel_rfl) (ann := [])
  (show hFunc prog TT [] Go.Proofs.Tryz.f23 [a0, a1, a2, a3] st R from (show hFunc prog TT [] Go.Proofs.Tryz.f23 [a0, a1, a2, a3] st R = b_impl_CheckTerm a0 a1 a2 a3 st R by kernel_rfl) ▸ h)
def b_impl_Lift (a0 a1 a2 : PV) (st : St) (R : Res → St → Prop) : Prop :=
 e_box st a0 fun v3 st =>
 e_alloc st [.int .i64 0, .int .i64 0, .str [], .sl 0 true []] fun v6 st =>
 qb (q_load st true 4 v3) fun v10 =>
 qb (q_lit 1 2 0 [] [(0, a1), (1, a2)]) fun v13 =>
 callK prog n_impl_treeFault [v10, v13] st (fun v14 st =>
 qb (q_bin .neq v14 (.int .i64 0)) fun v16 =>
 cb v16 fun b => br b
  (qb (q_struct [.int .i64 0, .int .i64 0, .str [], .sl 0 true []] []) fun v17 =>
  e_store st 4 v6 v17 fun st =>
  qb (q_load st true 4 v6) fun r => retR R (.tup [r, v14]) st)
  (qb (q_load st true 4 v3) fun v19 =>
  callK prog n_impl_lift [v19, a1, a2] st (fun v22 st =>
  e_alloc st [.int .i64 0, .int .i64 0, .str [], .sl 0 true []] fun v9 st =>
  e_store st 4 v9 v22 fun st =>
  qb (q_load st true 4 v9) fun v23 =>
  callK prog n_impl_tooBig [v23] st (fun v24 st =>
  cb v24 fun b_1 => br b_1
   (qb (q_struct [.int .i64 0, .int .i64 0, .str [], .sl 0 true []] []) fun v25 =>
   e_store st 4 v6 v25 fun st =>
   qb (q_load st true 4 v6) fun r_1 => retR R (.tup [r_1, (.int .i64 11)]) st)
   (qb (q_load st true 4 v9) fun v26 =>
   e_store st 4 v6 v26 fun st =>
   qb (q_load st true 4 v6) fun r_2 => retR R (.tup [r_2, (.int .i64 0)]) st)) (panR R)) (panR R))) (panR R)
theorem e_impl_Lift : Enters prog n_impl_Lift := ⟨Go.Proofs.Tryz.f24, by kernel_rfl, by kernel_rfl, by kernel_rfl⟩
theorem c_impl_Lift {a0 a1 a2 : PV} {st : St} {R : Res → St → Prop} (h : b_impl_Lift a0 a1 a2 st R) : HCalls prog n_impl_Lift [a0, a1, a2] st R :=
 hcalls_of_func tyOK mixed (fn := Go.Proofs.Tryz.f24) (by kernel_rfl) (by kernel_rfl) (by kernel_rfl) (ann := [])
  (show hFunc prog TT [] Go.Proofs.Tryz.f24 [a0, a1, a2] st R from (show hFunc prog TT [] Go.Proofs.Tryz.f24 [a0, a1, a2] st R = b_impl_Lift a0 a1 a2 st R by kernel_rfl) ▸ h)
def b_spec_Lift (a0 a1 a2 : PV) (st : St) (R : Res → St → Prop) : Prop :=
 e_box st a0 fun v3 st =>
 e_alloc st [.int .i64 0, .int .i64 0, .str [], .sl 0 true []] fun v6 st =>
 qb (q_load st true 4 v3) fun v9 =>
 callK prog n_spec_l01Right [v9] st (fun v10 st =>
 qb (q_un .not v10) fun v11 =>
 cb v11 fun b => br b
  (qb (q_struct [.int .i64 0, .int .i64 0, .str [], .sl 0 true []] []) fun v12 =>
  e_store st 4 v6 v12 fun st =>
  qb (q_load st true 4 v6) fun r => retR R (.tup [r, (.int .i64 1)]) st)
  (hJ (fun ls st =>
   cb (ls.getD 0 .junk) fun b_1 => br b_1
    (qb (q_struct [.int .i64 0, .int .i64 0, .str [], .sl 0 true []] []) fun v27 =>
    e_store st 4 v6 v27 fun st =>
    qb (q_load st true 4 v6) fun r_1 => retR R (.tup [r_1, (.int .i64 16)]) st)
    (qb (q_load st true 4 v3) fun v28 =>
    callK prog n_spec_l01Lift [v28, a1, a2] st (fun v31 st =>
    e_alloc st [.int .i64 0, .int .i64 0, .str [], .sl 0 true []] fun v8 st =>
    e_store st 4 v8 v31 fun st =>
    qb (q_load st true 4 v8) fun v32 =>
    callK prog n_spec_l01High [v32] st (fun v33 st =>
    cb v33 fun b_2 => br b_2
     (qb (q_struct [.int .i64 0, .int .i64 0, .str [], .sl 0 true []] []) fun v34 =>
     e_store st 4 v6 v34 fun st =>
     qb (q_load st true 4 v6) fun r_2 => retR R (.tup [r_2, (.int .i64 11)]) st)
     (qb (q_load st true 4 v8) fun v35 =>
     e_store st 4 v6 v35 fun st =>
     qb (q_load st true 4 v6) fun r_3 => retR R (.tup [r_3, (.int .i64 0)]) st)) (panR R)) (panR R)))
   (fun k =>
  qb (q_bin .lss a1 (.int .i64 0)) fun v14 =>
  cb v14 fun b_3 => br b_3
   (k [(.bool true)] st)
   (qb (q_bin .gtr a1 (.int .i64 100)) fun v17 =>
   cb v17 fun b_4 => br b_4
    (k [(.bool true)] st)
    (qb (q_bin .lss a2 (.int .i64 0)) fun v21 =>
    cb v21 fun b_5 => br b_5
     (k [(.bool true)] st)
     (qb (q_bin .gtr a2 (.int .i64 100)) fun v25 =>
     k [v25] st)))))) (panR R)
theorem e_spec_Lift : Enters prog n_spec_Lift := ⟨Go.Proofs.Tryz.f25, by kernel_rfl, by kernel_rfl, by kernel_rfl⟩
theorem c_spec_Lift {a0 a1 a2 : PV} {st : St} {R : Res → St → Prop} (h : b_spec_Lift a0 a1 a2 st R) : HCalls prog n_spec_Lift [a0, a1, a2] st R :=
 hcalls_of_func tyOK mixed (fn := Go.Proofs.Tryz.f25) (by kernel_rfl) (by kernel_rfl) (by kernel_rfl) (ann := [(13, [26])])
  (show hFunc prog TT [(13, [26])] Go.Proofs.Tryz.f25 [a0, a1, a2] st R from (show hFunc prog TT [(13, [26])] Go.Proofs.Tryz.f25 [a0, a1, a2] st R = b_spec_Lift a0 a1 a2 st R by kernel_rfl) ▸ h)
def b_spec_TermOK (a0 : PV) (st : St) (R : Res → St → Prop) : Prop :=
 e_box st a0 fun v1 st =>
 qb (q_load st true 4 v1) fun v3 =>
 callK prog n_spec_l01Small [v3] st (fun v4 st =>
 cb v4 fun b => br b
  (qb (q_load st true 4 v1) fun v6 =>
  callK prog n_spec_l01Term [v6, (.bool false)] st (fun v7 st =>
  retR R v7 st) (panR R))
  (retR R (.bool false) st)) (panR R)
theorem e_spec_TermOK : Enters prog n_spec_TermOK := ⟨Go.Proofs.Tryz.f26, by kernel_rfl, by kernel_rfl, by kernel_rfl⟩
theorem c_spec_TermOK {a0 : PV} {st : St} {R : Res → St → Prop} (h : b_spec_TermOK a0 st R) : HCalls prog n_spec_TermOK [a0] st R :=
 hcalls_of_func tyOK mixed (fn := Go.Proofs.Tryz.f26) (by kernel_rfl) (by kernel_rfl) (by kernel_rfl) (ann := [])
  (show hFunc prog TT [] Go.Proofs.Tryz.f26 [a0] st R from (show hFunc prog TT [] Go.Proofs.Tryz.f26 [a0] st R = b_spec_TermOK a0 st R by kernel_rfl) ▸ h)
def b_spec_FamilyOK (a0 : PV) (st : St) (R : Res → St → Prop) : Prop :=
 e_box st a0 fun v1 st =>
 qb (q_load st true 4 v1) fun v3 =>
 callK prog n_spec_l01Small [v3] st (fun v4 st =>
 cb v4 fun b => br b
  (qb (q_load st true 4 v1) fun v6 =>
  callK prog n_spec_l01Family [v6] st (fun v7 st =>
  retR R v7 st) (panR R))
  (retR R (.bool false) st)) (panR R)
theorem e_spec_FamilyOK : Enters prog n_spec_FamilyOK := ⟨Go.Proofs.Tryz.f27, by kernel_rfl, by kernel_rfl, by kernel_rfl⟩
theorem c_spec_FamilyOK {a0 : PV} {st : St} {R : Res → St → Prop} (h : b_spec_FamilyOK a0 st R) : HCalls prog n_spec_FamilyOK [a0] st R :=
 hcalls_of_func tyOK mixed (fn := Go.Proofs.Tryz.f27) (by kernel_rfl) (by kernel_rfl) (by kernel_rfl) (ann := [])
  (show hFunc prog TT [] Go.Proofs.Tryz.f27 [a0] st R from (show hFunc prog TT [] Go.Proofs.Tryz.f27 [a0] st R = b_spec_FamilyOK a0 st R by kernel_rfl) ▸ h)
def b_spec_l00Source (a0 : PV) (st : St) (R : Res → St → Prop) : Prop :=
 qb (q_len a0) fun v5 =>
 qb (q_bin .rem v5 (.int .i64 1000)) fun v6 =>
 qb (q_struct [.sl 0 true [], .int .i64 0, .int .i64 0] [(0, 1, a0), (2, 1, v6)]) fun v7 =>
 e_box st v7 fun v8 st =>
 retR R v8 st
theorem e_spec_l00Source : Enters prog n_spec_l00Source := ⟨Go.Proofs.Tryz.f28, by kernel_rfl, by kernel_rfl, by kernel_rfl⟩
theorem c_spec_l00Source {a0 : PV} {st : St} {R : Res → St → Prop} (h : b_spec_l00Source a0 st R) : HCalls prog n_spec_l00Source [a0] st R :=
 hcalls_of_func tyOK mixed (fn := Go.Proofs.Tryz.f28) (by kernel_rfl) (by kernel_rfl) (by kernel_rfl) (ann := [])
  (show hFunc prog TT [] Go.Proofs.Tryz.f28 [a0] st R from (show hFunc prog TT [] Go.Proofs.Tryz.f28 [a0] st R = b_spec_l00Source a0 st R by kernel_rfl) ▸ h)
def b_spec_l00Src_simple (a0 a1 : PV) (st : St) (R : Res → St → Prop) : Prop :=
 e_alloc st [.int .i64 0, .int .i64 0, .str [], .sl 0 true []] fun v4 st =>
 callK prog n_spec_l00Src_rawSimple [a0, a1] st (fun v7 st =>
 e_store st 4 v4 v7 fun st =>
 qb (q_load st true 4 v4) fun r => retR R r st) (panR R)
theorem e_spec_l00Src_simple : Enters prog n_spec_l00Src_simple := ⟨Go.Proofs.Tryz.f29, by kernel_rfl, by kernel_rfl, by kernel_rfl⟩
theorem c_spec_l00Src_simple {a0 a1 : PV} {st : St} {R : Res → St → Prop} (h : b_spec_l00Src_simple a0 a1 st R) : HCalls prog n_spec_l00Src_simple [a0, a1] st R :=
 hcalls_of_func tyOK mixed (fn := Go.Proofs.Tryz.f29) (by kernel_rfl) (by kernel_rfl) (by kernel_rfl) (ann := [])
  (show hFunc prog TT [] Go.Proofs.Tryz.f29 [a0, a1] st R from (show hFunc prog TT [] Go.Proofs.Tryz.f29 [a0, a1] st R = b_spec_l00Src_simple a0 a1 st R by kernel_rfl) ▸ h)
def b_spec_l00Src_next (a0 a1 : PV) (st : St) (R : Res → St → Prop) : Prop :=
 qb (q_bin .leq a1 (.int .i64 1)) fun v9 =>
 cb v9 fun b => br b
  (retR R (.int .i64 0) st)
  (qb (q_bin .leq a1 (.int .i64 256)) fun v11 =>
  cb v11 fun b_1 => br b_1
   (callK prog n_spec_l00Src_byte [a0] st (fun v13 st =>
   qb (q_bin .rem v13 a1) fun v15 =>
   retR R v15 st) (panR R))
   (callK prog n_spec_l00Src_byte [a0] st (fun v17 st =>
   callK prog n_spec_l00Src_byte [a0] st (fun v19 st =>
   callK prog n_spec_l00Src_byte [a0] st (fun v21 st =>
   qb (q_bin .mul v17 (.int .i64 65536)) fun v23 =>
   qb (q_bin .mul v19 (.int .i64 256)) fun v25 =>
   qb (q_bin .add v23 v25) fun v26 =>
   qb (q_bin .add v26 v21) fun v28 =>
   qb (q_bin .rem v28 a1) fun v30 =>
   retR R v30 st) (panR R)) (panR R)) (panR R)))
theorem e_spec_l00Src_next : Enters prog n_spec_l00Src_next := ⟨Go.Proofs.Tryz.f30, by kernel_rfl, by kernel_rfl, by kernel_rfl⟩
theorem c_spec_l00Src_next {a0 a1 : PV} {st : St} {R : Res → St → Prop} (h : b_spec_l00Src_next a0 a1 st R) : HCalls prog n_spec_l00Src_next [a0, a1] st R :=
 hcalls_of_func tyOK mixed (fn := Go.Proofs.Tryz.f30) (by kernel_rfl) (by kernel_rfl) (by kernel_rfl) (ann := [])
  (show hFunc prog TT [] Go.Proofs.Tryz.f30 [a0, a1] st R from (show hFunc prog TT [] Go.Proofs.Tryz.f30 [a0, a1] st R = b_spec_l00Src_next a0 a1 st R by kernel_rfl) ▸ h)
def b_impl_badSimple (a0 : PV) (st : St) (R : Res → St → Prop) : Prop :=
 e_box st a0 fun v1 st =>
 qb (q_load st true 4 v1) fun v3 =>
 callK prog n_impl_SimpleOK [v3] st (fun v4 st =>
 qb (q_un .not v4) fun v5 =>
 retR R v5 st) (panR R)
theorem e_impl_badSimple : Enters prog n_impl_badSimple := ⟨Go.Proofs.Tryz.f31, by kernel_rfl, by kernel_rfl, by kernel_rfl⟩
theorem c_impl_badSimple {a0 : PV} {st : St} {R : Res → St → Prop} (h : b_impl_badSimple a0 st R) : HCalls prog n_impl_badSimple [a0] st R :=
 hcalls_of_func tyOK mixed (fn := Go.Proofs.Tryz.f31) (by kernel_rfl) (by kernel_rfl) (by kernel_rfl) (ann := [])
  (show hFunc prog TT [] Go.Proofs.Tryz.f31 [a0] st R from (show hFunc prog TT [] Go.Proofs.Tryz.f31 [a0] st R = b_impl_badSimple a0 st R by kernel_rfl) ▸ h)
def b_impl_in (a0 a1 a2 : PV) (st : St) (R : Res → St → Prop) : Prop :=
 qb (q_bin .geq a0 a1) fun v9 =>
 cb v9 fun b => br b
  (qb (q_bin .leq a0 a2) fun v13 =>
  retR R v13 st)
  (retR R (.bool false) st)
theorem e_impl_in : Enters prog n_impl_in := ⟨Go.Proofs.Tryz.f32, by kernel_rfl, by kernel_rfl, by kernel_rfl⟩
theorem c_impl_in {a0 a1 a2 : PV} {st : St} {R : Res → St → Prop} (h : b_impl_in a0 a1 a2 st R) : HCalls prog n_impl_in [a0, a1, a2] st R :=
 hcalls_of_func tyOK mixed (fn := Go.Proofs.Tryz.f32) (by kernel_rfl) (by kernel_rfl) (by kernel_rfl) (ann := [])
  (show hFunc prog TT [] Go.Proofs.Tryz.f32 [a0, a1, a2] st R from (show hFunc prog TT [] Go.Proofs.Tryz.f32 [a0, a1, a2] st R = b_impl_in a0 a1 a2 st R by kernel_rfl) ▸ h)
def b_impl_result (a0 : PV) (st : St) (R : Res → St → Prop) : Prop :=
 e_box st a0 fun v1 st =>
 e_alloc st [.int .i64 0, .int .i64 0, .str [], .sl 0 true []] fun v2 st =>
 qb (q_struct [.int .i64 0, .int .i64 0, .str [], .sl 0 true []] []) fun v6 =>
 e_alloc st [.int .i64 0, .int .i64 0, .str [], .sl 0 true []] fun v4 st =>
 e_store st 4 v4 v6 fun st =>
 callK prog n_impl_caught [(.fn (.func n_impl_result_1) [] [v1, v4])] st (fun v8 st =>
 e_alloc st [.int .i64 0, .int .i64 0] fun v5 st =>
 e_store st 2 v5 v8 fun st =>
 qb (q_fa 0 v5) fun v9 =>
 qb (q_load st false 1 v9) fun v10 =>
 qb (q_bin .neq v10 (.int .i64 0)) fun v11 =>
 cb v11 fun b => br b
  (qb (q_struct [.int .i64 0, .int .i64 0, .str [], .sl 0 true []] []) fun v12 =>
  qb (q_fa 0 v5) fun v13 =>
  qb (q_load st false 1 v13) fun v14 =>
  e_store st 4 v2 v12 fun st =>
  q_load st false 1 v13 = some v14 ∧ (qb (q_load st true 4 v2) fun r => retR R (.tup [r, v14]) st))
  (qb (q_load st true 4 v4) fun v15 =>
  callK prog n_impl_clone [v15] st (fun v16 st =>
  e_store st 4 v2 v16 fun st =>
  qb (q_load st true 4 v2) fun r_1 => retR R (.tup [r_1, (.int .i64 0)]) st) (panR R))) (panR R)
theorem e_impl_result : Enters prog n_impl_result := ⟨Go.Proofs.Tryz.f33, by kernel_rfl, by kernel_rfl, by kernel_rfl⟩
theorem c_impl_result {a0 : PV} {st : St} {R : Res → St → Prop} (h : b_impl_result a0 st R) : HCalls prog n_impl_result [a0] st R :=
 hcalls_of_func tyOK mixed (fn := Go.Proofs.Tryz.f33) (by kernel_rfl) (by kernel_rfl) (by kernel_rfl) (ann := [])
  (show hFunc prog TT [] Go.Proofs.Tryz.f33 [a0] st R from (show hFunc prog TT [] Go.Proofs.Tryz.f33 [a0] st R = b_impl_result a0 st R by kernel_rfl) ▸ h)
def b_impl_Long_1 (a0 a1 : PV) (st : St) (R : Res → St → Prop) : Prop :=
 e_alloc st [.int .i64 0, .int .i64 0, .str [], .sl 0 true []] fun v2 st =>
 qb (q_load st false 1 a0) fun v3 =>
 qb (q_load st true 4 a1) fun v4 =>
 callK prog n_impl_long [v3, v4] st (fun v5 st =>
 e_store st 4 v2 v5 fun st =>
 qb (q_load st true 4 v2) fun r => retR R r st) (panR R)
theorem e_impl_Long_1 : Enters prog n_impl_Long_1 := ⟨Go.Proofs.Tryz.f34, by kernel_rfl, by kernel_rfl, by kernel_rfl⟩
theorem c_impl_Long_1 {a0 a1 : PV} {st : St} {R : Res → St → Prop} (h : b_impl_Long_1 a0 a1 st R) : HCalls prog n_impl_Long_1 [a0, a1] st R :=
 hcalls_of_func tyOK mixed (fn := Go.Proofs.Tryz.f34) (by kernel_rfl) (by kernel_rfl) (by kernel_rfl) (ann := [])
  (show hFunc prog TT [] Go.Proofs.Tryz.f34 [a0, a1] st R from (show hFunc prog TT [] Go.Proofs.Tryz.f34 [a0, a1] st R = b_impl_Long_1 a0 a1 st R by kernel_rfl) ▸ h)
def b_impl_long (a0 a1 : PV) (st : St) (R : Res → St → Prop) : Prop :=
 e_box st a1 fun v3 st =>
 e_alloc st [.int .i64 0, .int .i64 0, .str [], .sl 0 true []] fun v4 st =>
 qb (q_load st true 4 v3) fun v7 =>
 callK prog n_impl_variable [a0, (.sl 0 true [])] st (fun v6 st =>
 q_load st true 4 v3 = some v7 ∧ (callK prog n_impl_longForm [v6, v7] st (fun v8 st =>
 callK prog n_impl_formed [v8] st (fun v9 st =>
 e_store st 4 v4 v9 fun st =>
 qb (q_load st true 4 v4) fun r => retR R r st) (panR R)) (panR R))) (panR R)
theorem e_impl_long : Enters prog n_impl_long := ⟨Go.Proofs.Tryz.f35, by kernel_rfl, by kernel_rfl, by kernel_rfl⟩
theorem c_impl_long {a0 a1 : PV} {st : St} {R : Res → St → Prop} (h : b_impl_long a0 a1 st R) : HCalls prog n_impl_long [a0, a1] st R :=
 hcalls_of_func tyOK mixed (fn := Go.Proofs.Tryz.f35) (by kernel_rfl) (by kernel_rfl) (by kernel_rfl) (ann := [])
  (show hFunc prog TT [] Go.Proofs.Tryz.f35 [a0, a1] st R from (show hFunc prog TT [] Go.Proofs.Tryz.f35 [a0, a1] st R = b_impl_long a0 a1 st R by kernel_rfl) ▸ h)
def b_spec_SimpleOK (a0 : PV) (st : St) (R : Res → St → Prop) : Prop :=
 e_box st a0 fun v1 st =>
 qb (q_load st true 4 v1) fun v3 =>
 callK prog n_spec_l01Small [v3] st (fun v4 st =>
 cb v4 fun b => br b
  (qb (q_load st true 4 v1) fun v6 =>
  callK prog n_spec_l01Simple [v6] st (fun v7 st =>
  retR R v7 st) (panR R))
  (retR R (.bool false) st)) (panR R)
theorem e_spec_SimpleOK : Enters prog n_spec_SimpleOK := ⟨Go.Proofs.Tryz.f36, by kernel_rfl, by kernel_rfl, by kernel_rfl⟩
theorem c_spec_SimpleOK {a0 : PV} {st : St} {R : Res → St → Prop} (h : b_spec_SimpleOK a0 st R) : HCalls prog n_spec_SimpleOK [a0] st R :=
 hcalls_of_func tyOK mixed (fn := Go.Proofs.Tryz.f36) (by kernel_rfl) (by kernel_rfl) (by kernel_rfl) (ann := [])
  (show hFunc prog TT [] Go.Proofs.Tryz.f36 [a0] st R from (show hFunc prog TT [] Go.Proofs.Tryz.f36 [a0] st R = b_spec_SimpleOK a0 st R by kernel_rfl) ▸ h)
def b_spec_l03Long (a0 a1 : PV) (st : St) (R : Res → St → Prop) : Prop :=
 e_box st a0 fun v2 st =>
 e_box st a1 fun v3 st =>
 e_alloc st [.int .i64 0, .int .i64 0, .str [], .sl 0 true []] fun v4 st =>
 qb (q_load st true 4 v3) fun v10 =>
 e_alloc st [.int .i64 0, .int .i64 0, .str [], .sl 0 true []] fun v6 st =>
 e_store st 4 v6 v10 fun st =>
 hFix (fun ls st X =>
  qb (q_fa 0 (ls.getD 1 .junk)) fun v11 =>
  qb (q_load st false 1 v11) fun v12 =>
  qb (q_bin .eql v12 (.int .i64 10)) fun v13 =>
  cb v13 fun b => br b
   (qb (q_bin .add (ls.getD 0 .junk) (.int .i64 1)) fun v19 =>
   qb (q_load st true 4 (ls.getD 1 .junk)) fun v20 =>
   e_alloc st [.int .i64 0, .int .i64 0, .str [], .sl 0 true []] fun v6_1 st =>
   e_store st 4 v6_1 v20 fun st =>
   qb (q_fa 3 v6_1) fun v14 =>
   qb (q_load st false 1 v14) fun v15 =>
   qb (q_ia 4 v15 (.int .i64 1)) fun v16 =>
   qb (q_load st true 4 v16) fun v17 =>
   e_store st 4 v6_1 v17 fun st =>
   X [v19, v6_1] st)
   (qb (q_load st true 4 v2) fun v21 =>
   callK prog n_spec_l01Lift [v21, (.int .i64 0), (ls.getD 0 .junk)] st (fun v23 st =>
   e_alloc st [.int .i64 0, .int .i64 0, .str [], .sl 0 true []] fun v7 st =>
   e_store st 4 v7 v23 fun st =>
   qb (q_lit 4 0 0 [] []) fun v24 =>
   qb (q_fa 3 v7) fun v25 =>
   qb (q_load st false 1 v25) fun v26 =>
   e_append st 4 56 v24 v26 (fun v27 st =>
   qb (q_bin .sub (ls.getD 0 .junk) (.int .i64 1)) fun v29 =>
   hFix (fun ls_1 st X_1 =>
    qb (q_bin .geq (ls_1.getD 1 .junk) (.int .i64 0)) fun v31 =>
    cb v31 fun b_1 => br b_1
     (qb (q_fa 3 v3) fun v37 =>
     qb (q_load st false 1 v37) fun v38 =>
     qb (q_ia 4 v38 (.int .i64 0)) fun v39 =>
     qb (q_load st true 4 v39) fun v40 =>
     callK prog n_spec_l01Var [(ls_1.getD 1 .junk), (.sl 0 true [])] st (fun v36 st =>
     q_load st true 4 v39 = some v40 ∧ q_load st false 1 v37 = some v38 ∧ (callK prog n_spec_l03Long [v36, v40] st (fun v41 st =>
     qb (q_lit 4 1 0 [] [(0, v41)]) fun v42 =>
     e_append st 4 56 (ls_1.getD 0 .junk) v42 (fun v43 st =>
     qb (q_fa 3 v3) fun v44 =>
     qb (q_load st false 1 v44) fun v45 =>
     qb (q_ia 4 v45 (.int .i64 1)) fun v46 =>
     qb (q_load st true 4 v46) fun v47 =>
     e_store st 4 v3 v47 fun st =>
     qb (q_bin .sub (ls_1.getD 1 .junk) (.int .i64 1)) fun v33 =>
     X_1 [v43, v33] st)) (panR R))) (panR R))
     (qb (q_load st true 4 v7) fun v48 =>
     callK prog n_spec_l01With [v48, (ls_1.getD 0 .junk)] st (fun v50 st =>
     e_store st 4 v7 v50 fun st =>
     hFix (fun ls_2 st X_2 =>
      qb (q_bin .gtr (ls_2.getD 0 .junk) (.int .i64 0)) fun v52 =>
      cb v52 fun b_2 => br b_2
       (qb (q_load st true 4 v7) fun v55 =>
       callK prog n_spec_l01Lam [v55] st (fun v56 st =>
       e_store st 4 v7 v56 fun st =>
       qb (q_bin .sub (ls_2.getD 0 .junk) (.int .i64 1)) fun v54 =>
       X_2 [v54] st) (panR R))
       (qb (q_load st true 4 v7) fun v57 =>
       e_store st 4 v4 v57 fun st =>
       qb (q_load st true 4 v4) fun r => retR R r st))
      [(ls.getD 0 .junk)] st) (panR R)))
    [v27, v29] st)) (panR R)))
  [(.int .i64 0), v6] st
theorem e_spec_l03Long : Enters prog n_spec_l03Long := ⟨Go.Proofs.Tryz.f37, by kernel_rfl, by kernel_rfl, by kernel_rfl⟩
theorem c_spec_l03Long {a0 a1 : PV} {st : St} {R : Res → St → Prop} (h : b_spec_l03Long a0 a1 st R) : HCalls prog n_spec_l03Long [a0, a1] st R :=
 hcalls_of_func tyOK mixed (fn := Go.Proofs.Tryz.f37) (by kernel_rfl) (by kernel_rfl) (by kernel_rfl) (ann := [(64, [5]), (44, [8, 9]), (12, [5, 6])])
  (show hFunc prog TT [(64, [5]), (44, [8, 9]), (12, [5, 6])] Go.Proofs.Tryz.f37 [a0, a1] st R from (show hFunc prog TT [(64, [5]), (44, [8, 9]), (12, [5, 6])] Go.Proofs.Tryz.f37 [a0, a1] st R = b_spec_l03Long a0 a1 st R by kernel_rfl) ▸ h)
def b_spec_l01Var (a0 a1 : PV) (st : St) (R : Res → St → Prop) : Prop :=
 e_alloc st [.int .i64 0, .int .i64 0, .str [], .sl 0 true []] fun v4 st =>
 qb (q_struct [.int .i64 0, .int .i64 0, .str [], .sl 0 true []] [(0, 1, (.int .i64 5)), (1, 1, a0), (3, 1, a1)]) fun v7 =>
 e_store st 4 v4 v7 fun st =>
 qb (q_load st true 4 v4) fun r => retR R r st
theorem e_spec_l01Var : Enters prog n_spec_l01Var := ⟨Go.Proofs.Tryz.f38, by kernel_rfl, by kernel_rfl, by kernel_rfl⟩
theorem c_spec_l01Var {a0 a1 : PV} {st : St} {R : Res → St → Prop} (h : b_spec_l01Var a0 a1 st R) : HCalls prog n_spec_l01Var [a0, a1] st R :=
 hcalls_of_func tyOK mixed (fn := Go.Proofs.Tryz.f38) (by kernel_rfl) (by kernel_rfl) (by kernel_rfl) (ann := [])
  (show hFunc prog TT [] Go.Proofs.Tryz.f38 [a0, a1] st R from (show hFunc prog TT [] Go.Proofs.Tryz.f38 [a0, a1] st R = b_spec_l01Var a0 a1 st R by kernel_rfl) ▸ h)
def b_spec_l03Big (a0 : PV) (st : St) (R : Res → St → Prop) : Prop :=
 e_box st a0 fun v1 st =>
 qb (q_load st true 4 v1) fun v3 =>
 callK prog n_spec_l01Small [v3] st (fun v4 st =>
 qb (q_un .not v4) fun v5 =>
 cb v5 fun b => br b
  (retR R (.bool true) st)
  (qb (q_load st true 4 v1) fun v7 =>
  callK prog n_spec_l01High [v7] st (fun v8 st =>
  retR R v8 st) (panR R))) (panR R)
theorem e_spec_l03Big : Enters prog n_spec_l03Big := ⟨Go.Proofs.Tryz.f39, by kernel_rfl, by kernel_rfl, by kernel_rfl⟩
theorem c_spec_l03Big {a0 : PV} {st : St} {R : Res → St → Prop} (h : b_spec_l03Big a0 st R) : HCalls prog n_spec_l03Big [a0] st R :=
 hcalls_of_func tyOK mixed (fn := Go.Proofs.Tryz.f39) (by kernel_rfl) (by kernel_rfl) (by kernel_rfl) (ann := [])
  (show hFunc prog TT [] Go.Proofs.Tryz.f39 [a0] st R from (show hFunc prog TT [] Go.Proofs.Tryz.f39 [a0] st R = b_spec_l03Big a0 st R by kernel_rfl) ▸ h)
def b_impl_longLists (a0 : PV) (st : St) (R : Res → St → Prop) : Prop :=
 callK prog n_slices_Max_int_int [a0] st (fun v4 st =>
 qb (q_bin .gtr v4 (.int .i64 4096)) fun v5 =>
 retR R v5 st) (panR R)
theorem e_impl_longLists : Enters prog n_impl_longLists := ⟨Go.Proofs.Tryz.f40, by kernel_rfl, by kernel_rfl, by kernel_rfl⟩
theorem c_impl_longLists {a0 : PV} {st : St} {R : Res → St → Prop} (h : b_impl_longLists a0 st R) : HCalls prog n_impl_longLists [a0] st R :=
 hcalls_of_func tyOK mixed (fn := Go.Proofs.Tryz.f40) (by kernel_rfl) (by kernel_rfl) (by kernel_rfl) (ann := [])
  (show hFunc prog TT [] Go.Proofs.Tryz.f40 [a0] st R from (show hFunc prog TT [] Go.Proofs.Tryz.f40 [a0] st R = b_impl_longLists a0 st R by kernel_rfl) ▸ h)
def b_impl_constsOK (a0 : PV) (st : St) (R : Res → St → Prop) : Prop :=
 qb (q_len a0) fun v7 =>
 qb (q_bin .gtr v7 (.int .i64 60)) fun v8 =>
 cb v8 fun b => br b
  (retR R (.bool false) st)
  (e_mkmap st fun v9 st =>
  qb (q_len a0) fun v11 =>
  hFix (fun ls st X =>
   qb (q_bin .lss (ls.getD 0 .junk) v11) fun v13 =>
   cb v13 fun b_1 => br b_1
    (qb (q_ia 5 a0 (ls.getD 0 .junk)) fun v14 =>
    qb (q_load st true 5 v14) fun v15 =>
    e_alloc st [.str [], .int .i64 0, .int .i64 0, .str [], .sl 0 true []] fun v5 st =>
    e_store st 5 v5 v15 fun st =>
    qb (q_fa 0 v5) fun v16 =>
    qb (q_load st false 1 v16) fun v17 =>
    callK prog n_impl_NameOK [v17] st (fun v18 st =>
    qb (q_un .not v18) fun v19 =>
    cb v19 fun b_2 => br b_2
     (retR R (.bool false) st)
     (qb (q_fa 0 v5) fun v22 =>
     qb (q_load st false 1 v22) fun v23 =>
     qb (q_lookup st .string (.bool false) false v9 v23) fun v24 =>
     cb v24 fun b_3 => br b_3
      (retR R (.bool false) st)
      (qb (q_fa 1 v5) fun v27 =>
      qb (q_load st true 4 v27) fun v28 =>
      callK prog n_impl_badSimple [v28] st (fun v29 st =>
      cb v29 fun b_4 => br b_4
       (retR R (.bool false) st)
       (qb (q_fa 0 v5) fun v32 =>
       qb (q_load st false 1 v32) fun v33 =>
       e_mapset st .string v9 v33 (.bool true) fun st =>
       qb (q_bin .add (ls.getD 0 .junk) (.int .i64 1)) fun v34 =>
       X [v34] st)) (panR R)))) (panR R))
    (retR R (.bool true) st))
   [(.int .i64 0)] st)
theorem e_impl_constsOK : Enters prog n_impl_constsOK := ⟨Go.Proofs.Tryz.f41, by kernel_rfl, by kernel_rfl, by kernel_rfl⟩
theorem c_impl_constsOK {a0 : PV} {st : St} {R : Res → St → Prop} (h : b_impl_constsOK a0 st R) : HCalls prog n_impl_constsOK [a0] st R :=
 hcalls_of_func tyOK mixed (fn := Go.Proofs.Tryz.f41) (by kernel_rfl) (by kernel_rfl) (by kernel_rfl) (ann := [(20, [12])])
  (show hFunc prog TT [(20, [12])] Go.Proofs.Tryz.f41 [a0] st R from (show hFunc prog TT [(20, [12])] Go.Proofs.Tryz.f41 [a0] st R = b_impl_constsOK a0 st R by kernel_rfl) ▸ h)
end Go.H.Tryz
