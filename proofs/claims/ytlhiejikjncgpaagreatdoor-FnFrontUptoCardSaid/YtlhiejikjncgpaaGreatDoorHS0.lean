/- Part of a proof that the program answers as the reference does: EFS0. -/
import Derived.Test.YtlhiejikjncgpaaGreatDoorHT
/- MADE BY PROGRAM (hgen.py): what the functions compute, over pure values. -/
set_option linter.unusedVariables false
set_option maxRecDepth 100000
namespace Go.H.Tryz
open Go Go.H
def b_laws_FnFront (a0 a1 : PV) (st : St) (R : Res → St → Prop) : Prop :=
 qb (q_len a0) fun v20 =>
 qb (q_bin .gtr v20 (.int .i64 1048576)) fun v21 =>
 cb v21 fun b => br b
  (retR R (.bool true) st)
  (qb (q_len a1) fun v24 =>
  qb (q_bin .gtr v24 (.int .i64 1048576)) fun v25 =>
  cb v25 fun b_1 => br b_1
   (retR R (.bool true) st)
   (callK prog n_spec_JudgedOf [a0] st (fun v29 st =>
   qb (q_ex v29 0) fun v30 =>
   qb (q_ex v29 1) fun v31 =>
   qb (q_ex v29 2) fun v32 =>
   e_alloc st [.int .i64 0, .int .i64 0, .str [], .sl 0 true []] fun v6 st =>
   e_alloc st [.int .i64 0, .int .i64 0, .str [], .sl 0 true []] fun v7 st =>
   e_store st 4 v6 v31 fun st =>
   e_store st 4 v7 v32 fun st =>
   callK prog n_spec_JudgedOf [a1] st (fun v35 st =>
   qb (q_ex v35 0) fun v36 =>
   qb (q_ex v35 1) fun v37 =>
   qb (q_ex v35 2) fun v38 =>
   e_alloc st [.int .i64 0, .int .i64 0, .str [], .sl 0 true []] fun v9 st =>
   e_alloc st [.int .i64 0, .int .i64 0, .str [], .sl 0 true []] fun v10 st =>
   e_store st 4 v9 v37 fun st =>
   e_store st 4 v10 v38 fun st =>
   callK prog n_spec_Numbers [] st (fun v39 st =>
   callK prog n_spec_CtxOK [v39, v30] st (fun v42 st =>
   qb (q_un .not v42) fun v43 =>
   cb v43 fun b_2 => br b_2
    (retR R (.bool true) st)
    (qb (q_load st true 4 v10) fun v45 =>
    callK prog n_spec_FamilyOK [v45] st (fun v46 st =>
    qb (q_un .not v46) fun v47 =>
    cb v47 fun b_3 => br b_3
     (retR R (.bool true) st)
     (qb (q_load st true 4 v6) fun v50 =>
     callK prog n_spec_TermOK [v50] st (fun v51 st =>
     qb (q_un .not v51) fun v52 =>
     cb v52 fun b_4 => br b_4
      (retR R (.bool true) st)
      (qb (q_load st true 4 v6) fun v57 =>
      qb (q_load st true 4 v10) fun v58 =>
      callK prog n_impl_CheckTerm [v39, v30, v57, v58] st (fun v59 st =>
      qb (q_ex v59 0) fun v60 =>
      qb (q_ex v59 1) fun v61 =>
      qb (q_load st true 4 v6) fun v65 =>
      qb (q_load st true 4 v10) fun v66 =>
      callK prog n_spec_CheckTerm [v39, v30, v65, v66] st (fun v67 st =>
      qb (q_ex v67 0) fun v68 =>
      qb (q_ex v67 1) fun v69 =>
      qb (q_bin .neq v60 v68) fun v72 =>
      cb v72 fun b_5 => br b_5
       (retR R (.bool false) st)
       (qb (q_bin .neq v61 v69) fun v76 =>
       cb v76 fun b_6 => br b_6
        (retR R (.bool false) st)
        (qb (q_bin .eql v60 (.int .i64 1)) fun v79 =>
        cb v79 fun b_7 => br b_7
         (retR R (.bool true) st)
         (qb (q_bin .eql v60 (.int .i64 7)) fun v82 =>
         cb v82 fun b_8 => br b_8
          (retR R (.bool true) st)
          (qb (q_struct [.int .i64 0, .int .i64 0, .str [], .sl 0 true []] [(0, 1, (.int .i64 3)), (2, 1, (.str [110, 97, 116]))]) fun v84 =>
          qb (q_lit 4 1 0 [] [(0, v84)]) fun v85 =>
          e_append st 4 56 v85 v30 (fun v87 st =>
          qb (q_load st true 4 v6) fun v91 =>
          qb (q_load st true 4 v10) fun v92 =>
          callK prog n_impl_CheckTerm [v39, v87, v91, v92] st (fun v93 st =>
          qb (q_ex v93 0) fun v94 =>
          qb (q_ex v93 1) fun v95 =>
          qb (q_bin .eql v60 v94) fun v98 =>
          cb v98 fun b_9 => br b_9
           (qb (q_bin .eql v61 v95) fun v102 =>
           retR R v102 st)
           (retR R (.bool false) st)) (panR R))))))) (panR R)) (panR R))) (panR R))) (panR R))) (panR R)) (panR R)) (panR R)) (panR R)))
theorem c_laws_FnFront {a0 a1 : PV} {st : St} {R : Res → St → Prop} (h : b_laws_FnFront a0 a1 st R) : HCalls prog n_laws_FnFront [a0, a1] st R :=
 hcalls_of_func tyOK mixed (fn := Go.Proofs.Tryz.f5) (by kernel_rfl) (by kernel_rfl) (by kernel_rfl) (ann := [])
  (show hFunc prog TT [] Go.Proofs.Tryz.f5 [a0, a1] st R from (show hFunc prog TT [] Go.Proofs.Tryz.f5 [a0, a1] st R = b_laws_FnFront a0 a1 st R by kernel_rfl) ▸ h)
def b_spec_JudgedOf (a0 : PV) (st : St) (R : Res → St → Prop) : Prop :=
 e_alloc st [.int .i64 0, .int .i64 0, .str [], .sl 0 true []] fun v3 st =>
 e_alloc st [.int .i64 0, .int .i64 0, .str [], .sl 0 true []] fun v4 st =>
 callK prog n_spec_l00Source [a0] st (fun v10 st =>
 callK prog n_spec_l00Src_natCtx [v10] st (fun v12 st =>
 qb (q_len v12) fun v16 =>
 callK prog n_spec_l00Src_judged [v10, v16] st (fun v17 st =>
 qb (q_ex v17 0) fun v18 =>
 qb (q_ex v17 1) fun v19 =>
 e_alloc st [.int .i64 0, .int .i64 0, .str [], .sl 0 true []] fun v7 st =>
 e_alloc st [.int .i64 0, .int .i64 0, .str [], .sl 0 true []] fun v8 st =>
 e_store st 4 v7 v18 fun st =>
 e_store st 4 v8 v19 fun st =>
 qb (q_load st true 4 v7) fun v21 =>
 qb (q_load st true 4 v8) fun v22 =>
 e_store st 4 v3 v21 fun st =>
 q_load st true 4 v8 = some v22 ∧ (e_store st 4 v4 v22 fun st =>
 qb (q_load st true 4 v3) fun r => qb (q_load st true 4 v4) fun r_1 => retR R (.tup [v12, r, r_1]) st)) (panR R)) (panR R)) (panR R)
theorem c_spec_JudgedOf {a0 : PV} {st : St} {R : Res → St → Prop} (h : b_spec_JudgedOf a0 st R) : HCalls prog n_spec_JudgedOf [a0] st R :=
 hcalls_of_func tyOK mixed (fn := Go.Proofs.Tryz.f9) (by kernel_rfl) (by kernel_rfl) (by kernel_rfl) (ann := [])
  (show hFunc prog TT [] Go.Proofs.Tryz.f9 [a0] st R from (show hFunc prog TT [] Go.Proofs.Tryz.f9 [a0] st R = b_spec_JudgedOf a0 st R by kernel_rfl) ▸ h)
def b_spec_Numbers (st : St) (R : Res → St → Prop) : Prop :=
 callK prog n_spec_l04Some [] st (fun v1 st =>
 retR R v1 st) (panR R)
theorem c_spec_Numbers {st : St} {R : Res → St → Prop} (h : b_spec_Numbers  st R) : HCalls prog n_spec_Numbers [] st R :=
 hcalls_of_func tyOK mixed (fn := Go.Proofs.Tryz.f16) (by kernel_rfl) (by kernel_rfl) (by kernel_rfl) (ann := [])
  (show hFunc prog TT [] Go.Proofs.Tryz.f16 [] st R from (show hFunc prog TT [] Go.Proofs.Tryz.f16 [] st R = b_spec_Numbers  st R by kernel_rfl) ▸ h)
def b_impl_CheckTerm (a0 a1 a2 a3 : PV) (st : St) (R : Res → St → Prop) : Prop :=
 e_box st a0 fun v4 st =>
 e_box st a1 fun v5 st =>
 e_box st a2 fun v6 st =>
 e_box st a3 fun v7 st =>
 qb (q_load st false 1 v4) fun v10 =>
 qb (q_load st false 1 v5) fun v11 =>
 callK prog n_impl_checked [v10, v11, (.fn (.func n_impl_CheckTerm_1) [] [v6, v4, v5, v7]), (.fn (.func n_impl_CheckTerm_2) [] [v5, v6, v7])] st (fun v14 st =>
 qb (q_ex v14 0) fun v15 =>
 qb (q_ex v14 1) fun v16 =>
 retR R (.tup [v15, v16]) st) (panR R)
theorem c_impl_CheckTerm {a0 a1 a2 a3 : PV} {st : St} {R : Res → St → Prop} (h : b_impl_CheckTerm a0 a1 a2 a3 st R) : HCalls prog n_impl_CheckTerm [a0, a1, a2, a3] st R :=
 hcalls_of_func tyOK mixed (fn := Go.Proofs.Tryz.f17) (by kernel_rfl) (by kernel_rfl) (by kernel_rfl) (ann := [])
  (show hFunc prog TT [] Go.Proofs.Tryz.f17 [a0, a1, a2, a3] st R from (show hFunc prog TT [] Go.Proofs.Tryz.f17 [a0, a1, a2, a3] st R = b_impl_CheckTerm a0 a1 a2 a3 st R by kernel_rfl) ▸ h)
def b_spec_TermOK (a0 : PV) (st : St) (R : Res → St → Prop) : Prop :=
 e_box st a0 fun v1 st =>
 qb (q_load st true 4 v1) fun v3 =>
 callK prog n_spec_l01Small [v3] st (fun v4 st =>
 cb v4 fun b => br b
  (qb (q_load st true 4 v1) fun v6 =>
  callK prog n_spec_l01Term [v6, (.bool false)] st (fun v7 st =>
  retR R v7 st) (panR R))
  (retR R (.bool false) st)) (panR R)
theorem c_spec_TermOK {a0 : PV} {st : St} {R : Res → St → Prop} (h : b_spec_TermOK a0 st R) : HCalls prog n_spec_TermOK [a0] st R :=
 hcalls_of_func tyOK mixed (fn := Go.Proofs.Tryz.f20) (by kernel_rfl) (by kernel_rfl) (by kernel_rfl) (ann := [])
  (show hFunc prog TT [] Go.Proofs.Tryz.f20 [a0] st R from (show hFunc prog TT [] Go.Proofs.Tryz.f20 [a0] st R = b_spec_TermOK a0 st R by kernel_rfl) ▸ h)
def b_spec_FamilyOK (a0 : PV) (st : St) (R : Res → St → Prop) : Prop :=
 e_box st a0 fun v1 st =>
 qb (q_load st true 4 v1) fun v3 =>
 callK prog n_spec_l01Small [v3] st (fun v4 st =>
 cb v4 fun b => br b
  (qb (q_load st true 4 v1) fun v6 =>
  callK prog n_spec_l01Family [v6] st (fun v7 st =>
  retR R v7 st) (panR R))
  (retR R (.bool false) st)) (panR R)
theorem c_spec_FamilyOK {a0 : PV} {st : St} {R : Res → St → Prop} (h : b_spec_FamilyOK a0 st R) : HCalls prog n_spec_FamilyOK [a0] st R :=
 hcalls_of_func tyOK mixed (fn := Go.Proofs.Tryz.f21) (by kernel_rfl) (by kernel_rfl) (by kernel_rfl) (ann := [])
  (show hFunc prog TT [] Go.Proofs.Tryz.f21 [a0] st R from (show hFunc prog TT [] Go.Proofs.Tryz.f21 [a0] st R = b_spec_FamilyOK a0 st R by kernel_rfl) ▸ h)
end Go.H.Tryz
