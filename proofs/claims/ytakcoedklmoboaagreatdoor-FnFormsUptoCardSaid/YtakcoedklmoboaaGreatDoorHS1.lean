/- Part of a proof that the program answers as the reference does: ZFS1. -/
import Derived.Test.YtakcoedklmoboaaGreatDoorHT
/- MADE BY PROGRAM (hgen.py): what the functions compute, over pure values. -/
set_option linter.unusedVariables false
set_option maxRecDepth 100000
namespace Go.H.Tryz
open Go Go.H
def b_spec_l00Src_form (a0 a1 : PV) (st : St) (R : Res → St → Prop) : Prop :=
 e_alloc st [.int .i64 0, .int .i64 0, .sl 0 true []] fun v4 st =>
 hJ (fun ls st =>
  cb (ls.getD 0 .junk) fun b => br b
   (callK prog n_spec_l00Src_next [a0, (.int .i64 2)] st (fun v13 st =>
   qb (q_bin .add (.int .i64 2) v13) fun v14 =>
   qb (q_bin .sub a1 (.int .i64 1)) fun v17 =>
   callK prog n_spec_l00Src_form [a0, v17] st (fun v18 st =>
   qb (q_bin .sub a1 (.int .i64 1)) fun v21 =>
   callK prog n_spec_l00Src_form [a0, v21] st (fun v22 st =>
   callK prog n_spec_l08Two [v14, v18, v22] st (fun v23 st =>
   e_store st 3 v4 v23 fun st =>
   qb (q_load st true 3 v4) fun r => retR R r st) (panR R)) (panR R)) (panR R)) (panR R))
   (callK prog n_spec_l00Src_chance [a0, (.int .i64 6)] st (fun v25 st =>
   cb v25 fun b_1 => br b_1
    (qb (q_struct [.int .i64 0, .int .i64 0, .sl 0 true []] [(0, 1, (.int .i64 4))]) fun v26 =>
    e_store st 3 v4 v26 fun st =>
    qb (q_load st true 3 v4) fun r_1 => retR R r_1 st)
    (callK prog n_spec_l00Src_next [a0, (.int .i64 3)] st (fun v28 st =>
    qb (q_struct [.int .i64 0, .int .i64 0, .sl 0 true []] [(0, 1, (.int .i64 1)), (1, 1, v28)]) fun v29 =>
    e_store st 3 v4 v29 fun st =>
    qb (q_load st true 3 v4) fun r_2 => retR R r_2 st) (panR R))) (panR R)))
  (fun k =>
 qb (q_bin .gtr a1 (.int .i64 0)) fun v6 =>
 cb v6 fun b_2 => br b_2
  (callK prog n_spec_l00Src_chance [a0, (.int .i64 3)] st (fun v9 st =>
  qb (q_un .not v9) fun v10 =>
  k [v10] st) (panR R))
  (k [(.bool false)] st))
theorem c_spec_l00Src_form {a0 a1 : PV} {st : St} {R : Res → St → Prop} (h : b_spec_l00Src_form a0 a1 st R) : HCalls prog n_spec_l00Src_form [a0, a1] st R :=
 hcalls_of_func tyOK mixed (fn := Go.Proofs.Tryz.f22) (by kernel_rfl) (by kernel_rfl) (by kernel_rfl) (ann := [(5, [11])])
  (show hFunc prog TT [(5, [11])] Go.Proofs.Tryz.f22 [a0, a1] st R from (show hFunc prog TT [(5, [11])] Go.Proofs.Tryz.f22 [a0, a1] st R = b_spec_l00Src_form a0 a1 st R by kernel_rfl) ▸ h)
def b_spec_l00Src_next (a0 a1 : PV) (st : St) (R : Res → St → Prop) : Prop :=
 qb (q_bin .leq a1 (.int .i64 1)) fun v9 =>
 cb v9 fun b => br b
  (retR R (.int .i64 0) st)
  (qb (q_bin .leq a1 (.int .i64 256)) fun v11 =>
  cb v11 fun b_1 => br b_1
   (callK prog n_spec_l00Src_byte [a0] st (fun v13 st =>
   qb (q_bin .rem v13 a1) fun v15 =>
   retR R v15 st) (panR R))
   (callK prog n_spec_l00Src_byte [a0] st (fun v17 st =>
   callK prog n_spec_l00Src_byte [a0] st (fun v19 st =>
   callK prog n_spec_l00Src_byte [a0] st (fun v21 st =>
   qb (q_bin .mul v17 (.int .i64 65536)) fun v23 =>
   qb (q_bin .mul v19 (.int .i64 256)) fun v25 =>
   qb (q_bin .add v23 v25) fun v26 =>
   qb (q_bin .add v26 v21) fun v28 =>
   qb (q_bin .rem v28 a1) fun v30 =>
   retR R v30 st) (panR R)) (panR R)) (panR R)))
theorem c_spec_l00Src_next {a0 a1 : PV} {st : St} {R : Res → St → Prop} (h : b_spec_l00Src_next a0 a1 st R) : HCalls prog n_spec_l00Src_next [a0, a1] st R :=
 hcalls_of_func tyOK mixed (fn := Go.Proofs.Tryz.f23) (by kernel_rfl) (by kernel_rfl) (by kernel_rfl) (ann := [])
  (show hFunc prog TT [] Go.Proofs.Tryz.f23 [a0, a1] st R from (show hFunc prog TT [] Go.Proofs.Tryz.f23 [a0, a1] st R = b_spec_l00Src_next a0 a1 st R by kernel_rfl) ▸ h)
def b_impl_encoded (a0 a1 : PV) (st : St) (R : Res → St → Prop) : Prop :=
 e_alloc st [.int .i64 0, .int .i64 0, .str [], .sl 0 true []] fun v4 st =>
 qb (q_un .not a0) fun v8 =>
 cb v8 fun b => br b
  (qb (q_struct [.int .i64 0, .int .i64 0, .str [], .sl 0 true []] []) fun v9 =>
  e_store st 4 v4 v9 fun st =>
  qb (q_load st true 4 v4) fun r => retR R (.tup [r, (.int .i64 1)]) st)
  (e_call prog st a1 [] (fun v11 st =>
  e_alloc st [.int .i64 0, .int .i64 0, .str [], .sl 0 true []] fun v6 st =>
  e_store st 4 v6 v11 fun st =>
  qb (q_load st true 4 v6) fun v12 =>
  callK prog n_impl_tooBig [v12] st (fun v13 st =>
  cb v13 fun b_1 => br b_1
   (qb (q_struct [.int .i64 0, .int .i64 0, .str [], .sl 0 true []] []) fun v14 =>
   e_store st 4 v4 v14 fun st =>
   qb (q_load st true 4 v4) fun r_1 => retR R (.tup [r_1, (.int .i64 11)]) st)
   (qb (q_load st true 4 v6) fun v15 =>
   e_store st 4 v4 v15 fun st =>
   qb (q_load st true 4 v4) fun r_2 => retR R (.tup [r_2, (.int .i64 0)]) st)) (panR R)) (panR R))
theorem c_impl_encoded {a0 a1 : PV} {st : St} {R : Res → St → Prop} (h : b_impl_encoded a0 a1 st R) : HCalls prog n_impl_encoded [a0, a1] st R :=
 hcalls_of_func tyOK mixed (fn := Go.Proofs.Tryz.f24) (by kernel_rfl) (by kernel_rfl) (by kernel_rfl) (ann := [])
  (show hFunc prog TT [] Go.Proofs.Tryz.f24 [a0, a1] st R from (show hFunc prog TT [] Go.Proofs.Tryz.f24 [a0, a1] st R = b_impl_encoded a0 a1 st R by kernel_rfl) ▸ h)
def b_impl_FormOK (a0 : PV) (st : St) (R : Res → St → Prop) : Prop :=
 e_box st a0 fun v1 st =>
 qb (q_load st true 3 v1) fun v4 =>
 callK prog n_impl_fresh [] st (fun v3 st =>
 q_load st true 3 v1 = some v4 ∧ (callK prog n_impl_looker_form [v3, v4] st (fun v5 st =>
 retR R v5 st) (panR R))) (panR R)
theorem c_impl_FormOK {a0 : PV} {st : St} {R : Res → St → Prop} (h : b_impl_FormOK a0 st R) : HCalls prog n_impl_FormOK [a0] st R :=
 hcalls_of_func tyOK mixed (fn := Go.Proofs.Tryz.f25) (by kernel_rfl) (by kernel_rfl) (by kernel_rfl) (ann := [])
  (show hFunc prog TT [] Go.Proofs.Tryz.f25 [a0] st R from (show hFunc prog TT [] Go.Proofs.Tryz.f25 [a0] st R = b_impl_FormOK a0 st R by kernel_rfl) ▸ h)
def b_impl_EncodeForm_1 (a0 : PV) (st : St) (R : Res → St → Prop) : Prop :=
 e_alloc st [.int .i64 0, .int .i64 0, .str [], .sl 0 true []] fun v1 st =>
 qb (q_load st true 3 a0) fun v2 =>
 callK prog n_impl_formTerm [v2] st (fun v3 st =>
 e_store st 4 v1 v3 fun st =>
 qb (q_load st true 4 v1) fun r => retR R r st) (panR R)
theorem c_impl_EncodeForm_1 {a0 : PV} {st : St} {R : Res → St → Prop} (h : b_impl_EncodeForm_1 a0 st R) : HCalls prog n_impl_EncodeForm_1 [a0] st R :=
 hcalls_of_func tyOK mixed (fn := Go.Proofs.Tryz.f26) (by kernel_rfl) (by kernel_rfl) (by kernel_rfl) (ann := [])
  (show hFunc prog TT [] Go.Proofs.Tryz.f26 [a0] st R from (show hFunc prog TT [] Go.Proofs.Tryz.f26 [a0] st R = b_impl_EncodeForm_1 a0 st R by kernel_rfl) ▸ h)
def b_impl_formTerm (a0 : PV) (st : St) (R : Res → St → Prop) : Prop :=
 e_box st a0 fun v1 st =>
 e_alloc st [.int .i64 0, .int .i64 0, .str [], .sl 0 true []] fun v2 st =>
 qb (q_fa 0 v1) fun v3 =>
 qb (q_load st false 1 v3) fun v4 =>
 qb (q_bin .eql v4 (.int .i64 1)) fun v6 =>
 cb v6 fun b => br b
  (qb (q_fa 1 v1) fun v7 =>
  qb (q_load st false 1 v7) fun v8 =>
  qb (q_bin .mul (.int .i64 2) v8) fun v9 =>
  qb (q_fa 1 v1) fun v10 =>
  qb (q_load st false 1 v10) fun v11 =>
  qb (q_bin .mul (.int .i64 2) v11) fun v12 =>
  qb (q_bin .add v12 (.int .i64 2)) fun v13 =>
  qb (q_sliceS (.str [112, 48, 112, 49, 112, 50, 112, 51, 112, 52, 112, 53]) (some v9) (some v13) none) fun v14 =>
  callK prog n_impl_constant [v14, (.sl 0 true [])] st (fun v15 st =>
  e_store st 4 v2 v15 fun st =>
  qb (q_load st true 4 v2) fun r => retR R r st) (panR R))
  (qb (q_bin .eql v4 (.int .i64 4)) fun v17 =>
  cb v17 fun b_1 => br b_1
   (callK prog n_impl_constant [(.str [98, 111, 116]), (.sl 0 true [])] st (fun v18 st =>
   e_store st 4 v2 v18 fun st =>
   qb (q_load st true 4 v2) fun r_1 => retR R r_1 st) (panR R))
   (qb (q_bin .eql v4 (.int .i64 2)) fun v20 =>
   cb v20 fun b_2 => br b_2
    (qb (q_fa 2 v1) fun v21 =>
    qb (q_load st false 1 v21) fun v22 =>
    qb (q_ia 3 v22 (.int .i64 0)) fun v23 =>
    qb (q_load st true 3 v23) fun v24 =>
    qb (q_fa 2 v1) fun v26 =>
    qb (q_load st false 1 v26) fun v27 =>
    qb (q_ia 3 v27 (.int .i64 1)) fun v28 =>
    qb (q_load st true 3 v28) fun v29 =>
    callK prog n_impl_formTerm [v24] st (fun v25 st =>
    q_load st true 3 v28 = some v29 ∧ q_load st false 1 v26 = some v27 ∧ (callK prog n_impl_formTerm [v29] st (fun v30 st =>
    qb (q_lit 4 2 0 [] [(0, v25), (1, v30)]) fun v31 =>
    callK prog n_impl_constant [(.str [97, 110, 100]), v31] st (fun v32 st =>
    e_store st 4 v2 v32 fun st =>
    qb (q_load st true 4 v2) fun r_2 => retR R r_2 st) (panR R)) (panR R))) (panR R))
    (qb (q_fa 2 v1) fun v33 =>
    qb (q_load st false 1 v33) fun v34 =>
    qb (q_ia 3 v34 (.int .i64 0)) fun v35 =>
    qb (q_load st true 3 v35) fun v36 =>
    qb (q_fa 2 v1) fun v38 =>
    qb (q_load st false 1 v38) fun v39 =>
    qb (q_ia 3 v39 (.int .i64 1)) fun v40 =>
    qb (q_load st true 3 v40) fun v41 =>
    callK prog n_impl_formTerm [v36] st (fun v37 st =>
    q_load st true 3 v40 = some v41 ∧ q_load st false 1 v38 = some v39 ∧ (callK prog n_impl_formTerm [v41] st (fun v42 st =>
    qb (q_lit 4 2 0 [] [(0, v37), (1, v42)]) fun v43 =>
    callK prog n_impl_constant [(.str [105, 109, 112]), v43] st (fun v44 st =>
    e_store st 4 v2 v44 fun st =>
    qb (q_load st true 4 v2) fun r_3 => retR R r_3 st) (panR R)) (panR R))) (panR R))))
theorem c_impl_formTerm {a0 : PV} {st : St} {R : Res → St → Prop} (h : b_impl_formTerm a0 st R) : HCalls prog n_impl_formTerm [a0] st R :=
 hcalls_of_func tyOK mixed (fn := Go.Proofs.Tryz.f27) (by kernel_rfl) (by kernel_rfl) (by kernel_rfl) (ann := [])
  (show hFunc prog TT [] Go.Proofs.Tryz.f27 [a0] st R from (show hFunc prog TT [] Go.Proofs.Tryz.f27 [a0] st R = b_impl_formTerm a0 st R by kernel_rfl) ▸ h)
def b_impl_badTerm (a0 : PV) (st : St) (R : Res → St → Prop) : Prop :=
 e_box st a0 fun v1 st =>
 qb (q_load st true 4 v1) fun v3 =>
 callK prog n_impl_TermOK [v3] st (fun v4 st =>
 qb (q_un .not v4) fun v5 =>
 retR R v5 st) (panR R)
theorem c_impl_badTerm {a0 : PV} {st : St} {R : Res → St → Prop} (h : b_impl_badTerm a0 st R) : HCalls prog n_impl_badTerm [a0] st R :=
 hcalls_of_func tyOK mixed (fn := Go.Proofs.Tryz.f28) (by kernel_rfl) (by kernel_rfl) (by kernel_rfl) (ann := [])
  (show hFunc prog TT [] Go.Proofs.Tryz.f28 [a0] st R from (show hFunc prog TT [] Go.Proofs.Tryz.f28 [a0] st R = b_impl_badTerm a0 st R by kernel_rfl) ▸ h)
def b_impl_DecodeForm_1 (a0 a1 : PV) (st : St) (R : Res → St → Prop) : Prop :=
 qb (q_load st true 4 a0) fun v2 =>
 callK prog n_impl_readForm [v2] st (fun v3 st =>
 e_store st 3 a1 v3 fun st =>
 retR R (.tup []) st) (panR R)
theorem c_impl_DecodeForm_1 {a0 a1 : PV} {st : St} {R : Res → St → Prop} (h : b_impl_DecodeForm_1 a0 a1 st R) : HCalls prog n_impl_DecodeForm_1 [a0, a1] st R :=
 hcalls_of_func tyOK mixed (fn := Go.Proofs.Tryz.f30) (by kernel_rfl) (by kernel_rfl) (by kernel_rfl) (ann := [])
  (show hFunc prog TT [] Go.Proofs.Tryz.f30 [a0, a1] st R from (show hFunc prog TT [] Go.Proofs.Tryz.f30 [a0, a1] st R = b_impl_DecodeForm_1 a0 a1 st R by kernel_rfl) ▸ h)
def b_impl_readForm (a0 : PV) (st : St) (R : Res → St → Prop) : Prop :=
 e_box st a0 fun v1 st =>
 e_alloc st [.int .i64 0, .int .i64 0, .sl 0 true []] fun v2 st =>
 hJ (fun ls st =>
  hJ (fun ls_1 st =>
   hJ (fun ls_2 st =>
    cb (ls_2.getD 0 .junk) fun b_1 => br b_1
     (callK prog n_impl_stop [(.int .i64 3), (.int .i64 0)] st (fun v53 st =>
     hJ (fun ls_3 st =>
      qb (q_fa 2 v1) fun v64 =>
      qb (q_load st false 1 v64) fun v65 =>
      qb (q_bin .eql v65 (.str [97, 110, 100])) fun v66 =>
      cb v66 fun b_2 => br b_2
       (qb (q_load st true 3 (ls_3.getD 0 .junk)) fun v67 =>
       qb (q_load st true 3 (ls_3.getD 1 .junk)) fun v68 =>
       callK prog n_impl_and [v67, v68] st (fun v69 st =>
       e_store st 3 v2 v69 fun st =>
       qb (q_load st true 3 v2) fun r => retR R r st) (panR R))
       (qb (q_load st true 3 (ls_3.getD 0 .junk)) fun v70 =>
       qb (q_load st true 3 (ls_3.getD 1 .junk)) fun v71 =>
       callK prog n_impl_implies [v70, v71] st (fun v72 st =>
       e_store st 3 v2 v72 fun st =>
       qb (q_load st true 3 v2) fun r_1 => retR R r_1 st) (panR R)))
      (fun k_3 =>
     qb (q_fa 3 v1) fun v54 =>
     qb (q_load st false 1 v54) fun v55 =>
     qb (q_ia 4 v55 (.int .i64 0)) fun v56 =>
     qb (q_load st true 4 v56) fun v57 =>
     qb (q_fa 3 v1) fun v59 =>
     qb (q_load st false 1 v59) fun v60 =>
     qb (q_ia 4 v60 (.int .i64 1)) fun v61 =>
     qb (q_load st true 4 v61) fun v62 =>
     (callK prog n_impl_readForm [v57] st (fun v58 st =>
     q_load st true 4 v61 = some v62 ∧ q_load st false 1 v59 = some v60 ∧ ((callK prog n_impl_readForm [v62] st (fun v63 st =>
     (e_alloc st [.int .i64 0, .int .i64 0, .sl 0 true []] fun v4 st =>
     q_load st true 4 v61 = some v62 ∧ q_load st false 1 v59 = some v60 ∧ q_load st true 4 v56 = some v57 ∧ q_load st false 1 v54 = some v55 ∧ (e_alloc st [.int .i64 0, .int .i64 0, .sl 0 true []] fun v5 st =>
     q_load st true 4 v61 = some v62 ∧ q_load st false 1 v59 = some v60 ∧ q_load st true 4 v56 = some v57 ∧ q_load st false 1 v54 = some v55 ∧ (e_store st 3 v4 v58 fun st =>
     e_store st 3 v5 v63 fun st =>
     k_3 [v4, v5] st))) ∧
     (e_alloc st [.int .i64 0, .int .i64 0, .sl 0 true []] fun v5_1 st =>
     q_load st true 4 v61 = some v62 ∧ q_load st false 1 v59 = some v60 ∧ q_load st true 4 v56 = some v57 ∧ q_load st false 1 v54 = some v55 ∧ (e_alloc st [.int .i64 0, .int .i64 0, .sl 0 true []] fun v4_1 st =>
     q_load st true 4 v61 = some v62 ∧ q_load st false 1 v59 = some v60 ∧ q_load st true 4 v56 = some v57 ∧ q_load st false 1 v54 = some v55 ∧ (e_store st 3 v4_1 v58 fun st =>
     e_store st 3 v5_1 v63 fun st =>
     k_3 [v4_1, v5_1] st)))) (panR R)) ∧
     (e_alloc st [.int .i64 0, .int .i64 0, .sl 0 true []] fun v4_2 st =>
     q_load st true 4 v61 = some v62 ∧ q_load st false 1 v59 = some v60 ∧ q_load st true 4 v56 = some v57 ∧ q_load st false 1 v54 = some v55 ∧ ((callK prog n_impl_readForm [v62] st (fun v63_1 st =>
     e_alloc st [.int .i64 0, .int .i64 0, .sl 0 true []] fun v5_2 st =>
     q_load st true 4 v61 = some v62 ∧ q_load st false 1 v59 = some v60 ∧ q_load st true 4 v56 = some v57 ∧ q_load st false 1 v54 = some v55 ∧ (e_store st 3 v4_2 v58 fun st =>
     e_store st 3 v5_2 v63_1 fun st =>
     k_3 [v4_2, v5_2] st)) (panR R)) ∧
     (e_alloc st [.int .i64 0, .int .i64 0, .sl 0 true []] fun v5_3 st =>
     q_load st true 4 v61 = some v62 ∧ q_load st false 1 v59 = some v60 ∧ q_load st true 4 v56 = some v57 ∧ q_load st false 1 v54 = some v55 ∧ (callK prog n_impl_readForm [v62] st (fun v63_2 st =>
     e_store st 3 v4_2 v58 fun st =>
     e_store st 3 v5_3 v63_2 fun st =>
     k_3 [v4_2, v5_3] st) (panR R))))) ∧
     (e_alloc st [.int .i64 0, .int .i64 0, .sl 0 true []] fun v5_4 st =>
     q_load st true 4 v61 = some v62 ∧ q_load st false 1 v59 = some v60 ∧ q_load st true 4 v56 = some v57 ∧ q_load st false 1 v54 = some v55 ∧ ((callK prog n_impl_readForm [v62] st (fun v63_3 st =>
     e_alloc st [.int .i64 0, .int .i64 0, .sl 0 true []] fun v4_3 st =>
     q_load st true 4 v61 = some v62 ∧ q_load st false 1 v59 = some v60 ∧ q_load st true 4 v56 = some v57 ∧ q_load st false 1 v54 = some v55 ∧ (e_store st 3 v4_3 v58 fun st =>
     e_store st 3 v5_4 v63_3 fun st =>
     k_3 [v4_3, v5_4] st)) (panR R)) ∧
     (e_alloc st [.int .i64 0, .int .i64 0, .sl 0 true []] fun v4_4 st =>
     q_load st true 4 v61 = some v62 ∧ q_load st false 1 v59 = some v60 ∧ q_load st true 4 v56 = some v57 ∧ q_load st false 1 v54 = some v55 ∧ (callK prog n_impl_readForm [v62] st (fun v63_4 st =>
     e_store st 3 v4_4 v58 fun st =>
     e_store st 3 v5_4 v63_4 fun st =>
     k_3 [v4_4, v5_4] st) (panR R))))))) (panR R)) ∧
     (e_alloc st [.int .i64 0, .int .i64 0, .sl 0 true []] fun v4_5 st =>
     q_load st true 4 v61 = some v62 ∧ q_load st false 1 v59 = some v60 ∧ q_load st true 4 v56 = some v57 ∧ q_load st false 1 v54 = some v55 ∧ ((callK prog n_impl_readForm [v57] st (fun v58_1 st =>
     q_load st true 4 v61 = some v62 ∧ q_load st false 1 v59 = some v60 ∧ ((callK prog n_impl_readForm [v62] st (fun v63_5 st =>
     e_alloc st [.int .i64 0, .int .i64 0, .sl 0 true []] fun v5_5 st =>
     q_load st true 4 v61 = some v62 ∧ q_load st false 1 v59 = some v60 ∧ q_load st true 4 v56 = some v57 ∧ q_load st false 1 v54 = some v55 ∧ (e_store st 3 v4_5 v58_1 fun st =>
     e_store st 3 v5_5 v63_5 fun st =>
     k_3 [v4_5, v5_5] st)) (panR R)) ∧
     (e_alloc st [.int .i64 0, .int .i64 0, .sl 0 true []] fun v5_6 st =>
     q_load st true 4 v61 = some v62 ∧ q_load st false 1 v59 = some v60 ∧ q_load st true 4 v56 = some v57 ∧ q_load st false 1 v54 = some v55 ∧ (callK prog n_impl_readForm [v62] st (fun v63_6 st =>
     e_store st 3 v4_5 v58_1 fun st =>
     e_store st 3 v5_6 v63_6 fun st =>
     k_3 [v4_5, v5_6] st) (panR R))))) (panR R)) ∧
     (e_alloc st [.int .i64 0, .int .i64 0, .sl 0 true []] fun v5_7 st =>
     q_load st true 4 v61 = some v62 ∧ q_load st false 1 v59 = some v60 ∧ q_load st true 4 v56 = some v57 ∧ q_load st false 1 v54 = some v55 ∧ (callK prog n_impl_readForm [v57] st (fun v58_2 st =>
     q_load st true 4 v61 = some v62 ∧ q_load st false 1 v59 = some v60 ∧ (callK prog n_impl_readForm [v62] st (fun v63_7 st =>
     e_store st 3 v4_5 v58_2 fun st =>
     e_store st 3 v5_7 v63_7 fun st =>
     k_3 [v4_5, v5_7] st) (panR R))) (panR R))))) ∧
     (e_alloc st [.int .i64 0, .int .i64 0, .sl 0 true []] fun v5_8 st =>
     q_load st true 4 v61 = some v62 ∧ q_load st false 1 v59 = some v60 ∧ q_load st true 4 v56 = some v57 ∧ q_load st false 1 v54 = some v55 ∧ ((callK prog n_impl_readForm [v57] st (fun v58_3 st =>
     q_load st true 4 v61 = some v62 ∧ q_load st false 1 v59 = some v60 ∧ ((callK prog n_impl_readForm [v62] st (fun v63_8 st =>
     e_alloc st [.int .i64 0, .int .i64 0, .sl 0 true []] fun v4_6 st =>
     q_load st true 4 v61 = some v62 ∧ q_load st false 1 v59 = some v60 ∧ q_load st true 4 v56 = some v57 ∧ q_load st false 1 v54 = some v55 ∧ (e_store st 3 v4_6 v58_3 fun st =>
     e_store st 3 v5_8 v63_8 fun st =>
     k_3 [v4_6, v5_8] st)) (panR R)) ∧
     (e_alloc st [.int .i64 0, .int .i64 0, .sl 0 true []] fun v4_7 st =>
     q_load st true 4 v61 = some v62 ∧ q_load st false 1 v59 = some v60 ∧ q_load st true 4 v56 = some v57 ∧ q_load st false 1 v54 = some v55 ∧ (callK prog n_impl_readForm [v62] st (fun v63_9 st =>
     e_store st 3 v4_7 v58_3 fun st =>
     e_store st 3 v5_8 v63_9 fun st =>
     k_3 [v4_7, v5_8] st) (panR R))))) (panR R)) ∧
     (e_alloc st [.int .i64 0, .int .i64 0, .sl 0 true []] fun v4_8 st =>
     q_load st true 4 v61 = some v62 ∧ q_load st false 1 v59 = some v60 ∧ q_load st true 4 v56 = some v57 ∧ q_load st false 1 v54 = some v55 ∧ (callK prog n_impl_readForm [v57] st (fun v58_4 st =>
     q_load st true 4 v61 = some v62 ∧ q_load st false 1 v59 = some v60 ∧ (callK prog n_impl_readForm [v62] st (fun v63_10 st =>
     e_store st 3 v4_8 v58_4 fun st =>
     e_store st 3 v5_8 v63_10 fun st =>
     k_3 [v4_8, v5_8] st) (panR R))) (panR R))))))) (panR R))
     (hJ (fun ls_4 st =>
      qb (q_fa 2 v1) fun v64_1 =>
      qb (q_load st false 1 v64_1) fun v65_1 =>
      qb (q_bin .eql v65_1 (.str [97, 110, 100])) fun v66_1 =>
      cb v66_1 fun b_3 => br b_3
       (qb (q_load st true 3 (ls_4.getD 0 .junk)) fun v67_1 =>
       qb (q_load st true 3 (ls_4.getD 1 .junk)) fun v68_1 =>
       callK prog n_impl_and [v67_1, v68_1] st (fun v69_1 st =>
       e_store st 3 v2 v69_1 fun st =>
       qb (q_load st true 3 v2) fun r_2 => retR R r_2 st) (panR R))
       (qb (q_load st true 3 (ls_4.getD 0 .junk)) fun v70_1 =>
       qb (q_load st true 3 (ls_4.getD 1 .junk)) fun v71_1 =>
       callK prog n_impl_implies [v70_1, v71_1] st (fun v72_1 st =>
       e_store st 3 v2 v72_1 fun st =>
       qb (q_load st true 3 v2) fun r_3 => retR R r_3 st) (panR R)))
      (fun k_4 =>
     qb (q_fa 3 v1) fun v54_1 =>
     qb (q_load st false 1 v54_1) fun v55_1 =>
     qb (q_ia 4 v55_1 (.int .i64 0)) fun v56_1 =>
     qb (q_load st true 4 v56_1) fun v57_1 =>
     qb (q_fa 3 v1) fun v59_1 =>
     qb (q_load st false 1 v59_1) fun v60_1 =>
     qb (q_ia 4 v60_1 (.int .i64 1)) fun v61_1 =>
     qb (q_load st true 4 v61_1) fun v62_1 =>
     (callK prog n_impl_readForm [v57_1] st (fun v58_5 st =>
     q_load st true 4 v61_1 = some v62_1 ∧ q_load st false 1 v59_1 = some v60_1 ∧ ((callK prog n_impl_readForm [v62_1] st (fun v63_11 st =>
     (e_alloc st [.int .i64 0, .int .i64 0, .sl 0 true []] fun v4_9 st =>
     q_load st true 4 v61_1 = some v62_1 ∧ q_load st false 1 v59_1 = some v60_1 ∧ q_load st true 4 v56_1 = some v57_1 ∧ q_load st false 1 v54_1 = some v55_1 ∧ (e_alloc st [.int .i64 0, .int .i64 0, .sl 0 true []] fun v5_9 st =>
     q_load st true 4 v61_1 = some v62_1 ∧ q_load st false 1 v59_1 = some v60_1 ∧ q_load st true 4 v56_1 = some v57_1 ∧ q_load st false 1 v54_1 = some v55_1 ∧ (e_store st 3 v4_9 v58_5 fun st =>
     e_store st 3 v5_9 v63_11 fun st =>
     k_4 [v4_9, v5_9] st))) ∧
     (e_alloc st [.int .i64 0, .int .i64 0, .sl 0 true []] fun v5_10 st =>
     q_load st true 4 v61_1 = some v62_1 ∧ q_load st false 1 v59_1 = some v60_1 ∧ q_load st true 4 v56_1 = some v57_1 ∧ q_load st false 1 v54_1 = some v55_1 ∧ (e_alloc st [.int .i64 0, .int .i64 0, .sl 0 true []] fun v4_10 st =>
     q_load st true 4 v61_1 = some v62_1 ∧ q_load st false 1 v59_1 = some v60_1 ∧ q_load st true 4 v56_1 = some v57_1 ∧ q_load st false 1 v54_1 = some v55_1 ∧ (e_store st 3 v4_10 v58_5 fun st =>
     e_store st 3 v5_10 v63_11 fun st =>
     k_4 [v4_10, v5_10] st)))) (panR R)) ∧
     (e_alloc st [.int .i64 0, .int .i64 0, .sl 0 true []] fun v4_11 st =>
     q_load st true 4 v61_1 = some v62_1 ∧ q_load st false 1 v59_1 = some v60_1 ∧ q_load st true 4 v56_1 = some v57_1 ∧ q_load st false 1 v54_1 = some v55_1 ∧ ((callK prog n_impl_readForm [v62_1] st (fun v63_12 st =>
     e_alloc st [.int .i64 0, .int .i64 0, .sl 0 true []] fun v5_11 st =>
     q_load st true 4 v61_1 = some v62_1 ∧ q_load st false 1 v59_1 = some v60_1 ∧ q_load st true 4 v56_1 = some v57_1 ∧ q_load st false 1 v54_1 = some v55_1 ∧ (e_store st 3 v4_11 v58_5 fun st =>
     e_store st 3 v5_11 v63_12 fun st =>
     k_4 [v4_11, v5_11] st)) (panR R)) ∧
     (e_alloc st [.int .i64 0, .int .i64 0, .sl 0 true []] fun v5_12 st =>
     q_load st true 4 v61_1 = some v62_1 ∧ q_load st false 1 v59_1 = some v60_1 ∧ q_load st true 4 v56_1 = some v57_1 ∧ q_load st false 1 v54_1 = some v55_1 ∧ (callK prog n_impl_readForm [v62_1] st (fun v63_13 st =>
     e_store st 3 v4_11 v58_5 fun st =>
     e_store st 3 v5_12 v63_13 fun st =>
     k_4 [v4_11, v5_12] st) (panR R))))) ∧
     (e_alloc st [.int .i64 0, .int .i64 0, .sl 0 true []] fun v5_13 st =>
     q_load st true 4 v61_1 = some v62_1 ∧ q_load st false 1 v59_1 = some v60_1 ∧ q_load st true 4 v56_1 = some v57_1 ∧ q_load st false 1 v54_1 = some v55_1 ∧ ((callK prog n_impl_readForm [v62_1] st (fun v63_14 st =>
     e_alloc st [.int .i64 0, .int .i64 0, .sl 0 true []] fun v4_12 st =>
     q_load st true 4 v61_1 = some v62_1 ∧ q_load st false 1 v59_1 = some v60_1 ∧ q_load st true 4 v56_1 = some v57_1 ∧ q_load st false 1 v54_1 = some v55_1 ∧ (e_store st 3 v4_12 v58_5 fun st =>
     e_store st 3 v5_13 v63_14 fun st =>
     k_4 [v4_12, v5_13] st)) (panR R)) ∧
     (e_alloc st [.int .i64 0, .int .i64 0, .sl 0 true []] fun v4_13 st =>
     q_load st true 4 v61_1 = some v62_1 ∧ q_load st false 1 v59_1 = some v60_1 ∧ q_load st true 4 v56_1 = some v57_1 ∧ q_load st false 1 v54_1 = some v55_1 ∧ (callK prog n_impl_readForm [v62_1] st (fun v63_15 st =>
     e_store st 3 v4_13 v58_5 fun st =>
     e_store st 3 v5_13 v63_15 fun st =>
     k_4 [v4_13, v5_13] st) (panR R))))))) (panR R)) ∧
     (e_alloc st [.int .i64 0, .int .i64 0, .sl 0 true []] fun v4_14 st =>
     q_load st true 4 v61_1 = some v62_1 ∧ q_load st false 1 v59_1 = some v60_1 ∧ q_load st true 4 v56_1 = some v57_1 ∧ q_load st false 1 v54_1 = some v55_1 ∧ ((callK prog n_impl_readForm [v57_1] st (fun v58_6 st =>
     q_load st true 4 v61_1 = some v62_1 ∧ q_load st false 1 v59_1 = some v60_1 ∧ ((callK prog n_impl_readForm [v62_1] st (fun v63_16 st =>
     e_alloc st [.int .i64 0, .int .i64 0, .sl 0 true []] fun v5_14 st =>
     q_load st true 4 v61_1 = some v62_1 ∧ q_load st false 1 v59_1 = some v60_1 ∧ q_load st true 4 v56_1 = some v57_1 ∧ q_load st false 1 v54_1 = some v55_1 ∧ (e_store st 3 v4_14 v58_6 fun st =>
     e_store st 3 v5_14 v63_16 fun st =>
     k_4 [v4_14, v5_14] st)) (panR R)) ∧
     (e_alloc st [.int .i64 0, .int .i64 0, .sl 0 true []] fun v5_15 st =>
     q_load st true 4 v61_1 = some v62_1 ∧ q_load st false 1 v59_1 = some v60_1 ∧ q_load st true 4 v56_1 = some v57_1 ∧ q_load st false 1 v54_1 = some v55_1 ∧ (callK prog n_impl_readForm [v62_1] st (fun v63_17 st =>
     e_store st 3 v4_14 v58_6 fun st =>
     e_store st 3 v5_15 v63_17 fun st =>
     k_4 [v4_14, v5_15] st) (panR R))))) (panR R)) ∧
     (e_alloc st [.int .i64 0, .int .i64 0, .sl 0 true []] fun v5_16 st =>
     q_load st true 4 v61_1 = some v62_1 ∧ q_load st false 1 v59_1 = some v60_1 ∧ q_load st true 4 v56_1 = some v57_1 ∧ q_load st false 1 v54_1 = some v55_1 ∧ (callK prog n_impl_readForm [v57_1] st (fun v58_7 st =>
     q_load st true 4 v61_1 = some v62_1 ∧ q_load st false 1 v59_1 = some v60_1 ∧ (callK prog n_impl_readForm [v62_1] st (fun v63_18 st =>
     e_store st 3 v4_14 v58_7 fun st =>
     e_store st 3 v5_16 v63_18 fun st =>
     k_4 [v4_14, v5_16] st) (panR R))) (panR R))))) ∧
     (e_alloc st [.int .i64 0, .int .i64 0, .sl 0 true []] fun v5_17 st =>
     q_load st true 4 v61_1 = some v62_1 ∧ q_load st false 1 v59_1 = some v60_1 ∧ q_load st true 4 v56_1 = some v57_1 ∧ q_load st false 1 v54_1 = some v55_1 ∧ ((callK prog n_impl_readForm [v57_1] st (fun v58_8 st =>
     q_load st true 4 v61_1 = some v62_1 ∧ q_load st false 1 v59_1 = some v60_1 ∧ ((callK prog n_impl_readForm [v62_1] st (fun v63_19 st =>
     e_alloc st [.int .i64 0, .int .i64 0, .sl 0 true []] fun v4_15 st =>
     q_load st true 4 v61_1 = some v62_1 ∧ q_load st false 1 v59_1 = some v60_1 ∧ q_load st true 4 v56_1 = some v57_1 ∧ q_load st false 1 v54_1 = some v55_1 ∧ (e_store st 3 v4_15 v58_8 fun st =>
     e_store st 3 v5_17 v63_19 fun st =>
     k_4 [v4_15, v5_17] st)) (panR R)) ∧
     (e_alloc st [.int .i64 0, .int .i64 0, .sl 0 true []] fun v4_16 st =>
     q_load st true 4 v61_1 = some v62_1 ∧ q_load st false 1 v59_1 = some v60_1 ∧ q_load st true 4 v56_1 = some v57_1 ∧ q_load st false 1 v54_1 = some v55_1 ∧ (callK prog n_impl_readForm [v62_1] st (fun v63_20 st =>
     e_store st 3 v4_16 v58_8 fun st =>
     e_store st 3 v5_17 v63_20 fun st =>
     k_4 [v4_16, v5_17] st) (panR R))))) (panR R)) ∧
     (e_alloc st [.int .i64 0, .int .i64 0, .sl 0 true []] fun v4_17 st =>
     q_load st true 4 v61_1 = some v62_1 ∧ q_load st false 1 v59_1 = some v60_1 ∧ q_load st true 4 v56_1 = some v57_1 ∧ q_load st false 1 v54_1 = some v55_1 ∧ (callK prog n_impl_readForm [v57_1] st (fun v58_9 st =>
     q_load st true 4 v61_1 = some v62_1 ∧ q_load st false 1 v59_1 = some v60_1 ∧ (callK prog n_impl_readForm [v62_1] st (fun v63_21 st =>
     e_store st 3 v4_17 v58_9 fun st =>
     e_store st 3 v5_17 v63_21 fun st =>
     k_4 [v4_17, v5_17] st) (panR R))) (panR R))))))))
    (fun k_2 =>
   qb (q_fa 0 v1) fun v34 =>
   qb (q_load st false 1 v34) fun v35 =>
   qb (q_bin .neq v35 (.int .i64 6)) fun v36 =>
   cb v36 fun b_4 => br b_4
    (k_2 [(.bool true)] st)
    (qb (q_fa 3 v1) fun v38 =>
    qb (q_load st false 1 v38) fun v39 =>
    qb (q_len v39) fun v40 =>
    qb (q_bin .neq v40 (.int .i64 2)) fun v41 =>
    cb v41 fun b_5 => br b_5
     (k_2 [(.bool true)] st)
     (qb (q_fa 2 v1) fun v44 =>
     qb (q_load st false 1 v44) fun v45 =>
     qb (q_bin .neq v45 (.str [97, 110, 100])) fun v46 =>
     cb v46 fun b_6 => br b_6
      (qb (q_fa 2 v1) fun v48 =>
      qb (q_load st false 1 v48) fun v49 =>
      qb (q_bin .neq v49 (.str [105, 109, 112])) fun v50 =>
      k_2 [v50] st)
      (k_2 [(.bool false)] st)))))
   (fun k_1 =>
  cb (ls.getD 0 .junk) fun b => br b
   (qb (q_fa 2 v1) fun v15 =>
   qb (q_load st false 1 v15) fun v16 =>
   qb (q_bin .eql v16 (.str [98, 111, 116])) fun v17 =>
   cb v17 fun b_7 => br b_7
    (callK prog n_impl_bottom [] st (fun v18 st =>
    e_store st 3 v2 v18 fun st =>
    qb (q_load st true 3 v2) fun r_4 => retR R r_4 st) (panR R))
    (hFix (fun ls_5 st X =>
     qb (q_bin .lss (ls_5.getD 0 .junk) (.int .i64 6)) fun v20 =>
     cb v20 fun b_8 => br b_8
      (qb (q_fa 2 v1) fun v22 =>
      qb (q_load st false 1 v22) fun v23 =>
      qb (q_bin .mul (.int .i64 2) (ls_5.getD 0 .junk)) fun v25 =>
      qb (q_bin .mul (.int .i64 2) (ls_5.getD 0 .junk)) fun v27 =>
      qb (q_bin .add v27 (.int .i64 2)) fun v28 =>
      qb (q_sliceS (.str [112, 48, 112, 49, 112, 50, 112, 51, 112, 52, 112, 53]) (some v25) (some v28) none) fun v29 =>
      qb (q_bin .eql v23 v29) fun v30 =>
      cb v30 fun b_9 => br b_9
       (qb (q_struct [.int .i64 0, .int .i64 0, .sl 0 true []] [(0, 1, (.int .i64 1)), (1, 1, (ls_5.getD 0 .junk))]) fun v32 =>
       e_store st 3 v2 v32 fun st =>
       qb (q_load st true 3 v2) fun r_5 => retR R r_5 st)
       (qb (q_bin .add (ls_5.getD 0 .junk) (.int .i64 1)) fun v33 =>
       X [v33] st))
      (k_1 [] st))
     [(.int .i64 0)] st))
   (k_1 [] st)))
  (fun k =>
 qb (q_fa 0 v1) fun v6 =>
 qb (q_load st false 1 v6) fun v7 =>
 qb (q_bin .eql v7 (.int .i64 6)) fun v8 =>
 cb v8 fun b_10 => br b_10
  (qb (q_fa 3 v1) fun v10 =>
  qb (q_load st false 1 v10) fun v11 =>
  qb (q_len v11) fun v12 =>
  qb (q_bin .eql v12 (.int .i64 0)) fun v13 =>
  k [v13] st)
  (k [(.bool false)] st))
theorem c_impl_readForm {a0 : PV} {st : St} {R : Res → St → Prop} (h : b_impl_readForm a0 st R) : HCalls prog n_impl_readForm [a0] st R :=
 hcalls_of_func tyOK mixed (fn := Go.Proofs.Tryz.f31) (by kernel_rfl) (by kernel_rfl) (by kernel_rfl) (ann := [(20, [19]), (5, [14]), (10, []), (41, [52]), (49, [4, 5])])
  (show hFunc prog TT [(20, [19]), (5, [14]), (10, []), (41, [52]), (49, [4, 5])] Go.Proofs.Tryz.f31 [a0] st R from (show hFunc prog TT [(20, [19]), (5, [14]), (10, []), (41, [52]), (49, [4, 5])] Go.Proofs.Tryz.f31 [a0] st R = b_impl_readForm a0 st R by kernel_rfl) ▸ h)
def b_impl_checked (a0 a1 a2 a3 : PV) (st : St) (R : Res → St → Prop) : Prop :=
 e_box st a0 fun v4 st =>
 e_box st a3 fun v7 st =>
 qb (q_load st false 1 v4) fun v12 =>
 qb (q_len v12) fun v13 =>
 qb (q_len a1) fun v15 =>
 qb (q_lit 1 2 0 [] [(0, v13), (1, v15)]) fun v16 =>
 callK prog n_impl_longLists [v16] st (fun v17 st =>
 cb v17 fun b => br b
  (retR R (.tup [(.int .i64 2), (.int .i64 0)]) st)
  (qb (q_load st false 1 v4) fun v19 =>
  callK prog n_impl_CtxOK [v19, a1] st (fun v21 st =>
  qb (q_un .not v21) fun v22 =>
  cb v22 fun b_1 => br b_1
   (retR R (.tup [(.int .i64 1), (.int .i64 0)]) st)
   (e_call prog st a2 [] (fun v25 st =>
   qb (q_un .not v25) fun v26 =>
   cb v26 fun b_2 => br b_2
    (retR R (.tup [(.int .i64 1), (.int .i64 0)]) st)
    (callK prog n_impl_caught [(.fn (.func n_impl_checked_1) [] [v7, v4])] st (fun v29 st =>
    e_alloc st [.int .i64 0, .int .i64 0] fun v10 st =>
    e_store st 2 v10 v29 fun st =>
    qb (q_fa 0 v10) fun v30 =>
    qb (q_load st false 1 v30) fun v31 =>
    qb (q_fa 1 v10) fun v32 =>
    qb (q_load st false 1 v32) fun v33 =>
    retR R (.tup [v31, v33]) st) (panR R))) (panR R))) (panR R))) (panR R)
theorem e_impl_checked : Enters prog n_impl_checked := ⟨Go.Proofs.Tryz.f32, by kernel_rfl, by kernel_rfl, by kernel_rfl⟩
theorem c_impl_checked {a0 a1 a2 a3 : PV} {st : St} {R : Res → St → Prop} (h : b_impl_checked a0 a1 a2 a3 st R) : HCalls prog n_impl_checked [a0, a1, a2, a3] st R :=
 hcalls_of_func tyOK mixed (fn := Go.Proofs.Tryz.f32) (by kernel_rfl) (by kernel_rfl) (by kernel_rfl) (ann := [])
  (show hFunc prog TT [] Go.Proofs.Tryz.f32 [a0, a1, a2, a3] st R from (show hFunc prog TT [] Go.Proofs.Tryz.f32 [a0, a1, a2, a3] st R = b_impl_checked a0 a1 a2 a3 st R by kernel_rfl) ▸ h)
def b_impl_CheckTerm_1 (a0 a1 a2 a3 : PV) (st : St) (R : Res → St → Prop) : Prop :=
 qb (q_load st true 4 a0) fun v5 =>
 callK prog n_impl_TermOK [v5] st (fun v6 st =>
 cb v6 fun b => br b
  (qb (q_load st false 1 a1) fun v8 =>
  qb (q_load st false 1 a2) fun v9 =>
  qb (q_load st true 4 a3) fun v10 =>
  callK prog n_impl_due [v8, v9, v10] st (fun v11 st =>
  retR R v11 st) (panR R))
  (retR R (.bool false) st)) (panR R)
theorem c_impl_CheckTerm_1 {a0 a1 a2 a3 : PV} {st : St} {R : Res → St → Prop} (h : b_impl_CheckTerm_1 a0 a1 a2 a3 st R) : HCalls prog n_impl_CheckTerm_1 [a0, a1, a2, a3] st R :=
 hcalls_of_func tyOK mixed (fn := Go.Proofs.Tryz.f33) (by kernel_rfl) (by kernel_rfl) (by kernel_rfl) (ann := [])
  (show hFunc prog TT [] Go.Proofs.Tryz.f33 [a0, a1, a2, a3] st R from (show hFunc prog TT [] Go.Proofs.Tryz.f33 [a0, a1, a2, a3] st R = b_impl_CheckTerm_1 a0 a1 a2 a3 st R by kernel_rfl) ▸ h)
def b_impl_TermOK (a0 : PV) (st : St) (R : Res → St → Prop) : Prop :=
 e_box st a0 fun v1 st =>
 qb (q_load st true 4 v1) fun v4 =>
 callK prog n_impl_fresh [] st (fun v3 st =>
 q_load st true 4 v1 = some v4 ∧ (callK prog n_impl_looker_term [v3, v4] st (fun v5 st =>
 retR R v5 st) (panR R))) (panR R)
theorem c_impl_TermOK {a0 : PV} {st : St} {R : Res → St → Prop} (h : b_impl_TermOK a0 st R) : HCalls prog n_impl_TermOK [a0] st R :=
 hcalls_of_func tyOK mixed (fn := Go.Proofs.Tryz.f34) (by kernel_rfl) (by kernel_rfl) (by kernel_rfl) (ann := [])
  (show hFunc prog TT [] Go.Proofs.Tryz.f34 [a0] st R from (show hFunc prog TT [] Go.Proofs.Tryz.f34 [a0] st R = b_impl_TermOK a0 st R by kernel_rfl) ▸ h)
def b_impl_due (a0 a1 a2 : PV) (st : St) (R : Res → St → Prop) : Prop :=
 e_box st a2 fun v5 st =>
 qb (q_load st true 4 v5) fun v7 =>
 callK prog n_impl_FamilyOK [v7] st (fun v8 st =>
 cb v8 fun b => br b
  (qb (q_load st true 4 v5) fun v12 =>
  callK prog n_impl_familyFault [a0, a1, v12] st (fun v13 st =>
  qb (q_field false 1 0 v13) fun v14 =>
  qb (q_bin .eql v14 (.int .i64 0)) fun v15 =>
  retR R v15 st) (panR R))
  (retR R (.bool false) st)) (panR R)
theorem c_impl_due {a0 a1 a2 : PV} {st : St} {R : Res → St → Prop} (h : b_impl_due a0 a1 a2 st R) : HCalls prog n_impl_due [a0, a1, a2] st R :=
 hcalls_of_func tyOK mixed (fn := Go.Proofs.Tryz.f35) (by kernel_rfl) (by kernel_rfl) (by kernel_rfl) (ann := [])
  (show hFunc prog TT [] Go.Proofs.Tryz.f35 [a0, a1, a2] st R from (show hFunc prog TT [] Go.Proofs.Tryz.f35 [a0, a1, a2] st R = b_impl_due a0 a1 a2 st R by kernel_rfl) ▸ h)
def b_impl_CheckTerm_2 (a0 a1 a2 a3 : PV) (st : St) (R : Res → St → Prop) : Prop :=
 qb (q_load st false 1 a1) fun v6 =>
 qb (q_load st true 4 a2) fun v7 =>
 qb (q_load st true 4 a3) fun v8 =>
 callK prog n_impl_checker_term [a0, v6, v7, v8, (.int .i64 0)] st (fun v9 st =>
 retR R (.tup []) st) (panR R)
theorem c_impl_CheckTerm_2 {a0 a1 a2 a3 : PV} {st : St} {R : Res → St → Prop} (h : b_impl_CheckTerm_2 a0 a1 a2 a3 st R) : HCalls prog n_impl_CheckTerm_2 [a0, a1, a2, a3] st R :=
 hcalls_of_func tyOK mixed (fn := Go.Proofs.Tryz.f36) (by kernel_rfl) (by kernel_rfl) (by kernel_rfl) (ann := [])
  (show hFunc prog TT [] Go.Proofs.Tryz.f36 [a0, a1, a2, a3] st R from (show hFunc prog TT [] Go.Proofs.Tryz.f36 [a0, a1, a2, a3] st R = b_impl_CheckTerm_2 a0 a1 a2 a3 st R by kernel_rfl) ▸ h)
def b_impl_checker_term (a0 a1 a2 a3 a4 : PV) (st : St) (R : Res → St → Prop) : Prop :=
 e_box st a2 fun v7 st =>
 e_box st a3 fun v8 st =>
 qb (q_fa 0 v7) fun v10 =>
 qb (q_load st false 1 v10) fun v11 =>
 qb (q_bin .eql v11 (.int .i64 4)) fun v12 =>
 qb (q_fa 0 v8) fun v13 =>
 qb (q_load st false 1 v13) fun v14 =>
 qb (q_bin .eql v14 (.int .i64 2)) fun v15 =>
 qb (q_beq .neq v12 v15) fun v16 =>
 hJ (fun ls st =>
  qb (q_fa 0 v7) fun v19 =>
  qb (q_load st false 1 v19) fun v20 =>
  qb (q_bin .eql v20 (.int .i64 4)) fun v21 =>
  cb v21 fun b_1 => br b_1
   (qb (q_fa 3 v8) fun v24 =>
   qb (q_load st false 1 v24) fun v25 =>
   qb (q_ia 4 v25 (.int .i64 0)) fun v26 =>
   qb (q_load st true 4 v26) fun v27 =>
   qb (q_fa 3 v7) fun v29 =>
   qb (q_load st false 1 v29) fun v30 =>
   qb (q_ia 4 v30 (.int .i64 0)) fun v31 =>
   qb (q_load st true 4 v31) fun v32 =>
   qb (q_fa 3 v8) fun v33 =>
   qb (q_load st false 1 v33) fun v34 =>
   qb (q_ia 4 v34 (.int .i64 1)) fun v35 =>
   qb (q_load st true 4 v35) fun v36 =>
   qb (q_bin .add a4 (.int .i64 1)) fun v38 =>
   callK prog n_impl_behind [a1, v27] st (fun v28 st =>
   q_load st true 4 v35 = some v36 ∧ q_load st false 1 v33 = some v34 ∧ q_load st true 4 v31 = some v32 ∧ q_load st false 1 v29 = some v30 ∧ (callK prog n_impl_checker_term [a0, v28, v32, v36, v38] st (fun v39 st =>
   retR R (.tup []) st) (panR R))) (panR R))
   (qb (q_load st true 4 v7) fun v42 =>
   qb (q_load st true 4 v8) fun v45 =>
   callK prog n_impl_checker_found [a0, a1, v42, a4] st (fun v44 st =>
   q_load st true 4 v8 = some v45 ∧ (callK prog n_impl_same [v44, v45] st (fun v46 st =>
   qb (q_un .not v46) fun v47 =>
   cb v47 fun b_2 => br b_2
    (callK prog n_impl_stop [(.int .i64 10), a4] st (fun v49 st =>
    retR R (.tup []) st) (panR R))
    (retR R (.tup []) st)) (panR R))) (panR R)))
  (fun k =>
 cb v16 fun b => br b
  (callK prog n_impl_stop [(.int .i64 9), a4] st (fun v18 st =>
  k [] st) (panR R))
  (k [] st))
theorem c_impl_checker_term {a0 a1 a2 a3 a4 : PV} {st : St} {R : Res → St → Prop} (h : b_impl_checker_term a0 a1 a2 a3 a4 st R) : HCalls prog n_impl_checker_term [a0, a1, a2, a3, a4] st R :=
 hcalls_of_func tyOK mixed (fn := Go.Proofs.Tryz.f37) (by kernel_rfl) (by kernel_rfl) (by kernel_rfl) (ann := [(10, [])])
  (show hFunc prog TT [(10, [])] Go.Proofs.Tryz.f37 [a0, a1, a2, a3, a4] st R from (show hFunc prog TT [(10, [])] Go.Proofs.Tryz.f37 [a0, a1, a2, a3, a4] st R = b_impl_checker_term a0 a1 a2 a3 a4 st R by kernel_rfl) ▸ h)
def b_impl_builtIn (a0 : PV) (st : St) (R : Res → St → Prop) : Prop :=
 callK prog n_impl_ReadSig [a0] st (fun v9 st =>
 qb (q_ex v9 0) fun v10 =>
 qb (q_ex v9 1) fun v11 =>
 qb (q_ex v9 2) fun v12 =>
 qb (q_ex v9 3) fun v13 =>
 retR R v10 st) (panR R)
theorem c_impl_builtIn {a0 : PV} {st : St} {R : Res → St → Prop} (h : b_impl_builtIn a0 st R) : HCalls prog n_impl_builtIn [a0] st R :=
 hcalls_of_func tyOK mixed (fn := Go.Proofs.Tryz.f38) (by kernel_rfl) (by kernel_rfl) (by kernel_rfl) (ann := [])
  (show hFunc prog TT [] Go.Proofs.Tryz.f38 [a0] st R from (show hFunc prog TT [] Go.Proofs.Tryz.f38 [a0] st R = b_impl_builtIn a0 st R by kernel_rfl) ▸ h)
end Go.H.Tryz
