/- Part of a proof that the program answers as the reference does: ZFS1. -/
import Derived.Test.YtakcoedklmoboaaGreatDoorHT
/- MADE BY PROGRAM (hgen.py): what the functions compute, over pure values. -/
set_option linter.unusedVariables false
set_option maxRecDepth 100000
namespace Go.H.Tryz
open Go Go.H
def b_spec_l00Src_form (a0 a1 : PV) (st : St) (R : Res → St → Prop) : Prop :=
 e_alloc st [.int .i64 0, .int .i64 0, .sl 0 true []] fun v4 st =>
 hJ (fun ls st =>
  cb (ls.getD 0 .junk) fun b => br b
   (callK prog n_spec_l00Src_next [a0, (.int .i64 2)] st (fun v13 st =>
   qb (q_bin .add (.int .i64 2) v13) fun v14 =>
   qb (q_bin .sub a1 (.int .i64 1)) fun v17 =>
   callK prog n_spec_l00Src_form [a0, v17] st (fun v18 st =>
   qb (q_bin .sub a1 (.int .i64 1)) fun v21 =>
   callK prog n_spec_l00Src_form [a0, v21] st (fun v22 st =>
   callK prog n_spec_l08Two [v14, v18, v22] st (fun v23 st =>
   e_store st 3 v4 v23 fun st =>
   qb (q_load st true 3 v4) fun r => retR R r st) (panR R)) (panR R)) (panR R)) (panR R))
   (callK prog n_spec_l00Src_chance [a0, (.int .i64 6)] st (fun v25 st =>
   cb v25 fun b_1 => br b_1
    (qb (q_struct [.int .i64 0, .int .i64 0, .sl 0 true []] [(0, 1, (.int .i64 4))]) fun v26 =>
    e_store st 3 v4 v26 fun st =>
    qb (q_load st true 3 v4) fun r_1 => retR R r_1 st)
    (callK prog n_spec_l00Src_next [a0, (.int .i64 3)] st (fun v28 st =>
    qb (q_struct [.int .i64 0, .int .i64 0, .sl 0 true []] [(0, 1, (.int .i64 1)), (1, 1, v28)]) fun v29 =>
    e_store st 3 v4 v29 fun st =>
    qb (q_load st true 3 v4) fun r_2 => retR R r_2 st) (panR R))) (panR R)))
  (fun k =>
 qb (q_bin .gtr a1 (.int .i64 0)) fun v6 =>
 cb v6 fun b_2 => br b_2
  (callK prog n_spec_l00Src_chance [a0, (.int .i64 3)] st (fun v9 st =>
  qb (q_un .not v9) fun v10 =>
  k [v10] st) (panR R))
  (k [(.bool false)] st))
theorem c_spec_l00Src_form {a0 a1 : PV} {st : St} {R : Res → St → Prop} (h : b_spec_l00Src_form a0 a1 st R) : HCalls prog n_spec_l00Src_form [a0, a1] st R :=
 hcalls_of_func tyOK mixed (fn := Go.Proofs.Tryz.f22) (by kernel_rfl) (by kernel_rfl) (by kernel_rfl) (ann := [(5, [11])])
  (show hFunc prog TT [(5, [11])] Go.Proofs.Tryz.f22 [a0, a1] st R from (show hFunc prog TT [(5, [11])] Go.Proofs.Tryz.f22 [a0, a1] st R = b_spec_l00Src_form a0 a1 st R by kernel_rfl) ▸ h)
def b_spec_l00Src_next (a0 a1 : PV) (st : St) (R : Res → St → Prop) : Prop :=
 qb (q_bin .leq a1 (.int .i64 1)) fun v9 =>
 cb v9 fun b => br b
  (retR R (.int .i64 0) st)
  (qb (q_bin .leq a1 (.int .i64 256)) fun v11 =>
  cb v11 fun b_1 => br b_1
   (callK prog n_spec_l00Src_byte [a0] st (fun v13 st =>
   qb (q_bin .rem v13 a1) fun v15 =>
   retR R v15 st) (panR R))
   (callK prog n_spec_l00Src_byte [a0] st (fun v17 st =>
   callK prog n_spec_l00Src_byte [a0] st (fun v19 st =>
   callK prog n_spec_l00Src_byte [a0] st (fun v21 st =>
   qb (q_bin .mul v17 (.int .i64 65536)) fun v23 =>
   qb (q_bin .mul v19 (.int .i64 256)) fun v25 =>
   qb (q_bin .add v23 v25) fun v26 =>
   qb (q_bin .add v26 v21) fun v28 =>
   qb (q_bin .rem v28 a1) fun v30 =>
   retR R v30 st) (panR R)) (panR R)) (panR R)))
theorem c_spec_l00Src_next {a0 a1 : PV} {st : St} {R : Res → St → Prop} (h : b_spec_l00Src_next a0 a1 st R) : HCalls prog n_spec_l00Src_next [a0, a1] st R :=
 hcalls_of_func tyOK mixed (fn := Go.Proofs.Tryz.f23) (by kernel_rfl) (by kernel_rfl) (by kernel_rfl) (ann := [])
  (show hFunc prog TT [] Go.Proofs.Tryz.f23 [a0, a1] st R from (show hFunc prog TT [] Go.Proofs.Tryz.f23 [a0, a1] st R = b_spec_l00Src_next a0 a1 st R by kernel_rfl) ▸ h)
def b_impl_encoded (a0 a1 : PV) (st : St) (R : Res → St → Prop) : Prop :=
 e_alloc st [.int .i64 0, .int .i64 0, .str [], .sl 0 true []] fun v4 st =>
 qb (q_un .not a0) fun v8 =>
 cb v8 fun b => br b
  (qb (q_struct [.int .i64 0, .int .i64 0, .str [], .sl 0 true []] []) fun v9 =>
  e_store st 4 v4 v9 fun st =>
  qb (q_load st true 4 v4) fun r => retR R (.tup [r, (.int .i64 1)]) st)
  (e_call prog st a1 [] (fun v11 st =>
  e_alloc st [.int .i64 0, .int .i64 0, .str [], .sl 0 true []] fun v6 st =>
  e_store st 4 v6 v11 fun st =>
  qb (q_load st true 4 v6) fun v12 =>
  callK prog n_impl_tooBig [v12] st (fun v13 st =>
  cb v13 fun b_1 => br b_1
   (qb (q_struct [.int .i64 0, .int .i64 0, .str [], .sl 0 true []] []) fun v14 =>
   e_store st 4 v4 v14 fun st =>
   qb (q_load st true 4 v4) fun r_1 => retR R (.tup [r_1, (.int .i64 11)]) st)
   (qb (q_load st true 4 v6) fun v15 =>
   e_store st 4 v4 v15 fun st =>
   qb (q_load st true 4 v4) fun r_2 => retR R (.tup [r_2, (.int .i64 0)]) st)) (panR R)) (panR R))
theorem c_impl_encoded {a0 a1 : PV} {st : St} {R : Res → St → Prop} (h : b_impl_encoded a0 a1 st R) : HCalls prog n_impl_encoded [a0, a1] st R :=
 hcalls_of_func tyOK mixed (fn := Go.Proofs.Tryz.f24) (by kernel_rfl) (by kernel_rfl) (by kernel_rfl) (ann := [])
  (show hFunc prog TT [] Go.Proofs.Tryz.f24 [a0, a1] st R from (show hFunc prog TT [] Go.Proofs.Tryz.f24 [a0, a1] st R = b_impl_encoded a0 a1 st R by kernel_rfl) ▸ h)
def b_impl_FormOK (a0 : PV) (st : St) (R : Res → St → Prop) : Prop :=
 e_box st a0 fun v1 st =>
 qb (q_load st true 3 v1) fun v4 =>
 callK prog n_impl_fresh [] st (fun v3 st =>
 q_load st true 3 v1 = some v4 ∧ (callK prog n_impl_looker_form [v3, v4] st (fun v5 st =>
 retR R v5 st) (panR R))) (panR R)
theorem c_impl_FormOK {a0 : PV} {st : St} {R : Res → St → Prop} (h : b_impl_FormOK a0 st R) : HCalls prog n_impl_FormOK [a0] st R :=
 hcalls_of_func tyOK mixed (fn := Go.Proofs.Tryz.f25) (by kernel_rfl) (by kernel_rfl) (by kernel_rfl) (ann := [])
  (show hFunc prog TT [] Go.Proofs.Tryz.f25 [a0] st R from (show hFunc prog TT [] Go.Proofs.Tryz.f25 [a0] st R = b_impl_FormOK a0 st R by kernel_rfl) ▸ h)
def b_impl_formTerm (a0 : PV) (st : St) (R : Res → St → Prop) : Prop :=
 e_box st a0 fun v1 st =>
 e_alloc st [.int .i64 0, .int .i64 0, .str [], .sl 0 true []] fun v2 st =>
 qb (q_fa 0 v1) fun v3 =>
 qb (q_load st false 1 v3) fun v4 =>
 qb (q_bin .eql v4 (.int .i64 1)) fun v6 =>
 cb v6 fun b => br b
  (qb (q_fa 1 v1) fun v7 =>
  qb (q_load st false 1 v7) fun v8 =>
  qb (q_bin .mul (.int .i64 2) v8) fun v9 =>
  qb (q_fa 1 v1) fun v10 =>
  qb (q_load st false 1 v10) fun v11 =>
  qb (q_bin .mul (.int .i64 2) v11) fun v12 =>
  qb (q_bin .add v12 (.int .i64 2)) fun v13 =>
  qb (q_sliceS (.str [112, 48, 112, 49, 112, 50, 112, 51, 112, 52, 112, 53]) (some v9) (some v13) none) fun v14 =>
  callK prog n_impl_constant [v14, (.sl 0 true [])] st (fun v15 st =>
  e_store st 4 v2 v15 fun st =>
  qb (q_load st true 4 v2) fun r => retR R r st) (panR R))
  (qb (q_bin .eql v4 (.int .i64 4)) fun v17 =>
  cb v17 fun b_1 => br b_1
   (callK prog n_impl_constant [(.str [98, 111, 116]), (.sl 0 true [])] st (fun v18 st =>
   e_store st 4 v2 v18 fun st =>
   qb (q_load st true 4 v2) fun r_1 => retR R r_1 st) (panR R))
   (qb (q_bin .eql v4 (.int .i64 2)) fun v20 =>
   cb v20 fun b_2 => br b_2
    (qb (q_fa 2 v1) fun v21 =>
    qb (q_load st false 1 v21) fun v22 =>
    qb (q_ia 3 v22 (.int .i64 0)) fun v23 =>
    qb (q_load st true 3 v23) fun v24 =>
    qb (q_fa 2 v1) fun v26 =>
    qb (q_load st false 1 v26) fun v27 =>
    qb (q_ia 3 v27 (.int .i64 1)) fun v28 =>
    qb (q_load st true 3 v28) fun v29 =>
    callK prog n_impl_formTerm [v24] st (fun v25 st =>
    q_load st true 3 v28 = some v29 ∧ q_load st false 1 v26 = some v27 ∧ (callK prog n_impl_formTerm [v29] st (fun v30 st =>
    qb (q_lit 4 2 0 [] [(0, v25), (1, v30)]) fun v31 =>
    callK prog n_impl_constant [(.str [97, 110, 100]), v31] st (fun v32 st =>
    e_store st 4 v2 v32 fun st =>
    qb (q_load st true 4 v2) fun r_2 => retR R r_2 st) (panR R)) (panR R))) (panR R))
    (qb (q_fa 2 v1) fun v33 =>
    qb (q_load st false 1 v33) fun v34 =>
    qb (q_ia 3 v34 (.int .i64 0)) fun v35 =>
    qb (q_load st true 3 v35) fun v36 =>
    qb (q_fa 2 v1) fun v38 =>
    qb (q_load st false 1 v38) fun v39 =>
    qb (q_ia 3 v39 (.int .i64 1)) fun v40 =>
    qb (q_load st true 3 v40) fun v41 =>
    callK prog n_impl_formTerm [v36] st (fun v37 st =>
    q_load st true 3 v40 = some v41 ∧ q_load st false 1 v38 = some v39 ∧ (callK prog n_impl_formTerm [v41] st (fun v42 st =>
    qb (q_lit 4 2 0 [] [(0, v37), (1, v42)]) fun v43 =>
    callK prog n_impl_constant [(.str [105, 109, 112]), v43] st (fun v44 st =>
    e_store st 4 v2 v44 fun st =>
    qb (q_load st true 4 v2) fun r_3 => retR R r_3 st) (panR R)) (panR R))) (panR R))))
theorem c_impl_formTerm {a0 : PV} {st : St} {R : Res → St → Prop} (h : b_impl_formTerm a0 st R) : HCalls prog n_impl_formTerm [a0] st R :=
 hcalls_of_func tyOK mixed (fn := Go.Proofs.Tryz.f27) (by kernel_rfl) (by kernel_rfl) (by kernel_rfl) (ann := [])
  (show hFunc prog TT [] Go.Proofs.Tryz.f27 [a0] st R from (show hFunc prog TT [] Go.Proofs.Tryz.f27 [a0] st R = b_impl_formTerm a0 st R by kernel_rfl) ▸ h)
def b_impl_TermOK (a0 : PV) (st : St) (R : Res → St → Prop) : Prop :=
 e_box st a0 fun v1 st =>
 qb (q_load st true 4 v1) fun v4 =>
 callK prog n_impl_fresh [] st (fun v3 st =>
 q_load st true 4 v1 = some v4 ∧ (callK prog n_impl_looker_term [v3, v4] st (fun v5 st =>
 retR R v5 st) (panR R))) (panR R)
theorem c_impl_TermOK {a0 : PV} {st : St} {R : Res → St → Prop} (h : b_impl_TermOK a0 st R) : HCalls prog n_impl_TermOK [a0] st R :=
 hcalls_of_func tyOK mixed (fn := Go.Proofs.Tryz.f34) (by kernel_rfl) (by kernel_rfl) (by kernel_rfl) (ann := [])
  (show hFunc prog TT [] Go.Proofs.Tryz.f34 [a0] st R from (show hFunc prog TT [] Go.Proofs.Tryz.f34 [a0] st R = b_impl_TermOK a0 st R by kernel_rfl) ▸ h)
def b_spec_l00Src_hyps (a0 : PV) (st : St) (R : Res → St → Prop) : Prop :=
 qb (q_lit 3 0 0 [] []) fun v5 =>
 callK prog n_spec_l00Src_next [a0, (.int .i64 4)] st (fun v7 st =>
 hFix (fun ls st X =>
  qb (q_bin .gtr (ls.getD 1 .junk) (.int .i64 0)) fun v9 =>
  cb v9 fun b => br b
   (callK prog n_spec_l00Src_next [a0, (.int .i64 3)] st (fun v15 st =>
   callK prog n_spec_l00Src_form [a0, v15] st (fun v16 st =>
   qb (q_lit 3 1 0 [] [(0, v16)]) fun v17 =>
   e_append st 3 40 (ls.getD 0 .junk) v17 (fun v18 st =>
   qb (q_bin .sub (ls.getD 1 .junk) (.int .i64 1)) fun v11 =>
   X [v18, v11] st)) (panR R)) (panR R))
   (retR R (ls.getD 0 .junk) st))
  [v5, v7] st) (panR R)
theorem c_spec_l00Src_hyps {a0 : PV} {st : St} {R : Res → St → Prop} (h : b_spec_l00Src_hyps a0 st R) : HCalls prog n_spec_l00Src_hyps [a0] st R :=
 hcalls_of_func tyOK mixed (fn := Go.Proofs.Tryz.f39) (by kernel_rfl) (by kernel_rfl) (by kernel_rfl) (ann := [(12, [3, 4])])
  (show hFunc prog TT [(12, [3, 4])] Go.Proofs.Tryz.f39 [a0] st R from (show hFunc prog TT [(12, [3, 4])] Go.Proofs.Tryz.f39 [a0] st R = b_spec_l00Src_hyps a0 st R by kernel_rfl) ▸ h)
def b_spec_l00Src_proof (a0 a1 a2 : PV) (st : St) (R : Res → St → Prop) : Prop :=
 e_alloc st [.int .i64 0, .int .i64 0, .sl 0 true [], .sl 0 true []] fun v6 st =>
 e_alloc st [.int .i64 0, .int .i64 0, .sl 0 true []] fun v7 st =>
 hJ (fun ls st =>
  cb (ls.getD 0 .junk) fun b => br b
   (qb (q_len a1) fun v34 =>
   callK prog n_spec_l00Src_next [a0, v34] st (fun v35 st =>
   qb (q_struct [.int .i64 0, .int .i64 0, .sl 0 true [], .sl 0 true []] [(0, 1, (.int .i64 1)), (1, 1, v35)]) fun v37 =>
   qb (q_len a1) fun v40 =>
   qb (q_bin .sub v40 (.int .i64 1)) fun v41 =>
   qb (q_bin .sub v41 v35) fun v43 =>
   qb (q_ia 3 a1 v43) fun v44 =>
   qb (q_load st true 3 v44) fun v45 =>
   e_store st 4 v6 v37 fun st =>
   q_load st true 3 v44 = some v45 ∧ (e_store st 3 v7 v45 fun st =>
   qb (q_load st true 4 v6) fun r => qb (q_load st true 3 v7) fun r_1 => retR R (.tup [r, r_1]) st)) (panR R))
   (qb (q_bin .gtr a2 (.int .i64 0)) fun v47 =>
   hJ (fun ls_1 st =>
    qb (q_bin .eql (ls_1.getD 0 .junk) (.int .i64 0)) fun v52 =>
    cb v52 fun b_2 => br b_2
     (qb (q_bin .sub a2 (.int .i64 1)) fun v57 =>
     callK prog n_spec_l00Src_proof [a0, a1, v57] st (fun v58 st =>
     qb (q_ex v58 0) fun v59 =>
     qb (q_ex v58 1) fun v60 =>
     e_alloc st [.int .i64 0, .int .i64 0, .sl 0 true [], .sl 0 true []] fun v10 st =>
     e_alloc st [.int .i64 0, .int .i64 0, .sl 0 true []] fun v11 st =>
     e_store st 4 v10 v59 fun st =>
     e_store st 3 v11 v60 fun st =>
     qb (q_bin .sub a2 (.int .i64 2)) fun v65 =>
     callK prog n_spec_l00Src_proof [a0, a1, v65] st (fun v66 st =>
     qb (q_ex v66 0) fun v67 =>
     qb (q_ex v66 1) fun v68 =>
     e_alloc st [.int .i64 0, .int .i64 0, .sl 0 true [], .sl 0 true []] fun v12 st =>
     e_alloc st [.int .i64 0, .int .i64 0, .sl 0 true []] fun v13 st =>
     e_store st 4 v12 v67 fun st =>
     e_store st 3 v13 v68 fun st =>
     qb (q_load st true 3 v11) fun v69 =>
     qb (q_load st true 3 v13) fun v70 =>
     qb (q_lit 3 2 0 [] [(0, v69), (1, v70)]) fun v71 =>
     qb (q_load st true 4 v10) fun v72 =>
     qb (q_load st true 4 v12) fun v73 =>
     qb (q_lit 4 2 0 [] [(0, v72), (1, v73)]) fun v74 =>
     qb (q_struct [.int .i64 0, .int .i64 0, .sl 0 true [], .sl 0 true []] [(0, 1, (.int .i64 2)), (2, 1, v71), (3, 1, v74)]) fun v75 =>
     qb (q_load st true 3 v11) fun v76 =>
     qb (q_load st true 3 v13) fun v77 =>
     callK prog n_spec_l08Two [(.int .i64 2), v76, v77] st (fun v78 st =>
     q_load st true 4 v12 = some v73 ∧ q_load st true 4 v10 = some v72 ∧ q_load st true 3 v13 = some v70 ∧ q_load st true 3 v11 = some v69 ∧ (e_store st 4 v6 v75 fun st =>
     e_store st 3 v7 v78 fun st =>
     qb (q_load st true 4 v6) fun r_2 => qb (q_load st true 3 v7) fun r_3 => retR R (.tup [r_2, r_3]) st)) (panR R)) (panR R)) (panR R))
     (qb (q_bin .eql (ls_1.getD 0 .junk) (.int .i64 1)) fun v80 =>
     cb v80 fun b_3 => br b_3
      (qb (q_bin .sub a2 (.int .i64 1)) fun v85 =>
      callK prog n_spec_l00Src_proof [a0, a1, v85] st (fun v86 st =>
      qb (q_ex v86 0) fun v87 =>
      qb (q_ex v86 1) fun v88 =>
      e_alloc st [.int .i64 0, .int .i64 0, .sl 0 true [], .sl 0 true []] fun v14 st =>
      e_alloc st [.int .i64 0, .int .i64 0, .sl 0 true []] fun v15 st =>
      e_store st 4 v14 v87 fun st =>
      e_store st 3 v15 v88 fun st =>
      qb (q_fa 0 v15) fun v89 =>
      qb (q_load st false 1 v89) fun v90 =>
      qb (q_bin .eql v90 (.int .i64 2)) fun v91 =>
      cb v91 fun b_4 => br b_4
       (callK prog n_spec_l00Src_next [a0, (.int .i64 2)] st (fun v93 st =>
       qb (q_bin .add (.int .i64 3) v93) fun v95 =>
       qb (q_fa 2 v15) fun v96 =>
       qb (q_load st false 1 v96) fun v97 =>
       qb (q_ia 3 v97 (.int .i64 0)) fun v98 =>
       qb (q_load st true 3 v98) fun v99 =>
       qb (q_fa 2 v15) fun v100 =>
       qb (q_load st false 1 v100) fun v101 =>
       qb (q_ia 3 v101 (.int .i64 1)) fun v102 =>
       qb (q_load st true 3 v102) fun v103 =>
       qb (q_lit 3 2 0 [] [(0, v99), (1, v103)]) fun v104 =>
       qb (q_load st true 4 v14) fun v105 =>
       qb (q_lit 4 1 0 [] [(0, v105)]) fun v106 =>
       qb (q_struct [.int .i64 0, .int .i64 0, .sl 0 true [], .sl 0 true []] [(0, 1, v95), (2, 1, v104), (3, 1, v106)]) fun v107 =>
       qb (q_fa 2 v15) fun v108 =>
       qb (q_load st false 1 v108) fun v109 =>
       qb (q_ia 3 v109 v93) fun v111 =>
       qb (q_load st true 3 v111) fun v112 =>
       e_store st 4 v6 v107 fun st =>
       q_load st true 3 v111 = some v112 ∧ q_load st false 1 v108 = some v109 ∧ (e_store st 3 v7 v112 fun st =>
       qb (q_load st true 4 v6) fun r_4 => qb (q_load st true 3 v7) fun r_5 => retR R (.tup [r_4, r_5]) st)) (panR R))
       (qb (q_fa 0 v15) fun v113 =>
       qb (q_load st false 1 v113) fun v114 =>
       qb (q_bin .eql v114 (.int .i64 4)) fun v115 =>
       cb v115 fun b_5 => br b_5
        (callK prog n_spec_l00Src_form [a0, (.int .i64 1)] st (fun v117 st =>
        e_alloc st [.int .i64 0, .int .i64 0, .sl 0 true []] fun v17 st =>
        e_store st 3 v17 v117 fun st =>
        qb (q_load st true 3 v17) fun v118 =>
        qb (q_lit 3 1 0 [] [(0, v118)]) fun v119 =>
        qb (q_load st true 4 v14) fun v120 =>
        qb (q_lit 4 1 0 [] [(0, v120)]) fun v121 =>
        qb (q_struct [.int .i64 0, .int .i64 0, .sl 0 true [], .sl 0 true []] [(0, 1, (.int .i64 7)), (2, 1, v119), (3, 1, v121)]) fun v122 =>
        qb (q_load st true 3 v17) fun v123 =>
        e_store st 4 v6 v122 fun st =>
        q_load st true 3 v17 = some v123 ∧ (e_store st 3 v7 v123 fun st =>
        qb (q_load st true 4 v6) fun r_6 => qb (q_load st true 3 v7) fun r_7 => retR R (.tup [r_6, r_7]) st)) (panR R))
        (qb (q_load st true 4 v14) fun v124 =>
        qb (q_load st true 3 v15) fun v125 =>
        e_store st 4 v6 v124 fun st =>
        q_load st true 3 v15 = some v125 ∧ (e_store st 3 v7 v125 fun st =>
        qb (q_load st true 4 v6) fun r_8 => qb (q_load st true 3 v7) fun r_9 => retR R (.tup [r_8, r_9]) st)))) (panR R))
      (qb (q_bin .eql (ls_1.getD 0 .junk) (.int .i64 2)) fun v127 =>
      cb v127 fun b_6 => br b_6
       (qb (q_bin .sub a2 (.int .i64 1)) fun v132 =>
       callK prog n_spec_l00Src_proof [a0, a1, v132] st (fun v133 st =>
       qb (q_ex v133 0) fun v134 =>
       qb (q_ex v133 1) fun v135 =>
       e_alloc st [.int .i64 0, .int .i64 0, .sl 0 true [], .sl 0 true []] fun v18 st =>
       e_alloc st [.int .i64 0, .int .i64 0, .sl 0 true []] fun v19 st =>
       e_store st 4 v18 v134 fun st =>
       e_store st 3 v19 v135 fun st =>
       qb (q_bin .sub a2 (.int .i64 2)) fun v140 =>
       callK prog n_spec_l00Src_proof [a0, a1, v140] st (fun v141 st =>
       qb (q_ex v141 0) fun v142 =>
       qb (q_ex v141 1) fun v143 =>
       e_alloc st [.int .i64 0, .int .i64 0, .sl 0 true [], .sl 0 true []] fun v20 st =>
       e_alloc st [.int .i64 0, .int .i64 0, .sl 0 true []] fun v21 st =>
       e_store st 4 v20 v142 fun st =>
       e_store st 3 v21 v143 fun st =>
       hJ (fun ls_2 st =>
        cb (ls_2.getD 0 .junk) fun b_7 => br b_7
         (qb (q_load st true 3 v21) fun v155 =>
         qb (q_fa 2 v19) fun v156 =>
         qb (q_load st false 1 v156) fun v157 =>
         qb (q_ia 3 v157 (.int .i64 1)) fun v158 =>
         qb (q_load st true 3 v158) fun v159 =>
         qb (q_lit 3 2 0 [] [(0, v155), (1, v159)]) fun v160 =>
         qb (q_load st true 4 v18) fun v161 =>
         qb (q_load st true 4 v20) fun v162 =>
         qb (q_lit 4 2 0 [] [(0, v161), (1, v162)]) fun v163 =>
         qb (q_struct [.int .i64 0, .int .i64 0, .sl 0 true [], .sl 0 true []] [(0, 1, (.int .i64 6)), (2, 1, v160), (3, 1, v163)]) fun v164 =>
         qb (q_fa 2 v19) fun v165 =>
         qb (q_load st false 1 v165) fun v166 =>
         qb (q_ia 3 v166 (.int .i64 1)) fun v167 =>
         qb (q_load st true 3 v167) fun v168 =>
         e_store st 4 v6 v164 fun st =>
         q_load st true 3 v167 = some v168 ∧ q_load st false 1 v165 = some v166 ∧ (e_store st 3 v7 v168 fun st =>
         qb (q_load st true 4 v6) fun r_10 => qb (q_load st true 3 v7) fun r_11 => retR R (.tup [r_10, r_11]) st))
         (qb (q_load st true 4 v18) fun v169 =>
         qb (q_load st true 3 v19) fun v170 =>
         e_store st 4 v6 v169 fun st =>
         q_load st true 3 v19 = some v170 ∧ (e_store st 3 v7 v170 fun st =>
         qb (q_load st true 4 v6) fun r_12 => qb (q_load st true 3 v7) fun r_13 => retR R (.tup [r_12, r_13]) st)))
        (fun k_2 =>
       qb (q_fa 0 v19) fun v144 =>
       qb (q_load st false 1 v144) fun v145 =>
       qb (q_bin .eql v145 (.int .i64 3)) fun v146 =>
       cb v146 fun b_8 => br b_8
        (qb (q_fa 2 v19) fun v148 =>
        qb (q_load st false 1 v148) fun v149 =>
        qb (q_ia 3 v149 (.int .i64 0)) fun v150 =>
        qb (q_load st true 3 v150) fun v151 =>
        qb (q_load st true 3 v21) fun v152 =>
        callK prog n_spec_l08Same [v151, v152] st (fun v153 st =>
        k_2 [v153] st) (panR R))
        (k_2 [(.bool false)] st))) (panR R)) (panR R))
       (callK prog n_spec_l00Src_next [a0, (.int .i64 2)] st (fun v173 st =>
       callK prog n_spec_l00Src_form [a0, v173] st (fun v174 st =>
       e_alloc st [.int .i64 0, .int .i64 0, .sl 0 true []] fun v22 st =>
       e_store st 3 v22 v174 fun st =>
       qb (q_load st true 3 v22) fun v178 =>
       callK prog n_spec_l08More [a1, v178] st (fun v179 st =>
       qb (q_bin .sub a2 (.int .i64 1)) fun v181 =>
       callK prog n_spec_l00Src_proof [a0, v179, v181] st (fun v182 st =>
       qb (q_ex v182 0) fun v183 =>
       qb (q_ex v182 1) fun v184 =>
       e_alloc st [.int .i64 0, .int .i64 0, .sl 0 true [], .sl 0 true []] fun v23 st =>
       e_alloc st [.int .i64 0, .int .i64 0, .sl 0 true []] fun v24 st =>
       e_store st 4 v23 v183 fun st =>
       e_store st 3 v24 v184 fun st =>
       qb (q_load st true 3 v22) fun v185 =>
       qb (q_load st true 3 v24) fun v186 =>
       qb (q_lit 3 2 0 [] [(0, v185), (1, v186)]) fun v187 =>
       qb (q_load st true 4 v23) fun v188 =>
       qb (q_lit 4 1 0 [] [(0, v188)]) fun v189 =>
       qb (q_struct [.int .i64 0, .int .i64 0, .sl 0 true [], .sl 0 true []] [(0, 1, (.int .i64 5)), (2, 1, v187), (3, 1, v189)]) fun v190 =>
       qb (q_load st true 3 v22) fun v191 =>
       qb (q_load st true 3 v24) fun v192 =>
       callK prog n_spec_l08Two [(.int .i64 3), v191, v192] st (fun v193 st =>
       q_load st true 4 v23 = some v188 ∧ q_load st true 3 v24 = some v186 ∧ q_load st true 3 v22 = some v185 ∧ (e_store st 4 v6 v190 fun st =>
       e_store st 3 v7 v193 fun st =>
       qb (q_load st true 4 v6) fun r_14 => qb (q_load st true 3 v7) fun r_15 => retR R (.tup [r_14, r_15]) st)) (panR R)) (panR R)) (panR R)) (panR R)) (panR R)))))
    (fun k_1 =>
   cb v47 fun b_1 => br b_1
    (callK prog n_spec_l00Src_next [a0, (.int .i64 5)] st (fun v49 st =>
    k_1 [v49] st) (panR R))
    (k_1 [(.int .i64 3)] st))))
  (fun k =>
 qb (q_bin .leq a2 (.int .i64 0)) fun v26 =>
 cb v26 fun b_9 => br b_9
  (qb (q_len a1) fun v29 =>
  qb (q_bin .gtr v29 (.int .i64 0)) fun v30 =>
  k [v30] st)
  (k [(.bool false)] st))
theorem c_spec_l00Src_proof {a0 a1 a2 : PV} {st : St} {R : Res → St → Prop} (h : b_spec_l00Src_proof a0 a1 a2 st R) : HCalls prog n_spec_l00Src_proof [a0, a1, a2] st R :=
 hcalls_of_func tyOK mixed (fn := Go.Proofs.Tryz.f40) (by kernel_rfl) (by kernel_rfl) (by kernel_rfl) (ann := [(5, [31]), (26, [9]), (97, [154])])
  (show hFunc prog TT [(5, [31]), (26, [9]), (97, [154])] Go.Proofs.Tryz.f40 [a0, a1, a2] st R from (show hFunc prog TT [(5, [31]), (26, [9]), (97, [154])] Go.Proofs.Tryz.f40 [a0, a1, a2] st R = b_spec_l00Src_proof a0 a1 a2 st R by kernel_rfl) ▸ h)
def b_spec_l08More (a0 a1 : PV) (st : St) (R : Res → St → Prop) : Prop :=
 e_box st a1 fun v3 st =>
 qb (q_lit 3 0 0 [] []) fun v5 =>
 qb (q_load st true 3 v3) fun v8 =>
 qb (q_lit 3 1 0 [] [(0, v8)]) fun v9 =>
 e_append st 3 40 v5 a0 (fun v7 st =>
 q_load st true 3 v3 = some v8 ∧ (e_append st 3 40 v7 v9 (fun v10 st =>
 retR R v10 st)))
theorem c_spec_l08More {a0 a1 : PV} {st : St} {R : Res → St → Prop} (h : b_spec_l08More a0 a1 st R) : HCalls prog n_spec_l08More [a0, a1] st R :=
 hcalls_of_func tyOK mixed (fn := Go.Proofs.Tryz.f41) (by kernel_rfl) (by kernel_rfl) (by kernel_rfl) (ann := [])
  (show hFunc prog TT [] Go.Proofs.Tryz.f41 [a0, a1] st R from (show hFunc prog TT [] Go.Proofs.Tryz.f41 [a0, a1] st R = b_spec_l08More a0 a1 st R by kernel_rfl) ▸ h)
def b_spec_l08Count (a0 a1 : PV) (st : St) (R : Res → St → Prop) : Prop :=
 e_box st a0 fun v2 st =>
 qb (q_bin .sub a1 (.int .i64 1)) fun v8 =>
 hJ (fun ls st =>
  hFix (fun ls_1 st X =>
   hJ (fun ls_2 st =>
    cb (ls_2.getD 0 .junk) fun b => br b
     (qb (q_fa 3 v2) fun v38 =>
     qb (q_load st false 1 v38) fun v39 =>
     qb (q_ia 4 v39 (ls_1.getD 1 .junk)) fun v41 =>
     qb (q_load st true 4 v41) fun v42 =>
     callK prog n_spec_l08Count [v42, (ls_1.getD 0 .junk)] st (fun v44 st =>
     qb (q_bin .add (ls_1.getD 1 .junk) (.int .i64 1)) fun v37 =>
     X [v44, v37] st) (panR R))
     (retR R (ls_1.getD 0 .junk) st))
    (fun k_1 =>
   qb (q_fa 3 v2) fun v28 =>
   qb (q_load st false 1 v28) fun v29 =>
   qb (q_len v29) fun v30 =>
   qb (q_bin .lss (ls_1.getD 1 .junk) v30) fun v31 =>
   cb v31 fun b_1 => br b_1
    (qb (q_bin .geq (ls_1.getD 0 .junk) (.int .i64 0)) fun v34 =>
    k_1 [v34] st)
    (k_1 [(.bool false)] st)))
   [(ls.getD 0 .junk), (.int .i64 0)] st)
  (fun k =>
 hFix (fun ls_3 st X_1 =>
  hJ (fun ls_4 st =>
   cb (ls_4.getD 0 .junk) fun b_2 => br b_2
    (qb (q_fa 2 v2) fun v20 =>
    qb (q_load st false 1 v20) fun v21 =>
    qb (q_ia 3 v21 (ls_3.getD 1 .junk)) fun v23 =>
    qb (q_load st true 3 v23) fun v24 =>
    callK prog n_spec_l08FormCount [v24, (ls_3.getD 0 .junk)] st (fun v26 st =>
    qb (q_bin .add (ls_3.getD 1 .junk) (.int .i64 1)) fun v19 =>
    X_1 [v26, v19] st) (panR R))
    (k [(ls_3.getD 0 .junk)] st))
   (fun k_2 =>
  qb (q_fa 2 v2) fun v10 =>
  qb (q_load st false 1 v10) fun v11 =>
  qb (q_len v11) fun v12 =>
  qb (q_bin .lss (ls_3.getD 1 .junk) v12) fun v13 =>
  cb v13 fun b_3 => br b_3
   (qb (q_bin .geq (ls_3.getD 0 .junk) (.int .i64 0)) fun v16 =>
   k_2 [v16] st)
   (k_2 [(.bool false)] st)))
  [v8, (.int .i64 0)] st)
theorem c_spec_l08Count {a0 a1 : PV} {st : St} {R : Res → St → Prop} (h : b_spec_l08Count a0 a1 st R) : HCalls prog n_spec_l08Count [a0, a1] st R :=
 hcalls_of_func tyOK mixed (fn := Go.Proofs.Tryz.f42) (by kernel_rfl) (by kernel_rfl) (by kernel_rfl) (ann := [(28, [1, 6]), (12, [1, 5]), (3, [1]), (13, [17]), (29, [35])])
  (show hFunc prog TT [(28, [1, 6]), (12, [1, 5]), (3, [1]), (13, [17]), (29, [35])] Go.Proofs.Tryz.f42 [a0, a1] st R from (show hFunc prog TT [(28, [1, 6]), (12, [1, 5]), (3, [1]), (13, [17]), (29, [35])] Go.Proofs.Tryz.f42 [a0, a1] st R = b_spec_l08Count a0 a1 st R by kernel_rfl) ▸ h)
end Go.H.Tryz
