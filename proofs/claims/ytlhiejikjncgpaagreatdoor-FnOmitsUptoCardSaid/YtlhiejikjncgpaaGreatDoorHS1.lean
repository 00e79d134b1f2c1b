/- Part of a proof that the program answers as the reference does: EFS1. -/
import Derived.Test.YtlhiejikjncgpaaGreatDoorHT
/- MADE BY PROGRAM (hgen.py): what the functions compute, over pure values. -/
set_option linter.unusedVariables false
set_option maxRecDepth 100000
namespace Go.H.Tryz
open Go Go.H
def b_impl_Omit (a0 a1 a2 : PV) (st : St) (R : Res → St → Prop) : Prop :=
 e_box st a1 fun v4 st =>
 e_alloc st [.int .i64 0, .int .i64 0, .str [], .sl 0 true []] fun v6 st =>
 qb (q_len a0) fun v13 =>
 qb (q_len a2) fun v15 =>
 qb (q_lit 1 2 0 [] [(0, v13), (1, v15)]) fun v16 =>
 callK prog n_impl_longLists [v16] st (fun v17 st =>
 cb v17 fun b => br b
  (qb (q_struct [.int .i64 0, .int .i64 0, .str [], .sl 0 true []] []) fun v18 =>
  e_store st 4 v6 v18 fun st =>
  qb (q_load st true 4 v6) fun r => retR R (.tup [r, (.int .i64 2)]) st)
  (hJ (fun ls st =>
   cb (ls.getD 0 .junk) fun b_1 => br b_1
    (qb (q_struct [.int .i64 0, .int .i64 0, .str [], .sl 0 true []] []) fun v27 =>
    e_store st 4 v6 v27 fun st =>
    qb (q_load st true 4 v6) fun r_1 => retR R (.tup [r_1, (.int .i64 1)]) st)
    (e_mkmap st fun v28 st =>
    qb (q_struct [.nilmap, .sl 0 true []] [(0, 1, v28), (1, 1, a2)]) fun v30 =>
    e_box st v30 fun v31 st =>
    qb (q_len a0) fun v33 =>
    hJ (fun ls_1 st =>
     qb (q_load st true 4 v4) fun v52 =>
     callK prog n_impl_omitter_term [v31, v52] st (fun v53 st =>
     callK prog n_impl_clone [v53] st (fun v54 st =>
     e_store st 4 v6 v54 fun st =>
     qb (q_load st true 4 v6) fun r_2 => retR R (.tup [r_2, (.int .i64 0)]) st) (panR R)) (panR R))
     (fun k_1 =>
    hFix (fun ls_2 st X =>
     qb (q_bin .lss (ls_2.getD 0 .junk) v33) fun v35 =>
     cb v35 fun b_2 => br b_2
      (qb (q_ia 6 a0 (ls_2.getD 0 .junk)) fun v36 =>
      qb (q_load st true 6 v36) fun v37 =>
      e_alloc st [.str [], .bool false, .int .i64 0, .int .i64 0, .str [], .sl 0 true []] fun v10 st =>
      e_store st 6 v10 v37 fun st =>
      qb (q_fa 1 v10) fun v38 =>
      qb (q_load st false 1 v38) fun v39 =>
      qb (q_un .not v39) fun v40 =>
      cb v40 fun b_3 => br b_3
       (qb (q_nil v31) fun v42 =>
       qb (q_fa 0 v42) fun v43 =>
       qb (q_load st false 1 v43) fun v44 =>
       qb (q_fa 0 v10) fun v45 =>
       qb (q_load st false 1 v45) fun v46 =>
       qb (q_fa 2 v10) fun v47 =>
       qb (q_load st true 4 v47) fun v48 =>
       callK prog n_impl_omittable [v48] st (fun v49 st =>
       q_load st false 1 v45 = some v46 ∧ q_load st false 1 v43 = some v44 ∧ (e_mapset st .string v44 v46 v49 fun st =>
       qb (q_bin .add (ls_2.getD 0 .junk) (.int .i64 1)) fun v50 =>
       X [v50] st)) (panR R))
       (qb (q_bin .add (ls_2.getD 0 .junk) (.int .i64 1)) fun v50_1 =>
       X [v50_1] st))
      (k_1 [] st))
     [(.int .i64 0)] st)))
   (fun k =>
  callK prog n_impl_SigOK [a0] st (fun v21 st =>
  qb (q_un .not v21) fun v22 =>
  cb v22 fun b_4 => br b_4
   (k [(.bool true)] st)
   (qb (q_load st true 4 v4) fun v24 =>
   callK prog n_impl_badTerm [v24] st (fun v25 st =>
   k [v25] st) (panR R))) (panR R)))) (panR R)
theorem e_impl_Omit : Enters prog n_impl_Omit := ⟨Go.Proofs.Tryz.f26, by kernel_rfl, by kernel_rfl, by kernel_rfl⟩
theorem c_impl_Omit {a0 a1 a2 : PV} {st : St} {R : Res → St → Prop} (h : b_impl_Omit a0 a1 a2 st R) : HCalls prog n_impl_Omit [a0, a1, a2] st R :=
 hcalls_of_func tyOK mixed (fn := Go.Proofs.Tryz.f26) (by kernel_rfl) (by kernel_rfl) (by kernel_rfl) (ann := [(28, [34]), (7, []), (13, [19])])
  (show hFunc prog TT [(28, [34]), (7, []), (13, [19])] Go.Proofs.Tryz.f26 [a0, a1, a2] st R from (show hFunc prog TT [(28, [34]), (7, []), (13, [19])] Go.Proofs.Tryz.f26 [a0, a1, a2] st R = b_impl_Omit a0 a1 a2 st R by kernel_rfl) ▸ h)
def b_spec_Omit (a0 a1 a2 : PV) (st : St) (R : Res → St → Prop) : Prop :=
 e_box st a1 fun v4 st =>
 e_alloc st [.int .i64 0, .int .i64 0, .str [], .sl 0 true []] fun v6 st =>
 hJ (fun ls st =>
  cb (ls.getD 0 .junk) fun b => br b
   (qb (q_struct [.int .i64 0, .int .i64 0, .str [], .sl 0 true []] []) fun v17 =>
   e_store st 4 v6 v17 fun st =>
   qb (q_load st true 4 v6) fun r => retR R (.tup [r, (.int .i64 2)]) st)
   (hJ (fun ls_1 st =>
    cb (ls_1.getD 0 .junk) fun b_1 => br b_1
     (qb (q_struct [.int .i64 0, .int .i64 0, .str [], .sl 0 true []] []) fun v26 =>
     e_store st 4 v6 v26 fun st =>
     qb (q_load st true 4 v6) fun r_1 => retR R (.tup [r_1, (.int .i64 1)]) st)
     (qb (q_struct [.sl 0 true [], .sl 0 true [], .int .i64 0] [(0, 1, a0), (1, 1, a2)]) fun v29 =>
     e_box st v29 fun v30 st =>
     qb (q_load st true 4 v4) fun v32 =>
     callK prog n_spec_l07Omitter_omit [v30, v32] st (fun v33 st =>
     e_store st 4 v6 v33 fun st =>
     qb (q_load st true 4 v6) fun r_2 => retR R (.tup [r_2, (.int .i64 0)]) st) (panR R)))
    (fun k_1 =>
   callK prog n_spec_SigOK [a0] st (fun v19 st =>
   qb (q_un .not v19) fun v20 =>
   cb v20 fun b_2 => br b_2
    (k_1 [(.bool true)] st)
    (qb (q_load st true 4 v4) fun v22 =>
    callK prog n_spec_TermOK [v22] st (fun v23 st =>
    qb (q_un .not v23) fun v24 =>
    k_1 [v24] st) (panR R))) (panR R))))
  (fun k =>
 qb (q_len a0) fun v10 =>
 qb (q_bin .gtr v10 (.int .i64 4096)) fun v11 =>
 cb v11 fun b_3 => br b_3
  (k [(.bool true)] st)
  (qb (q_len a2) fun v14 =>
  qb (q_bin .gtr v14 (.int .i64 4096)) fun v15 =>
  k [v15] st))
theorem e_spec_Omit : Enters prog n_spec_Omit := ⟨Go.Proofs.Tryz.f27, by kernel_rfl, by kernel_rfl, by kernel_rfl⟩
theorem c_spec_Omit {a0 a1 a2 : PV} {st : St} {R : Res → St → Prop} (h : b_spec_Omit a0 a1 a2 st R) : HCalls prog n_spec_Omit [a0, a1, a2] st R :=
 hcalls_of_func tyOK mixed (fn := Go.Proofs.Tryz.f27) (by kernel_rfl) (by kernel_rfl) (by kernel_rfl) (ann := [(5, [16]), (13, [25])])
  (show hFunc prog TT [(5, [16]), (13, [25])] Go.Proofs.Tryz.f27 [a0, a1, a2] st R from (show hFunc prog TT [(5, [16]), (13, [25])] Go.Proofs.Tryz.f27 [a0, a1, a2] st R = b_spec_Omit a0 a1 a2 st R by kernel_rfl) ▸ h)
def b_impl_SourceOK (a0 : PV) (st : St) (R : Res → St → Prop) : Prop :=
 e_box st a0 fun v1 st =>
 qb (q_load st true 4 v1) fun v3 =>
 callK prog n_impl_sourceTerm [v3] st (fun v4 st =>
 cb v4 fun b => br b
  (callK prog n_impl_Tree_each [v1, (.int .i64 0), (.fn (.func n_impl_SourceOK_1) [] [])] st (fun v6 st =>
  qb (q_un .not v6) fun v7 =>
  retR R v7 st) (panR R))
  (retR R (.bool false) st)) (panR R)
theorem c_impl_SourceOK {a0 : PV} {st : St} {R : Res → St → Prop} (h : b_impl_SourceOK a0 st R) : HCalls prog n_impl_SourceOK [a0] st R :=
 hcalls_of_func tyOK mixed (fn := Go.Proofs.Tryz.f28) (by kernel_rfl) (by kernel_rfl) (by kernel_rfl) (ann := [])
  (show hFunc prog TT [] Go.Proofs.Tryz.f28 [a0] st R from (show hFunc prog TT [] Go.Proofs.Tryz.f28 [a0] st R = b_impl_SourceOK a0 st R by kernel_rfl) ▸ h)
def b_impl_Omittable (a0 a1 : PV) (st : St) (R : Res → St → Prop) : Prop :=
 qb (q_len a0) fun v10 =>
 qb (q_lit 1 1 0 [] [(0, v10)]) fun v11 =>
 callK prog n_impl_longLists [v11] st (fun v12 st =>
 cb v12 fun b => br b
  (retR R (.tup [(.sl 0 true []), (.int .i64 2)]) st)
  (callK prog n_impl_longText [a1] st (fun v15 st =>
  cb v15 fun b_1 => br b_1
   (retR R (.tup [(.sl 0 true []), (.int .i64 2)]) st)
   (callK prog n_impl_SigOK [a0] st (fun v19 st =>
   qb (q_un .not v19) fun v20 =>
   cb v20 fun b_2 => br b_2
    (retR R (.tup [(.sl 0 true []), (.int .i64 1)]) st)
    (qb (q_struct [.int .i64 0, .sl 0 true []] [(1, 1, a0)]) fun v23 =>
    e_box st v23 fun v24 st =>
    callK prog n_impl_checker_declared [v24, a1, (.bool false)] st (fun v26 st =>
    qb (q_ex v26 0) fun v27 =>
    qb (q_ex v26 1) fun v28 =>
    e_alloc st [.int .i64 0, .int .i64 0, .str [], .sl 0 true []] fun v6 st =>
    e_store st 4 v6 v27 fun st =>
    qb (q_un .not v28) fun v30 =>
    cb v30 fun b_3 => br b_3
     (retR R (.tup [(.sl 0 true []), (.int .i64 5)]) st)
     (qb (q_load st true 4 v6) fun v31 =>
     callK prog n_impl_omittable [v31] st (fun v32 st =>
     retR R (.tup [v32, (.int .i64 0)]) st) (panR R))) (panR R))) (panR R))) (panR R))) (panR R)
theorem e_impl_Omittable : Enters prog n_impl_Omittable := ⟨Go.Proofs.Tryz.f30, by kernel_rfl, by kernel_rfl, by kernel_rfl⟩
theorem c_impl_Omittable {a0 a1 : PV} {st : St} {R : Res → St → Prop} (h : b_impl_Omittable a0 a1 st R) : HCalls prog n_impl_Omittable [a0, a1] st R :=
 hcalls_of_func tyOK mixed (fn := Go.Proofs.Tryz.f30) (by kernel_rfl) (by kernel_rfl) (by kernel_rfl) (ann := [])
  (show hFunc prog TT [] Go.Proofs.Tryz.f30 [a0, a1] st R from (show hFunc prog TT [] Go.Proofs.Tryz.f30 [a0, a1] st R = b_impl_Omittable a0 a1 st R by kernel_rfl) ▸ h)
def b_spec_l00Source (a0 : PV) (st : St) (R : Res → St → Prop) : Prop :=
 qb (q_len a0) fun v5 =>
 qb (q_bin .rem v5 (.int .i64 1000)) fun v6 =>
 qb (q_struct [.sl 0 true [], .int .i64 0, .int .i64 0] [(0, 1, a0), (2, 1, v6)]) fun v7 =>
 e_box st v7 fun v8 st =>
 retR R v8 st
theorem c_spec_l00Source {a0 : PV} {st : St} {R : Res → St → Prop} (h : b_spec_l00Source a0 st R) : HCalls prog n_spec_l00Source [a0] st R :=
 hcalls_of_func tyOK mixed (fn := Go.Proofs.Tryz.f31) (by kernel_rfl) (by kernel_rfl) (by kernel_rfl) (ann := [])
  (show hFunc prog TT [] Go.Proofs.Tryz.f31 [a0] st R from (show hFunc prog TT [] Go.Proofs.Tryz.f31 [a0] st R = b_spec_l00Source a0 st R by kernel_rfl) ▸ h)
def b_spec_l00Src_natCtx (a0 : PV) (st : St) (R : Res → St → Prop) : Prop :=
 qb (q_lit 4 0 0 [] []) fun v5 =>
 callK prog n_spec_l00Src_next [a0, (.int .i64 3)] st (fun v7 st =>
 hFix (fun ls st X =>
  qb (q_bin .gtr (ls.getD 1 .junk) (.int .i64 0)) fun v9 =>
  cb v9 fun b => br b
   (callK prog n_spec_l01Fam [(.str [110, 97, 116]), (.sl 0 true [])] st (fun v13 st =>
   qb (q_lit 4 1 0 [] [(0, v13)]) fun v14 =>
   e_append st 4 56 (ls.getD 0 .junk) v14 (fun v15 st =>
   qb (q_bin .sub (ls.getD 1 .junk) (.int .i64 1)) fun v11 =>
   X [v15, v11] st)) (panR R))
   (retR R (ls.getD 0 .junk) st))
  [v5, v7] st) (panR R)
theorem c_spec_l00Src_natCtx {a0 : PV} {st : St} {R : Res → St → Prop} (h : b_spec_l00Src_natCtx a0 st R) : HCalls prog n_spec_l00Src_natCtx [a0] st R :=
 hcalls_of_func tyOK mixed (fn := Go.Proofs.Tryz.f32) (by kernel_rfl) (by kernel_rfl) (by kernel_rfl) (ann := [(12, [3, 4])])
  (show hFunc prog TT [(12, [3, 4])] Go.Proofs.Tryz.f32 [a0] st R from (show hFunc prog TT [(12, [3, 4])] Go.Proofs.Tryz.f32 [a0] st R = b_spec_l00Src_natCtx a0 st R by kernel_rfl) ▸ h)
def b_spec_l00Src_judged (a0 a1 : PV) (st : St) (R : Res → St → Prop) : Prop :=
 e_alloc st [.int .i64 0, .int .i64 0, .str [], .sl 0 true []] fun v4 st =>
 e_alloc st [.int .i64 0, .int .i64 0, .str [], .sl 0 true []] fun v5 st =>
 callK prog n_spec_l01Fam [(.str [110, 97, 116]), (.sl 0 true [])] st (fun v16 st =>
 e_alloc st [.int .i64 0, .int .i64 0, .str [], .sl 0 true []] fun v6 st =>
 e_store st 4 v6 v16 fun st =>
 callK prog n_spec_l00Src_next [a0, (.int .i64 6)] st (fun v18 st =>
 qb (q_bin .eql v18 (.int .i64 0)) fun v20 =>
 cb v20 fun b => br b
  (qb (q_bin .add a1 (.int .i64 1)) fun v23 =>
  qb (q_load st true 4 v6) fun v26 =>
  qb (q_load st true 4 v6) fun v27 =>
  callK prog n_spec_l00Src_nat [a0, v23, (.int .i64 3)] st (fun v24 st =>
  q_load st true 4 v6 = some v27 ∧ q_load st true 4 v6 = some v26 ∧ (callK prog n_spec_l01Lam [v24] st (fun v25 st =>
  q_load st true 4 v6 = some v27 ∧ q_load st true 4 v6 = some v26 ∧ (callK prog n_spec_l01Pi [v26, v27] st (fun v28 st =>
  e_store st 4 v4 v25 fun st =>
  e_store st 4 v5 v28 fun st =>
  qb (q_load st true 4 v4) fun r => qb (q_load st true 4 v5) fun r_1 => retR R (.tup [r, r_1]) st) (panR R))) (panR R))) (panR R))
  (qb (q_bin .eql v18 (.int .i64 1)) fun v30 =>
  cb v30 fun b_1 => br b_1
   (callK prog n_spec_l00Src_next [a0, (.int .i64 4)] st (fun v32 st =>
   callK prog n_spec_l01Const [(.str [110, 105, 108]), (.sl 0 true [])] st (fun v33 st =>
   e_alloc st [.int .i64 0, .int .i64 0, .str [], .sl 0 true []] fun v8 st =>
   e_store st 4 v8 v33 fun st =>
   hFix (fun ls st X =>
    qb (q_bin .lss (ls.getD 0 .junk) v32) fun v36 =>
    cb v36 fun b_2 => br b_2
     (qb (q_load st true 4 v8) fun v44 =>
     callK prog n_spec_l04Count [(ls.getD 0 .junk)] st (fun v40 st =>
     q_load st true 4 v8 = some v44 ∧ (callK prog n_spec_l00Src_nat [a0, a1, (.int .i64 2)] st (fun v43 st =>
     q_load st true 4 v8 = some v44 ∧ (qb (q_lit 4 3 0 [] [(0, v40), (1, v43), (2, v44)]) fun v45 =>
     callK prog n_spec_l04Neutral [(.str [99, 111, 110, 115]), v45] st (fun v46 st =>
     e_store st 4 v8 v46 fun st =>
     qb (q_bin .add (ls.getD 0 .junk) (.int .i64 1)) fun v38 =>
     X [v38] st) (panR R))) (panR R))) (panR R))
     (qb (q_load st true 4 v8) fun v47 =>
     callK prog n_spec_l04Count [v32] st (fun v49 st =>
     q_load st true 4 v8 = some v47 ∧ (qb (q_lit 4 1 0 [] [(0, v49)]) fun v50 =>
     callK prog n_spec_l04Fam [(.str [118, 101, 99]), v50] st (fun v51 st =>
     q_load st true 4 v8 = some v47 ∧ (e_store st 4 v4 v47 fun st =>
     e_store st 4 v5 v51 fun st =>
     qb (q_load st true 4 v4) fun r_2 => qb (q_load st true 4 v5) fun r_3 => retR R (.tup [r_2, r_3]) st)) (panR R))) (panR R)))
    [(.int .i64 0)] st) (panR R)) (panR R))
   (qb (q_bin .eql v18 (.int .i64 2)) fun v53 =>
   cb v53 fun b_3 => br b_3
    (callK prog n_spec_l00Src_next [a0, (.int .i64 4)] st (fun v55 st =>
    callK prog n_spec_l00Src_nat [a0, a1, (.int .i64 2)] st (fun v58 st =>
    e_alloc st [.int .i64 0, .int .i64 0, .str [], .sl 0 true []] fun v11 st =>
    e_store st 4 v11 v58 fun st =>
    qb (q_load st true 4 v11) fun v59 =>
    qb (q_lit 4 1 0 [] [(0, v59)]) fun v60 =>
    callK prog n_spec_l04Neutral [(.str [112, 122]), v60] st (fun v61 st =>
    e_alloc st [.int .i64 0, .int .i64 0, .str [], .sl 0 true []] fun v12 st =>
    e_store st 4 v12 v61 fun st =>
    qb (q_load st true 4 v11) fun v62 =>
    e_alloc st [.int .i64 0, .int .i64 0, .str [], .sl 0 true []] fun v13 st =>
    e_store st 4 v13 v62 fun st =>
    hFix (fun ls_1 st X_1 =>
     qb (q_bin .lss (ls_1.getD 0 .junk) v55) fun v65 =>
     cb v65 fun b_4 => br b_4
      (qb (q_load st true 4 v11) fun v70 =>
      qb (q_load st true 4 v13) fun v71 =>
      qb (q_load st true 4 v12) fun v72 =>
      callK prog n_spec_l04Count [(ls_1.getD 0 .junk)] st (fun v69 st =>
      q_load st true 4 v12 = some v72 ∧ q_load st true 4 v13 = some v71 ∧ q_load st true 4 v11 = some v70 ∧ (qb (q_lit 4 4 0 [] [(0, v69), (1, v70), (2, v71), (3, v72)]) fun v73 =>
      callK prog n_spec_l04Neutral [(.str [112, 115]), v73] st (fun v74 st =>
      e_store st 4 v12 v74 fun st =>
      qb (q_load st true 4 v13) fun v75 =>
      qb (q_lit 4 1 0 [] [(0, v75)]) fun v76 =>
      callK prog n_spec_l04Neutral [(.str [115]), v76] st (fun v77 st =>
      e_store st 4 v13 v77 fun st =>
      qb (q_bin .add (ls_1.getD 0 .junk) (.int .i64 1)) fun v67 =>
      X_1 [v67] st) (panR R)) (panR R))) (panR R))
      (qb (q_load st true 4 v12) fun v78 =>
      qb (q_load st true 4 v11) fun v81 =>
      qb (q_load st true 4 v13) fun v82 =>
      callK prog n_spec_l04Count [v55] st (fun v80 st =>
      q_load st true 4 v13 = some v82 ∧ q_load st true 4 v11 = some v81 ∧ q_load st true 4 v12 = some v78 ∧ (qb (q_lit 4 3 0 [] [(0, v80), (1, v81), (2, v82)]) fun v83 =>
      callK prog n_spec_l04Fam [(.str [112, 108, 117, 115]), v83] st (fun v84 st =>
      q_load st true 4 v12 = some v78 ∧ (e_store st 4 v4 v78 fun st =>
      e_store st 4 v5 v84 fun st =>
      qb (q_load st true 4 v4) fun r_4 => qb (q_load st true 4 v5) fun r_5 => retR R (.tup [r_4, r_5]) st)) (panR R))) (panR R)))
     [(.int .i64 0)] st) (panR R)) (panR R)) (panR R))
    (qb (q_bin .eql v18 (.int .i64 3)) fun v86 =>
    cb v86 fun b_5 => br b_5
     (qb (q_bin .add a1 (.int .i64 1)) fun v89 =>
     callK prog n_spec_l00Src_nat [a0, v89, (.int .i64 2)] st (fun v90 st =>
     callK prog n_spec_l01Lam [v90] st (fun v91 st =>
     e_alloc st [.int .i64 0, .int .i64 0, .str [], .sl 0 true []] fun v15 st =>
     e_store st 4 v15 v91 fun st =>
     qb (q_load st true 4 v15) fun v92 =>
     qb (q_lit 4 1 0 [] [(0, v92)]) fun v93 =>
     qb (q_load st true 4 v15) fun v95 =>
     qb (q_lit 4 1 0 [] [(0, v95)]) fun v96 =>
     callK prog n_spec_l04Neutral [(.str [109, 107]), v93] st (fun v94 st =>
     q_load st true 4 v15 = some v95 ∧ (callK prog n_spec_l04Fam [(.str [97, 108, 108]), v96] st (fun v97 st =>
     e_store st 4 v4 v94 fun st =>
     e_store st 4 v5 v97 fun st =>
     qb (q_load st true 4 v4) fun r_6 => qb (q_load st true 4 v5) fun r_7 => retR R (.tup [r_6, r_7]) st) (panR R))) (panR R)) (panR R)) (panR R))
     (qb (q_load st true 4 v6) fun v101 =>
     callK prog n_spec_l00Src_nat [a0, a1, (.int .i64 4)] st (fun v100 st =>
     q_load st true 4 v6 = some v101 ∧ (e_store st 4 v4 v100 fun st =>
     q_load st true 4 v6 = some v101 ∧ (e_store st 4 v5 v101 fun st =>
     qb (q_load st true 4 v4) fun r_8 => qb (q_load st true 4 v5) fun r_9 => retR R (.tup [r_8, r_9]) st))) (panR R)))))) (panR R)) (panR R)
theorem c_spec_l00Src_judged {a0 a1 : PV} {st : St} {R : Res → St → Prop} (h : b_spec_l00Src_judged a0 a1 st R) : HCalls prog n_spec_l00Src_judged [a0, a1] st R :=
 hcalls_of_func tyOK mixed (fn := Go.Proofs.Tryz.f33) (by kernel_rfl) (by kernel_rfl) (by kernel_rfl) (ann := [(36, [9]), (76, [14])])
  (show hFunc prog TT [(36, [9]), (76, [14])] Go.Proofs.Tryz.f33 [a0, a1] st R from (show hFunc prog TT [(36, [9]), (76, [14])] Go.Proofs.Tryz.f33 [a0, a1] st R = b_spec_l00Src_judged a0 a1 st R by kernel_rfl) ▸ h)
def b_spec_l00Src_nat (a0 a1 a2 : PV) (st : St) (R : Res → St → Prop) : Prop :=
 e_alloc st [.int .i64 0, .int .i64 0, .str [], .sl 0 true []] fun v6 st =>
 callK prog n_spec_l00Src_next [a0, (.int .i64 6)] st (fun v8 st =>
 hJ (fun ls st =>
  callK prog n_spec_l01Const [(.str [122]), (.sl 0 true [])] st (fun v47 st =>
  e_store st 4 v6 v47 fun st =>
  qb (q_load st true 4 v6) fun r => retR R r st) (panR R))
  (fun k =>
 qb (q_bin .eql v8 (.int .i64 0)) fun v10 =>
 cb v10 fun b => br b
  (qb (q_bin .gtr a1 (.int .i64 0)) fun v12 =>
  cb v12 fun b_1 => br b_1
   (callK prog n_spec_l00Src_next [a0, a1] st (fun v15 st =>
   callK prog n_spec_l01Var [v15, (.sl 0 true [])] st (fun v16 st =>
   e_store st 4 v6 v16 fun st =>
   qb (q_load st true 4 v6) fun r_1 => retR R r_1 st) (panR R)) (panR R))
   (k [] st))
  (qb (q_bin .eql v8 (.int .i64 1)) fun v18 =>
  hJ (fun ls_1 st =>
   cb (ls_1.getD 0 .junk) fun b_3 => br b_3
    (qb (q_bin .gtr a2 (.int .i64 0)) fun v21 =>
    cb v21 fun b_4 => br b_4
     (qb (q_bin .sub a2 (.int .i64 1)) fun v25 =>
     callK prog n_spec_l00Src_nat [a0, a1, v25] st (fun v26 st =>
     qb (q_lit 4 1 0 [] [(0, v26)]) fun v27 =>
     callK prog n_spec_l04Neutral [(.str [115]), v27] st (fun v28 st =>
     e_store st 4 v6 v28 fun st =>
     qb (q_load st true 4 v6) fun r_2 => retR R r_2 st) (panR R)) (panR R))
     (k [] st))
    (qb (q_bin .eql v8 (.int .i64 3)) fun v30 =>
    cb v30 fun b_5 => br b_5
     (qb (q_bin .gtr a2 (.int .i64 0)) fun v32 =>
     cb v32 fun b_6 => br b_6
      (qb (q_bin .add a1 (.int .i64 1)) fun v35 =>
      qb (q_bin .sub a2 (.int .i64 1)) fun v37 =>
      callK prog n_spec_l00Src_nat [a0, v35, v37] st (fun v38 st =>
      callK prog n_spec_l01Lam [v38] st (fun v39 st =>
      qb (q_bin .sub a2 (.int .i64 1)) fun v43 =>
      callK prog n_spec_l00Src_nat [a0, a1, v43] st (fun v44 st =>
      qb (q_lit 4 2 0 [] [(0, v39), (1, v44)]) fun v45 =>
      callK prog n_spec_l04Neutral [(.str [105, 116]), v45] st (fun v46 st =>
      e_store st 4 v6 v46 fun st =>
      qb (q_load st true 4 v6) fun r_3 => retR R r_3 st) (panR R)) (panR R)) (panR R)) (panR R))
      (k [] st))
     (k [] st)))
   (fun k_1 =>
  cb v18 fun b_2 => br b_2
   (k_1 [v18] st)
   (qb (q_bin .eql v8 (.int .i64 2)) fun v19 =>
   k_1 [v19] st))))) (panR R)
theorem c_spec_l00Src_nat {a0 a1 a2 : PV} {st : St} {R : Res → St → Prop} (h : b_spec_l00Src_nat a0 a1 a2 st R) : HCalls prog n_spec_l00Src_nat [a0, a1, a2] st R :=
 hcalls_of_func tyOK mixed (fn := Go.Proofs.Tryz.f34) (by kernel_rfl) (by kernel_rfl) (by kernel_rfl) (ann := [(3, []), (26, [17])])
  (show hFunc prog TT [(3, []), (26, [17])] Go.Proofs.Tryz.f34 [a0, a1, a2] st R from (show hFunc prog TT [(3, []), (26, [17])] Go.Proofs.Tryz.f34 [a0, a1, a2] st R = b_spec_l00Src_nat a0 a1 a2 st R by kernel_rfl) ▸ h)
def b_impl_TermOK (a0 : PV) (st : St) (R : Res → St → Prop) : Prop :=
 e_box st a0 fun v1 st =>
 qb (q_load st true 4 v1) fun v4 =>
 callK prog n_impl_fresh [] st (fun v3 st =>
 q_load st true 4 v1 = some v4 ∧ (callK prog n_impl_looker_term [v3, v4] st (fun v5 st =>
 retR R v5 st) (panR R))) (panR R)
theorem c_impl_TermOK {a0 : PV} {st : St} {R : Res → St → Prop} (h : b_impl_TermOK a0 st R) : HCalls prog n_impl_TermOK [a0] st R :=
 hcalls_of_func tyOK mixed (fn := Go.Proofs.Tryz.f35) (by kernel_rfl) (by kernel_rfl) (by kernel_rfl) (ann := [])
  (show hFunc prog TT [] Go.Proofs.Tryz.f35 [a0] st R from (show hFunc prog TT [] Go.Proofs.Tryz.f35 [a0] st R = b_impl_TermOK a0 st R by kernel_rfl) ▸ h)
def b_impl_work_put (a0 a1 a2 a3 a4 : PV) (st : St) (R : Res → St → Prop) : Prop :=
 e_box st a1 fun v6 st =>
 e_box st a2 fun v7 st =>
 e_box st a4 fun v9 st =>
 e_alloc st [.int .i64 0, .int .i64 0, .str [], .sl 0 true []] fun v10 st =>
 qb (q_lit 4 0 0 [] []) fun v14 =>
 qb (q_fa 3 v9) fun v15 =>
 qb (q_load st false 1 v15) fun v16 =>
 qb (q_len v16) fun v17 =>
 hJ (fun ls st =>
  hJ (fun ls_1 st =>
   cb (ls_1.getD 0 .junk) fun b => br b
    (qb (q_load st true 4 v6) fun v46 =>
    qb (q_load st true 4 v7) fun v50 =>
    callK prog n_impl_lift [v46, (.int .i64 0), a3] st (fun v48 st =>
    q_load st true 4 v7 = some v50 ∧ (callK prog n_impl_formed [v48] st (fun v49 st =>
    q_load st true 4 v7 = some v50 ∧ (callK prog n_impl_work_apply [a0, v49, v50, (ls.getD 0 .junk)] st (fun v52 st =>
    e_store st 4 v10 v52 fun st =>
    qb (q_load st true 4 v10) fun r => retR R r st) (panR R))) (panR R))) (panR R))
    (hJ (fun ls_2 st =>
     hJ (fun ls_3 st =>
      qb (q_fa 3 v9) fun v67 =>
      e_store st 1 v67 (ls.getD 0 .junk) fun st =>
      qb (q_load st true 4 v9) fun v68 =>
      callK prog n_impl_formed [v68] st (fun v69 st =>
      e_store st 4 v10 v69 fun st =>
      qb (q_load st true 4 v10) fun r_1 => retR R r_1 st) (panR R))
      (fun k_3 =>
     cb (ls_2.getD 0 .junk) fun b_1 => br b_1
      (qb (q_fa 1 v9) fun v62 =>
      qb (q_load st false 1 v62) fun v63 =>
      qb (q_bin .sub v63 (.int .i64 1)) fun v64 =>
      qb (q_fa 1 v9) fun v65 =>
      e_store st 1 v65 v64 fun st =>
      k_3 [] st)
      (k_3 [] st)))
     (fun k_2 =>
    qb (q_fa 0 v9) fun v53 =>
    qb (q_load st false 1 v53) fun v54 =>
    qb (q_bin .eql v54 (.int .i64 5)) fun v55 =>
    cb v55 fun b_2 => br b_2
     (qb (q_fa 1 v9) fun v57 =>
     qb (q_load st false 1 v57) fun v58 =>
     qb (q_bin .gtr v58 a3) fun v60 =>
     k_2 [v60] st)
     (k_2 [(.bool false)] st))))
   (fun k_1 =>
  qb (q_fa 0 v9) fun v36 =>
  qb (q_load st false 1 v36) fun v37 =>
  qb (q_bin .eql v37 (.int .i64 5)) fun v38 =>
  cb v38 fun b_3 => br b_3
   (qb (q_fa 1 v9) fun v40 =>
   qb (q_load st false 1 v40) fun v41 =>
   qb (q_bin .eql v41 a3) fun v43 =>
   k_1 [v43] st)
   (k_1 [(.bool false)] st)))
  (fun k =>
 hFix (fun ls_4 st X =>
  qb (q_bin .lss (ls_4.getD 1 .junk) v17) fun v19 =>
  cb v19 fun b_4 => br b_4
   (qb (q_ia 4 v16 (ls_4.getD 1 .junk)) fun v21 =>
   qb (q_load st true 4 v21) fun v22 =>
   e_alloc st [.int .i64 0, .int .i64 0, .str [], .sl 0 true []] fun v13 st =>
   e_store st 4 v13 v22 fun st =>
   qb (q_load st true 4 v6) fun v25 =>
   qb (q_load st true 4 v7) fun v26 =>
   qb (q_load st true 4 v13) fun v31 =>
   callK prog n_impl_Tree_under [v9, (ls_4.getD 1 .junk)] st (fun v29 st =>
   q_load st true 4 v13 = some v31 ∧ q_load st true 4 v7 = some v26 ∧ q_load st true 4 v6 = some v25 ∧ (qb (q_bin .add a3 v29) fun v30 =>
   callK prog n_impl_work_put [a0, v25, v26, v30, v31] st (fun v32 st =>
   qb (q_lit 4 1 0 [] [(0, v32)]) fun v33 =>
   e_append st 4 56 (ls_4.getD 0 .junk) v33 (fun v34 st =>
   qb (q_bin .add (ls_4.getD 1 .junk) (.int .i64 1)) fun v35 =>
   X [v34, v35] st)) (panR R))) (panR R))
   (k [(ls_4.getD 0 .junk)] st))
  [v14, (.int .i64 0)] st)
theorem c_impl_work_put {a0 a1 a2 a3 a4 : PV} {st : St} {R : Res → St → Prop} (h : b_impl_work_put a0 a1 a2 a3 a4 st R) : HCalls prog n_impl_work_put [a0, a1, a2, a3, a4] st R :=
 hcalls_of_func tyOK mixed (fn := Go.Proofs.Tryz.f40) (by kernel_rfl) (by kernel_rfl) (by kernel_rfl) (ann := [(12, [11, 18]), (3, [11]), (29, [44]), (37, [61]), (42, [])])
  (show hFunc prog TT [(12, [11, 18]), (3, [11]), (29, [44]), (37, [61]), (42, [])] Go.Proofs.Tryz.f40 [a0, a1, a2, a3, a4] st R from (show hFunc prog TT [(12, [11, 18]), (3, [11]), (29, [44]), (37, [61]), (42, [])] Go.Proofs.Tryz.f40 [a0, a1, a2, a3, a4] st R = b_impl_work_put a0 a1 a2 a3 a4 st R by kernel_rfl) ▸ h)
end Go.H.Tryz
