/- Part of a proof that the program answers as the reference does: ZHS1. -/
import Derived.Test.YtmjpemdbkenebaaGreatDoorHT
set_option linter.unusedVariables false
set_option maxRecDepth 100000
namespace Go.H.Tryz
open Go Go.H
def zq9i (a0 : PV) (st : St) (R : Res → St → Prop) : Prop :=
 zqb prog n_slices_Max_int_int [a0] st (fun v4 st =>
 qb (zqc .gtr v4 (.int .i64 4096)) fun v5 =>
 retR R v5 st) (panR R)
theorem zqia {a0 : PV} {st : St} {R : Res → St → Prop} (h : zq9i a0 st R) : zq5 prog n_impl_longLists [a0] st R := hcc (fn := Go.Proofs.Tryz.f22) (ann := []) (by kernel_rfl) (by kernel_rfl) (by kernel_rfl) (by kernel_rfl) h
def zqg0 (a0 : PV) (st : St) (R : Res → St → Prop) : Prop :=
 qb (zq1j a0) fun v4 =>
 qb (zqc .leq v4 (.int .i64 12)) fun v5 =>
 cb v5 fun b => br b
  (zqb prog n_slices_ContainsFunc_impl_Form_impl_Form [a0, (.fn (.func n_impl_badForm) [] [])] st (fun v8 st =>
  qb (q_un .not v8) fun v9 =>
  retR R v9 st) (panR R))
  (retR R (.bool false) st)
theorem c_impl_hypsOK {a0 : PV} {st : St} {R : Res → St → Prop} (h : zqg0 a0 st R) : zq5 prog n_impl_hypsOK [a0] st R := hcc (fn := Go.Proofs.Tryz.f23) (ann := []) (by kernel_rfl) (by kernel_rfl) (by kernel_rfl) (by kernel_rfl) h
def zqe0 (a0 : PV) (st : St) (R : Res → St → Prop) : Prop :=
 zq19 st a0 fun v1 st =>
 qb (zq0 st true 4 v1) fun v4 =>
 zqb prog n_impl_fresh [] st (fun v3 st =>
 zq0 st true 4 v1 = some v4 ∧ (zqb prog n_impl_looker_proof [v3, v4] st (fun v5 st =>
 retR R v5 st) (panR R))) (panR R)
theorem zqmo {a0 : PV} {st : St} {R : Res → St → Prop} (h : zqe0 a0 st R) : zq5 prog n_impl_ProofOK [a0] st R := hcc (fn := Go.Proofs.Tryz.f24) (ann := []) (by kernel_rfl) (by kernel_rfl) (by kernel_rfl) (by kernel_rfl) h
def zqbd (a0 a1 a2 : PV) (st : St) (R : Res → St → Prop) : Prop :=
 qb (zq0 st false 1 a0) fun v3 =>
 qb (zq0 st true 4 a1) fun v4 =>
 zqb prog n_impl_proves [v3, v4, (.int .i64 0)] st (fun v5 st =>
 zq4 st 3 a2 v5 fun st =>
 retR R (.tup []) st) (panR R)
theorem zqk2 {a0 a1 a2 : PV} {st : St} {R : Res → St → Prop} (h : zqbd a0 a1 a2 st R) : zq5 prog n_impl_Proves_1 [a0, a1, a2] st R := hcc (fn := Go.Proofs.Tryz.f26) (ann := []) (by kernel_rfl) (by kernel_rfl) (by kernel_rfl) (by kernel_rfl) h
def zqfv (a0 a1 a2 : PV) (st : St) (R : Res → St → Prop) : Prop :=
 zq19 st a1 fun v4 st =>
 zq8 st [.int .i64 0, .int .i64 0, .sl 0 true []] fun v6 st =>
 qb (q_fa 0 v4) fun v13 =>
 qb (zq0 st false 1 v13) fun v14 =>
 qb (zqc .eql v14 (.int .i64 1)) fun v15 =>
 cb v15 fun b => br b
  (qb (q_fa 1 v4) fun v16 =>
  qb (zq0 st false 1 v16) fun v17 =>
  qb (zq1j a0) fun v19 =>
  qb (zqc .geq v17 v19) fun v20 =>
  hJ (fun ls st =>
   qb (zq1j a0) fun v25 =>
   qb (zqc .sub v25 (.int .i64 1)) fun v26 =>
   qb (q_fa 1 v4) fun v27 =>
   qb (zq0 st false 1 v27) fun v28 =>
   qb (zqc .sub v26 v28) fun v29 =>
   qb (q_ia 3 a0 v29) fun v30 =>
   qb (zq0 st true 3 v30) fun v31 =>
   zq4 st 3 v6 v31 fun st =>
   qb (zq0 st true 3 v6) fun r => retR R r st)
   (fun k =>
  cb v20 fun b_1 => br b_1
   (zqb prog n_impl_stop [(.int .i64 7), a2] st (fun v22 st =>
   k [] st) (panR R))
   (k [] st)))
  (qb (q_fa 0 v4) fun v33 =>
  qb (zq0 st false 1 v33) fun v34 =>
  zqb prog n_impl_ruleOf [v34] st (fun v35 st =>
  qb (q_ex v35 0) fun v36 =>
  qb (q_ex v35 1) fun v37 =>
  zq8 st [.int .i64 0, .int .i64 0, .str [], .nilfn, .nilfn] fun v7 st =>
  zq4 st 5 v7 v36 fun st =>
  qb (q_fa 3 v7) fun v38 =>
  qb (zq0 st false 1 v38) fun v39 =>
  qb (q_fa 2 v4) fun v40 =>
  qb (zq0 st false 1 v40) fun v41 =>
  zq57 prog st v39 [v41] (fun v42 st =>
  qb (zqc .add a2 (.int .i64 1)) fun v44 =>
  qb (q_fa 0 v4) fun v45 =>
  qb (zq0 st false 1 v45) fun v46 =>
  qb (zqc .eql v46 (.int .i64 5)) fun v47 =>
  hJ (fun ls_1 st =>
   qb (q_fa 3 v4) fun v56 =>
   qb (zq0 st false 1 v56) fun v57 =>
   qb (zq1j v57) fun v58 =>
   hJ (fun ls_2 st =>
    qb (q_fa 4 v7) fun v80 =>
    qb (zq0 st false 1 v80) fun v81 =>
    qb (q_fa 2 v4) fun v82 =>
    qb (zq0 st false 1 v82) fun v83 =>
    zq57 prog st v81 [v83] (fun v84 st =>
    zq4 st 3 v6 v84 fun st =>
    qb (zq0 st true 3 v6) fun r_1 => retR R r_1 st) (panR R))
    (fun k_2 =>
   hFix (fun ls_3 st X =>
    qb (zqc .lss (ls_3.getD 1 .junk) v58) fun v60 =>
    cb v60 fun b_3 => br b_3
     (qb (q_ia 4 v57 (ls_3.getD 1 .junk)) fun v62 =>
     qb (zq0 st true 4 v62) fun v63 =>
     zq8 st [.int .i64 0, .int .i64 0, .sl 0 true [], .sl 0 true []] fun v12 st =>
     zq4 st 4 v12 v63 fun st =>
     qb (zq0 st true 4 v12) fun v65 =>
     qb (q_ia 3 v42 (ls_3.getD 1 .junk)) fun v70 =>
     qb (zq0 st true 3 v70) fun v71 =>
     zqb prog n_impl_proves [(ls_1.getD 0 .junk), v65, (ls_3.getD 0 .junk)] st (fun v67 st =>
     zq0 st true 3 v70 = some v71 ∧ (zqb prog n_impl_sameForm [v67, v71] st (fun v72 st =>
     qb (q_un .not v72) fun v73 =>
     cb v73 fun b_4 => br b_4
      (zqb prog n_impl_stop [(.int .i64 19), (ls_3.getD 0 .junk)] st (fun v75 st =>
      zqb prog n_impl_Proof_size [v12] st (fun v77 st =>
      qb (zqc .add (ls_3.getD 0 .junk) v77) fun v78 =>
      qb (zqc .add (ls_3.getD 1 .junk) (.int .i64 1)) fun v79 =>
      X [v78, v79] st) (panR R)) (panR R))
      (zqb prog n_impl_Proof_size [v12] st (fun v77_1 st =>
      qb (zqc .add (ls_3.getD 0 .junk) v77_1) fun v78_1 =>
      qb (zqc .add (ls_3.getD 1 .junk) (.int .i64 1)) fun v79_1 =>
      X [v78_1, v79_1] st) (panR R))) (panR R))) (panR R))
     (k_2 [] st))
    [v44, (.int .i64 0)] st))
   (fun k_1 =>
  cb v47 fun b_2 => br b_2
   (qb (q_fa 2 v4) fun v50 =>
   qb (zq0 st false 1 v50) fun v51 =>
   qb (q_ia 3 v51 (.int .i64 0)) fun v52 =>
   qb (zq0 st true 3 v52) fun v53 =>
   qb (zq24 3 1 0 [] [(0, v53)]) fun v54 =>
   zqb prog n_slices_Clip_impl_Form_impl_Form [a0] st (fun v49 st =>
   zq0 st true 3 v52 = some v53 ∧ zq0 st false 1 v50 = some v51 ∧ (zqo st 3 40 v49 v54 (fun v55 st =>
   k_1 [v55] st))) (panR R))
   (k_1 [a0] st))) (panR R)) (panR R))
theorem c_impl_proves {a0 a1 a2 : PV} {st : St} {R : Res → St → Prop} (h : zqfv a0 a1 a2 st R) : zq5 prog n_impl_proves [a0, a1, a2] st R := hcc (fn := Go.Proofs.Tryz.f27) (ann := [(40, [10, 59]), (3, []), (14, []), (34, [0])]) (by kernel_rfl) (by kernel_rfl) (by kernel_rfl) (by kernel_rfl) h
def zq9l (a0 : PV) (st : St) (R : Res → St → Prop) : Prop :=
 zq19 st a0 fun v1 st =>
 zq8 st [.int .i64 0, .int .i64 0, .sl 0 true []] fun v2 st =>
 qb (q_fa 2 v1) fun v3 =>
 qb (zq0 st false 1 v3) fun v4 =>
 zqb prog n_impl_cloneForms [v4] st (fun v5 st =>
 qb (q_fa 2 v1) fun v6 =>
 zq4 st 1 v6 v5 fun st =>
 qb (zq0 st true 3 v1) fun v7 =>
 zq4 st 3 v2 v7 fun st =>
 qb (zq0 st true 3 v2) fun r => retR R r st) (panR R)
theorem zqid {a0 : PV} {st : St} {R : Res → St → Prop} (h : zq9l a0 st R) : zq5 prog n_impl_cloneForm [a0] st R := hcc (fn := Go.Proofs.Tryz.f28) (ann := []) (by kernel_rfl) (by kernel_rfl) (by kernel_rfl) (by kernel_rfl) h
def zqdt (a0 a1 : PV) (st : St) (R : Res → St → Prop) : Prop :=
 zq8 st [.int .i64 0, .int .i64 0, .str [], .sl 0 true []] fun v4 st =>
 qb (q_un .not a0) fun v8 =>
 cb v8 fun b => br b
  (qb (zqe [.int .i64 0, .int .i64 0, .str [], .sl 0 true []] []) fun v9 =>
  zq4 st 4 v4 v9 fun st =>
  qb (zq0 st true 4 v4) fun r => retR R (.tup [r, (.int .i64 1)]) st)
  (zq57 prog st a1 [] (fun v11 st =>
  zq8 st [.int .i64 0, .int .i64 0, .str [], .sl 0 true []] fun v6 st =>
  zq4 st 4 v6 v11 fun st =>
  qb (zq0 st true 4 v6) fun v12 =>
  zqb prog n_impl_tooBig [v12] st (fun v13 st =>
  cb v13 fun b_1 => br b_1
   (qb (zqe [.int .i64 0, .int .i64 0, .str [], .sl 0 true []] []) fun v14 =>
   zq4 st 4 v4 v14 fun st =>
   qb (zq0 st true 4 v4) fun r_1 => retR R (.tup [r_1, (.int .i64 11)]) st)
   (qb (zq0 st true 4 v6) fun v15 =>
   zq4 st 4 v4 v15 fun st =>
   qb (zq0 st true 4 v4) fun r_2 => retR R (.tup [r_2, (.int .i64 0)]) st)) (panR R)) (panR R))
theorem zqmh {a0 a1 : PV} {st : St} {R : Res → St → Prop} (h : zqdt a0 a1 st R) : zq5 prog n_impl_encoded [a0, a1] st R := hcc (fn := Go.Proofs.Tryz.f29) (ann := []) (by kernel_rfl) (by kernel_rfl) (by kernel_rfl) (by kernel_rfl) h
def zq5y (a0 : PV) (st : St) (R : Res → St → Prop) : Prop :=
 zq8 st [.int .i64 0, .int .i64 0, .str [], .sl 0 true []] fun v1 st =>
 qb (zq0 st true 4 a0) fun v2 =>
 zqb prog n_impl_proofTerm [v2] st (fun v3 st =>
 zq4 st 4 v1 v3 fun st =>
 qb (zq0 st true 4 v1) fun r => retR R r st) (panR R)
theorem zqc0 {a0 : PV} {st : St} {R : Res → St → Prop} (h : zq5y a0 st R) : zq5 prog n_impl_EncodeProof_1 [a0] st R := hcc (fn := Go.Proofs.Tryz.f30) (ann := []) (by kernel_rfl) (by kernel_rfl) (by kernel_rfl) (by kernel_rfl) h
def zq9h (a0 : PV) (st : St) (R : Res → St → Prop) : Prop :=
 zq19 st a0 fun v1 st =>
 zq8 st [.int .i64 0, .int .i64 0, .str [], .sl 0 true []] fun v2 st =>
 qb (q_fa 0 v1) fun v11 =>
 qb (zq0 st false 1 v11) fun v12 =>
 qb (zqc .eql v12 (.int .i64 1)) fun v13 =>
 cb v13 fun b => br b
  (qb (q_fa 1 v1) fun v14 =>
  qb (zq0 st false 1 v14) fun v15 =>
  zqb prog n_impl_variable [v15, (.sl 0 true [])] st (fun v16 st =>
  zq4 st 4 v2 v16 fun st =>
  qb (zq0 st true 4 v2) fun r => retR R r st) (panR R))
  (qb (q_fa 0 v1) fun v18 =>
  qb (zq0 st false 1 v18) fun v19 =>
  zqb prog n_impl_ruleOf [v19] st (fun v20 st =>
  qb (q_ex v20 0) fun v21 =>
  qb (q_ex v20 1) fun v22 =>
  zq8 st [.int .i64 0, .int .i64 0, .str [], .nilfn, .nilfn] fun v3 st =>
  zq4 st 5 v3 v21 fun st =>
  qb (q_fa 2 v3) fun v23 =>
  qb (zq0 st false 1 v23) fun v24 =>
  zqb prog n_impl_constant [v24, (.sl 0 true [])] st (fun v25 st =>
  zq8 st [.int .i64 0, .int .i64 0, .str [], .sl 0 true []] fun v5 st =>
  zq4 st 4 v5 v25 fun st =>
  qb (q_fa 2 v1) fun v26 =>
  qb (zq0 st false 1 v26) fun v27 =>
  qb (zq1j v27) fun v28 =>
  hFix (fun ls st X =>
   qb (zqc .lss (ls.getD 0 .junk) v28) fun v30 =>
   cb v30 fun b_1 => br b_1
    (qb (q_ia 3 v27 (ls.getD 0 .junk)) fun v31 =>
    qb (zq0 st true 3 v31) fun v32 =>
    zq8 st [.int .i64 0, .int .i64 0, .sl 0 true []] fun v7 st =>
    zq4 st 3 v7 v32 fun st =>
    qb (q_fa 3 v5) fun v33 =>
    qb (zq0 st false 1 v33) fun v34 =>
    qb (zq0 st true 3 v7) fun v35 =>
    zqb prog n_impl_formTerm [v35] st (fun v36 st =>
    zq0 st false 1 v33 = some v34 ∧ (qb (zq24 4 1 0 [] [(0, v36)]) fun v37 =>
    zqo st 4 56 v34 v37 (fun v38 st =>
    qb (q_fa 3 v5) fun v39 =>
    zq4 st 1 v39 v38 fun st =>
    qb (zqc .add (ls.getD 0 .junk) (.int .i64 1)) fun v40 =>
    X [v40] st))) (panR R))
    (qb (q_fa 3 v1) fun v41 =>
    qb (zq0 st false 1 v41) fun v42 =>
    qb (zq1j v42) fun v43 =>
    hFix (fun ls_1 st X_1 =>
     qb (zqc .lss (ls_1.getD 0 .junk) v43) fun v45 =>
     cb v45 fun b_2 => br b_2
      (qb (q_ia 4 v42 (ls_1.getD 0 .junk)) fun v46 =>
      qb (zq0 st true 4 v46) fun v47 =>
      zq8 st [.int .i64 0, .int .i64 0, .sl 0 true [], .sl 0 true []] fun v9 st =>
      zq4 st 4 v9 v47 fun st =>
      qb (zq0 st true 4 v9) fun v48 =>
      zqb prog n_impl_proofTerm [v48] st (fun v49 st =>
      zq8 st [.int .i64 0, .int .i64 0, .str [], .sl 0 true []] fun v10 st =>
      zq4 st 4 v10 v49 fun st =>
      qb (q_fa 0 v1) fun v50 =>
      qb (zq0 st false 1 v50) fun v51 =>
      qb (zqc .eql v51 (.int .i64 5)) fun v52 =>
      hJ (fun ls_2 st =>
       qb (q_fa 3 v5) fun v55 =>
       qb (zq0 st false 1 v55) fun v56 =>
       qb (zq0 st true 4 v10) fun v57 =>
       qb (zq24 4 1 0 [] [(0, v57)]) fun v58 =>
       zqo st 4 56 v56 v58 (fun v59 st =>
       qb (q_fa 3 v5) fun v60 =>
       zq4 st 1 v60 v59 fun st =>
       qb (zqc .add (ls_1.getD 0 .junk) (.int .i64 1)) fun v61 =>
       X_1 [v61] st))
       (fun k =>
      cb v52 fun b_3 => br b_3
       (qb (zq0 st true 4 v10) fun v53 =>
       zqb prog n_impl_lam [v53] st (fun v54 st =>
       zq4 st 4 v10 v54 fun st =>
       k [] st) (panR R))
       (k [] st))) (panR R))
      (qb (zq0 st true 4 v5) fun v62 =>
      zq4 st 4 v2 v62 fun st =>
      qb (zq0 st true 4 v2) fun r_1 => retR R r_1 st))
     [(.int .i64 0)] st))
   [(.int .i64 0)] st) (panR R)) (panR R))
theorem zqi9 {a0 : PV} {st : St} {R : Res → St → Prop} (h : zq9h a0 st R) : zq5 prog n_impl_proofTerm [a0] st R := hcc (fn := Go.Proofs.Tryz.f31) (ann := [(44, [44]), (24, [29]), (62, [])]) (by kernel_rfl) (by kernel_rfl) (by kernel_rfl) (by kernel_rfl) h
def zq9j (a0 : PV) (st : St) (R : Res → St → Prop) : Prop :=
 zq19 st a0 fun v1 st =>
 zq8 st [.int .i64 0, .int .i64 0, .str [], .sl 0 true []] fun v2 st =>
 qb (zq0 st true 3 v1) fun v3 =>
 zqb prog n_impl_formTerm [v3] st (fun v4 st =>
 qb (zq24 4 1 0 [] [(0, v4)]) fun v5 =>
 qb (zqe [.int .i64 0, .int .i64 0, .str [], .sl 0 true []] [(0, 1, (.int .i64 3)), (2, 1, (.str [112, 102])), (3, 1, v5)]) fun v6 =>
 zq4 st 4 v2 v6 fun st =>
 qb (zq0 st true 4 v2) fun r => retR R r st) (panR R)
theorem zqib {a0 : PV} {st : St} {R : Res → St → Prop} (h : zq9j a0 st R) : zq5 prog n_impl_judgement [a0] st R := hcc (fn := Go.Proofs.Tryz.f32) (ann := []) (by kernel_rfl) (by kernel_rfl) (by kernel_rfl) (by kernel_rfl) h
def zq1e (a0 a1 : PV) (st : St) (R : Res → St → Prop) : Prop :=
 zqb prog n_slices_IndexFunc_impl_Tree_impl_Tree [a0, a1] st (fun v7 st =>
 qb (zqc .geq v7 (.int .i64 0)) fun v8 =>
 retR R v8 st) (panR R)
theorem zq2s {a0 a1 : PV} {st : St} {R : Res → St → Prop} (h : zq1e a0 a1 st R) : zq5 prog n_slices_ContainsFunc_impl_Tree_impl_Tree [a0, a1] st R := hcc (fn := Go.Proofs.Tryz.f33) (ann := []) (by kernel_rfl) (by kernel_rfl) (by kernel_rfl) (by kernel_rfl) h
def zqft (a0 : PV) (st : St) (R : Res → St → Prop) : Prop :=
 zq19 st a0 fun v1 st =>
 zq8 st [.int .i64 0] fun v3 st =>
 zq4 st 1 v3 (.int .i64 0) fun st =>
 zqb prog n_impl_Tree_each [v1, (.int .i64 0), (.fn (.func n_impl_tooBig_1) [] [v3])] st (fun v5 st =>
 retR R v5 st) (panR R)
theorem c_impl_tooBig {a0 : PV} {st : St} {R : Res → St → Prop} (h : zqft a0 st R) : zq5 prog n_impl_tooBig [a0] st R := hcc (fn := Go.Proofs.Tryz.f34) (ann := []) (by kernel_rfl) (by kernel_rfl) (by kernel_rfl) (by kernel_rfl) h
def zqg8 (a0 : PV) (st : St) (R : Res → St → Prop) : Prop :=
 zq19 st a0 fun v1 st =>
 qb (zq0 st true 3 v1) fun v4 =>
 zqb prog n_impl_fresh [] st (fun v3 st =>
 zq0 st true 3 v1 = some v4 ∧ (zqb prog n_impl_looker_form [v3, v4] st (fun v5 st =>
 retR R v5 st) (panR R))) (panR R)
theorem c_impl_FormOK {a0 : PV} {st : St} {R : Res → St → Prop} (h : zqg8 a0 st R) : zq5 prog n_impl_FormOK [a0] st R := hcc (fn := Go.Proofs.Tryz.f35) (ann := []) (by kernel_rfl) (by kernel_rfl) (by kernel_rfl) (by kernel_rfl) h
def zq7q (a0 : PV) (st : St) (R : Res → St → Prop) : Prop :=
 zq8 st [.int .i64 0, .int .i64 0, .str [], .sl 0 true []] fun v1 st =>
 qb (zq0 st true 3 a0) fun v2 =>
 zqb prog n_impl_judgement [v2] st (fun v3 st =>
 zq4 st 4 v1 v3 fun st =>
 qb (zq0 st true 4 v1) fun r => retR R r st) (panR R)
theorem zqf3 {a0 : PV} {st : St} {R : Res → St → Prop} (h : zq7q a0 st R) : zq5 prog n_impl_Judgement_1 [a0] st R := hcc (fn := Go.Proofs.Tryz.f36) (ann := []) (by kernel_rfl) (by kernel_rfl) (by kernel_rfl) (by kernel_rfl) h
def zqdw (a0 : PV) (st : St) (R : Res → St → Prop) : Prop :=
 zq19 st a0 fun v1 st =>
 qb (zq0 st true 4 v1) fun v3 =>
 zqb prog n_impl_TermOK [v3] st (fun v4 st =>
 qb (q_un .not v4) fun v5 =>
 retR R v5 st) (panR R)
theorem zqmk {a0 : PV} {st : St} {R : Res → St → Prop} (h : zqdw a0 st R) : zq5 prog n_impl_badTerm [a0] st R := hcc (fn := Go.Proofs.Tryz.f37) (ann := []) (by kernel_rfl) (by kernel_rfl) (by kernel_rfl) (by kernel_rfl) h
def b_impl_in (a0 a1 a2 : PV) (st : St) (R : Res → St → Prop) : Prop :=
 qb (zqc .geq a0 a1) fun v9 =>
 cb v9 fun b => br b
  (qb (zqc .leq a0 a2) fun v13 =>
  retR R v13 st)
  (retR R (.bool false) st)
theorem c_impl_in {a0 a1 a2 : PV} {st : St} {R : Res → St → Prop} (h : b_impl_in a0 a1 a2 st R) : zq5 prog n_impl_in [a0, a1, a2] st R := hcc (fn := Go.Proofs.Tryz.f38) (ann := []) (by kernel_rfl) (by kernel_rfl) (by kernel_rfl) (by kernel_rfl) h
def zq5z (a0 a1 a2 : PV) (st : St) (R : Res → St → Prop) : Prop :=
 qb (zq0 st true 4 a0) fun v3 =>
 qb (zq0 st false 1 a1) fun v4 =>
 zqb prog n_impl_readProof [v3, v4] st (fun v5 st =>
 zq4 st 4 a2 v5 fun st =>
 retR R (.tup []) st) (panR R)
theorem zqc1 {a0 a1 a2 : PV} {st : St} {R : Res → St → Prop} (h : zq5z a0 a1 a2 st R) : zq5 prog n_impl_DecodeProof_1 [a0, a1, a2] st R := hcc (fn := Go.Proofs.Tryz.f39) (ann := []) (by kernel_rfl) (by kernel_rfl) (by kernel_rfl) (by kernel_rfl) h
def zq9g (a0 a1 : PV) (st : St) (R : Res → St → Prop) : Prop :=
 zq19 st a0 fun v2 st =>
 zq8 st [.int .i64 0, .int .i64 0, .sl 0 true [], .sl 0 true []] fun v4 st =>
 hJ (fun ls st =>
  cb (ls.getD 0 .junk) fun b => br b
   (qb (q_fa 1 v2) fun v28 =>
   qb (zq0 st false 1 v28) fun v29 =>
   qb (zqe [.int .i64 0, .int .i64 0, .sl 0 true [], .sl 0 true []] [(0, 1, (.int .i64 1)), (1, 1, v29)]) fun v30 =>
   zq4 st 4 v4 v30 fun st =>
   qb (zq0 st true 4 v4) fun r => retR R r st)
   (hFix (fun ls_1 st X =>
    qb (zqc .leq (ls_1.getD 0 .junk) (.int .i64 7)) fun v32 =>
    cb v32 fun b_1 => br b_1
     (zqb prog n_impl_ruleOf [(ls_1.getD 0 .junk)] st (fun v37 st =>
     qb (q_ex v37 0) fun v38 =>
     qb (q_ex v37 1) fun v39 =>
     zq8 st [.int .i64 0, .int .i64 0, .str [], .nilfn, .nilfn] fun v6 st =>
     zq4 st 5 v6 v38 fun st =>
     qb (q_fa 0 v2) fun v40 =>
     qb (zq0 st false 1 v40) fun v41 =>
     qb (zqc .neq v41 (.int .i64 6)) fun v42 =>
     cb v42 fun b_2 => br b_2
      (qb (zqc .add (ls_1.getD 0 .junk) (.int .i64 1)) fun v34 =>
      X [v34] st)
      (qb (q_fa 2 v2) fun v44 =>
      qb (zq0 st false 1 v44) fun v45 =>
      qb (q_fa 2 v6) fun v46 =>
      qb (zq0 st false 1 v46) fun v47 =>
      qb (zqc .neq v45 v47) fun v48 =>
      cb v48 fun b_3 => br b_3
       (qb (zqc .add (ls_1.getD 0 .junk) (.int .i64 1)) fun v34_1 =>
       X [v34_1] st)
       (qb (q_fa 3 v2) fun v51 =>
       qb (zq0 st false 1 v51) fun v52 =>
       qb (zq1j v52) fun v53 =>
       qb (q_fa 0 v6) fun v54 =>
       qb (zq0 st false 1 v54) fun v55 =>
       qb (q_fa 1 v6) fun v56 =>
       qb (zq0 st false 1 v56) fun v57 =>
       qb (zqc .add v55 v57) fun v58 =>
       qb (zqc .neq v53 v58) fun v59 =>
       cb v59 fun b_4 => br b_4
        (qb (zqc .add (ls_1.getD 0 .junk) (.int .i64 1)) fun v34_2 =>
        X [v34_2] st)
        (qb (zqe [.int .i64 0, .int .i64 0, .sl 0 true [], .sl 0 true []] [(0, 1, (ls_1.getD 0 .junk))]) fun v62 =>
        zq8 st [.int .i64 0, .int .i64 0, .sl 0 true [], .sl 0 true []] fun v8 st =>
        zq4 st 4 v8 v62 fun st =>
        qb (q_fa 3 v2) fun v63 =>
        qb (zq0 st false 1 v63) fun v64 =>
        qb (q_fa 0 v6) fun v65 =>
        qb (zq0 st false 1 v65) fun v66 =>
        qb (zq1y 4 v64 none (some v66) none) fun v67 =>
        qb (zq1j v67) fun v68 =>
        hFix (fun ls_2 st X_1 =>
         qb (zqc .lss (ls_2.getD 0 .junk) v68) fun v70 =>
         cb v70 fun b_5 => br b_5
          (qb (q_ia 4 v67 (ls_2.getD 0 .junk)) fun v71 =>
          qb (zq0 st true 4 v71) fun v72 =>
          zq8 st [.int .i64 0, .int .i64 0, .str [], .sl 0 true []] fun v10 st =>
          zq4 st 4 v10 v72 fun st =>
          qb (q_fa 2 v8) fun v73 =>
          qb (zq0 st false 1 v73) fun v74 =>
          qb (zq0 st true 4 v10) fun v75 =>
          zqb prog n_impl_readForm [v75] st (fun v76 st =>
          zq0 st false 1 v73 = some v74 ∧ (qb (zq24 3 1 0 [] [(0, v76)]) fun v77 =>
          zqo st 3 40 v74 v77 (fun v78 st =>
          qb (q_fa 2 v8) fun v79 =>
          zq4 st 1 v79 v78 fun st =>
          qb (zqc .add (ls_2.getD 0 .junk) (.int .i64 1)) fun v80 =>
          X_1 [v80] st))) (panR R))
          (qb (q_fa 3 v2) fun v81 =>
          qb (zq0 st false 1 v81) fun v82 =>
          qb (q_fa 0 v6) fun v83 =>
          qb (zq0 st false 1 v83) fun v84 =>
          qb (zq1y 4 v82 (some v84) none none) fun v85 =>
          qb (zq1j v85) fun v86 =>
          hFix (fun ls_3 st X_2 =>
           qb (zqc .lss (ls_3.getD 0 .junk) v86) fun v88 =>
           cb v88 fun b_6 => br b_6
            (qb (q_ia 4 v85 (ls_3.getD 0 .junk)) fun v89 =>
            qb (zq0 st true 4 v89) fun v90 =>
            zq8 st [.int .i64 0, .int .i64 0, .str [], .sl 0 true []] fun v12 st =>
            zq4 st 4 v12 v90 fun st =>
            qb (q_fa 3 v8) fun v91 =>
            qb (zq0 st false 1 v91) fun v92 =>
            qb (zq0 st true 4 v12) fun v94 =>
            zqb prog n_impl_readKid [(ls_1.getD 0 .junk), v94, a1] st (fun v96 st =>
            zq0 st false 1 v91 = some v92 ∧ (qb (zq24 4 1 0 [] [(0, v96)]) fun v97 =>
            zqo st 4 64 v92 v97 (fun v98 st =>
            qb (q_fa 3 v8) fun v99 =>
            zq4 st 1 v99 v98 fun st =>
            qb (zqc .add (ls_3.getD 0 .junk) (.int .i64 1)) fun v100 =>
            X_2 [v100] st))) (panR R))
            (qb (zq0 st true 4 v8) fun v101 =>
            zq4 st 4 v4 v101 fun st =>
            qb (zq0 st true 4 v4) fun r_1 => retR R r_1 st))
           [(.int .i64 0)] st))
         [(.int .i64 0)] st)))) (panR R))
     (zqb prog n_impl_stop [(.int .i64 3), (.int .i64 0)] st (fun v102 st =>
     qb (zqe [.int .i64 0, .int .i64 0, .sl 0 true [], .sl 0 true []] []) fun v103 =>
     zq4 st 4 v4 v103 fun st =>
     qb (zq0 st true 4 v4) fun r_2 => retR R r_2 st) (panR R)))
    [(.int .i64 2)] st))
  (fun k =>
 qb (q_fa 0 v2) fun v13 =>
 qb (zq0 st false 1 v13) fun v14 =>
 qb (zqc .eql v14 (.int .i64 5)) fun v15 =>
 cb v15 fun b_7 => br b_7
  (qb (q_fa 3 v2) fun v17 =>
  qb (zq0 st false 1 v17) fun v18 =>
  qb (zq1j v18) fun v19 =>
  qb (zqc .eql v19 (.int .i64 0)) fun v20 =>
  cb v20 fun b_8 => br b_8
   (qb (q_fa 1 v2) fun v23 =>
   qb (zq0 st false 1 v23) fun v24 =>
   qb (zqc .lss v24 a1) fun v26 =>
   k [v26] st)
   (k [(.bool false)] st))
  (k [(.bool false)] st))
theorem zqi8 {a0 a1 : PV} {st : St} {R : Res → St → Prop} (h : zq9g a0 a1 st R) : zq5 prog n_impl_readProof [a0, a1] st R := hcc (fn := Go.Proofs.Tryz.f40) (ann := [(60, [87]), (40, [69]), (16, [5]), (5, [27])]) (by kernel_rfl) (by kernel_rfl) (by kernel_rfl) (by kernel_rfl) h
def zqdu (a0 a1 a2 a3 : PV) (st : St) (R : Res → St → Prop) : Prop :=
 zq19 st a0 fun v4 st =>
 zq19 st a3 fun v7 st =>
 qb (zq0 st false 1 v4) fun v12 =>
 qb (zq1j v12) fun v13 =>
 qb (zq1j a1) fun v15 =>
 qb (zq24 1 2 0 [] [(0, v13), (1, v15)]) fun v16 =>
 zqb prog n_impl_longLists [v16] st (fun v17 st =>
 cb v17 fun b => br b
  (retR R (.tup [(.int .i64 2), (.int .i64 0)]) st)
  (qb (zq0 st false 1 v4) fun v19 =>
  zqb prog n_impl_CtxOK [v19, a1] st (fun v21 st =>
  qb (q_un .not v21) fun v22 =>
  cb v22 fun b_1 => br b_1
   (retR R (.tup [(.int .i64 1), (.int .i64 0)]) st)
   (zq57 prog st a2 [] (fun v25 st =>
   qb (q_un .not v25) fun v26 =>
   cb v26 fun b_2 => br b_2
    (retR R (.tup [(.int .i64 1), (.int .i64 0)]) st)
    (zqb prog n_impl_caught [(.fn (.func n_impl_checked_1) [] [v7, v4])] st (fun v29 st =>
    zq8 st [.int .i64 0, .int .i64 0] fun v10 st =>
    zq4 st 2 v10 v29 fun st =>
    qb (q_fa 0 v10) fun v30 =>
    qb (zq0 st false 1 v30) fun v31 =>
    qb (q_fa 1 v10) fun v32 =>
    qb (zq0 st false 1 v32) fun v33 =>
    retR R (.tup [v31, v33]) st) (panR R))) (panR R))) (panR R))) (panR R)
theorem zqma : zqir prog n_impl_checked := ⟨Go.Proofs.Tryz.f41, by kernel_rfl, by kernel_rfl, by kernel_rfl⟩
theorem zqmi {a0 a1 a2 a3 : PV} {st : St} {R : Res → St → Prop} (h : zqdu a0 a1 a2 a3 st R) : zq5 prog n_impl_checked [a0, a1, a2, a3] st R := hcc (fn := Go.Proofs.Tryz.f41) (ann := []) (by kernel_rfl) (by kernel_rfl) (by kernel_rfl) (by kernel_rfl) h
def zq7u (a0 a1 a2 a3 : PV) (st : St) (R : Res → St → Prop) : Prop :=
 qb (zq0 st true 4 a0) fun v5 =>
 zqb prog n_impl_TermOK [v5] st (fun v6 st =>
 cb v6 fun b => br b
  (qb (zq0 st false 1 a1) fun v8 =>
  qb (zq0 st false 1 a2) fun v9 =>
  qb (zq0 st true 4 a3) fun v10 =>
  zqb prog n_impl_due [v8, v9, v10] st (fun v11 st =>
  retR R v11 st) (panR R))
  (retR R (.bool false) st)) (panR R)
theorem zqf7 {a0 a1 a2 a3 : PV} {st : St} {R : Res → St → Prop} (h : zq7u a0 a1 a2 a3 st R) : zq5 prog n_impl_CheckTerm_1 [a0, a1, a2, a3] st R := hcc (fn := Go.Proofs.Tryz.f42) (ann := []) (by kernel_rfl) (by kernel_rfl) (by kernel_rfl) (by kernel_rfl) h
end Go.H.Tryz
