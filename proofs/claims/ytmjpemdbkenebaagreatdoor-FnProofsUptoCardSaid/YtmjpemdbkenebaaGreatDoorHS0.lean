/- Part of a proof that the program answers as the reference does: ZHS0. -/
import Derived.Test.YtmjpemdbkenebaaGreatDoorHT
set_option linter.unusedVariables false
set_option maxRecDepth 100000
namespace Go.H.Tryz
open Go Go.H
def zqar (a0 : PV) (st : St) (R : Res → St → Prop) : Prop :=
 qb (zq1j a0) fun v20 =>
 qb (zqc .gtr v20 (.int .i64 1048576)) fun v21 =>
 cb v21 fun b => br b
  (retR R (.bool true) st)
  (zqb prog n_spec_ProofOf [a0] st (fun v24 st =>
  qb (q_ex v24 0) fun v25 =>
  qb (q_ex v24 1) fun v26 =>
  qb (q_ex v24 2) fun v27 =>
  zq8 st [.int .i64 0, .int .i64 0, .sl 0 true [], .sl 0 true []] fun v4 st =>
  zq8 st [.int .i64 0, .int .i64 0, .sl 0 true []] fun v5 st =>
  zq4 st 4 v4 v26 fun st =>
  zq4 st 3 v5 v27 fun st =>
  qb (zq0 st true 4 v4) fun v28 =>
  zqb prog n_spec_ProofOK [v28] st (fun v29 st =>
  qb (q_un .not v29) fun v30 =>
  cb v30 fun b_1 => br b_1
   (retR R (.bool true) st)
   (qb (zq0 st true 4 v4) fun v33 =>
   zqb prog n_impl_Proves [v25, v33] st (fun v34 st =>
   qb (q_ex v34 0) fun v35 =>
   qb (q_ex v34 1) fun v36 =>
   qb (q_ex v34 2) fun v37 =>
   zq8 st [.int .i64 0, .int .i64 0, .sl 0 true []] fun v6 st =>
   zq4 st 3 v6 v35 fun st =>
   qb (zqc .neq v36 (.int .i64 0)) fun v39 =>
   cb v39 fun b_2 => br b_2
    (retR R (.bool false) st)
    (qb (zq0 st true 3 v5) fun v41 =>
    qb (zq0 st true 3 v6) fun v42 =>
    zqb prog n_laws_sameForm [v41, v42] st (fun v43 st =>
    qb (q_un .not v43) fun v44 =>
    cb v44 fun b_3 => br b_3
     (retR R (.bool false) st)
     (qb (zq0 st true 4 v4) fun v47 =>
     zqb prog n_impl_EncodeProof [v47] st (fun v48 st =>
     qb (q_ex v48 0) fun v49 =>
     qb (q_ex v48 1) fun v50 =>
     zq8 st [.int .i64 0, .int .i64 0, .str [], .sl 0 true []] fun v9 st =>
     zq4 st 4 v9 v49 fun st =>
     zqb prog n_impl_EncodeHyps [v25] st (fun v53 st =>
     qb (q_ex v53 0) fun v54 =>
     qb (q_ex v53 1) fun v55 =>
     qb (zq0 st true 3 v5) fun v57 =>
     zqb prog n_impl_Judgement [v57] st (fun v58 st =>
     qb (q_ex v58 0) fun v59 =>
     qb (q_ex v58 1) fun v60 =>
     zq8 st [.int .i64 0, .int .i64 0, .str [], .sl 0 true []] fun v13 st =>
     zq4 st 4 v13 v59 fun st =>
     zqb prog n_laws_full [v50] st (fun v62 st =>
     cb v62 fun b_4 => br b_4
      (retR R (.bool true) st)
      (zqb prog n_laws_full [v55] st (fun v65 st =>
      cb v65 fun b_5 => br b_5
       (retR R (.bool true) st)
       (zqb prog n_laws_full [v60] st (fun v69 st =>
       cb v69 fun b_6 => br b_6
        (retR R (.bool true) st)
        (qb (zq0 st true 4 v9) fun v72 =>
        qb (zq1j v25) fun v74 =>
        zqb prog n_impl_DecodeProof [v72, v74] st (fun v75 st =>
        qb (q_ex v75 0) fun v76 =>
        qb (q_ex v75 1) fun v77 =>
        zq8 st [.int .i64 0, .int .i64 0, .sl 0 true [], .sl 0 true []] fun v15 st =>
        zq4 st 4 v15 v76 fun st =>
        qb (zq0 st true 4 v9) fun v81 =>
        qb (zq0 st true 4 v13) fun v82 =>
        zqb prog n_impl_LogicSig [] st (fun v79 st =>
        zq0 st true 4 v13 = some v82 ∧ zq0 st true 4 v9 = some v81 ∧ (zqb prog n_impl_CheckTerm [v79, v54, v81, v82] st (fun v83 st =>
        qb (q_ex v83 0) fun v84 =>
        qb (q_ex v83 1) fun v85 =>
        qb (zqc .eql v50 (.int .i64 0)) fun v87 =>
        cb v87 fun b_7 => br b_7
         (qb (zqc .eql v55 (.int .i64 0)) fun v90 =>
         cb v90 fun b_8 => br b_8
          (qb (zqc .eql v60 (.int .i64 0)) fun v94 =>
          cb v94 fun b_9 => br b_9
           (qb (zqc .eql v77 (.int .i64 0)) fun v98 =>
           cb v98 fun b_10 => br b_10
            (qb (zq0 st true 4 v15) fun v101 =>
            qb (zq0 st true 4 v4) fun v102 =>
            zqb prog n_laws_sameProof [v101, v102] st (fun v103 st =>
            cb v103 fun b_11 => br b_11
             (qb (zqc .eql v84 (.int .i64 0)) fun v107 =>
             cb v107 fun b_12 => br b_12
              (retR R (.bool true) st)
              (zqb prog n_laws_full [v84] st (fun v110 st =>
              retR R v110 st) (panR R)))
             (retR R (.bool false) st)) (panR R))
            (retR R (.bool false) st))
           (retR R (.bool false) st))
          (retR R (.bool false) st))
         (retR R (.bool false) st)) (panR R))) (panR R)) (panR R))) (panR R))) (panR R))) (panR R)) (panR R)) (panR R)) (panR R))) (panR R))) (panR R))) (panR R)) (panR R))
theorem zqjg {a0 : PV} {st : St} {R : Res → St → Prop} (h : zqar a0 st R) : zq5 prog n_laws_FnProofs [a0] st R := hcc (fn := Go.Proofs.Tryz.f3) (ann := []) (by kernel_rfl) (by kernel_rfl) (by kernel_rfl) (by kernel_rfl) h
def zqdp (a0 : PV) (st : St) (R : Res → St → Prop) : Prop :=
 zq8 st [.int .i64 0, .int .i64 0, .sl 0 true [], .sl 0 true []] fun v3 st =>
 zq8 st [.int .i64 0, .int .i64 0, .sl 0 true []] fun v4 st =>
 zqb prog n_spec_l00Source [a0] st (fun v10 st =>
 zqb prog n_spec_l00Src_hyps [v10] st (fun v12 st =>
 zqb prog n_spec_l00Src_next [v10, (.int .i64 5)] st (fun v17 st =>
 zqb prog n_spec_l00Src_proof [v10, v12, v17] st (fun v18 st =>
 qb (q_ex v18 0) fun v19 =>
 qb (q_ex v18 1) fun v20 =>
 zq8 st [.int .i64 0, .int .i64 0, .sl 0 true [], .sl 0 true []] fun v7 st =>
 zq8 st [.int .i64 0, .int .i64 0, .sl 0 true []] fun v8 st =>
 zq4 st 4 v7 v19 fun st =>
 zq4 st 3 v8 v20 fun st =>
 qb (zq0 st true 4 v7) fun v22 =>
 qb (zq0 st true 3 v8) fun v23 =>
 zq4 st 4 v3 v22 fun st =>
 zq0 st true 3 v8 = some v23 ∧ (zq4 st 3 v4 v23 fun st =>
 qb (zq0 st true 4 v3) fun r => qb (zq0 st true 3 v4) fun r_1 => retR R (.tup [v12, r, r_1]) st)) (panR R)) (panR R)) (panR R)) (panR R)
theorem zqmd {a0 : PV} {st : St} {R : Res → St → Prop} (h : zqdp a0 st R) : zq5 prog n_spec_ProofOf [a0] st R := hcc (fn := Go.Proofs.Tryz.f4) (ann := []) (by kernel_rfl) (by kernel_rfl) (by kernel_rfl) (by kernel_rfl) h
def zqdq (a0 : PV) (st : St) (R : Res → St → Prop) : Prop :=
 zq19 st a0 fun v1 st =>
 qb (zq0 st true 4 v1) fun v3 =>
 zqb prog n_spec_l08Count [v3, (.int .i64 150)] st (fun v4 st =>
 qb (zqc .geq v4 (.int .i64 0)) fun v5 =>
 cb v5 fun b => br b
  (qb (zq0 st true 4 v1) fun v7 =>
  zqb prog n_spec_l08Proof [v7] st (fun v8 st =>
  retR R v8 st) (panR R))
  (retR R (.bool false) st)) (panR R)
theorem zqme {a0 : PV} {st : St} {R : Res → St → Prop} (h : zqdq a0 st R) : zq5 prog n_spec_ProofOK [a0] st R := hcc (fn := Go.Proofs.Tryz.f5) (ann := []) (by kernel_rfl) (by kernel_rfl) (by kernel_rfl) (by kernel_rfl) h
def zqg5 (a0 a1 : PV) (st : St) (R : Res → St → Prop) : Prop :=
 zq19 st a0 fun v2 st =>
 zq19 st a1 fun v3 st =>
 zq8 st [.int .i64 0, .int .i64 0, .sl 0 true []] fun v4 st =>
 qb (zq0 st false 1 v2) fun v10 =>
 qb (zq1j v10) fun v11 =>
 qb (zq24 1 1 0 [] [(0, v11)]) fun v12 =>
 zqb prog n_impl_longLists [v12] st (fun v13 st =>
 cb v13 fun b => br b
  (qb (zqe [.int .i64 0, .int .i64 0, .sl 0 true []] []) fun v14 =>
  zq4 st 3 v4 v14 fun st =>
  qb (zq0 st true 3 v4) fun r => retR R (.tup [r, (.int .i64 2), (.int .i64 0)]) st)
  (hJ (fun ls st =>
   cb (ls.getD 0 .junk) fun b_1 => br b_1
    (qb (zqe [.int .i64 0, .int .i64 0, .sl 0 true []] []) fun v24 =>
    zq4 st 3 v4 v24 fun st =>
    qb (zq0 st true 3 v4) fun r_1 => retR R (.tup [r_1, (.int .i64 1), (.int .i64 0)]) st)
    (qb (zqe [.int .i64 0, .int .i64 0, .sl 0 true []] []) fun v25 =>
    zq8 st [.int .i64 0, .int .i64 0, .sl 0 true []] fun v7 st =>
    zq4 st 3 v7 v25 fun st =>
    zqb prog n_impl_caught [(.fn (.func n_impl_Proves_1) [] [v2, v3, v7])] st (fun v27 st =>
    zq8 st [.int .i64 0, .int .i64 0] fun v8 st =>
    zq4 st 2 v8 v27 fun st =>
    qb (q_fa 0 v8) fun v28 =>
    qb (zq0 st false 1 v28) fun v29 =>
    qb (zqc .neq v29 (.int .i64 0)) fun v30 =>
    cb v30 fun b_2 => br b_2
     (qb (zqe [.int .i64 0, .int .i64 0, .sl 0 true []] []) fun v31 =>
     qb (q_fa 0 v8) fun v32 =>
     qb (zq0 st false 1 v32) fun v33 =>
     qb (q_fa 1 v8) fun v34 =>
     qb (zq0 st false 1 v34) fun v35 =>
     zq4 st 3 v4 v31 fun st =>
     zq0 st false 1 v34 = some v35 ∧ zq0 st false 1 v32 = some v33 ∧ (qb (zq0 st true 3 v4) fun r_2 => retR R (.tup [r_2, v33, v35]) st))
     (qb (zq0 st true 3 v7) fun v36 =>
     zqb prog n_impl_cloneForm [v36] st (fun v37 st =>
     zq4 st 3 v4 v37 fun st =>
     qb (zq0 st true 3 v4) fun r_3 => retR R (.tup [r_3, (.int .i64 0), (.int .i64 0)]) st) (panR R))) (panR R)))
   (fun k =>
  qb (zq0 st false 1 v2) fun v16 =>
  zqb prog n_impl_hypsOK [v16] st (fun v17 st =>
  qb (q_un .not v17) fun v18 =>
  cb v18 fun b_3 => br b_3
   (k [(.bool true)] st)
   (qb (zq0 st true 4 v3) fun v20 =>
   zqb prog n_impl_ProofOK [v20] st (fun v21 st =>
   qb (q_un .not v21) fun v22 =>
   k [v22] st) (panR R))) (panR R)))) (panR R)
theorem c_impl_Proves {a0 a1 : PV} {st : St} {R : Res → St → Prop} (h : zqg5 a0 a1 st R) : zq5 prog n_impl_Proves [a0, a1] st R := hcc (fn := Go.Proofs.Tryz.f6) (ann := [(13, [15])]) (by kernel_rfl) (by kernel_rfl) (by kernel_rfl) (by kernel_rfl) h
def zqaq (a0 a1 : PV) (st : St) (R : Res → St → Prop) : Prop :=
 zq19 st a0 fun v2 st =>
 zq19 st a1 fun v3 st =>
 qb (q_fa 0 v2) fun v6 =>
 qb (zq0 st false 1 v6) fun v7 =>
 qb (q_fa 0 v3) fun v8 =>
 qb (zq0 st false 1 v8) fun v9 =>
 qb (zqc .neq v7 v9) fun v10 =>
 cb v10 fun b => br b
  (retR R (.bool false) st)
  (qb (q_fa 1 v2) fun v12 =>
  qb (zq0 st false 1 v12) fun v13 =>
  qb (q_fa 1 v3) fun v14 =>
  qb (zq0 st false 1 v14) fun v15 =>
  qb (zqc .neq v13 v15) fun v16 =>
  cb v16 fun b_1 => br b_1
   (retR R (.bool false) st)
   (qb (q_fa 2 v2) fun v19 =>
   qb (zq0 st false 1 v19) fun v20 =>
   qb (zq1j v20) fun v21 =>
   qb (q_fa 2 v3) fun v22 =>
   qb (zq0 st false 1 v22) fun v23 =>
   qb (zq1j v23) fun v24 =>
   qb (zqc .neq v21 v24) fun v25 =>
   cb v25 fun b_2 => br b_2
    (retR R (.bool false) st)
    (hFix (fun ls st X =>
     qb (q_fa 2 v2) fun v28 =>
     qb (zq0 st false 1 v28) fun v29 =>
     qb (zq1j v29) fun v30 =>
     qb (zqc .lss (ls.getD 0 .junk) v30) fun v31 =>
     cb v31 fun b_3 => br b_3
      (qb (q_fa 2 v2) fun v34 =>
      qb (zq0 st false 1 v34) fun v35 =>
      qb (q_ia 3 v35 (ls.getD 0 .junk)) fun v37 =>
      qb (zq0 st true 3 v37) fun v38 =>
      qb (q_fa 2 v3) fun v39 =>
      qb (zq0 st false 1 v39) fun v40 =>
      qb (q_ia 3 v40 (ls.getD 0 .junk)) fun v42 =>
      qb (zq0 st true 3 v42) fun v43 =>
      zqb prog n_laws_sameForm [v38, v43] st (fun v44 st =>
      qb (q_un .not v44) fun v45 =>
      cb v45 fun b_4 => br b_4
       (retR R (.bool false) st)
       (qb (zqc .add (ls.getD 0 .junk) (.int .i64 1)) fun v33 =>
       X [v33] st)) (panR R))
      (retR R (.bool true) st))
     [(.int .i64 0)] st)))
theorem zqjf {a0 a1 : PV} {st : St} {R : Res → St → Prop} (h : zqaq a0 a1 st R) : zq5 prog n_laws_sameForm [a0, a1] st R := hcc (fn := Go.Proofs.Tryz.f7) (ann := [(16, [5])]) (by kernel_rfl) (by kernel_rfl) (by kernel_rfl) (by kernel_rfl) h
def zq7r (a0 : PV) (st : St) (R : Res → St → Prop) : Prop :=
 zq19 st a0 fun v1 st =>
 zq8 st [.int .i64 0, .int .i64 0, .str [], .sl 0 true []] fun v2 st =>
 qb (zq0 st true 4 v1) fun v4 =>
 zqb prog n_impl_ProofOK [v4] st (fun v5 st =>
 zqb prog n_impl_encoded [v5, (.fn (.func n_impl_EncodeProof_1) [] [v1])] st (fun v7 st =>
 qb (q_ex v7 0) fun v8 =>
 qb (q_ex v7 1) fun v9 =>
 zq4 st 4 v2 v8 fun st =>
 qb (zq0 st true 4 v2) fun r => retR R (.tup [r, v9]) st) (panR R)) (panR R)
theorem zqf4 {a0 : PV} {st : St} {R : Res → St → Prop} (h : zq7r a0 st R) : zq5 prog n_impl_EncodeProof [a0] st R := hcc (fn := Go.Proofs.Tryz.f8) (ann := []) (by kernel_rfl) (by kernel_rfl) (by kernel_rfl) (by kernel_rfl) h
def zq8k (a0 : PV) (st : St) (R : Res → St → Prop) : Prop :=
 qb (zq1j a0) fun v9 =>
 qb (zq24 1 1 0 [] [(0, v9)]) fun v10 =>
 zqb prog n_impl_longLists [v10] st (fun v11 st =>
 cb v11 fun b => br b
  (retR R (.tup [(.sl 0 true []), (.int .i64 2)]) st)
  (zqb prog n_impl_hypsOK [a0] st (fun v14 st =>
  qb (q_un .not v14) fun v15 =>
  cb v15 fun b_1 => br b_1
   (retR R (.tup [(.sl 0 true []), (.int .i64 1)]) st)
   (qb (zq24 4 0 0 [] []) fun v16 =>
   qb (zq1j a0) fun v18 =>
   hJ (fun ls st =>
    zqb prog n_slices_ContainsFunc_impl_Tree_impl_Tree [(ls.getD 0 .junk), (.fn (.func n_impl_tooBig) [] [])] st (fun v30 st =>
    cb v30 fun b_2 => br b_2
     (retR R (.tup [(.sl 0 true []), (.int .i64 11)]) st)
     (retR R (.tup [(ls.getD 0 .junk), (.int .i64 0)]) st)) (panR R))
    (fun k =>
   hFix (fun ls_1 st X =>
    qb (zqc .lss (ls_1.getD 1 .junk) v18) fun v20 =>
    cb v20 fun b_3 => br b_3
     (qb (q_ia 3 a0 (ls_1.getD 1 .junk)) fun v21 =>
     qb (zq0 st true 3 v21) fun v22 =>
     zq8 st [.int .i64 0, .int .i64 0, .sl 0 true []] fun v6 st =>
     zq4 st 3 v6 v22 fun st =>
     qb (zq0 st true 3 v6) fun v24 =>
     zqb prog n_impl_judgement [v24] st (fun v25 st =>
     qb (zq24 4 1 0 [] [(0, v25)]) fun v26 =>
     zqo st 4 56 (ls_1.getD 0 .junk) v26 (fun v27 st =>
     qb (zqc .add (ls_1.getD 1 .junk) (.int .i64 1)) fun v28 =>
     X [v27, v28] st)) (panR R))
     (k [(ls_1.getD 0 .junk)] st))
    [v16, (.int .i64 0)] st))) (panR R))) (panR R)
theorem zqgq {a0 : PV} {st : St} {R : Res → St → Prop} (h : zq8k a0 st R) : zq5 prog n_impl_EncodeHyps [a0] st R := hcc (fn := Go.Proofs.Tryz.f9) (ann := [(28, [4, 19]), (7, [4])]) (by kernel_rfl) (by kernel_rfl) (by kernel_rfl) (by kernel_rfl) h
def zq9p (a0 : PV) (st : St) (R : Res → St → Prop) : Prop :=
 zq19 st a0 fun v1 st =>
 zq8 st [.int .i64 0, .int .i64 0, .str [], .sl 0 true []] fun v2 st =>
 qb (zq0 st true 3 v1) fun v4 =>
 zqb prog n_impl_FormOK [v4] st (fun v5 st =>
 zqb prog n_impl_encoded [v5, (.fn (.func n_impl_Judgement_1) [] [v1])] st (fun v7 st =>
 qb (q_ex v7 0) fun v8 =>
 qb (q_ex v7 1) fun v9 =>
 zq4 st 4 v2 v8 fun st =>
 qb (zq0 st true 4 v2) fun r => retR R (.tup [r, v9]) st) (panR R)) (panR R)
theorem zqih {a0 : PV} {st : St} {R : Res → St → Prop} (h : zq9p a0 st R) : zq5 prog n_impl_Judgement [a0] st R := hcc (fn := Go.Proofs.Tryz.f10) (ann := []) (by kernel_rfl) (by kernel_rfl) (by kernel_rfl) (by kernel_rfl) h
def zql5 (a0 : PV) (st : St) (R : Res → St → Prop) : Prop :=
 qb (zqc .eql a0 (.int .i64 11)) fun v4 =>
 cb v4 fun b => br b
  (retR R (.bool true) st)
  (qb (zqc .eql a0 (.int .i64 17)) fun v7 =>
  retR R v7 st)
theorem c_laws_full {a0 : PV} {st : St} {R : Res → St → Prop} (h : zql5 a0 st R) : zq5 prog n_laws_full [a0] st R := hcc (fn := Go.Proofs.Tryz.f11) (ann := []) (by kernel_rfl) (by kernel_rfl) (by kernel_rfl) (by kernel_rfl) h
def zq7s (a0 a1 : PV) (st : St) (R : Res → St → Prop) : Prop :=
 zq19 st a0 fun v2 st =>
 zq19 st a1 fun v3 st =>
 zq8 st [.int .i64 0, .int .i64 0, .sl 0 true [], .sl 0 true []] fun v4 st =>
 qb (zq0 st true 4 v2) fun v9 =>
 zqb prog n_impl_badTerm [v9] st (fun v10 st =>
 cb v10 fun b => br b
  (qb (zqe [.int .i64 0, .int .i64 0, .sl 0 true [], .sl 0 true []] []) fun v11 =>
  zq4 st 4 v4 v11 fun st =>
  qb (zq0 st true 4 v4) fun r => retR R (.tup [r, (.int .i64 1)]) st)
  (qb (zq0 st false 1 v3) fun v13 =>
  zqb prog n_impl_in [v13, (.int .i64 0), (.int .i64 12)] st (fun v14 st =>
  qb (q_un .not v14) fun v15 =>
  cb v15 fun b_1 => br b_1
   (qb (zqe [.int .i64 0, .int .i64 0, .sl 0 true [], .sl 0 true []] []) fun v16 =>
   zq4 st 4 v4 v16 fun st =>
   qb (zq0 st true 4 v4) fun r_1 => retR R (.tup [r_1, (.int .i64 16)]) st)
   (qb (zqe [.int .i64 0, .int .i64 0, .sl 0 true [], .sl 0 true []] []) fun v17 =>
   zq8 st [.int .i64 0, .int .i64 0, .sl 0 true [], .sl 0 true []] fun v6 st =>
   zq4 st 4 v6 v17 fun st =>
   zqb prog n_impl_caught [(.fn (.func n_impl_DecodeProof_1) [] [v2, v3, v6])] st (fun v19 st =>
   zq8 st [.int .i64 0, .int .i64 0] fun v7 st =>
   zq4 st 2 v7 v19 fun st =>
   qb (q_fa 0 v7) fun v20 =>
   qb (zq0 st false 1 v20) fun v21 =>
   qb (zqc .neq v21 (.int .i64 0)) fun v22 =>
   cb v22 fun b_2 => br b_2
    (qb (zqe [.int .i64 0, .int .i64 0, .sl 0 true [], .sl 0 true []] []) fun v23 =>
    qb (q_fa 0 v7) fun v24 =>
    qb (zq0 st false 1 v24) fun v25 =>
    zq4 st 4 v4 v23 fun st =>
    zq0 st false 1 v24 = some v25 ∧ (qb (zq0 st true 4 v4) fun r_2 => retR R (.tup [r_2, v25]) st))
    (qb (zq0 st true 4 v6) fun v26 =>
    zq4 st 4 v4 v26 fun st =>
    qb (zq0 st true 4 v4) fun r_3 => retR R (.tup [r_3, (.int .i64 0)]) st)) (panR R))) (panR R))) (panR R)
theorem zqf5 {a0 a1 : PV} {st : St} {R : Res → St → Prop} (h : zq7s a0 a1 st R) : zq5 prog n_impl_DecodeProof [a0, a1] st R := hcc (fn := Go.Proofs.Tryz.f12) (ann := []) (by kernel_rfl) (by kernel_rfl) (by kernel_rfl) (by kernel_rfl) h
def zq9q (a0 a1 a2 a3 : PV) (st : St) (R : Res → St → Prop) : Prop :=
 zq19 st a0 fun v4 st =>
 zq19 st a1 fun v5 st =>
 zq19 st a2 fun v6 st =>
 zq19 st a3 fun v7 st =>
 qb (zq0 st false 1 v4) fun v10 =>
 qb (zq0 st false 1 v5) fun v11 =>
 zqb prog n_impl_checked [v10, v11, (.fn (.func n_impl_CheckTerm_1) [] [v6, v4, v5, v7]), (.fn (.func n_impl_CheckTerm_2) [] [v5, v6, v7])] st (fun v14 st =>
 qb (q_ex v14 0) fun v15 =>
 qb (q_ex v14 1) fun v16 =>
 retR R (.tup [v15, v16]) st) (panR R)
theorem zqii {a0 a1 a2 a3 : PV} {st : St} {R : Res → St → Prop} (h : zq9q a0 a1 a2 a3 st R) : zq5 prog n_impl_CheckTerm [a0, a1, a2, a3] st R := hcc (fn := Go.Proofs.Tryz.f13) (ann := []) (by kernel_rfl) (by kernel_rfl) (by kernel_rfl) (by kernel_rfl) h
def zqbe (st : St) (R : Res → St → Prop) : Prop :=
 zqb prog n_impl_builtIn [(.str [111, 32, 58, 32, 116, 121, 112, 101, 10, 112, 48, 32, 58, 32, 111, 10, 112, 49, 32, 58, 32, 111, 10, 112, 50, 32, 58, 32, 111, 10, 112, 51, 32, 58, 32, 111, 10, 112, 52, 32, 58, 32, 111, 10, 112, 53, 32, 58, 32, 111, 10, 98, 111, 116, 32, 58, 32, 111, 10, 97, 110, 100, 32, 58, 32, 111, 32, 45, 62, 32, 111, 32, 45, 62, 32, 111, 10, 105, 109, 112, 32, 58, 32, 111, 32, 45, 62, 32, 111, 32, 45, 62, 32, 111, 10, 112, 102, 32, 58, 32, 111, 32, 45, 62, 32, 116, 121, 112, 101, 10, 97, 110, 100, 73, 32, 58, 32, 123, 120, 48, 58, 111, 125, 32, 123, 120, 49, 58, 111, 125, 32, 112, 102, 32, 120, 48, 32, 45, 62, 32, 112, 102, 32, 120, 49, 32, 45, 62, 32, 112, 102, 32, 40, 97, 110, 100, 32, 120, 48, 32, 120, 49, 41, 10, 102, 115, 116, 32, 58, 32, 123, 120, 48, 58, 111, 125, 32, 123, 120, 49, 58, 111, 125, 32, 112, 102, 32, 40, 97, 110, 100, 32, 120, 48, 32, 120, 49, 41, 32, 45, 62, 32, 112, 102, 32, 120, 48, 10, 115, 110, 100, 32, 58, 32, 123, 120, 48, 58, 111, 125, 32, 123, 120, 49, 58, 111, 125, 32, 112, 102, 32, 40, 97, 110, 100, 32, 120, 48, 32, 120, 49, 41, 32, 45, 62, 32, 112, 102, 32, 120, 49, 10, 102, 117, 110, 73, 32, 58, 32, 123, 120, 48, 58, 111, 125, 32, 123, 120, 49, 58, 111, 125, 32, 40, 112, 102, 32, 120, 48, 32, 45, 62, 32, 112, 102, 32, 120, 49, 41, 32, 45, 62, 32, 112, 102, 32, 40, 105, 109, 112, 32, 120, 48, 32, 120, 49, 41, 10, 117, 115, 101, 32, 58, 32, 123, 120, 48, 58, 111, 125, 32, 123, 120, 49, 58, 111, 125, 32, 112, 102, 32, 40, 105, 109, 112, 32, 120, 48, 32, 120, 49, 41, 32, 45, 62, 32, 112, 102, 32, 120, 48, 32, 45, 62, 32, 112, 102, 32, 120, 49, 10, 98, 111, 116, 69, 32, 58, 32, 123, 120, 48, 58, 111, 125, 32, 112, 102, 32, 98, 111, 116, 32, 45, 62, 32, 112, 102, 32, 120, 48, 10])] st (fun v1 st =>
 retR R v1 st) (panR R)
theorem zqk3 {st : St} {R : Res → St → Prop} (h : zqbe  st R) : zq5 prog n_impl_LogicSig [] st R := hcc (fn := Go.Proofs.Tryz.f14) (ann := []) (by kernel_rfl) (by kernel_rfl) (by kernel_rfl) (by kernel_rfl) h
def zq9f (a0 a1 : PV) (st : St) (R : Res → St → Prop) : Prop :=
 zq19 st a0 fun v2 st =>
 zq19 st a1 fun v3 st =>
 qb (q_fa 0 v2) fun v7 =>
 qb (zq0 st false 1 v7) fun v8 =>
 qb (q_fa 0 v3) fun v9 =>
 qb (zq0 st false 1 v9) fun v10 =>
 qb (zqc .neq v8 v10) fun v11 =>
 cb v11 fun b => br b
  (retR R (.bool false) st)
  (qb (q_fa 1 v2) fun v13 =>
  qb (zq0 st false 1 v13) fun v14 =>
  qb (q_fa 1 v3) fun v15 =>
  qb (zq0 st false 1 v15) fun v16 =>
  qb (zqc .neq v14 v16) fun v17 =>
  cb v17 fun b_1 => br b_1
   (retR R (.bool false) st)
   (qb (q_fa 2 v2) fun v20 =>
   qb (zq0 st false 1 v20) fun v21 =>
   qb (zq1j v21) fun v22 =>
   qb (q_fa 2 v3) fun v23 =>
   qb (zq0 st false 1 v23) fun v24 =>
   qb (zq1j v24) fun v25 =>
   qb (zqc .neq v22 v25) fun v26 =>
   cb v26 fun b_2 => br b_2
    (retR R (.bool false) st)
    (qb (q_fa 3 v2) fun v29 =>
    qb (zq0 st false 1 v29) fun v30 =>
    qb (zq1j v30) fun v31 =>
    qb (q_fa 3 v3) fun v32 =>
    qb (zq0 st false 1 v32) fun v33 =>
    qb (zq1j v33) fun v34 =>
    qb (zqc .neq v31 v34) fun v35 =>
    cb v35 fun b_3 => br b_3
     (retR R (.bool false) st)
     (hFix (fun ls st X =>
      qb (q_fa 2 v2) fun v38 =>
      qb (zq0 st false 1 v38) fun v39 =>
      qb (zq1j v39) fun v40 =>
      qb (zqc .lss (ls.getD 0 .junk) v40) fun v41 =>
      cb v41 fun b_4 => br b_4
       (qb (q_fa 2 v2) fun v44 =>
       qb (zq0 st false 1 v44) fun v45 =>
       qb (q_ia 3 v45 (ls.getD 0 .junk)) fun v47 =>
       qb (zq0 st true 3 v47) fun v48 =>
       qb (q_fa 2 v3) fun v49 =>
       qb (zq0 st false 1 v49) fun v50 =>
       qb (q_ia 3 v50 (ls.getD 0 .junk)) fun v52 =>
       qb (zq0 st true 3 v52) fun v53 =>
       zqb prog n_laws_sameForm [v48, v53] st (fun v54 st =>
       qb (q_un .not v54) fun v55 =>
       cb v55 fun b_5 => br b_5
        (retR R (.bool false) st)
        (qb (zqc .add (ls.getD 0 .junk) (.int .i64 1)) fun v43 =>
        X [v43] st)) (panR R))
       (hFix (fun ls_1 st X_1 =>
        qb (q_fa 3 v2) fun v57 =>
        qb (zq0 st false 1 v57) fun v58 =>
        qb (zq1j v58) fun v59 =>
        qb (zqc .lss (ls_1.getD 0 .junk) v59) fun v60 =>
        cb v60 fun b_6 => br b_6
         (qb (q_fa 3 v2) fun v63 =>
         qb (zq0 st false 1 v63) fun v64 =>
         qb (q_ia 4 v64 (ls_1.getD 0 .junk)) fun v66 =>
         qb (zq0 st true 4 v66) fun v67 =>
         qb (q_fa 3 v3) fun v68 =>
         qb (zq0 st false 1 v68) fun v69 =>
         qb (q_ia 4 v69 (ls_1.getD 0 .junk)) fun v71 =>
         qb (zq0 st true 4 v71) fun v72 =>
         zqb prog n_laws_sameProof [v67, v72] st (fun v73 st =>
         qb (q_un .not v73) fun v74 =>
         cb v74 fun b_7 => br b_7
          (retR R (.bool false) st)
          (qb (zqc .add (ls_1.getD 0 .junk) (.int .i64 1)) fun v62 =>
          X_1 [v62] st)) (panR R))
         (retR R (.bool true) st))
        [(.int .i64 0)] st))
      [(.int .i64 0)] st))))
theorem zqi7 {a0 a1 : PV} {st : St} {R : Res → St → Prop} (h : zq9f a0 a1 st R) : zq5 prog n_laws_sameProof [a0, a1] st R := hcc (fn := Go.Proofs.Tryz.f15) (ann := [(36, [6]), (16, [5])]) (by kernel_rfl) (by kernel_rfl) (by kernel_rfl) (by kernel_rfl) h
def zq9e (a0 : PV) (st : St) (R : Res → St → Prop) : Prop :=
 qb (zq1j a0) fun v5 =>
 qb (zqc .rem v5 (.int .i64 1000)) fun v6 =>
 qb (zqe [.sl 0 true [], .int .i64 0, .int .i64 0] [(0, 1, a0), (2, 1, v6)]) fun v7 =>
 zq19 st v7 fun v8 st =>
 retR R v8 st
theorem zqi6 {a0 : PV} {st : St} {R : Res → St → Prop} (h : zq9e a0 st R) : zq5 prog n_spec_l00Source [a0] st R := hcc (fn := Go.Proofs.Tryz.f16) (ann := []) (by kernel_rfl) (by kernel_rfl) (by kernel_rfl) (by kernel_rfl) h
def zq7c (a0 : PV) (st : St) (R : Res → St → Prop) : Prop :=
 qb (zq24 3 0 0 [] []) fun v5 =>
 zqb prog n_spec_l00Src_next [a0, (.int .i64 4)] st (fun v7 st =>
 hFix (fun ls st X =>
  qb (zqc .gtr (ls.getD 1 .junk) (.int .i64 0)) fun v9 =>
  cb v9 fun b => br b
   (zqb prog n_spec_l00Src_next [a0, (.int .i64 3)] st (fun v15 st =>
   zqb prog n_spec_l00Src_form [a0, v15] st (fun v16 st =>
   qb (zq24 3 1 0 [] [(0, v16)]) fun v17 =>
   zqo st 3 40 (ls.getD 0 .junk) v17 (fun v18 st =>
   qb (zqc .sub (ls.getD 1 .junk) (.int .i64 1)) fun v11 =>
   X [v18, v11] st)) (panR R)) (panR R))
   (retR R (ls.getD 0 .junk) st))
  [v5, v7] st) (panR R)
theorem zqep {a0 : PV} {st : St} {R : Res → St → Prop} (h : zq7c a0 st R) : zq5 prog n_spec_l00Src_hyps [a0] st R := hcc (fn := Go.Proofs.Tryz.f17) (ann := [(12, [3, 4])]) (by kernel_rfl) (by kernel_rfl) (by kernel_rfl) (by kernel_rfl) h
def zq6a (a0 a1 a2 : PV) (st : St) (R : Res → St → Prop) : Prop :=
 zq8 st [.int .i64 0, .int .i64 0, .sl 0 true [], .sl 0 true []] fun v6 st =>
 zq8 st [.int .i64 0, .int .i64 0, .sl 0 true []] fun v7 st =>
 hJ (fun ls st =>
  cb (ls.getD 0 .junk) fun b => br b
   (qb (zq1j a1) fun v34 =>
   zqb prog n_spec_l00Src_next [a0, v34] st (fun v35 st =>
   qb (zqe [.int .i64 0, .int .i64 0, .sl 0 true [], .sl 0 true []] [(0, 1, (.int .i64 1)), (1, 1, v35)]) fun v37 =>
   qb (zq1j a1) fun v40 =>
   qb (zqc .sub v40 (.int .i64 1)) fun v41 =>
   qb (zqc .sub v41 v35) fun v43 =>
   qb (q_ia 3 a1 v43) fun v44 =>
   qb (zq0 st true 3 v44) fun v45 =>
   zq4 st 4 v6 v37 fun st =>
   zq0 st true 3 v44 = some v45 ∧ (zq4 st 3 v7 v45 fun st =>
   qb (zq0 st true 4 v6) fun r => qb (zq0 st true 3 v7) fun r_1 => retR R (.tup [r, r_1]) st)) (panR R))
   (qb (zqc .gtr a2 (.int .i64 0)) fun v47 =>
   hJ (fun ls_1 st =>
    qb (zqc .eql (ls_1.getD 0 .junk) (.int .i64 0)) fun v52 =>
    cb v52 fun b_2 => br b_2
     (qb (zqc .sub a2 (.int .i64 1)) fun v57 =>
     zqb prog n_spec_l00Src_proof [a0, a1, v57] st (fun v58 st =>
     qb (q_ex v58 0) fun v59 =>
     qb (q_ex v58 1) fun v60 =>
     zq8 st [.int .i64 0, .int .i64 0, .sl 0 true [], .sl 0 true []] fun v10 st =>
     zq8 st [.int .i64 0, .int .i64 0, .sl 0 true []] fun v11 st =>
     zq4 st 4 v10 v59 fun st =>
     zq4 st 3 v11 v60 fun st =>
     qb (zqc .sub a2 (.int .i64 2)) fun v65 =>
     zqb prog n_spec_l00Src_proof [a0, a1, v65] st (fun v66 st =>
     qb (q_ex v66 0) fun v67 =>
     qb (q_ex v66 1) fun v68 =>
     zq8 st [.int .i64 0, .int .i64 0, .sl 0 true [], .sl 0 true []] fun v12 st =>
     zq8 st [.int .i64 0, .int .i64 0, .sl 0 true []] fun v13 st =>
     zq4 st 4 v12 v67 fun st =>
     zq4 st 3 v13 v68 fun st =>
     qb (zq0 st true 3 v11) fun v69 =>
     qb (zq0 st true 3 v13) fun v70 =>
     qb (zq24 3 2 0 [] [(0, v69), (1, v70)]) fun v71 =>
     qb (zq0 st true 4 v10) fun v72 =>
     qb (zq0 st true 4 v12) fun v73 =>
     qb (zq24 4 2 0 [] [(0, v72), (1, v73)]) fun v74 =>
     qb (zqe [.int .i64 0, .int .i64 0, .sl 0 true [], .sl 0 true []] [(0, 1, (.int .i64 2)), (2, 1, v71), (3, 1, v74)]) fun v75 =>
     qb (zq0 st true 3 v11) fun v76 =>
     qb (zq0 st true 3 v13) fun v77 =>
     zqb prog n_spec_l08Two [(.int .i64 2), v76, v77] st (fun v78 st =>
     zq0 st true 4 v12 = some v73 ∧ zq0 st true 4 v10 = some v72 ∧ zq0 st true 3 v13 = some v70 ∧ zq0 st true 3 v11 = some v69 ∧ (zq4 st 4 v6 v75 fun st =>
     zq4 st 3 v7 v78 fun st =>
     qb (zq0 st true 4 v6) fun r_2 => qb (zq0 st true 3 v7) fun r_3 => retR R (.tup [r_2, r_3]) st)) (panR R)) (panR R)) (panR R))
     (qb (zqc .eql (ls_1.getD 0 .junk) (.int .i64 1)) fun v80 =>
     cb v80 fun b_3 => br b_3
      (qb (zqc .sub a2 (.int .i64 1)) fun v85 =>
      zqb prog n_spec_l00Src_proof [a0, a1, v85] st (fun v86 st =>
      qb (q_ex v86 0) fun v87 =>
      qb (q_ex v86 1) fun v88 =>
      zq8 st [.int .i64 0, .int .i64 0, .sl 0 true [], .sl 0 true []] fun v14 st =>
      zq8 st [.int .i64 0, .int .i64 0, .sl 0 true []] fun v15 st =>
      zq4 st 4 v14 v87 fun st =>
      zq4 st 3 v15 v88 fun st =>
      qb (q_fa 0 v15) fun v89 =>
      qb (zq0 st false 1 v89) fun v90 =>
      qb (zqc .eql v90 (.int .i64 2)) fun v91 =>
      cb v91 fun b_4 => br b_4
       (zqb prog n_spec_l00Src_next [a0, (.int .i64 2)] st (fun v93 st =>
       qb (zqc .add (.int .i64 3) v93) fun v95 =>
       qb (q_fa 2 v15) fun v96 =>
       qb (zq0 st false 1 v96) fun v97 =>
       qb (q_ia 3 v97 (.int .i64 0)) fun v98 =>
       qb (zq0 st true 3 v98) fun v99 =>
       qb (q_fa 2 v15) fun v100 =>
       qb (zq0 st false 1 v100) fun v101 =>
       qb (q_ia 3 v101 (.int .i64 1)) fun v102 =>
       qb (zq0 st true 3 v102) fun v103 =>
       qb (zq24 3 2 0 [] [(0, v99), (1, v103)]) fun v104 =>
       qb (zq0 st true 4 v14) fun v105 =>
       qb (zq24 4 1 0 [] [(0, v105)]) fun v106 =>
       qb (zqe [.int .i64 0, .int .i64 0, .sl 0 true [], .sl 0 true []] [(0, 1, v95), (2, 1, v104), (3, 1, v106)]) fun v107 =>
       qb (q_fa 2 v15) fun v108 =>
       qb (zq0 st false 1 v108) fun v109 =>
       qb (q_ia 3 v109 v93) fun v111 =>
       qb (zq0 st true 3 v111) fun v112 =>
       zq4 st 4 v6 v107 fun st =>
       zq0 st true 3 v111 = some v112 ∧ zq0 st false 1 v108 = some v109 ∧ (zq4 st 3 v7 v112 fun st =>
       qb (zq0 st true 4 v6) fun r_4 => qb (zq0 st true 3 v7) fun r_5 => retR R (.tup [r_4, r_5]) st)) (panR R))
       (qb (q_fa 0 v15) fun v113 =>
       qb (zq0 st false 1 v113) fun v114 =>
       qb (zqc .eql v114 (.int .i64 4)) fun v115 =>
       cb v115 fun b_5 => br b_5
        (zqb prog n_spec_l00Src_form [a0, (.int .i64 1)] st (fun v117 st =>
        zq8 st [.int .i64 0, .int .i64 0, .sl 0 true []] fun v17 st =>
        zq4 st 3 v17 v117 fun st =>
        qb (zq0 st true 3 v17) fun v118 =>
        qb (zq24 3 1 0 [] [(0, v118)]) fun v119 =>
        qb (zq0 st true 4 v14) fun v120 =>
        qb (zq24 4 1 0 [] [(0, v120)]) fun v121 =>
        qb (zqe [.int .i64 0, .int .i64 0, .sl 0 true [], .sl 0 true []] [(0, 1, (.int .i64 7)), (2, 1, v119), (3, 1, v121)]) fun v122 =>
        qb (zq0 st true 3 v17) fun v123 =>
        zq4 st 4 v6 v122 fun st =>
        zq0 st true 3 v17 = some v123 ∧ (zq4 st 3 v7 v123 fun st =>
        qb (zq0 st true 4 v6) fun r_6 => qb (zq0 st true 3 v7) fun r_7 => retR R (.tup [r_6, r_7]) st)) (panR R))
        (qb (zq0 st true 4 v14) fun v124 =>
        qb (zq0 st true 3 v15) fun v125 =>
        zq4 st 4 v6 v124 fun st =>
        zq0 st true 3 v15 = some v125 ∧ (zq4 st 3 v7 v125 fun st =>
        qb (zq0 st true 4 v6) fun r_8 => qb (zq0 st true 3 v7) fun r_9 => retR R (.tup [r_8, r_9]) st)))) (panR R))
      (qb (zqc .eql (ls_1.getD 0 .junk) (.int .i64 2)) fun v127 =>
      cb v127 fun b_6 => br b_6
       (qb (zqc .sub a2 (.int .i64 1)) fun v132 =>
       zqb prog n_spec_l00Src_proof [a0, a1, v132] st (fun v133 st =>
       qb (q_ex v133 0) fun v134 =>
       qb (q_ex v133 1) fun v135 =>
       zq8 st [.int .i64 0, .int .i64 0, .sl 0 true [], .sl 0 true []] fun v18 st =>
       zq8 st [.int .i64 0, .int .i64 0, .sl 0 true []] fun v19 st =>
       zq4 st 4 v18 v134 fun st =>
       zq4 st 3 v19 v135 fun st =>
       qb (zqc .sub a2 (.int .i64 2)) fun v140 =>
       zqb prog n_spec_l00Src_proof [a0, a1, v140] st (fun v141 st =>
       qb (q_ex v141 0) fun v142 =>
       qb (q_ex v141 1) fun v143 =>
       zq8 st [.int .i64 0, .int .i64 0, .sl 0 true [], .sl 0 true []] fun v20 st =>
       zq8 st [.int .i64 0, .int .i64 0, .sl 0 true []] fun v21 st =>
       zq4 st 4 v20 v142 fun st =>
       zq4 st 3 v21 v143 fun st =>
       hJ (fun ls_2 st =>
        cb (ls_2.getD 0 .junk) fun b_7 => br b_7
         (qb (zq0 st true 3 v21) fun v155 =>
         qb (q_fa 2 v19) fun v156 =>
         qb (zq0 st false 1 v156) fun v157 =>
         qb (q_ia 3 v157 (.int .i64 1)) fun v158 =>
         qb (zq0 st true 3 v158) fun v159 =>
         qb (zq24 3 2 0 [] [(0, v155), (1, v159)]) fun v160 =>
         qb (zq0 st true 4 v18) fun v161 =>
         qb (zq0 st true 4 v20) fun v162 =>
         qb (zq24 4 2 0 [] [(0, v161), (1, v162)]) fun v163 =>
         qb (zqe [.int .i64 0, .int .i64 0, .sl 0 true [], .sl 0 true []] [(0, 1, (.int .i64 6)), (2, 1, v160), (3, 1, v163)]) fun v164 =>
         qb (q_fa 2 v19) fun v165 =>
         qb (zq0 st false 1 v165) fun v166 =>
         qb (q_ia 3 v166 (.int .i64 1)) fun v167 =>
         qb (zq0 st true 3 v167) fun v168 =>
         zq4 st 4 v6 v164 fun st =>
         zq0 st true 3 v167 = some v168 ∧ zq0 st false 1 v165 = some v166 ∧ (zq4 st 3 v7 v168 fun st =>
         qb (zq0 st true 4 v6) fun r_10 => qb (zq0 st true 3 v7) fun r_11 => retR R (.tup [r_10, r_11]) st))
         (qb (zq0 st true 4 v18) fun v169 =>
         qb (zq0 st true 3 v19) fun v170 =>
         zq4 st 4 v6 v169 fun st =>
         zq0 st true 3 v19 = some v170 ∧ (zq4 st 3 v7 v170 fun st =>
         qb (zq0 st true 4 v6) fun r_12 => qb (zq0 st true 3 v7) fun r_13 => retR R (.tup [r_12, r_13]) st)))
        (fun k_2 =>
       qb (q_fa 0 v19) fun v144 =>
       qb (zq0 st false 1 v144) fun v145 =>
       qb (zqc .eql v145 (.int .i64 3)) fun v146 =>
       cb v146 fun b_8 => br b_8
        (qb (q_fa 2 v19) fun v148 =>
        qb (zq0 st false 1 v148) fun v149 =>
        qb (q_ia 3 v149 (.int .i64 0)) fun v150 =>
        qb (zq0 st true 3 v150) fun v151 =>
        qb (zq0 st true 3 v21) fun v152 =>
        zqb prog n_spec_l08Same [v151, v152] st (fun v153 st =>
        k_2 [v153] st) (panR R))
        (k_2 [(.bool false)] st))) (panR R)) (panR R))
       (zqb prog n_spec_l00Src_next [a0, (.int .i64 2)] st (fun v173 st =>
       zqb prog n_spec_l00Src_form [a0, v173] st (fun v174 st =>
       zq8 st [.int .i64 0, .int .i64 0, .sl 0 true []] fun v22 st =>
       zq4 st 3 v22 v174 fun st =>
       qb (zq0 st true 3 v22) fun v178 =>
       zqb prog n_spec_l08More [a1, v178] st (fun v179 st =>
       qb (zqc .sub a2 (.int .i64 1)) fun v181 =>
       zqb prog n_spec_l00Src_proof [a0, v179, v181] st (fun v182 st =>
       qb (q_ex v182 0) fun v183 =>
       qb (q_ex v182 1) fun v184 =>
       zq8 st [.int .i64 0, .int .i64 0, .sl 0 true [], .sl 0 true []] fun v23 st =>
       zq8 st [.int .i64 0, .int .i64 0, .sl 0 true []] fun v24 st =>
       zq4 st 4 v23 v183 fun st =>
       zq4 st 3 v24 v184 fun st =>
       qb (zq0 st true 3 v22) fun v185 =>
       qb (zq0 st true 3 v24) fun v186 =>
       qb (zq24 3 2 0 [] [(0, v185), (1, v186)]) fun v187 =>
       qb (zq0 st true 4 v23) fun v188 =>
       qb (zq24 4 1 0 [] [(0, v188)]) fun v189 =>
       qb (zqe [.int .i64 0, .int .i64 0, .sl 0 true [], .sl 0 true []] [(0, 1, (.int .i64 5)), (2, 1, v187), (3, 1, v189)]) fun v190 =>
       qb (zq0 st true 3 v22) fun v191 =>
       qb (zq0 st true 3 v24) fun v192 =>
       zqb prog n_spec_l08Two [(.int .i64 3), v191, v192] st (fun v193 st =>
       zq0 st true 4 v23 = some v188 ∧ zq0 st true 3 v24 = some v186 ∧ zq0 st true 3 v22 = some v185 ∧ (zq4 st 4 v6 v190 fun st =>
       zq4 st 3 v7 v193 fun st =>
       qb (zq0 st true 4 v6) fun r_14 => qb (zq0 st true 3 v7) fun r_15 => retR R (.tup [r_14, r_15]) st)) (panR R)) (panR R)) (panR R)) (panR R)) (panR R)))))
    (fun k_1 =>
   cb v47 fun b_1 => br b_1
    (zqb prog n_spec_l00Src_next [a0, (.int .i64 5)] st (fun v49 st =>
    k_1 [v49] st) (panR R))
    (k_1 [(.int .i64 3)] st))))
  (fun k =>
 qb (zqc .leq a2 (.int .i64 0)) fun v26 =>
 cb v26 fun b_9 => br b_9
  (qb (zq1j a1) fun v29 =>
  qb (zqc .gtr v29 (.int .i64 0)) fun v30 =>
  k [v30] st)
  (k [(.bool false)] st))
theorem zqdc {a0 a1 a2 : PV} {st : St} {R : Res → St → Prop} (h : zq6a a0 a1 a2 st R) : zq5 prog n_spec_l00Src_proof [a0, a1, a2] st R := hcc (fn := Go.Proofs.Tryz.f18) (ann := [(5, [31]), (26, [9]), (97, [154])]) (by kernel_rfl) (by kernel_rfl) (by kernel_rfl) (by kernel_rfl) h
def zq7b (a0 a1 : PV) (st : St) (R : Res → St → Prop) : Prop :=
 qb (zqc .leq a1 (.int .i64 1)) fun v9 =>
 cb v9 fun b => br b
  (retR R (.int .i64 0) st)
  (qb (zqc .leq a1 (.int .i64 256)) fun v11 =>
  cb v11 fun b_1 => br b_1
   (zqb prog n_spec_l00Src_byte [a0] st (fun v13 st =>
   qb (zqc .rem v13 a1) fun v15 =>
   retR R v15 st) (panR R))
   (zqb prog n_spec_l00Src_byte [a0] st (fun v17 st =>
   zqb prog n_spec_l00Src_byte [a0] st (fun v19 st =>
   zqb prog n_spec_l00Src_byte [a0] st (fun v21 st =>
   qb (zqc .mul v17 (.int .i64 65536)) fun v23 =>
   qb (zqc .mul v19 (.int .i64 256)) fun v25 =>
   qb (zqc .add v23 v25) fun v26 =>
   qb (zqc .add v26 v21) fun v28 =>
   qb (zqc .rem v28 a1) fun v30 =>
   retR R v30 st) (panR R)) (panR R)) (panR R)))
theorem zqeo {a0 a1 : PV} {st : St} {R : Res → St → Prop} (h : zq7b a0 a1 st R) : zq5 prog n_spec_l00Src_next [a0, a1] st R := hcc (fn := Go.Proofs.Tryz.f19) (ann := []) (by kernel_rfl) (by kernel_rfl) (by kernel_rfl) (by kernel_rfl) h
def zqap (a0 a1 : PV) (st : St) (R : Res → St → Prop) : Prop :=
 zq19 st a0 fun v2 st =>
 qb (zqc .sub a1 (.int .i64 1)) fun v8 =>
 hJ (fun ls st =>
  hFix (fun ls_1 st X =>
   hJ (fun ls_2 st =>
    cb (ls_2.getD 0 .junk) fun b => br b
     (qb (q_fa 3 v2) fun v38 =>
     qb (zq0 st false 1 v38) fun v39 =>
     qb (q_ia 4 v39 (ls_1.getD 1 .junk)) fun v41 =>
     qb (zq0 st true 4 v41) fun v42 =>
     zqb prog n_spec_l08Count [v42, (ls_1.getD 0 .junk)] st (fun v44 st =>
     qb (zqc .add (ls_1.getD 1 .junk) (.int .i64 1)) fun v37 =>
     X [v44, v37] st) (panR R))
     (retR R (ls_1.getD 0 .junk) st))
    (fun k_1 =>
   qb (q_fa 3 v2) fun v28 =>
   qb (zq0 st false 1 v28) fun v29 =>
   qb (zq1j v29) fun v30 =>
   qb (zqc .lss (ls_1.getD 1 .junk) v30) fun v31 =>
   cb v31 fun b_1 => br b_1
    (qb (zqc .geq (ls_1.getD 0 .junk) (.int .i64 0)) fun v34 =>
    k_1 [v34] st)
    (k_1 [(.bool false)] st)))
   [(ls.getD 0 .junk), (.int .i64 0)] st)
  (fun k =>
 hFix (fun ls_3 st X_1 =>
  hJ (fun ls_4 st =>
   cb (ls_4.getD 0 .junk) fun b_2 => br b_2
    (qb (q_fa 2 v2) fun v20 =>
    qb (zq0 st false 1 v20) fun v21 =>
    qb (q_ia 3 v21 (ls_3.getD 1 .junk)) fun v23 =>
    qb (zq0 st true 3 v23) fun v24 =>
    zqb prog n_spec_l08FormCount [v24, (ls_3.getD 0 .junk)] st (fun v26 st =>
    qb (zqc .add (ls_3.getD 1 .junk) (.int .i64 1)) fun v19 =>
    X_1 [v26, v19] st) (panR R))
    (k [(ls_3.getD 0 .junk)] st))
   (fun k_2 =>
  qb (q_fa 2 v2) fun v10 =>
  qb (zq0 st false 1 v10) fun v11 =>
  qb (zq1j v11) fun v12 =>
  qb (zqc .lss (ls_3.getD 1 .junk) v12) fun v13 =>
  cb v13 fun b_3 => br b_3
   (qb (zqc .geq (ls_3.getD 0 .junk) (.int .i64 0)) fun v16 =>
   k_2 [v16] st)
   (k_2 [(.bool false)] st)))
  [v8, (.int .i64 0)] st)
theorem zqje {a0 a1 : PV} {st : St} {R : Res → St → Prop} (h : zqap a0 a1 st R) : zq5 prog n_spec_l08Count [a0, a1] st R := hcc (fn := Go.Proofs.Tryz.f20) (ann := [(28, [1, 6]), (12, [1, 5]), (3, [1]), (13, [17]), (29, [35])]) (by kernel_rfl) (by kernel_rfl) (by kernel_rfl) (by kernel_rfl) h
def zqao (a0 : PV) (st : St) (R : Res → St → Prop) : Prop :=
 zq19 st a0 fun v1 st =>
 qb (q_fa 0 v1) fun v8 =>
 qb (zq0 st false 1 v8) fun v9 =>
 zqb prog n_spec_l08Shape [v9] st (fun v10 st =>
 qb (q_ex v10 0) fun v11 =>
 qb (q_ex v10 1) fun v12 =>
 qb (zqc .lss v11 (.int .i64 0)) fun v14 =>
 cb v14 fun b => br b
  (retR R (.bool false) st)
  (qb (q_fa 2 v1) fun v16 =>
  qb (zq0 st false 1 v16) fun v17 =>
  qb (zq1j v17) fun v18 =>
  qb (zqc .neq v18 v11) fun v20 =>
  cb v20 fun b_1 => br b_1
   (retR R (.bool false) st)
   (qb (q_fa 3 v1) fun v23 =>
   qb (zq0 st false 1 v23) fun v24 =>
   qb (zq1j v24) fun v25 =>
   qb (zqc .neq v25 v12) fun v27 =>
   cb v27 fun b_2 => br b_2
    (retR R (.bool false) st)
    (qb (q_fa 1 v1) fun v30 =>
    qb (zq0 st false 1 v30) fun v31 =>
    qb (zqc .lss v31 (.int .i64 0)) fun v32 =>
    cb v32 fun b_3 => br b_3
     (retR R (.bool false) st)
     (qb (q_fa 1 v1) fun v35 =>
     qb (zq0 st false 1 v35) fun v36 =>
     qb (zqc .gtr v36 (.int .i64 100)) fun v37 =>
     cb v37 fun b_4 => br b_4
      (retR R (.bool false) st)
      (qb (q_fa 0 v1) fun v40 =>
      qb (zq0 st false 1 v40) fun v41 =>
      qb (zqc .neq v41 (.int .i64 1)) fun v42 =>
      cb v42 fun b_5 => br b_5
       (qb (q_fa 1 v1) fun v44 =>
       qb (zq0 st false 1 v44) fun v45 =>
       qb (zqc .neq v45 (.int .i64 0)) fun v46 =>
       cb v46 fun b_6 => br b_6
        (retR R (.bool false) st)
        (hFix (fun ls st X =>
         qb (zqc .lss (ls.getD 0 .junk) v11) fun v51 =>
         cb v51 fun b_7 => br b_7
          (qb (q_fa 2 v1) fun v54 =>
          qb (zq0 st false 1 v54) fun v55 =>
          qb (q_ia 3 v55 (ls.getD 0 .junk)) fun v57 =>
          qb (zq0 st true 3 v57) fun v58 =>
          zqb prog n_spec_l08Form [v58] st (fun v59 st =>
          qb (q_un .not v59) fun v60 =>
          cb v60 fun b_8 => br b_8
           (retR R (.bool false) st)
           (qb (zqc .add (ls.getD 0 .junk) (.int .i64 1)) fun v53 =>
           X [v53] st)) (panR R))
          (hFix (fun ls_1 st X_1 =>
           qb (zqc .lss (ls_1.getD 0 .junk) v12) fun v63 =>
           cb v63 fun b_9 => br b_9
            (qb (q_fa 3 v1) fun v66 =>
            qb (zq0 st false 1 v66) fun v67 =>
            qb (q_ia 4 v67 (ls_1.getD 0 .junk)) fun v69 =>
            qb (zq0 st true 4 v69) fun v70 =>
            zqb prog n_spec_l08Proof [v70] st (fun v71 st =>
            qb (q_un .not v71) fun v72 =>
            cb v72 fun b_10 => br b_10
             (retR R (.bool false) st)
             (qb (zqc .add (ls_1.getD 0 .junk) (.int .i64 1)) fun v65 =>
             X_1 [v65] st)) (panR R))
            (retR R (.bool true) st))
           [(.int .i64 0)] st))
         [(.int .i64 0)] st))
       (hFix (fun ls_2 st X_2 =>
        qb (zqc .lss (ls_2.getD 0 .junk) v11) fun v51_1 =>
        cb v51_1 fun b_11 => br b_11
         (qb (q_fa 2 v1) fun v54_1 =>
         qb (zq0 st false 1 v54_1) fun v55_1 =>
         qb (q_ia 3 v55_1 (ls_2.getD 0 .junk)) fun v57_1 =>
         qb (zq0 st true 3 v57_1) fun v58_1 =>
         zqb prog n_spec_l08Form [v58_1] st (fun v59_1 st =>
         qb (q_un .not v59_1) fun v60_1 =>
         cb v60_1 fun b_12 => br b_12
          (retR R (.bool false) st)
          (qb (zqc .add (ls_2.getD 0 .junk) (.int .i64 1)) fun v53_1 =>
          X_2 [v53_1] st)) (panR R))
         (hFix (fun ls_3 st X_3 =>
          qb (zqc .lss (ls_3.getD 0 .junk) v12) fun v63_1 =>
          cb v63_1 fun b_13 => br b_13
           (qb (q_fa 3 v1) fun v66_1 =>
           qb (zq0 st false 1 v66_1) fun v67_1 =>
           qb (q_ia 4 v67_1 (ls_3.getD 0 .junk)) fun v69_1 =>
           qb (zq0 st true 4 v69_1) fun v70_1 =>
           zqb prog n_spec_l08Proof [v70_1] st (fun v71_1 st =>
           qb (q_un .not v71_1) fun v72_1 =>
           cb v72_1 fun b_14 => br b_14
            (retR R (.bool false) st)
            (qb (zqc .add (ls_3.getD 0 .junk) (.int .i64 1)) fun v65_1 =>
            X_3 [v65_1] st)) (panR R))
           (retR R (.bool true) st))
          [(.int .i64 0)] st))
        [(.int .i64 0)] st))))))) (panR R)
theorem zqjd {a0 : PV} {st : St} {R : Res → St → Prop} (h : zqao a0 st R) : zq5 prog n_spec_l08Proof [a0] st R := hcc (fn := Go.Proofs.Tryz.f21) (ann := [(40, [6]), (20, [5])]) (by kernel_rfl) (by kernel_rfl) (by kernel_rfl) (by kernel_rfl) h
end Go.H.Tryz
