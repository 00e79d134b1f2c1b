/- Part of a proof that the program answers as the reference does: ZHS3. -/
import Derived.Test.YtmjpemdbkenebaaGreatDoorHT
set_option linter.unusedVariables false
set_option maxRecDepth 100000
namespace Go.H.Tryz
open Go Go.H
def zq26 (a0 : PV) (st : St) (R : Res → St → Prop) : Prop :=
 qb (zq1j a0) fun v5 =>
 qb (zq1j a0) fun v7 =>
 qb (zq1y 3 a0 none (some v5) (some v7)) fun v8 =>
 retR R v8 st
theorem zq44 {a0 : PV} {st : St} {R : Res → St → Prop} (h : zq26 a0 st R) : zq5 prog n_slices_Clip_impl_Form_impl_Form [a0] st R := hcc (fn := Go.Proofs.Tryz.f64) (ann := []) (by kernel_rfl) (by kernel_rfl) (by kernel_rfl) (by kernel_rfl) h
def zqav (a0 a1 : PV) (st : St) (R : Res → St → Prop) : Prop :=
 zq19 st a0 fun v2 st =>
 zq19 st a1 fun v3 st =>
 qb (q_fa 0 v2) fun v5 =>
 qb (zq0 st false 1 v5) fun v6 =>
 qb (q_fa 0 v3) fun v7 =>
 qb (zq0 st false 1 v7) fun v8 =>
 qb (zqc .eql v6 v8) fun v9 =>
 cb v9 fun b => br b
  (qb (q_fa 1 v2) fun v11 =>
  qb (zq0 st false 1 v11) fun v12 =>
  qb (q_fa 1 v3) fun v13 =>
  qb (zq0 st false 1 v13) fun v14 =>
  qb (zqc .eql v12 v14) fun v15 =>
  cb v15 fun b_1 => br b_1
   (qb (q_fa 2 v2) fun v18 =>
   qb (zq0 st false 1 v18) fun v19 =>
   qb (q_fa 2 v3) fun v20 =>
   qb (zq0 st false 1 v20) fun v21 =>
   zqb prog n_slices_EqualFunc_impl_Form_impl_Form_impl_Form_impl_Form [v19, v21, (.fn (.func n_impl_sameForm) [] [])] st (fun v22 st =>
   retR R v22 st) (panR R))
   (retR R (.bool false) st))
  (retR R (.bool false) st)
theorem zqjk {a0 a1 : PV} {st : St} {R : Res → St → Prop} (h : zqav a0 a1 st R) : zq5 prog n_impl_sameForm [a0, a1] st R := hcc (fn := Go.Proofs.Tryz.f65) (ann := []) (by kernel_rfl) (by kernel_rfl) (by kernel_rfl) (by kernel_rfl) h
def zq8j (a0 : PV) (st : St) (R : Res → St → Prop) : Prop :=
 qb (zq1d a0) fun v6 =>
 qb (q_fa 3 v6) fun v7 =>
 qb (zq0 st false 1 v7) fun v8 =>
 qb (zq1j v8) fun v9 =>
 hFix (fun ls st X =>
  qb (zqc .lss (ls.getD 1 .junk) v9) fun v11 =>
  cb v11 fun b => br b
   (qb (zq1d a0) fun v15 =>
   qb (q_fa 3 v15) fun v16 =>
   qb (zq0 st false 1 v16) fun v17 =>
   qb (q_ia 4 v17 (ls.getD 1 .junk)) fun v19 =>
   zqb prog n_impl_Proof_size [v19] st (fun v20 st =>
   qb (zqc .add (ls.getD 0 .junk) v20) fun v21 =>
   qb (zqc .add (ls.getD 1 .junk) (.int .i64 1)) fun v22 =>
   X [v21, v22] st) (panR R))
   (retR R (ls.getD 0 .junk) st))
  [(.int .i64 1), (.int .i64 0)] st
theorem zqgp {a0 : PV} {st : St} {R : Res → St → Prop} (h : zq8j a0 st R) : zq5 prog n_impl_Proof_size [a0] st R := hcc (fn := Go.Proofs.Tryz.f66) (ann := [(12, [3, 10])]) (by kernel_rfl) (by kernel_rfl) (by kernel_rfl) (by kernel_rfl) h
def zq8g (a0 : PV) (st : St) (R : Res → St → Prop) : Prop :=
 qb (zq24 3 0 0 [] []) fun v6 =>
 qb (zq1j a0) fun v8 =>
 hFix (fun ls st X =>
  qb (zqc .lss (ls.getD 1 .junk) v8) fun v10 =>
  cb v10 fun b => br b
   (qb (q_ia 3 a0 (ls.getD 1 .junk)) fun v11 =>
   qb (zq0 st true 3 v11) fun v12 =>
   zq8 st [.int .i64 0, .int .i64 0, .sl 0 true []] fun v5 st =>
   zq4 st 3 v5 v12 fun st =>
   qb (zq0 st true 3 v5) fun v14 =>
   zqb prog n_impl_cloneForm [v14] st (fun v15 st =>
   qb (zq24 3 1 0 [] [(0, v15)]) fun v16 =>
   zqo st 3 40 (ls.getD 0 .junk) v16 (fun v17 st =>
   qb (zqc .add (ls.getD 1 .junk) (.int .i64 1)) fun v18 =>
   X [v17, v18] st)) (panR R))
   (retR R (ls.getD 0 .junk) st))
  [v6, (.int .i64 0)] st
theorem zqgm {a0 : PV} {st : St} {R : Res → St → Prop} (h : zq8g a0 st R) : zq5 prog n_impl_cloneForms [a0] st R := hcc (fn := Go.Proofs.Tryz.f67) (ann := [(12, [3, 9])]) (by kernel_rfl) (by kernel_rfl) (by kernel_rfl) (by kernel_rfl) h
def zqat (a0 a1 : PV) (st : St) (R : Res → St → Prop) : Prop :=
 zq8 st [.int .i64 0, .int .i64 0, .str [], .sl 0 true []] fun v4 st =>
 qb (zqe [.int .i64 0, .int .i64 0, .str [], .sl 0 true []] [(0, 1, (.int .i64 5)), (1, 1, a0), (3, 1, a1)]) fun v7 =>
 zq4 st 4 v4 v7 fun st =>
 qb (zq0 st true 4 v4) fun r => retR R r st
theorem zqji {a0 a1 : PV} {st : St} {R : Res → St → Prop} (h : zqat a0 a1 st R) : zq5 prog n_impl_variable [a0, a1] st R := hcc (fn := Go.Proofs.Tryz.f68) (ann := []) (by kernel_rfl) (by kernel_rfl) (by kernel_rfl) (by kernel_rfl) h
def zq4o (a0 a1 : PV) (st : St) (R : Res → St → Prop) : Prop :=
 zq8 st [.int .i64 0, .int .i64 0, .str [], .sl 0 true []] fun v4 st =>
 qb (zqe [.int .i64 0, .int .i64 0, .str [], .sl 0 true []] [(0, 1, (.int .i64 6)), (2, 1, a0), (3, 1, a1)]) fun v7 =>
 zq4 st 4 v4 v7 fun st =>
 qb (zq0 st true 4 v4) fun r => retR R r st
theorem zq6s {a0 a1 : PV} {st : St} {R : Res → St → Prop} (h : zq4o a0 a1 st R) : zq5 prog n_impl_constant [a0, a1] st R := hcc (fn := Go.Proofs.Tryz.f69) (ann := []) (by kernel_rfl) (by kernel_rfl) (by kernel_rfl) (by kernel_rfl) h
def zq3f (a0 : PV) (st : St) (R : Res → St → Prop) : Prop :=
 zq19 st a0 fun v1 st =>
 zq8 st [.int .i64 0, .int .i64 0, .str [], .sl 0 true []] fun v2 st =>
 qb (q_fa 0 v1) fun v3 =>
 qb (zq0 st false 1 v3) fun v4 =>
 qb (zqc .eql v4 (.int .i64 1)) fun v6 =>
 cb v6 fun b => br b
  (qb (q_fa 1 v1) fun v7 =>
  qb (zq0 st false 1 v7) fun v8 =>
  qb (zqc .mul (.int .i64 2) v8) fun v9 =>
  qb (q_fa 1 v1) fun v10 =>
  qb (zq0 st false 1 v10) fun v11 =>
  qb (zqc .mul (.int .i64 2) v11) fun v12 =>
  qb (zqc .add v12 (.int .i64 2)) fun v13 =>
  qb (zq17 (.str [112, 48, 112, 49, 112, 50, 112, 51, 112, 52, 112, 53]) (some v9) (some v13) none) fun v14 =>
  zqb prog n_impl_constant [v14, (.sl 0 true [])] st (fun v15 st =>
  zq4 st 4 v2 v15 fun st =>
  qb (zq0 st true 4 v2) fun r => retR R r st) (panR R))
  (qb (zqc .eql v4 (.int .i64 4)) fun v17 =>
  cb v17 fun b_1 => br b_1
   (zqb prog n_impl_constant [(.str [98, 111, 116]), (.sl 0 true [])] st (fun v18 st =>
   zq4 st 4 v2 v18 fun st =>
   qb (zq0 st true 4 v2) fun r_1 => retR R r_1 st) (panR R))
   (qb (zqc .eql v4 (.int .i64 2)) fun v20 =>
   cb v20 fun b_2 => br b_2
    (qb (q_fa 2 v1) fun v21 =>
    qb (zq0 st false 1 v21) fun v22 =>
    qb (q_ia 3 v22 (.int .i64 0)) fun v23 =>
    qb (zq0 st true 3 v23) fun v24 =>
    qb (q_fa 2 v1) fun v26 =>
    qb (zq0 st false 1 v26) fun v27 =>
    qb (q_ia 3 v27 (.int .i64 1)) fun v28 =>
    qb (zq0 st true 3 v28) fun v29 =>
    zqb prog n_impl_formTerm [v24] st (fun v25 st =>
    zq0 st true 3 v28 = some v29 ∧ zq0 st false 1 v26 = some v27 ∧ (zqb prog n_impl_formTerm [v29] st (fun v30 st =>
    qb (zq24 4 2 0 [] [(0, v25), (1, v30)]) fun v31 =>
    zqb prog n_impl_constant [(.str [97, 110, 100]), v31] st (fun v32 st =>
    zq4 st 4 v2 v32 fun st =>
    qb (zq0 st true 4 v2) fun r_2 => retR R r_2 st) (panR R)) (panR R))) (panR R))
    (qb (q_fa 2 v1) fun v33 =>
    qb (zq0 st false 1 v33) fun v34 =>
    qb (q_ia 3 v34 (.int .i64 0)) fun v35 =>
    qb (zq0 st true 3 v35) fun v36 =>
    qb (q_fa 2 v1) fun v38 =>
    qb (zq0 st false 1 v38) fun v39 =>
    qb (q_ia 3 v39 (.int .i64 1)) fun v40 =>
    qb (zq0 st true 3 v40) fun v41 =>
    zqb prog n_impl_formTerm [v36] st (fun v37 st =>
    zq0 st true 3 v40 = some v41 ∧ zq0 st false 1 v38 = some v39 ∧ (zqb prog n_impl_formTerm [v41] st (fun v42 st =>
    qb (zq24 4 2 0 [] [(0, v37), (1, v42)]) fun v43 =>
    zqb prog n_impl_constant [(.str [105, 109, 112]), v43] st (fun v44 st =>
    zq4 st 4 v2 v44 fun st =>
    qb (zq0 st true 4 v2) fun r_3 => retR R r_3 st) (panR R)) (panR R))) (panR R))))
theorem zq4n {a0 : PV} {st : St} {R : Res → St → Prop} (h : zq3f a0 st R) : zq5 prog n_impl_formTerm [a0] st R := hcc (fn := Go.Proofs.Tryz.f70) (ann := []) (by kernel_rfl) (by kernel_rfl) (by kernel_rfl) (by kernel_rfl) h
def b_impl_lam (a0 : PV) (st : St) (R : Res → St → Prop) : Prop :=
 zq19 st a0 fun v1 st =>
 zq8 st [.int .i64 0, .int .i64 0, .str [], .sl 0 true []] fun v2 st =>
 qb (zq0 st true 4 v1) fun v3 =>
 qb (zq24 4 1 0 [] [(0, v3)]) fun v4 =>
 qb (zqe [.int .i64 0, .int .i64 0, .str [], .sl 0 true []] [(0, 1, (.int .i64 4)), (3, 1, v4)]) fun v5 =>
 zq4 st 4 v2 v5 fun st =>
 qb (zq0 st true 4 v2) fun r => retR R r st
theorem c_impl_lam {a0 : PV} {st : St} {R : Res → St → Prop} (h : b_impl_lam a0 st R) : zq5 prog n_impl_lam [a0] st R := hcc (fn := Go.Proofs.Tryz.f71) (ann := []) (by kernel_rfl) (by kernel_rfl) (by kernel_rfl) (by kernel_rfl) h
def zq1o (a0 a1 : PV) (st : St) (R : Res → St → Prop) : Prop :=
 qb (zq1j a0) fun v7 =>
 hFix (fun ls st X =>
  qb (zqc .lss (ls.getD 0 .junk) v7) fun v9 =>
  cb v9 fun b => br b
   (qb (q_ia 4 a0 (ls.getD 0 .junk)) fun v14 =>
   qb (zq0 st true 4 v14) fun v15 =>
   zq57 prog st a1 [v15] (fun v16 st =>
   cb v16 fun b_1 => br b_1
    (retR R (ls.getD 0 .junk) st)
    (qb (zqc .add (ls.getD 0 .junk) (.int .i64 1)) fun v18 =>
    X [v18] st)) (panR R))
   (retR R (.int .i64 (-1)) st))
  [(.int .i64 0)] st
theorem zq37 : zqir prog n_slices_IndexFunc_impl_Tree_impl_Tree := ⟨Go.Proofs.Tryz.f72, by kernel_rfl, by kernel_rfl, by kernel_rfl⟩
theorem zq38 {a0 a1 : PV} {st : St} {R : Res → St → Prop} (h : zq1o a0 a1 st R) : zq5 prog n_slices_IndexFunc_impl_Tree_impl_Tree [a0, a1] st R := hcc (fn := Go.Proofs.Tryz.f72) (ann := [(8, [8])]) (by kernel_rfl) (by kernel_rfl) (by kernel_rfl) (by kernel_rfl) h
def zq5x (a0 a1 a2 : PV) (st : St) (R : Res → St → Prop) : Prop :=
 zq57 prog st a2 [a0, a1] (fun v11 st =>
 cb v11 fun b => br b
  (retR R (.bool true) st)
  (qb (zq1d a0) fun v13 =>
  qb (q_fa 3 v13) fun v14 =>
  qb (zq0 st false 1 v14) fun v15 =>
  qb (zq1j v15) fun v16 =>
  hFix (fun ls st X =>
   qb (zqc .lss (ls.getD 0 .junk) v16) fun v18 =>
   cb v18 fun b_1 => br b_1
    (qb (zq1d a0) fun v21 =>
    qb (q_fa 3 v21) fun v22 =>
    qb (zq0 st false 1 v22) fun v23 =>
    qb (q_ia 4 v23 (ls.getD 0 .junk)) fun v25 =>
    zqb prog n_impl_Tree_under [a0, (ls.getD 0 .junk)] st (fun v29 st =>
    zq0 st false 1 v22 = some v23 ∧ (qb (zqc .add a1 v29) fun v30 =>
    zqb prog n_impl_Tree_each [v25, v30, a2] st (fun v32 st =>
    cb v32 fun b_2 => br b_2
     (retR R (.bool true) st)
     (qb (zqc .add (ls.getD 0 .junk) (.int .i64 1)) fun v33 =>
     X [v33] st)) (panR R))) (panR R))
    (retR R (.bool false) st))
   [(.int .i64 0)] st)) (panR R)
theorem zq9b {a0 a1 a2 : PV} {st : St} {R : Res → St → Prop} (h : zq5x a0 a1 a2 st R) : zq5 prog n_impl_Tree_each [a0, a1, a2] st R := hcc (fn := Go.Proofs.Tryz.f73) (ann := [(16, [17])]) (by kernel_rfl) (by kernel_rfl) (by kernel_rfl) (by kernel_rfl) h
def zqau (a0 a1 a2 : PV) (st : St) (R : Res → St → Prop) : Prop :=
 qb (zq0 st false 1 a2) fun v6 =>
 qb (zqc .add v6 (.int .i64 1)) fun v7 =>
 zq4 st 1 a2 v7 fun st =>
 qb (zq0 st false 1 a2) fun v8 =>
 qb (zqc .gtr v8 (.int .i64 150)) fun v9 =>
 cb v9 fun b => br b
  (retR R (.bool true) st)
  (qb (zq1d a0) fun v12 =>
  qb (q_fa 0 v12) fun v13 =>
  qb (zq0 st false 1 v13) fun v14 =>
  qb (zqc .eql v14 (.int .i64 5)) fun v15 =>
  cb v15 fun b_1 => br b_1
   (qb (zq1d a0) fun v18 =>
   qb (q_fa 1 v18) fun v19 =>
   qb (zq0 st false 1 v19) fun v20 =>
   qb (zqc .gtr v20 (.int .i64 100)) fun v21 =>
   retR R v21 st)
   (retR R (.bool false) st))
theorem zqjj {a0 a1 a2 : PV} {st : St} {R : Res → St → Prop} (h : zqau a0 a1 a2 st R) : zq5 prog n_impl_tooBig_1 [a0, a1, a2] st R := hcc (fn := Go.Proofs.Tryz.f74) (ann := []) (by kernel_rfl) (by kernel_rfl) (by kernel_rfl) (by kernel_rfl) h
def zq1x (a0 a1 : PV) (st : St) (R : Res → St → Prop) : Prop :=
 zq19 st a1 fun v3 st =>
 zqb prog n_impl_looker_node [a0] st (fun v6 st =>
 qb (q_un .not v6) fun v7 =>
 cb v7 fun b => br b
  (retR R (.bool false) st)
  (qb (q_fa 0 v3) fun v8 =>
  qb (zq0 st false 1 v8) fun v9 =>
  qb (zqc .eql v9 (.int .i64 1)) fun v11 =>
  cb v11 fun b_1 => br b_1
   (qb (q_fa 1 v3) fun v12 =>
   qb (zq0 st false 1 v12) fun v13 =>
   zqb prog n_impl_in [v13, (.int .i64 0), (.int .i64 5)] st (fun v14 st =>
   cb v14 fun b_2 => br b_2
    (qb (q_fa 2 v3) fun v16 =>
    qb (zq0 st false 1 v16) fun v17 =>
    qb (zq1j v17) fun v18 =>
    qb (zqc .eql v18 (.int .i64 0)) fun v19 =>
    retR R v19 st)
    (retR R (.bool false) st)) (panR R))
   (qb (zqc .eql v9 (.int .i64 4)) fun v22 =>
   cb v22 fun b_3 => br b_3
    (qb (q_fa 1 v3) fun v23 =>
    qb (zq0 st false 1 v23) fun v24 =>
    qb (zqc .eql v24 (.int .i64 0)) fun v25 =>
    cb v25 fun b_4 => br b_4
     (qb (q_fa 2 v3) fun v27 =>
     qb (zq0 st false 1 v27) fun v28 =>
     qb (zq1j v28) fun v29 =>
     qb (zqc .eql v29 (.int .i64 0)) fun v30 =>
     retR R v30 st)
     (retR R (.bool false) st))
    (qb (zqc .eql v9 (.int .i64 2)) fun v33 =>
    hJ (fun ls st =>
     cb (ls.getD 0 .junk) fun b_6 => br b_6
      (qb (q_fa 1 v3) fun v35 =>
      qb (zq0 st false 1 v35) fun v36 =>
      qb (zqc .eql v36 (.int .i64 0)) fun v37 =>
      cb v37 fun b_7 => br b_7
       (qb (q_fa 2 v3) fun v39 =>
       qb (zq0 st false 1 v39) fun v40 =>
       qb (zq1j v40) fun v41 =>
       qb (zqc .eql v41 (.int .i64 2)) fun v42 =>
       cb v42 fun b_8 => br b_8
        (qb (q_fa 2 v3) fun v46 =>
        qb (zq0 st false 1 v46) fun v47 =>
        qb (q_ia 3 v47 (.int .i64 0)) fun v48 =>
        qb (zq0 st true 3 v48) fun v49 =>
        zqb prog n_impl_looker_form [a0, v49] st (fun v50 st =>
        cb v50 fun b_9 => br b_9
         (qb (q_fa 2 v3) fun v54 =>
         qb (zq0 st false 1 v54) fun v55 =>
         qb (q_ia 3 v55 (.int .i64 1)) fun v56 =>
         qb (zq0 st true 3 v56) fun v57 =>
         zqb prog n_impl_looker_form [a0, v57] st (fun v58 st =>
         retR R v58 st) (panR R))
         (retR R (.bool false) st)) (panR R))
        (retR R (.bool false) st))
       (retR R (.bool false) st))
      (retR R (.bool false) st))
     (fun k =>
    cb v33 fun b_5 => br b_5
     (k [v33] st)
     (qb (zqc .eql v9 (.int .i64 3)) fun v34 =>
     k [v34] st)))))) (panR R)
theorem zq2c {a0 a1 : PV} {st : St} {R : Res → St → Prop} (h : zq1x a0 a1 st R) : zq5 prog n_impl_looker_form [a0, a1] st R := hcc (fn := Go.Proofs.Tryz.f75) (ann := [(38, [32])]) (by kernel_rfl) (by kernel_rfl) (by kernel_rfl) (by kernel_rfl) h
def zq3e (a0 : PV) (st : St) (R : Res → St → Prop) : Prop :=
 zq19 st a0 fun v1 st =>
 zq8 st [.int .i64 0, .int .i64 0, .sl 0 true []] fun v2 st =>
 hJ (fun ls st =>
  hJ (fun ls_1 st =>
   hJ (fun ls_2 st =>
    cb (ls_2.getD 0 .junk) fun b_1 => br b_1
     (zqb prog n_impl_stop [(.int .i64 3), (.int .i64 0)] st (fun v53 st =>
     hJ (fun ls_3 st =>
      qb (q_fa 2 v1) fun v64 =>
      qb (zq0 st false 1 v64) fun v65 =>
      qb (zqc .eql v65 (.str [97, 110, 100])) fun v66 =>
      cb v66 fun b_2 => br b_2
       (qb (zq0 st true 3 (ls_3.getD 0 .junk)) fun v67 =>
       qb (zq0 st true 3 (ls_3.getD 1 .junk)) fun v68 =>
       zqb prog n_impl_and [v67, v68] st (fun v69 st =>
       zq4 st 3 v2 v69 fun st =>
       qb (zq0 st true 3 v2) fun r => retR R r st) (panR R))
       (qb (zq0 st true 3 (ls_3.getD 0 .junk)) fun v70 =>
       qb (zq0 st true 3 (ls_3.getD 1 .junk)) fun v71 =>
       zqb prog n_impl_implies [v70, v71] st (fun v72 st =>
       zq4 st 3 v2 v72 fun st =>
       qb (zq0 st true 3 v2) fun r_1 => retR R r_1 st) (panR R)))
      (fun k_3 =>
     qb (q_fa 3 v1) fun v54 =>
     qb (zq0 st false 1 v54) fun v55 =>
     qb (q_ia 4 v55 (.int .i64 0)) fun v56 =>
     qb (zq0 st true 4 v56) fun v57 =>
     qb (q_fa 3 v1) fun v59 =>
     qb (zq0 st false 1 v59) fun v60 =>
     qb (q_ia 4 v60 (.int .i64 1)) fun v61 =>
     qb (zq0 st true 4 v61) fun v62 =>
     (zqb prog n_impl_readForm [v57] st (fun v58 st =>
     zq0 st true 4 v61 = some v62 ∧ zq0 st false 1 v59 = some v60 ∧ ((zqb prog n_impl_readForm [v62] st (fun v63 st =>
     (zq8 st [.int .i64 0, .int .i64 0, .sl 0 true []] fun v4 st =>
     zq0 st true 4 v61 = some v62 ∧ zq0 st false 1 v59 = some v60 ∧ zq0 st true 4 v56 = some v57 ∧ zq0 st false 1 v54 = some v55 ∧ (zq8 st [.int .i64 0, .int .i64 0, .sl 0 true []] fun v5 st =>
     zq0 st true 4 v61 = some v62 ∧ zq0 st false 1 v59 = some v60 ∧ zq0 st true 4 v56 = some v57 ∧ zq0 st false 1 v54 = some v55 ∧ (zq4 st 3 v4 v58 fun st =>
     zq4 st 3 v5 v63 fun st =>
     k_3 [v4, v5] st))) ∧
     (zq8 st [.int .i64 0, .int .i64 0, .sl 0 true []] fun v5_1 st =>
     zq0 st true 4 v61 = some v62 ∧ zq0 st false 1 v59 = some v60 ∧ zq0 st true 4 v56 = some v57 ∧ zq0 st false 1 v54 = some v55 ∧ (zq8 st [.int .i64 0, .int .i64 0, .sl 0 true []] fun v4_1 st =>
     zq0 st true 4 v61 = some v62 ∧ zq0 st false 1 v59 = some v60 ∧ zq0 st true 4 v56 = some v57 ∧ zq0 st false 1 v54 = some v55 ∧ (zq4 st 3 v4_1 v58 fun st =>
     zq4 st 3 v5_1 v63 fun st =>
     k_3 [v4_1, v5_1] st)))) (panR R)) ∧
     (zq8 st [.int .i64 0, .int .i64 0, .sl 0 true []] fun v4_2 st =>
     zq0 st true 4 v61 = some v62 ∧ zq0 st false 1 v59 = some v60 ∧ zq0 st true 4 v56 = some v57 ∧ zq0 st false 1 v54 = some v55 ∧ ((zqb prog n_impl_readForm [v62] st (fun v63_1 st =>
     zq8 st [.int .i64 0, .int .i64 0, .sl 0 true []] fun v5_2 st =>
     zq0 st true 4 v61 = some v62 ∧ zq0 st false 1 v59 = some v60 ∧ zq0 st true 4 v56 = some v57 ∧ zq0 st false 1 v54 = some v55 ∧ (zq4 st 3 v4_2 v58 fun st =>
     zq4 st 3 v5_2 v63_1 fun st =>
     k_3 [v4_2, v5_2] st)) (panR R)) ∧
     (zq8 st [.int .i64 0, .int .i64 0, .sl 0 true []] fun v5_3 st =>
     zq0 st true 4 v61 = some v62 ∧ zq0 st false 1 v59 = some v60 ∧ zq0 st true 4 v56 = some v57 ∧ zq0 st false 1 v54 = some v55 ∧ (zqb prog n_impl_readForm [v62] st (fun v63_2 st =>
     zq4 st 3 v4_2 v58 fun st =>
     zq4 st 3 v5_3 v63_2 fun st =>
     k_3 [v4_2, v5_3] st) (panR R))))) ∧
     (zq8 st [.int .i64 0, .int .i64 0, .sl 0 true []] fun v5_4 st =>
     zq0 st true 4 v61 = some v62 ∧ zq0 st false 1 v59 = some v60 ∧ zq0 st true 4 v56 = some v57 ∧ zq0 st false 1 v54 = some v55 ∧ ((zqb prog n_impl_readForm [v62] st (fun v63_3 st =>
     zq8 st [.int .i64 0, .int .i64 0, .sl 0 true []] fun v4_3 st =>
     zq0 st true 4 v61 = some v62 ∧ zq0 st false 1 v59 = some v60 ∧ zq0 st true 4 v56 = some v57 ∧ zq0 st false 1 v54 = some v55 ∧ (zq4 st 3 v4_3 v58 fun st =>
     zq4 st 3 v5_4 v63_3 fun st =>
     k_3 [v4_3, v5_4] st)) (panR R)) ∧
     (zq8 st [.int .i64 0, .int .i64 0, .sl 0 true []] fun v4_4 st =>
     zq0 st true 4 v61 = some v62 ∧ zq0 st false 1 v59 = some v60 ∧ zq0 st true 4 v56 = some v57 ∧ zq0 st false 1 v54 = some v55 ∧ (zqb prog n_impl_readForm [v62] st (fun v63_4 st =>
     zq4 st 3 v4_4 v58 fun st =>
     zq4 st 3 v5_4 v63_4 fun st =>
     k_3 [v4_4, v5_4] st) (panR R))))))) (panR R)) ∧
     (zq8 st [.int .i64 0, .int .i64 0, .sl 0 true []] fun v4_5 st =>
     zq0 st true 4 v61 = some v62 ∧ zq0 st false 1 v59 = some v60 ∧ zq0 st true 4 v56 = some v57 ∧ zq0 st false 1 v54 = some v55 ∧ ((zqb prog n_impl_readForm [v57] st (fun v58_1 st =>
     zq0 st true 4 v61 = some v62 ∧ zq0 st false 1 v59 = some v60 ∧ ((zqb prog n_impl_readForm [v62] st (fun v63_5 st =>
     zq8 st [.int .i64 0, .int .i64 0, .sl 0 true []] fun v5_5 st =>
     zq0 st true 4 v61 = some v62 ∧ zq0 st false 1 v59 = some v60 ∧ zq0 st true 4 v56 = some v57 ∧ zq0 st false 1 v54 = some v55 ∧ (zq4 st 3 v4_5 v58_1 fun st =>
     zq4 st 3 v5_5 v63_5 fun st =>
     k_3 [v4_5, v5_5] st)) (panR R)) ∧
     (zq8 st [.int .i64 0, .int .i64 0, .sl 0 true []] fun v5_6 st =>
     zq0 st true 4 v61 = some v62 ∧ zq0 st false 1 v59 = some v60 ∧ zq0 st true 4 v56 = some v57 ∧ zq0 st false 1 v54 = some v55 ∧ (zqb prog n_impl_readForm [v62] st (fun v63_6 st =>
     zq4 st 3 v4_5 v58_1 fun st =>
     zq4 st 3 v5_6 v63_6 fun st =>
     k_3 [v4_5, v5_6] st) (panR R))))) (panR R)) ∧
     (zq8 st [.int .i64 0, .int .i64 0, .sl 0 true []] fun v5_7 st =>
     zq0 st true 4 v61 = some v62 ∧ zq0 st false 1 v59 = some v60 ∧ zq0 st true 4 v56 = some v57 ∧ zq0 st false 1 v54 = some v55 ∧ (zqb prog n_impl_readForm [v57] st (fun v58_2 st =>
     zq0 st true 4 v61 = some v62 ∧ zq0 st false 1 v59 = some v60 ∧ (zqb prog n_impl_readForm [v62] st (fun v63_7 st =>
     zq4 st 3 v4_5 v58_2 fun st =>
     zq4 st 3 v5_7 v63_7 fun st =>
     k_3 [v4_5, v5_7] st) (panR R))) (panR R))))) ∧
     (zq8 st [.int .i64 0, .int .i64 0, .sl 0 true []] fun v5_8 st =>
     zq0 st true 4 v61 = some v62 ∧ zq0 st false 1 v59 = some v60 ∧ zq0 st true 4 v56 = some v57 ∧ zq0 st false 1 v54 = some v55 ∧ ((zqb prog n_impl_readForm [v57] st (fun v58_3 st =>
     zq0 st true 4 v61 = some v62 ∧ zq0 st false 1 v59 = some v60 ∧ ((zqb prog n_impl_readForm [v62] st (fun v63_8 st =>
     zq8 st [.int .i64 0, .int .i64 0, .sl 0 true []] fun v4_6 st =>
     zq0 st true 4 v61 = some v62 ∧ zq0 st false 1 v59 = some v60 ∧ zq0 st true 4 v56 = some v57 ∧ zq0 st false 1 v54 = some v55 ∧ (zq4 st 3 v4_6 v58_3 fun st =>
     zq4 st 3 v5_8 v63_8 fun st =>
     k_3 [v4_6, v5_8] st)) (panR R)) ∧
     (zq8 st [.int .i64 0, .int .i64 0, .sl 0 true []] fun v4_7 st =>
     zq0 st true 4 v61 = some v62 ∧ zq0 st false 1 v59 = some v60 ∧ zq0 st true 4 v56 = some v57 ∧ zq0 st false 1 v54 = some v55 ∧ (zqb prog n_impl_readForm [v62] st (fun v63_9 st =>
     zq4 st 3 v4_7 v58_3 fun st =>
     zq4 st 3 v5_8 v63_9 fun st =>
     k_3 [v4_7, v5_8] st) (panR R))))) (panR R)) ∧
     (zq8 st [.int .i64 0, .int .i64 0, .sl 0 true []] fun v4_8 st =>
     zq0 st true 4 v61 = some v62 ∧ zq0 st false 1 v59 = some v60 ∧ zq0 st true 4 v56 = some v57 ∧ zq0 st false 1 v54 = some v55 ∧ (zqb prog n_impl_readForm [v57] st (fun v58_4 st =>
     zq0 st true 4 v61 = some v62 ∧ zq0 st false 1 v59 = some v60 ∧ (zqb prog n_impl_readForm [v62] st (fun v63_10 st =>
     zq4 st 3 v4_8 v58_4 fun st =>
     zq4 st 3 v5_8 v63_10 fun st =>
     k_3 [v4_8, v5_8] st) (panR R))) (panR R))))))) (panR R))
     (hJ (fun ls_4 st =>
      qb (q_fa 2 v1) fun v64_1 =>
      qb (zq0 st false 1 v64_1) fun v65_1 =>
      qb (zqc .eql v65_1 (.str [97, 110, 100])) fun v66_1 =>
      cb v66_1 fun b_3 => br b_3
       (qb (zq0 st true 3 (ls_4.getD 0 .junk)) fun v67_1 =>
       qb (zq0 st true 3 (ls_4.getD 1 .junk)) fun v68_1 =>
       zqb prog n_impl_and [v67_1, v68_1] st (fun v69_1 st =>
       zq4 st 3 v2 v69_1 fun st =>
       qb (zq0 st true 3 v2) fun r_2 => retR R r_2 st) (panR R))
       (qb (zq0 st true 3 (ls_4.getD 0 .junk)) fun v70_1 =>
       qb (zq0 st true 3 (ls_4.getD 1 .junk)) fun v71_1 =>
       zqb prog n_impl_implies [v70_1, v71_1] st (fun v72_1 st =>
       zq4 st 3 v2 v72_1 fun st =>
       qb (zq0 st true 3 v2) fun r_3 => retR R r_3 st) (panR R)))
      (fun k_4 =>
     qb (q_fa 3 v1) fun v54_1 =>
     qb (zq0 st false 1 v54_1) fun v55_1 =>
     qb (q_ia 4 v55_1 (.int .i64 0)) fun v56_1 =>
     qb (zq0 st true 4 v56_1) fun v57_1 =>
     qb (q_fa 3 v1) fun v59_1 =>
     qb (zq0 st false 1 v59_1) fun v60_1 =>
     qb (q_ia 4 v60_1 (.int .i64 1)) fun v61_1 =>
     qb (zq0 st true 4 v61_1) fun v62_1 =>
     (zqb prog n_impl_readForm [v57_1] st (fun v58_5 st =>
     zq0 st true 4 v61_1 = some v62_1 ∧ zq0 st false 1 v59_1 = some v60_1 ∧ ((zqb prog n_impl_readForm [v62_1] st (fun v63_11 st =>
     (zq8 st [.int .i64 0, .int .i64 0, .sl 0 true []] fun v4_9 st =>
     zq0 st true 4 v61_1 = some v62_1 ∧ zq0 st false 1 v59_1 = some v60_1 ∧ zq0 st true 4 v56_1 = some v57_1 ∧ zq0 st false 1 v54_1 = some v55_1 ∧ (zq8 st [.int .i64 0, .int .i64 0, .sl 0 true []] fun v5_9 st =>
     zq0 st true 4 v61_1 = some v62_1 ∧ zq0 st false 1 v59_1 = some v60_1 ∧ zq0 st true 4 v56_1 = some v57_1 ∧ zq0 st false 1 v54_1 = some v55_1 ∧ (zq4 st 3 v4_9 v58_5 fun st =>
     zq4 st 3 v5_9 v63_11 fun st =>
     k_4 [v4_9, v5_9] st))) ∧
     (zq8 st [.int .i64 0, .int .i64 0, .sl 0 true []] fun v5_10 st =>
     zq0 st true 4 v61_1 = some v62_1 ∧ zq0 st false 1 v59_1 = some v60_1 ∧ zq0 st true 4 v56_1 = some v57_1 ∧ zq0 st false 1 v54_1 = some v55_1 ∧ (zq8 st [.int .i64 0, .int .i64 0, .sl 0 true []] fun v4_10 st =>
     zq0 st true 4 v61_1 = some v62_1 ∧ zq0 st false 1 v59_1 = some v60_1 ∧ zq0 st true 4 v56_1 = some v57_1 ∧ zq0 st false 1 v54_1 = some v55_1 ∧ (zq4 st 3 v4_10 v58_5 fun st =>
     zq4 st 3 v5_10 v63_11 fun st =>
     k_4 [v4_10, v5_10] st)))) (panR R)) ∧
     (zq8 st [.int .i64 0, .int .i64 0, .sl 0 true []] fun v4_11 st =>
     zq0 st true 4 v61_1 = some v62_1 ∧ zq0 st false 1 v59_1 = some v60_1 ∧ zq0 st true 4 v56_1 = some v57_1 ∧ zq0 st false 1 v54_1 = some v55_1 ∧ ((zqb prog n_impl_readForm [v62_1] st (fun v63_12 st =>
     zq8 st [.int .i64 0, .int .i64 0, .sl 0 true []] fun v5_11 st =>
     zq0 st true 4 v61_1 = some v62_1 ∧ zq0 st false 1 v59_1 = some v60_1 ∧ zq0 st true 4 v56_1 = some v57_1 ∧ zq0 st false 1 v54_1 = some v55_1 ∧ (zq4 st 3 v4_11 v58_5 fun st =>
     zq4 st 3 v5_11 v63_12 fun st =>
     k_4 [v4_11, v5_11] st)) (panR R)) ∧
     (zq8 st [.int .i64 0, .int .i64 0, .sl 0 true []] fun v5_12 st =>
     zq0 st true 4 v61_1 = some v62_1 ∧ zq0 st false 1 v59_1 = some v60_1 ∧ zq0 st true 4 v56_1 = some v57_1 ∧ zq0 st false 1 v54_1 = some v55_1 ∧ (zqb prog n_impl_readForm [v62_1] st (fun v63_13 st =>
     zq4 st 3 v4_11 v58_5 fun st =>
     zq4 st 3 v5_12 v63_13 fun st =>
     k_4 [v4_11, v5_12] st) (panR R))))) ∧
     (zq8 st [.int .i64 0, .int .i64 0, .sl 0 true []] fun v5_13 st =>
     zq0 st true 4 v61_1 = some v62_1 ∧ zq0 st false 1 v59_1 = some v60_1 ∧ zq0 st true 4 v56_1 = some v57_1 ∧ zq0 st false 1 v54_1 = some v55_1 ∧ ((zqb prog n_impl_readForm [v62_1] st (fun v63_14 st =>
     zq8 st [.int .i64 0, .int .i64 0, .sl 0 true []] fun v4_12 st =>
     zq0 st true 4 v61_1 = some v62_1 ∧ zq0 st false 1 v59_1 = some v60_1 ∧ zq0 st true 4 v56_1 = some v57_1 ∧ zq0 st false 1 v54_1 = some v55_1 ∧ (zq4 st 3 v4_12 v58_5 fun st =>
     zq4 st 3 v5_13 v63_14 fun st =>
     k_4 [v4_12, v5_13] st)) (panR R)) ∧
     (zq8 st [.int .i64 0, .int .i64 0, .sl 0 true []] fun v4_13 st =>
     zq0 st true 4 v61_1 = some v62_1 ∧ zq0 st false 1 v59_1 = some v60_1 ∧ zq0 st true 4 v56_1 = some v57_1 ∧ zq0 st false 1 v54_1 = some v55_1 ∧ (zqb prog n_impl_readForm [v62_1] st (fun v63_15 st =>
     zq4 st 3 v4_13 v58_5 fun st =>
     zq4 st 3 v5_13 v63_15 fun st =>
     k_4 [v4_13, v5_13] st) (panR R))))))) (panR R)) ∧
     (zq8 st [.int .i64 0, .int .i64 0, .sl 0 true []] fun v4_14 st =>
     zq0 st true 4 v61_1 = some v62_1 ∧ zq0 st false 1 v59_1 = some v60_1 ∧ zq0 st true 4 v56_1 = some v57_1 ∧ zq0 st false 1 v54_1 = some v55_1 ∧ ((zqb prog n_impl_readForm [v57_1] st (fun v58_6 st =>
     zq0 st true 4 v61_1 = some v62_1 ∧ zq0 st false 1 v59_1 = some v60_1 ∧ ((zqb prog n_impl_readForm [v62_1] st (fun v63_16 st =>
     zq8 st [.int .i64 0, .int .i64 0, .sl 0 true []] fun v5_14 st =>
     zq0 st true 4 v61_1 = some v62_1 ∧ zq0 st false 1 v59_1 = some v60_1 ∧ zq0 st true 4 v56_1 = some v57_1 ∧ zq0 st false 1 v54_1 = some v55_1 ∧ (zq4 st 3 v4_14 v58_6 fun st =>
     zq4 st 3 v5_14 v63_16 fun st =>
     k_4 [v4_14, v5_14] st)) (panR R)) ∧
     (zq8 st [.int .i64 0, .int .i64 0, .sl 0 true []] fun v5_15 st =>
     zq0 st true 4 v61_1 = some v62_1 ∧ zq0 st false 1 v59_1 = some v60_1 ∧ zq0 st true 4 v56_1 = some v57_1 ∧ zq0 st false 1 v54_1 = some v55_1 ∧ (zqb prog n_impl_readForm [v62_1] st (fun v63_17 st =>
     zq4 st 3 v4_14 v58_6 fun st =>
     zq4 st 3 v5_15 v63_17 fun st =>
     k_4 [v4_14, v5_15] st) (panR R))))) (panR R)) ∧
     (zq8 st [.int .i64 0, .int .i64 0, .sl 0 true []] fun v5_16 st =>
     zq0 st true 4 v61_1 = some v62_1 ∧ zq0 st false 1 v59_1 = some v60_1 ∧ zq0 st true 4 v56_1 = some v57_1 ∧ zq0 st false 1 v54_1 = some v55_1 ∧ (zqb prog n_impl_readForm [v57_1] st (fun v58_7 st =>
     zq0 st true 4 v61_1 = some v62_1 ∧ zq0 st false 1 v59_1 = some v60_1 ∧ (zqb prog n_impl_readForm [v62_1] st (fun v63_18 st =>
     zq4 st 3 v4_14 v58_7 fun st =>
     zq4 st 3 v5_16 v63_18 fun st =>
     k_4 [v4_14, v5_16] st) (panR R))) (panR R))))) ∧
     (zq8 st [.int .i64 0, .int .i64 0, .sl 0 true []] fun v5_17 st =>
     zq0 st true 4 v61_1 = some v62_1 ∧ zq0 st false 1 v59_1 = some v60_1 ∧ zq0 st true 4 v56_1 = some v57_1 ∧ zq0 st false 1 v54_1 = some v55_1 ∧ ((zqb prog n_impl_readForm [v57_1] st (fun v58_8 st =>
     zq0 st true 4 v61_1 = some v62_1 ∧ zq0 st false 1 v59_1 = some v60_1 ∧ ((zqb prog n_impl_readForm [v62_1] st (fun v63_19 st =>
     zq8 st [.int .i64 0, .int .i64 0, .sl 0 true []] fun v4_15 st =>
     zq0 st true 4 v61_1 = some v62_1 ∧ zq0 st false 1 v59_1 = some v60_1 ∧ zq0 st true 4 v56_1 = some v57_1 ∧ zq0 st false 1 v54_1 = some v55_1 ∧ (zq4 st 3 v4_15 v58_8 fun st =>
     zq4 st 3 v5_17 v63_19 fun st =>
     k_4 [v4_15, v5_17] st)) (panR R)) ∧
     (zq8 st [.int .i64 0, .int .i64 0, .sl 0 true []] fun v4_16 st =>
     zq0 st true 4 v61_1 = some v62_1 ∧ zq0 st false 1 v59_1 = some v60_1 ∧ zq0 st true 4 v56_1 = some v57_1 ∧ zq0 st false 1 v54_1 = some v55_1 ∧ (zqb prog n_impl_readForm [v62_1] st (fun v63_20 st =>
     zq4 st 3 v4_16 v58_8 fun st =>
     zq4 st 3 v5_17 v63_20 fun st =>
     k_4 [v4_16, v5_17] st) (panR R))))) (panR R)) ∧
     (zq8 st [.int .i64 0, .int .i64 0, .sl 0 true []] fun v4_17 st =>
     zq0 st true 4 v61_1 = some v62_1 ∧ zq0 st false 1 v59_1 = some v60_1 ∧ zq0 st true 4 v56_1 = some v57_1 ∧ zq0 st false 1 v54_1 = some v55_1 ∧ (zqb prog n_impl_readForm [v57_1] st (fun v58_9 st =>
     zq0 st true 4 v61_1 = some v62_1 ∧ zq0 st false 1 v59_1 = some v60_1 ∧ (zqb prog n_impl_readForm [v62_1] st (fun v63_21 st =>
     zq4 st 3 v4_17 v58_9 fun st =>
     zq4 st 3 v5_17 v63_21 fun st =>
     k_4 [v4_17, v5_17] st) (panR R))) (panR R))))))))
    (fun k_2 =>
   qb (q_fa 0 v1) fun v34 =>
   qb (zq0 st false 1 v34) fun v35 =>
   qb (zqc .neq v35 (.int .i64 6)) fun v36 =>
   cb v36 fun b_4 => br b_4
    (k_2 [(.bool true)] st)
    (qb (q_fa 3 v1) fun v38 =>
    qb (zq0 st false 1 v38) fun v39 =>
    qb (zq1j v39) fun v40 =>
    qb (zqc .neq v40 (.int .i64 2)) fun v41 =>
    cb v41 fun b_5 => br b_5
     (k_2 [(.bool true)] st)
     (qb (q_fa 2 v1) fun v44 =>
     qb (zq0 st false 1 v44) fun v45 =>
     qb (zqc .neq v45 (.str [97, 110, 100])) fun v46 =>
     cb v46 fun b_6 => br b_6
      (qb (q_fa 2 v1) fun v48 =>
      qb (zq0 st false 1 v48) fun v49 =>
      qb (zqc .neq v49 (.str [105, 109, 112])) fun v50 =>
      k_2 [v50] st)
      (k_2 [(.bool false)] st)))))
   (fun k_1 =>
  cb (ls.getD 0 .junk) fun b => br b
   (qb (q_fa 2 v1) fun v15 =>
   qb (zq0 st false 1 v15) fun v16 =>
   qb (zqc .eql v16 (.str [98, 111, 116])) fun v17 =>
   cb v17 fun b_7 => br b_7
    (zqb prog n_impl_bottom [] st (fun v18 st =>
    zq4 st 3 v2 v18 fun st =>
    qb (zq0 st true 3 v2) fun r_4 => retR R r_4 st) (panR R))
    (hFix (fun ls_5 st X =>
     qb (zqc .lss (ls_5.getD 0 .junk) (.int .i64 6)) fun v20 =>
     cb v20 fun b_8 => br b_8
      (qb (q_fa 2 v1) fun v22 =>
      qb (zq0 st false 1 v22) fun v23 =>
      qb (zqc .mul (.int .i64 2) (ls_5.getD 0 .junk)) fun v25 =>
      qb (zqc .mul (.int .i64 2) (ls_5.getD 0 .junk)) fun v27 =>
      qb (zqc .add v27 (.int .i64 2)) fun v28 =>
      qb (zq17 (.str [112, 48, 112, 49, 112, 50, 112, 51, 112, 52, 112, 53]) (some v25) (some v28) none) fun v29 =>
      qb (zqc .eql v23 v29) fun v30 =>
      cb v30 fun b_9 => br b_9
       (qb (zqe [.int .i64 0, .int .i64 0, .sl 0 true []] [(0, 1, (.int .i64 1)), (1, 1, (ls_5.getD 0 .junk))]) fun v32 =>
       zq4 st 3 v2 v32 fun st =>
       qb (zq0 st true 3 v2) fun r_5 => retR R r_5 st)
       (qb (zqc .add (ls_5.getD 0 .junk) (.int .i64 1)) fun v33 =>
       X [v33] st))
      (k_1 [] st))
     [(.int .i64 0)] st))
   (k_1 [] st)))
  (fun k =>
 qb (q_fa 0 v1) fun v6 =>
 qb (zq0 st false 1 v6) fun v7 =>
 qb (zqc .eql v7 (.int .i64 6)) fun v8 =>
 cb v8 fun b_10 => br b_10
  (qb (q_fa 3 v1) fun v10 =>
  qb (zq0 st false 1 v10) fun v11 =>
  qb (zq1j v11) fun v12 =>
  qb (zqc .eql v12 (.int .i64 0)) fun v13 =>
  k [v13] st)
  (k [(.bool false)] st))
theorem zq4m {a0 : PV} {st : St} {R : Res → St → Prop} (h : zq3e a0 st R) : zq5 prog n_impl_readForm [a0] st R := hcc (fn := Go.Proofs.Tryz.f76) (ann := [(20, [19]), (5, [14]), (10, []), (41, [52]), (49, [4, 5])]) (by kernel_rfl) (by kernel_rfl) (by kernel_rfl) (by kernel_rfl) h
def zqdr (a0 a1 a2 : PV) (st : St) (R : Res → St → Prop) : Prop :=
 zq19 st a1 fun v4 st =>
 zq8 st [.int .i64 0, .int .i64 0, .sl 0 true [], .sl 0 true []] fun v6 st =>
 qb (zqc .neq a0 (.int .i64 5)) fun v8 =>
 cb v8 fun b => br b
  (qb (zq0 st true 4 v4) fun v9 =>
  zqb prog n_impl_readProof [v9, a2] st (fun v11 st =>
  zq4 st 4 v6 v11 fun st =>
  qb (zq0 st true 4 v6) fun r => retR R r st) (panR R))
  (qb (q_fa 0 v4) fun v12 =>
  qb (zq0 st false 1 v12) fun v13 =>
  qb (zqc .neq v13 (.int .i64 4)) fun v14 =>
  hJ (fun ls st =>
   qb (q_fa 3 v4) fun v16 =>
   qb (zq0 st false 1 v16) fun v17 =>
   qb (q_ia 4 v17 (.int .i64 0)) fun v18 =>
   qb (zq0 st true 4 v18) fun v19 =>
   qb (zqc .add a2 (.int .i64 1)) fun v21 =>
   zqb prog n_impl_readProof [v19, v21] st (fun v22 st =>
   zq4 st 4 v6 v22 fun st =>
   qb (zq0 st true 4 v6) fun r_1 => retR R r_1 st) (panR R))
   (fun k =>
  cb v14 fun b_1 => br b_1
   (zqb prog n_impl_stop [(.int .i64 3), (.int .i64 0)] st (fun v15 st =>
   k [] st) (panR R))
   (k [] st)))
theorem zqmf {a0 a1 a2 : PV} {st : St} {R : Res → St → Prop} (h : zqdr a0 a1 a2 st R) : zq5 prog n_impl_readKid [a0, a1, a2] st R := hcc (fn := Go.Proofs.Tryz.f77) (ann := [(18, [])]) (by kernel_rfl) (by kernel_rfl) (by kernel_rfl) (by kernel_rfl) h
def zqio (a0 a1 : PV) (st : St) (R : Res → St → Prop) : Prop :=
 qb (zq1j a1) fun v8 =>
 qb (zqc .gtr v8 (.int .i64 40)) fun v9 =>
 cb v9 fun b => br b
  (retR R (.bool false) st)
  (zqb prog n_impl_SigOK [a0] st (fun v12 st =>
  qb (q_un .not v12) fun v13 =>
  cb v13 fun b_1 => br b_1
   (retR R (.bool false) st)
   (qb (zq1j a1) fun v16 =>
   hFix (fun ls st X =>
    qb (zqc .lss (ls.getD 0 .junk) v16) fun v18 =>
    cb v18 fun b_2 => br b_2
     (qb (q_ia 4 a1 (ls.getD 0 .junk)) fun v20 =>
     qb (zq0 st true 4 v20) fun v21 =>
     zq8 st [.int .i64 0, .int .i64 0, .str [], .sl 0 true []] fun v6 st =>
     zq4 st 4 v6 v21 fun st =>
     qb (zq0 st true 4 v6) fun v22 =>
     zqb prog n_impl_FamilyOK [v22] st (fun v23 st =>
     qb (q_un .not v23) fun v24 =>
     cb v24 fun b_3 => br b_3
      (retR R (.bool false) st)
      (qb (zq1y 4 a1 none (some (ls.getD 0 .junk)) none) fun v29 =>
      qb (zq0 st true 4 v6) fun v30 =>
      zqb prog n_impl_familyFault [a0, v29, v30] st (fun v31 st =>
      qb (zqcf false 1 0 v31) fun v32 =>
      qb (zqc .neq v32 (.int .i64 0)) fun v33 =>
      cb v33 fun b_4 => br b_4
       (retR R (.bool false) st)
       (qb (zqc .add (ls.getD 0 .junk) (.int .i64 1)) fun v35 =>
       X [v35] st)) (panR R))) (panR R))
     (retR R (.bool true) st))
    [(.int .i64 0)] st)) (panR R))
theorem c_impl_CtxOK {a0 a1 : PV} {st : St} {R : Res → St → Prop} (h : zqio a0 a1 st R) : zq5 prog n_impl_CtxOK [a0, a1] st R := hcc (fn := Go.Proofs.Tryz.f78) (ann := [(16, [17])]) (by kernel_rfl) (by kernel_rfl) (by kernel_rfl) (by kernel_rfl) h
def zq9m (a0 a1 : PV) (st : St) (R : Res → St → Prop) : Prop :=
 qb (zq0 st false 1 a0) fun v2 =>
 qb (zq0 st false 1 a1) fun v3 =>
 qb (zqe [.int .i64 0, .sl 0 true []] [(1, 1, v3)]) fun v4 =>
 zq19 st v4 fun v5 st =>
 zq57 prog st v2 [v5] (fun v6 st =>
 retR R (.tup []) st) (panR R)
theorem zqie {a0 a1 : PV} {st : St} {R : Res → St → Prop} (h : zq9m a0 a1 st R) : zq5 prog n_impl_checked_1 [a0, a1] st R := hcc (fn := Go.Proofs.Tryz.f79) (ann := []) (by kernel_rfl) (by kernel_rfl) (by kernel_rfl) (by kernel_rfl) h
def zq7k (a0 a1 : PV) (st : St) (R : Res → St → Prop) : Prop :=
 zq19 st a1 fun v3 st =>
 zqb prog n_impl_looker_node [a0] st (fun v6 st =>
 qb (q_un .not v6) fun v7 =>
 cb v7 fun b => br b
  (retR R (.bool false) st)
  (qb (q_fa 0 v3) fun v8 =>
  qb (zq0 st false 1 v8) fun v9 =>
  qb (zqc .eql v9 (.int .i64 4)) fun v11 =>
  cb v11 fun b_1 => br b_1
   (zqb prog n_impl_Tree_bare [v3, (.int .i64 1)] st (fun v12 st =>
   cb v12 fun b_2 => br b_2
    (qb (q_fa 3 v3) fun v15 =>
    qb (zq0 st false 1 v15) fun v16 =>
    qb (q_ia 4 v16 (.int .i64 0)) fun v17 =>
    qb (zq0 st true 4 v17) fun v18 =>
    zqb prog n_impl_looker_term [a0, v18] st (fun v19 st =>
    retR R v19 st) (panR R))
    (retR R (.bool false) st)) (panR R))
   (qb (zqc .eql v9 (.int .i64 5)) fun v22 =>
   hJ (fun ls st =>
    cb (ls.getD 0 .junk) fun b_4 => br b_4
     (qb (q_fa 1 v3) fun v24 =>
     qb (zq0 st false 1 v24) fun v25 =>
     zqb prog n_impl_in [v25, (.int .i64 0), (.int .i64 100)] st (fun v26 st =>
     cb v26 fun b_5 => br b_5
      (qb (q_fa 2 v3) fun v28 =>
      qb (zq0 st false 1 v28) fun v29 =>
      qb (zqc .eql v29 (.str [])) fun v30 =>
      cb v30 fun b_6 => br b_6
       (qb (q_fa 3 v3) fun v34 =>
       qb (zq0 st false 1 v34) fun v35 =>
       zqb prog n_impl_looker_args [a0, v35] st (fun v36 st =>
       retR R v36 st) (panR R))
       (retR R (.bool false) st))
      (retR R (.bool false) st)) (panR R))
     (qb (zqc .eql v9 (.int .i64 6)) fun v39 =>
     cb v39 fun b_7 => br b_7
      (qb (q_fa 1 v3) fun v40 =>
      qb (zq0 st false 1 v40) fun v41 =>
      qb (zqc .eql v41 (.int .i64 0)) fun v42 =>
      cb v42 fun b_8 => br b_8
       (qb (q_fa 2 v3) fun v44 =>
       qb (zq0 st false 1 v44) fun v45 =>
       zqb prog n_impl_NameOK [v45] st (fun v46 st =>
       cb v46 fun b_9 => br b_9
        (qb (q_fa 3 v3) fun v50 =>
        qb (zq0 st false 1 v50) fun v51 =>
        zqb prog n_impl_looker_args [a0, v51] st (fun v52 st =>
        retR R v52 st) (panR R))
        (retR R (.bool false) st)) (panR R))
       (retR R (.bool false) st))
      (retR R (.bool false) st)))
    (fun k =>
   cb v22 fun b_3 => br b_3
    (k [v22] st)
    (qb (zqc .eql v9 (.int .i64 7)) fun v23 =>
    k [v23] st))))) (panR R)
theorem zqek : zqir prog n_impl_looker_term := ⟨Go.Proofs.Tryz.f80, by kernel_rfl, by kernel_rfl, by kernel_rfl⟩
theorem zqex {a0 a1 : PV} {st : St} {R : Res → St → Prop} (h : zq7k a0 a1 st R) : zq5 prog n_impl_looker_term [a0, a1] st R := hcc (fn := Go.Proofs.Tryz.f80) (ann := [(30, [21])]) (by kernel_rfl) (by kernel_rfl) (by kernel_rfl) (by kernel_rfl) h
def zqbf (a0 : PV) (st : St) (R : Res → St → Prop) : Prop :=
 zq19 st a0 fun v1 st =>
 qb (zq0 st true 4 v1) fun v4 =>
 zqb prog n_impl_fresh [] st (fun v3 st =>
 zq0 st true 4 v1 = some v4 ∧ (zqb prog n_impl_looker_family [v3, v4, (.bool false)] st (fun v5 st =>
 retR R v5 st) (panR R))) (panR R)
theorem zqk4 {a0 : PV} {st : St} {R : Res → St → Prop} (h : zqbf a0 st R) : zq5 prog n_impl_FamilyOK [a0] st R := hcc (fn := Go.Proofs.Tryz.f81) (ann := []) (by kernel_rfl) (by kernel_rfl) (by kernel_rfl) (by kernel_rfl) h
def zq7n (a0 a1 a2 : PV) (st : St) (R : Res → St → Prop) : Prop :=
 zq19 st a0 fun v3 st =>
 zq19 st a1 fun v4 st =>
 zq19 st a2 fun v5 st =>
 zq8 st [.int .i64 0, .int .i64 0] fun v6 st =>
 zqb prog n_impl_caught [(.fn (.func n_impl_familyFault_1) [] [v3, v4, v5])] st (fun v8 st =>
 zq4 st 2 v6 v8 fun st =>
 qb (zq0 st true 2 v6) fun r => retR R r st) (panR R)
theorem zqf0 {a0 a1 a2 : PV} {st : St} {R : Res → St → Prop} (h : zq7n a0 a1 a2 st R) : zq5 prog n_impl_familyFault [a0, a1, a2] st R := hcc (fn := Go.Proofs.Tryz.f82) (ann := []) (by kernel_rfl) (by kernel_rfl) (by kernel_rfl) (by kernel_rfl) h
def zqg3 (a0 a1 : PV) (st : St) (R : Res → St → Prop) : Prop :=
 zq19 st a1 fun v3 st =>
 qb (zq0 st true 4 v3) fun v7 =>
 qb (zq24 4 1 0 [] [(0, v7)]) fun v8 =>
 zqb prog n_slices_Clip_impl_Tree_impl_Tree [a0] st (fun v6 st =>
 zq0 st true 4 v3 = some v7 ∧ (zqo st 4 56 v6 v8 (fun v9 st =>
 retR R v9 st))) (panR R)
theorem c_impl_behind {a0 a1 : PV} {st : St} {R : Res → St → Prop} (h : zqg3 a0 a1 st R) : zq5 prog n_impl_behind [a0, a1] st R := hcc (fn := Go.Proofs.Tryz.f83) (ann := []) (by kernel_rfl) (by kernel_rfl) (by kernel_rfl) (by kernel_rfl) h
end Go.H.Tryz
