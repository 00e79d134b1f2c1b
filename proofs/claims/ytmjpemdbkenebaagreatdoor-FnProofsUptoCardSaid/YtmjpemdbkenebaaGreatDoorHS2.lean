/- Part of a proof that the program answers as the reference does: ZHS2. -/
import Derived.Test.YtmjpemdbkenebaaGreatDoorHT
set_option linter.unusedVariables false
set_option maxRecDepth 100000
namespace Go.H.Tryz
open Go Go.H
def zqg4 (a0 : PV) (st : St) (R : Res → St → Prop) : Prop :=
 zq19 st a0 fun v1 st =>
 qb (zq0 st true 4 v1) fun v4 =>
 zqb prog n_impl_fresh [] st (fun v3 st =>
 zq0 st true 4 v1 = some v4 ∧ (zqb prog n_impl_looker_term [v3, v4] st (fun v5 st =>
 retR R v5 st) (panR R))) (panR R)
theorem c_impl_TermOK {a0 : PV} {st : St} {R : Res → St → Prop} (h : zqg4 a0 st R) : zq5 prog n_impl_TermOK [a0] st R := hcc (fn := Go.Proofs.Tryz.f43) (ann := []) (by kernel_rfl) (by kernel_rfl) (by kernel_rfl) (by kernel_rfl) h
def b_impl_due (a0 a1 a2 : PV) (st : St) (R : Res → St → Prop) : Prop :=
 zq19 st a2 fun v5 st =>
 qb (zq0 st true 4 v5) fun v7 =>
 zqb prog n_impl_FamilyOK [v7] st (fun v8 st =>
 cb v8 fun b => br b
  (qb (zq0 st true 4 v5) fun v12 =>
  zqb prog n_impl_familyFault [a0, a1, v12] st (fun v13 st =>
  qb (zqcf false 1 0 v13) fun v14 =>
  qb (zqc .eql v14 (.int .i64 0)) fun v15 =>
  retR R v15 st) (panR R))
  (retR R (.bool false) st)) (panR R)
theorem c_impl_due {a0 a1 a2 : PV} {st : St} {R : Res → St → Prop} (h : b_impl_due a0 a1 a2 st R) : zq5 prog n_impl_due [a0, a1, a2] st R := hcc (fn := Go.Proofs.Tryz.f44) (ann := []) (by kernel_rfl) (by kernel_rfl) (by kernel_rfl) (by kernel_rfl) h
def zq7t (a0 a1 a2 a3 : PV) (st : St) (R : Res → St → Prop) : Prop :=
 qb (zq0 st false 1 a1) fun v6 =>
 qb (zq0 st true 4 a2) fun v7 =>
 qb (zq0 st true 4 a3) fun v8 =>
 zqb prog n_impl_checker_term [a0, v6, v7, v8, (.int .i64 0)] st (fun v9 st =>
 retR R (.tup []) st) (panR R)
theorem zqf6 {a0 a1 a2 a3 : PV} {st : St} {R : Res → St → Prop} (h : zq7t a0 a1 a2 a3 st R) : zq5 prog n_impl_CheckTerm_2 [a0, a1, a2, a3] st R := hcc (fn := Go.Proofs.Tryz.f45) (ann := []) (by kernel_rfl) (by kernel_rfl) (by kernel_rfl) (by kernel_rfl) h
def zq6g (a0 a1 a2 a3 a4 : PV) (st : St) (R : Res → St → Prop) : Prop :=
 zq19 st a2 fun v7 st =>
 zq19 st a3 fun v8 st =>
 qb (q_fa 0 v7) fun v10 =>
 qb (zq0 st false 1 v10) fun v11 =>
 qb (zqc .eql v11 (.int .i64 4)) fun v12 =>
 qb (q_fa 0 v8) fun v13 =>
 qb (zq0 st false 1 v13) fun v14 =>
 qb (zqc .eql v14 (.int .i64 2)) fun v15 =>
 qb (q_beq .neq v12 v15) fun v16 =>
 hJ (fun ls st =>
  qb (q_fa 0 v7) fun v19 =>
  qb (zq0 st false 1 v19) fun v20 =>
  qb (zqc .eql v20 (.int .i64 4)) fun v21 =>
  cb v21 fun b_1 => br b_1
   (qb (q_fa 3 v8) fun v24 =>
   qb (zq0 st false 1 v24) fun v25 =>
   qb (q_ia 4 v25 (.int .i64 0)) fun v26 =>
   qb (zq0 st true 4 v26) fun v27 =>
   qb (q_fa 3 v7) fun v29 =>
   qb (zq0 st false 1 v29) fun v30 =>
   qb (q_ia 4 v30 (.int .i64 0)) fun v31 =>
   qb (zq0 st true 4 v31) fun v32 =>
   qb (q_fa 3 v8) fun v33 =>
   qb (zq0 st false 1 v33) fun v34 =>
   qb (q_ia 4 v34 (.int .i64 1)) fun v35 =>
   qb (zq0 st true 4 v35) fun v36 =>
   qb (zqc .add a4 (.int .i64 1)) fun v38 =>
   zqb prog n_impl_behind [a1, v27] st (fun v28 st =>
   zq0 st true 4 v35 = some v36 ∧ zq0 st false 1 v33 = some v34 ∧ zq0 st true 4 v31 = some v32 ∧ zq0 st false 1 v29 = some v30 ∧ (zqb prog n_impl_checker_term [a0, v28, v32, v36, v38] st (fun v39 st =>
   retR R (.tup []) st) (panR R))) (panR R))
   (qb (zq0 st true 4 v7) fun v42 =>
   qb (zq0 st true 4 v8) fun v45 =>
   zqb prog n_impl_checker_found [a0, a1, v42, a4] st (fun v44 st =>
   zq0 st true 4 v8 = some v45 ∧ (zqb prog n_impl_same [v44, v45] st (fun v46 st =>
   qb (q_un .not v46) fun v47 =>
   cb v47 fun b_2 => br b_2
    (zqb prog n_impl_stop [(.int .i64 10), a4] st (fun v49 st =>
    retR R (.tup []) st) (panR R))
    (retR R (.tup []) st)) (panR R))) (panR R)))
  (fun k =>
 cb v16 fun b => br b
  (zqb prog n_impl_stop [(.int .i64 9), a4] st (fun v18 st =>
  k [] st) (panR R))
  (k [] st))
theorem zqdi {a0 a1 a2 a3 a4 : PV} {st : St} {R : Res → St → Prop} (h : zq6g a0 a1 a2 a3 a4 st R) : zq5 prog n_impl_checker_term [a0, a1, a2, a3, a4] st R := hcc (fn := Go.Proofs.Tryz.f46) (ann := [(10, [])]) (by kernel_rfl) (by kernel_rfl) (by kernel_rfl) (by kernel_rfl) h
def zqdv (a0 : PV) (st : St) (R : Res → St → Prop) : Prop :=
 zqb prog n_impl_ReadSig [a0] st (fun v9 st =>
 qb (q_ex v9 0) fun v10 =>
 qb (q_ex v9 1) fun v11 =>
 qb (q_ex v9 2) fun v12 =>
 qb (q_ex v9 3) fun v13 =>
 retR R v10 st) (panR R)
theorem zqmj {a0 : PV} {st : St} {R : Res → St → Prop} (h : zqdv a0 st R) : zq5 prog n_impl_builtIn [a0] st R := hcc (fn := Go.Proofs.Tryz.f47) (ann := []) (by kernel_rfl) (by kernel_rfl) (by kernel_rfl) (by kernel_rfl) h
def zq4l (a0 a1 : PV) (st : St) (R : Res → St → Prop) : Prop :=
 zq8 st [.int .i64 0, .int .i64 0, .sl 0 true []] fun v4 st =>
 hJ (fun ls st =>
  cb (ls.getD 0 .junk) fun b => br b
   (zqb prog n_spec_l00Src_next [a0, (.int .i64 2)] st (fun v13 st =>
   qb (zqc .add (.int .i64 2) v13) fun v14 =>
   qb (zqc .sub a1 (.int .i64 1)) fun v17 =>
   zqb prog n_spec_l00Src_form [a0, v17] st (fun v18 st =>
   qb (zqc .sub a1 (.int .i64 1)) fun v21 =>
   zqb prog n_spec_l00Src_form [a0, v21] st (fun v22 st =>
   zqb prog n_spec_l08Two [v14, v18, v22] st (fun v23 st =>
   zq4 st 3 v4 v23 fun st =>
   qb (zq0 st true 3 v4) fun r => retR R r st) (panR R)) (panR R)) (panR R)) (panR R))
   (zqb prog n_spec_l00Src_chance [a0, (.int .i64 6)] st (fun v25 st =>
   cb v25 fun b_1 => br b_1
    (qb (zqe [.int .i64 0, .int .i64 0, .sl 0 true []] [(0, 1, (.int .i64 4))]) fun v26 =>
    zq4 st 3 v4 v26 fun st =>
    qb (zq0 st true 3 v4) fun r_1 => retR R r_1 st)
    (zqb prog n_spec_l00Src_next [a0, (.int .i64 3)] st (fun v28 st =>
    qb (zqe [.int .i64 0, .int .i64 0, .sl 0 true []] [(0, 1, (.int .i64 1)), (1, 1, v28)]) fun v29 =>
    zq4 st 3 v4 v29 fun st =>
    qb (zq0 st true 3 v4) fun r_2 => retR R r_2 st) (panR R))) (panR R)))
  (fun k =>
 qb (zqc .gtr a1 (.int .i64 0)) fun v6 =>
 cb v6 fun b_2 => br b_2
  (zqb prog n_spec_l00Src_chance [a0, (.int .i64 3)] st (fun v9 st =>
  qb (q_un .not v9) fun v10 =>
  k [v10] st) (panR R))
  (k [(.bool false)] st))
theorem zq79 {a0 a1 : PV} {st : St} {R : Res → St → Prop} (h : zq4l a0 a1 st R) : zq5 prog n_spec_l00Src_form [a0, a1] st R := hcc (fn := Go.Proofs.Tryz.f48) (ann := [(5, [11])]) (by kernel_rfl) (by kernel_rfl) (by kernel_rfl) (by kernel_rfl) h
def zqfq (a0 a1 a2 : PV) (st : St) (R : Res → St → Prop) : Prop :=
 zq19 st a1 fun v4 st =>
 zq19 st a2 fun v5 st =>
 zq8 st [.int .i64 0, .int .i64 0, .sl 0 true []] fun v6 st =>
 qb (zq0 st true 3 v4) fun v8 =>
 qb (zq0 st true 3 v5) fun v9 =>
 qb (zq24 3 2 0 [] [(0, v8), (1, v9)]) fun v10 =>
 qb (zqe [.int .i64 0, .int .i64 0, .sl 0 true []] [(0, 1, a0), (2, 1, v10)]) fun v11 =>
 zq4 st 3 v6 v11 fun st =>
 qb (zq0 st true 3 v6) fun r => retR R r st
theorem c_spec_l08Two {a0 a1 a2 : PV} {st : St} {R : Res → St → Prop} (h : zqfq a0 a1 a2 st R) : zq5 prog n_spec_l08Two [a0, a1, a2] st R := hcc (fn := Go.Proofs.Tryz.f49) (ann := []) (by kernel_rfl) (by kernel_rfl) (by kernel_rfl) (by kernel_rfl) h
def zqdn (a0 a1 : PV) (st : St) (R : Res → St → Prop) : Prop :=
 zq19 st a0 fun v2 st =>
 zq19 st a1 fun v3 st =>
 qb (q_fa 0 v2) fun v6 =>
 qb (zq0 st false 1 v6) fun v7 =>
 qb (q_fa 0 v3) fun v8 =>
 qb (zq0 st false 1 v8) fun v9 =>
 qb (zqc .neq v7 v9) fun v10 =>
 cb v10 fun b => br b
  (retR R (.bool false) st)
  (qb (q_fa 1 v2) fun v12 =>
  qb (zq0 st false 1 v12) fun v13 =>
  qb (q_fa 1 v3) fun v14 =>
  qb (zq0 st false 1 v14) fun v15 =>
  qb (zqc .neq v13 v15) fun v16 =>
  cb v16 fun b_1 => br b_1
   (retR R (.bool false) st)
   (qb (q_fa 2 v2) fun v19 =>
   qb (zq0 st false 1 v19) fun v20 =>
   qb (zq1j v20) fun v21 =>
   qb (q_fa 2 v3) fun v22 =>
   qb (zq0 st false 1 v22) fun v23 =>
   qb (zq1j v23) fun v24 =>
   qb (zqc .neq v21 v24) fun v25 =>
   cb v25 fun b_2 => br b_2
    (retR R (.bool false) st)
    (hFix (fun ls st X =>
     qb (q_fa 2 v2) fun v28 =>
     qb (zq0 st false 1 v28) fun v29 =>
     qb (zq1j v29) fun v30 =>
     qb (zqc .lss (ls.getD 0 .junk) v30) fun v31 =>
     cb v31 fun b_3 => br b_3
      (qb (q_fa 2 v2) fun v34 =>
      qb (zq0 st false 1 v34) fun v35 =>
      qb (q_ia 3 v35 (ls.getD 0 .junk)) fun v37 =>
      qb (zq0 st true 3 v37) fun v38 =>
      qb (q_fa 2 v3) fun v39 =>
      qb (zq0 st false 1 v39) fun v40 =>
      qb (q_ia 3 v40 (ls.getD 0 .junk)) fun v42 =>
      qb (zq0 st true 3 v42) fun v43 =>
      zqb prog n_spec_l08Same [v38, v43] st (fun v44 st =>
      qb (q_un .not v44) fun v45 =>
      cb v45 fun b_4 => br b_4
       (retR R (.bool false) st)
       (qb (zqc .add (ls.getD 0 .junk) (.int .i64 1)) fun v33 =>
       X [v33] st)) (panR R))
      (retR R (.bool true) st))
     [(.int .i64 0)] st)))
theorem zqmb {a0 a1 : PV} {st : St} {R : Res → St → Prop} (h : zqdn a0 a1 st R) : zq5 prog n_spec_l08Same [a0, a1] st R := hcc (fn := Go.Proofs.Tryz.f50) (ann := [(16, [5])]) (by kernel_rfl) (by kernel_rfl) (by kernel_rfl) (by kernel_rfl) h
def zqdo (a0 a1 : PV) (st : St) (R : Res → St → Prop) : Prop :=
 zq19 st a1 fun v3 st =>
 qb (zq24 3 0 0 [] []) fun v5 =>
 qb (zq0 st true 3 v3) fun v8 =>
 qb (zq24 3 1 0 [] [(0, v8)]) fun v9 =>
 zqo st 3 40 v5 a0 (fun v7 st =>
 zq0 st true 3 v3 = some v8 ∧ (zqo st 3 40 v7 v9 (fun v10 st =>
 retR R v10 st)))
theorem zqmc {a0 a1 : PV} {st : St} {R : Res → St → Prop} (h : zqdo a0 a1 st R) : zq5 prog n_spec_l08More [a0, a1] st R := hcc (fn := Go.Proofs.Tryz.f51) (ann := []) (by kernel_rfl) (by kernel_rfl) (by kernel_rfl) (by kernel_rfl) h
def zq7d (a0 : PV) (st : St) (R : Res → St → Prop) : Prop :=
 qb (zq1d a0) fun v4 =>
 qb (q_fa 1 v4) fun v5 =>
 qb (zq0 st false 1 v5) fun v6 =>
 qb (zqc .add v6 (.int .i64 1)) fun v7 =>
 qb (zq1d a0) fun v8 =>
 qb (q_fa 1 v8) fun v9 =>
 zq4 st 1 v9 v7 fun st =>
 qb (zq1d a0) fun v11 =>
 qb (q_fa 1 v11) fun v12 =>
 qb (zq0 st false 1 v12) fun v13 =>
 qb (zq1d a0) fun v15 =>
 qb (q_fa 0 v15) fun v16 =>
 qb (zq0 st false 1 v16) fun v17 =>
 qb (zq1j v17) fun v18 =>
 qb (zqc .leq v13 v18) fun v19 =>
 cb v19 fun b => br b
  (qb (zq1d a0) fun v22 =>
  qb (q_fa 2 v22) fun v23 =>
  qb (zq0 st false 1 v23) fun v24 =>
  qb (zqc .mul v24 (.int .i64 31)) fun v25 =>
  qb (zq1d a0) fun v27 =>
  qb (q_fa 0 v27) fun v28 =>
  qb (zq0 st false 1 v28) fun v29 =>
  qb (zq1d a0) fun v31 =>
  qb (q_fa 1 v31) fun v32 =>
  qb (zq0 st false 1 v32) fun v33 =>
  qb (zqc .sub v33 (.int .i64 1)) fun v34 =>
  qb (q_ia 1 v29 v34) fun v35 =>
  qb (zq0 st false 1 v35) fun v36 =>
  qb (zqe5 .i64 v36) fun v37 =>
  qb (zqc .add v25 v37) fun v38 =>
  qb (zqc .add v38 (.int .i64 7)) fun v39 =>
  qb (zqc .rem v39 (.int .i64 2147483648)) fun v40 =>
  qb (zq1d a0) fun v41 =>
  qb (q_fa 2 v41) fun v42 =>
  zq4 st 1 v42 v40 fun st =>
  qb (zq1d a0) fun v44 =>
  qb (q_fa 0 v44) fun v45 =>
  qb (zq0 st false 1 v45) fun v46 =>
  qb (zq1d a0) fun v48 =>
  qb (q_fa 1 v48) fun v49 =>
  qb (zq0 st false 1 v49) fun v50 =>
  qb (zqc .sub v50 (.int .i64 1)) fun v51 =>
  qb (q_ia 1 v46 v51) fun v52 =>
  qb (zq0 st false 1 v52) fun v53 =>
  qb (zqe5 .i64 v53) fun v54 =>
  retR R v54 st)
  (qb (zq1d a0) fun v56 =>
  qb (q_fa 1 v56) fun v57 =>
  qb (zq0 st false 1 v57) fun v58 =>
  qb (zqc .gtr v58 (.int .i64 3000)) fun v59 =>
  cb v59 fun b_1 => br b_1
   (retR R (.int .i64 0) st)
   (qb (zq1d a0) fun v62 =>
   qb (q_fa 2 v62) fun v63 =>
   qb (zq0 st false 1 v63) fun v64 =>
   qb (zqc .mul v64 (.int .i64 1103515245)) fun v65 =>
   qb (zqc .add v65 (.int .i64 12345)) fun v66 =>
   qb (zqc .rem v66 (.int .i64 2147483648)) fun v67 =>
   qb (zq1d a0) fun v68 =>
   qb (q_fa 2 v68) fun v69 =>
   zq4 st 1 v69 v67 fun st =>
   qb (zq1d a0) fun v71 =>
   qb (q_fa 2 v71) fun v72 =>
   qb (zq0 st false 1 v72) fun v73 =>
   qb (zqc .quo v73 (.int .i64 65536)) fun v74 =>
   qb (zqc .rem v74 (.int .i64 256)) fun v75 =>
   retR R v75 st))
theorem zqeq {a0 : PV} {st : St} {R : Res → St → Prop} (h : zq7d a0 st R) : zq5 prog n_spec_l00Src_byte [a0] st R := hcc (fn := Go.Proofs.Tryz.f52) (ann := []) (by kernel_rfl) (by kernel_rfl) (by kernel_rfl) (by kernel_rfl) h
def zq23 (a0 a1 : PV) (st : St) (R : Res → St → Prop) : Prop :=
 zq19 st a0 fun v2 st =>
 qb (zqc .sub a1 (.int .i64 1)) fun v7 =>
 hFix (fun ls st X =>
  hJ (fun ls_1 st =>
   cb (ls_1.getD 0 .junk) fun b => br b
    (qb (q_fa 2 v2) fun v19 =>
    qb (zq0 st false 1 v19) fun v20 =>
    qb (q_ia 3 v20 (ls.getD 1 .junk)) fun v22 =>
    qb (zq0 st true 3 v22) fun v23 =>
    zqb prog n_spec_l08FormCount [v23, (ls.getD 0 .junk)] st (fun v25 st =>
    qb (zqc .add (ls.getD 1 .junk) (.int .i64 1)) fun v18 =>
    X [v25, v18] st) (panR R))
    (retR R (ls.getD 0 .junk) st))
   (fun k =>
  qb (q_fa 2 v2) fun v9 =>
  qb (zq0 st false 1 v9) fun v10 =>
  qb (zq1j v10) fun v11 =>
  qb (zqc .lss (ls.getD 1 .junk) v11) fun v12 =>
  cb v12 fun b_1 => br b_1
   (qb (zqc .geq (ls.getD 0 .junk) (.int .i64 0)) fun v15 =>
   k [v15] st)
   (k [(.bool false)] st)))
  [v7, (.int .i64 0)] st
theorem zq2q {a0 a1 : PV} {st : St} {R : Res → St → Prop} (h : zq23 a0 a1 st R) : zq5 prog n_spec_l08FormCount [a0, a1] st R := hcc (fn := Go.Proofs.Tryz.f53) (ann := [(12, [1, 5]), (13, [16])]) (by kernel_rfl) (by kernel_rfl) (by kernel_rfl) (by kernel_rfl) h
def zqan (a0 : PV) (st : St) (R : Res → St → Prop) : Prop :=
 qb (zqc .eql a0 (.int .i64 1)) fun v6 =>
 cb v6 fun b => br b
  (retR R (.tup [(.int .i64 0), (.int .i64 0)]) st)
  (qb (zqc .eql a0 (.int .i64 2)) fun v8 =>
  hJ (fun ls st =>
   cb (ls.getD 0 .junk) fun b_2 => br b_2
    (retR R (.tup [(.int .i64 2), (.int .i64 2)]) st)
    (qb (zqc .eql a0 (.int .i64 3)) fun v11 =>
    hJ (fun ls_1 st =>
     cb (ls_1.getD 0 .junk) fun b_4 => br b_4
      (retR R (.tup [(.int .i64 2), (.int .i64 1)]) st)
      (qb (zqc .eql a0 (.int .i64 7)) fun v15 =>
      cb v15 fun b_5 => br b_5
       (retR R (.tup [(.int .i64 1), (.int .i64 1)]) st)
       (retR R (.tup [(.int .i64 (-1)), (.int .i64 (-1))]) st)))
     (fun k_1 =>
    cb v11 fun b_3 => br b_3
     (k_1 [v11] st)
     (qb (zqc .eql a0 (.int .i64 4)) fun v12 =>
     cb v12 fun b_6 => br b_6
      (k_1 [v12] st)
      (qb (zqc .eql a0 (.int .i64 5)) fun v13 =>
      k_1 [v13] st)))))
   (fun k =>
  cb v8 fun b_1 => br b_1
   (k [v8] st)
   (qb (zqc .eql a0 (.int .i64 6)) fun v9 =>
   k [v9] st)))
theorem zqjc {a0 : PV} {st : St} {R : Res → St → Prop} (h : zqan a0 st R) : zq5 prog n_spec_l08Shape [a0] st R := hcc (fn := Go.Proofs.Tryz.f54) (ann := [(22, [7]), (34, [10])]) (by kernel_rfl) (by kernel_rfl) (by kernel_rfl) (by kernel_rfl) h
def zq40 (a0 : PV) (st : St) (R : Res → St → Prop) : Prop :=
 zq19 st a0 fun v1 st =>
 qb (q_fa 0 v1) fun v5 =>
 qb (zq0 st false 1 v5) fun v6 =>
 hJ (fun ls st =>
  qb (q_fa 2 v1) fun v22 =>
  qb (zq0 st false 1 v22) fun v23 =>
  qb (zq1j v23) fun v24 =>
  qb (zqc .neq v24 (ls.getD 0 .junk)) fun v26 =>
  cb v26 fun b => br b
   (retR R (.bool false) st)
   (qb (q_fa 0 v1) fun v28 =>
   qb (zq0 st false 1 v28) fun v29 =>
   qb (zqc .neq v29 (.int .i64 1)) fun v30 =>
   cb v30 fun b_1 => br b_1
    (qb (q_fa 1 v1) fun v32 =>
    qb (zq0 st false 1 v32) fun v33 =>
    qb (zqc .neq v33 (.int .i64 0)) fun v34 =>
    cb v34 fun b_2 => br b_2
     (retR R (.bool false) st)
     (hFix (fun ls_1 st X =>
      qb (zqc .lss (ls_1.getD 0 .junk) (ls.getD 0 .junk)) fun v39 =>
      cb v39 fun b_3 => br b_3
       (qb (q_fa 2 v1) fun v42 =>
       qb (zq0 st false 1 v42) fun v43 =>
       qb (q_ia 3 v43 (ls_1.getD 0 .junk)) fun v45 =>
       qb (zq0 st true 3 v45) fun v46 =>
       zqb prog n_spec_l08Form [v46] st (fun v47 st =>
       qb (q_un .not v47) fun v48 =>
       cb v48 fun b_4 => br b_4
        (retR R (.bool false) st)
        (qb (zqc .add (ls_1.getD 0 .junk) (.int .i64 1)) fun v41 =>
        X [v41] st)) (panR R))
       (retR R (.bool true) st))
      [(.int .i64 0)] st))
    (hFix (fun ls_2 st X_1 =>
     qb (zqc .lss (ls_2.getD 0 .junk) (ls.getD 0 .junk)) fun v39_1 =>
     cb v39_1 fun b_5 => br b_5
      (qb (q_fa 2 v1) fun v42_1 =>
      qb (zq0 st false 1 v42_1) fun v43_1 =>
      qb (q_ia 3 v43_1 (ls_2.getD 0 .junk)) fun v45_1 =>
      qb (zq0 st true 3 v45_1) fun v46_1 =>
      zqb prog n_spec_l08Form [v46_1] st (fun v47_1 st =>
      qb (q_un .not v47_1) fun v48_1 =>
      cb v48_1 fun b_6 => br b_6
       (retR R (.bool false) st)
       (qb (zqc .add (ls_2.getD 0 .junk) (.int .i64 1)) fun v41_1 =>
       X_1 [v41_1] st)) (panR R))
      (retR R (.bool true) st))
     [(.int .i64 0)] st)))
  (fun k =>
 qb (zqc .eql v6 (.int .i64 1)) fun v8 =>
 cb v8 fun b_7 => br b_7
  (qb (q_fa 1 v1) fun v9 =>
  qb (zq0 st false 1 v9) fun v10 =>
  qb (zqc .lss v10 (.int .i64 0)) fun v11 =>
  cb v11 fun b_8 => br b_8
   (retR R (.bool false) st)
   (qb (q_fa 1 v1) fun v13 =>
   qb (zq0 st false 1 v13) fun v14 =>
   qb (zqc .geq v14 (.int .i64 6)) fun v15 =>
   cb v15 fun b_9 => br b_9
    (retR R (.bool false) st)
    (k [(.int .i64 0)] st)))
  (qb (zqc .eql v6 (.int .i64 2)) fun v18 =>
  cb v18 fun b_10 => br b_10
   (cb v18 fun b_11 => br b_11
    (k [(.int .i64 2)] st)
    (qb (zqc .eql v6 (.int .i64 4)) fun v21 =>
    cb v21 fun b_12 => br b_12
     (k [(.int .i64 0)] st)
     (retR R (.bool false) st)))
   (qb (zqc .eql v6 (.int .i64 3)) fun v19 =>
   cb v19 fun b_13 => br b_13
    (k [(.int .i64 2)] st)
    (qb (zqc .eql v6 (.int .i64 4)) fun v21_1 =>
    cb v21_1 fun b_14 => br b_14
     (k [(.int .i64 0)] st)
     (retR R (.bool false) st)))))
theorem zq59 {a0 : PV} {st : St} {R : Res → St → Prop} (h : zq40 a0 st R) : zq5 prog n_spec_l08Form [a0] st R := hcc (fn := Go.Proofs.Tryz.f55) (ann := [(56, [4]), (3, [3])]) (by kernel_rfl) (by kernel_rfl) (by kernel_rfl) (by kernel_rfl) h
def zq5q (a0 : PV) (st : St) (R : Res → St → Prop) : Prop :=
 qb (zq1j a0) fun v6 =>
 qb (zqc .lss v6 (.int .i64 1)) fun v7 =>
 cb v7 fun b => br b
  (qb (zqhb ty_string (.str [115, 108, 105, 99, 101, 115, 46, 77, 97, 120, 58, 32, 101, 109, 112, 116, 121, 32, 108, 105, 115, 116])) fun v8 =>
  zqkw v8 st (panR R))
  (qb (q_ia 1 a0 (.int .i64 0)) fun v10 =>
  qb (zq0 st false 1 v10) fun v11 =>
  hFix (fun ls st X =>
   qb (zq1j a0) fun v14 =>
   qb (zqc .lss (ls.getD 1 .junk) v14) fun v15 =>
   cb v15 fun b_1 => br b_1
    (qb (q_ia 1 a0 (ls.getD 1 .junk)) fun v21 =>
    qb (zq0 st false 1 v21) fun v22 =>
    qb (q_max (ls.getD 0 .junk) v22) fun v23 =>
    qb (zqc .add (ls.getD 1 .junk) (.int .i64 1)) fun v17 =>
    X [v23, v17] st)
    (retR R (ls.getD 0 .junk) st))
   [v11, (.int .i64 1)] st)
theorem zqbt {a0 : PV} {st : St} {R : Res → St → Prop} (h : zq5q a0 st R) : zq5 prog n_slices_Max_int_int [a0] st R := hcc (fn := Go.Proofs.Tryz.f56) (ann := [(20, [3, 4])]) (by kernel_rfl) (by kernel_rfl) (by kernel_rfl) (by kernel_rfl) h
def zq1f (a0 a1 : PV) (st : St) (R : Res → St → Prop) : Prop :=
 zqb prog n_slices_IndexFunc_impl_Form_impl_Form [a0, a1] st (fun v7 st =>
 qb (zqc .geq v7 (.int .i64 0)) fun v8 =>
 retR R v8 st) (panR R)
theorem zq2t {a0 a1 : PV} {st : St} {R : Res → St → Prop} (h : zq1f a0 a1 st R) : zq5 prog n_slices_ContainsFunc_impl_Form_impl_Form [a0, a1] st R := hcc (fn := Go.Proofs.Tryz.f57) (ann := []) (by kernel_rfl) (by kernel_rfl) (by kernel_rfl) (by kernel_rfl) h
def zqdx (a0 : PV) (st : St) (R : Res → St → Prop) : Prop :=
 zq19 st a0 fun v1 st =>
 qb (zq0 st true 3 v1) fun v3 =>
 zqb prog n_impl_FormOK [v3] st (fun v4 st =>
 qb (q_un .not v4) fun v5 =>
 retR R v5 st) (panR R)
theorem zqml {a0 : PV} {st : St} {R : Res → St → Prop} (h : zqdx a0 st R) : zq5 prog n_impl_badForm [a0] st R := hcc (fn := Go.Proofs.Tryz.f58) (ann := []) (by kernel_rfl) (by kernel_rfl) (by kernel_rfl) (by kernel_rfl) h
def zqik (st : St) (R : Res → St → Prop) : Prop :=
 qb (zqe [.int .i64 0, .bool false] [(0, 1, (.int .i64 150))]) fun v1 =>
 zq19 st v1 fun v2 st =>
 retR R v2 st
theorem c_impl_fresh {st : St} {R : Res → St → Prop} (h : zqik  st R) : zq5 prog n_impl_fresh [] st R := hcc (fn := Go.Proofs.Tryz.f59) (ann := []) (by kernel_rfl) (by kernel_rfl) (by kernel_rfl) (by kernel_rfl) h
def zq6f (a0 a1 : PV) (st : St) (R : Res → St → Prop) : Prop :=
 zq19 st a1 fun v3 st =>
 zqb prog n_impl_looker_node [a0] st (fun v12 st =>
 qb (q_un .not v12) fun v13 =>
 cb v13 fun b => br b
  (retR R (.bool false) st)
  (qb (q_fa 0 v3) fun v14 =>
  qb (zq0 st false 1 v14) fun v15 =>
  qb (zqc .eql v15 (.int .i64 1)) fun v16 =>
  cb v16 fun b_1 => br b_1
   (qb (q_fa 1 v3) fun v17 =>
   qb (zq0 st false 1 v17) fun v18 =>
   zqb prog n_impl_in [v18, (.int .i64 0), (.int .i64 100)] st (fun v19 st =>
   cb v19 fun b_2 => br b_2
    (qb (q_fa 2 v3) fun v21 =>
    qb (zq0 st false 1 v21) fun v22 =>
    qb (zq1j v22) fun v23 =>
    qb (zqc .eql v23 (.int .i64 0)) fun v24 =>
    cb v24 fun b_3 => br b_3
     (qb (q_fa 3 v3) fun v27 =>
     qb (zq0 st false 1 v27) fun v28 =>
     qb (zq1j v28) fun v29 =>
     qb (zqc .eql v29 (.int .i64 0)) fun v30 =>
     retR R v30 st)
     (retR R (.bool false) st))
    (retR R (.bool false) st)) (panR R))
   (qb (q_fa 0 v3) fun v33 =>
   qb (zq0 st false 1 v33) fun v34 =>
   zqb prog n_impl_ruleOf [v34] st (fun v35 st =>
   qb (q_ex v35 0) fun v36 =>
   qb (q_ex v35 1) fun v37 =>
   zq8 st [.int .i64 0, .int .i64 0, .str [], .nilfn, .nilfn] fun v5 st =>
   zq4 st 5 v5 v36 fun st =>
   qb (q_un .not v37) fun v39 =>
   cb v39 fun b_4 => br b_4
    (retR R (.bool false) st)
    (qb (q_fa 1 v3) fun v41 =>
    qb (zq0 st false 1 v41) fun v42 =>
    qb (zqc .neq v42 (.int .i64 0)) fun v43 =>
    cb v43 fun b_5 => br b_5
     (retR R (.bool false) st)
     (qb (q_fa 2 v3) fun v46 =>
     qb (zq0 st false 1 v46) fun v47 =>
     qb (zq1j v47) fun v48 =>
     qb (q_fa 0 v5) fun v49 =>
     qb (zq0 st false 1 v49) fun v50 =>
     qb (zqc .neq v48 v50) fun v51 =>
     cb v51 fun b_6 => br b_6
      (retR R (.bool false) st)
      (qb (q_fa 3 v3) fun v54 =>
      qb (zq0 st false 1 v54) fun v55 =>
      qb (zq1j v55) fun v56 =>
      qb (q_fa 1 v5) fun v57 =>
      qb (zq0 st false 1 v57) fun v58 =>
      qb (zqc .neq v56 v58) fun v59 =>
      cb v59 fun b_7 => br b_7
       (retR R (.bool false) st)
       (qb (q_fa 2 v3) fun v61 =>
       qb (zq0 st false 1 v61) fun v62 =>
       qb (zq1j v62) fun v63 =>
       hFix (fun ls st X =>
        qb (zqc .lss (ls.getD 0 .junk) v63) fun v65 =>
        cb v65 fun b_8 => br b_8
         (qb (q_ia 3 v62 (ls.getD 0 .junk)) fun v66 =>
         qb (zq0 st true 3 v66) fun v67 =>
         zq8 st [.int .i64 0, .int .i64 0, .sl 0 true []] fun v8 st =>
         zq4 st 3 v8 v67 fun st =>
         qb (zq0 st true 3 v8) fun v69 =>
         zqb prog n_impl_looker_form [a0, v69] st (fun v70 st =>
         qb (q_un .not v70) fun v71 =>
         cb v71 fun b_9 => br b_9
          (retR R (.bool false) st)
          (qb (zqc .add (ls.getD 0 .junk) (.int .i64 1)) fun v72 =>
          X [v72] st)) (panR R))
         (qb (q_fa 3 v3) fun v73 =>
         qb (zq0 st false 1 v73) fun v74 =>
         qb (zq1j v74) fun v75 =>
         hFix (fun ls_1 st X_1 =>
          qb (zqc .lss (ls_1.getD 0 .junk) v75) fun v77 =>
          cb v77 fun b_10 => br b_10
           (qb (q_ia 4 v74 (ls_1.getD 0 .junk)) fun v78 =>
           qb (zq0 st true 4 v78) fun v79 =>
           zq8 st [.int .i64 0, .int .i64 0, .sl 0 true [], .sl 0 true []] fun v10 st =>
           zq4 st 4 v10 v79 fun st =>
           qb (zq0 st true 4 v10) fun v81 =>
           zqb prog n_impl_looker_proof [a0, v81] st (fun v82 st =>
           qb (q_un .not v82) fun v83 =>
           cb v83 fun b_11 => br b_11
            (retR R (.bool false) st)
            (qb (zqc .add (ls_1.getD 0 .junk) (.int .i64 1)) fun v84 =>
            X_1 [v84] st)) (panR R))
           (retR R (.bool true) st))
          [(.int .i64 0)] st))
        [(.int .i64 0)] st))))) (panR R)))) (panR R)
theorem zqdh {a0 a1 : PV} {st : St} {R : Res → St → Prop} (h : zq6f a0 a1 st R) : zq5 prog n_impl_looker_proof [a0, a1] st R := hcc (fn := Go.Proofs.Tryz.f60) (ann := [(60, [76]), (36, [64])]) (by kernel_rfl) (by kernel_rfl) (by kernel_rfl) (by kernel_rfl) h
def zql6 (a0 a1 : PV) (st : St) (R : Res → St → Prop) : Prop :=
 qb (zqe [.int .i64 0, .int .i64 0] [(0, 1, a0), (1, 1, a1)]) fun v6 =>
 qb (zqhb ty_impl_halt v6) fun v7 =>
 zqkw v7 st (panR R)
theorem c_impl_stop {a0 a1 : PV} {st : St} {R : Res → St → Prop} (h : zql6 a0 a1 st R) : zq5 prog n_impl_stop [a0, a1] st R := hcc (fn := Go.Proofs.Tryz.f62) (ann := []) (by kernel_rfl) (by kernel_rfl) (by kernel_rfl) (by kernel_rfl) h
def zqfu (a0 : PV) (st : St) (R : Res → St → Prop) : Prop :=
 zq8 st [.int .i64 0, .int .i64 0, .str [], .nilfn, .nilfn] fun v2 st =>
 qb (zqc .eql a0 (.int .i64 2)) fun v9 =>
 cb v9 fun b => br b
  (qb (zqe [.int .i64 0, .int .i64 0, .str [], .nilfn, .nilfn] [(0, 1, (.int .i64 2)), (1, 1, (.int .i64 2)), (2, 1, (.str [97, 110, 100, 73])), (3, 1, (.fn (.func n_impl_ruleOf_4) [] [])), (4, 1, (.fn (.func n_impl_ruleOf_5) [] []))]) fun v10 =>
  zq4 st 5 v2 v10 fun st =>
  qb (zq0 st true 5 v2) fun r => retR R (.tup [r, (.bool true)]) st)
  (qb (zqc .eql a0 (.int .i64 3)) fun v12 =>
  cb v12 fun b_1 => br b_1
   (qb (zqe [.int .i64 0, .int .i64 0, .str [], .nilfn, .nilfn] [(0, 1, (.int .i64 2)), (1, 1, (.int .i64 1)), (2, 1, (.str [102, 115, 116])), (3, 1, (.fn (.func n_impl_ruleOf_1) [] [])), (4, 1, (.fn (.func n_impl_ruleOf_2) [] []))]) fun v15 =>
   zq4 st 5 v2 v15 fun st =>
   qb (zq0 st true 5 v2) fun r_1 => retR R (.tup [r_1, (.bool true)]) st)
   (qb (zqc .eql a0 (.int .i64 4)) fun v17 =>
   cb v17 fun b_2 => br b_2
    (qb (zqe [.int .i64 0, .int .i64 0, .str [], .nilfn, .nilfn] [(0, 1, (.int .i64 2)), (1, 1, (.int .i64 1)), (2, 1, (.str [115, 110, 100])), (3, 1, (.fn (.func n_impl_ruleOf_1) [] [])), (4, 1, (.fn (.func n_impl_ruleOf_3) [] []))]) fun v20 =>
    zq4 st 5 v2 v20 fun st =>
    qb (zq0 st true 5 v2) fun r_2 => retR R (.tup [r_2, (.bool true)]) st)
    (qb (zqc .eql a0 (.int .i64 5)) fun v22 =>
    cb v22 fun b_3 => br b_3
     (qb (zqe [.int .i64 0, .int .i64 0, .str [], .nilfn, .nilfn] [(0, 1, (.int .i64 2)), (1, 1, (.int .i64 1)), (2, 1, (.str [102, 117, 110, 73])), (3, 1, (.fn (.func n_impl_ruleOf_6) [] [])), (4, 1, (.fn (.func n_impl_ruleOf_7) [] []))]) fun v23 =>
     zq4 st 5 v2 v23 fun st =>
     qb (zq0 st true 5 v2) fun r_3 => retR R (.tup [r_3, (.bool true)]) st)
     (qb (zqc .eql a0 (.int .i64 6)) fun v25 =>
     cb v25 fun b_4 => br b_4
      (qb (zqe [.int .i64 0, .int .i64 0, .str [], .nilfn, .nilfn] [(0, 1, (.int .i64 2)), (1, 1, (.int .i64 2)), (2, 1, (.str [117, 115, 101])), (3, 1, (.fn (.func n_impl_ruleOf_8) [] [])), (4, 1, (.fn (.func n_impl_ruleOf_3) [] []))]) fun v27 =>
      zq4 st 5 v2 v27 fun st =>
      qb (zq0 st true 5 v2) fun r_4 => retR R (.tup [r_4, (.bool true)]) st)
      (qb (zqc .eql a0 (.int .i64 7)) fun v29 =>
      cb v29 fun b_5 => br b_5
       (qb (zqe [.int .i64 0, .int .i64 0, .str [], .nilfn, .nilfn] [(0, 1, (.int .i64 1)), (1, 1, (.int .i64 1)), (2, 1, (.str [98, 111, 116, 69])), (3, 1, (.fn (.func n_impl_ruleOf_9) [] [])), (4, 1, (.fn (.func n_impl_ruleOf_2) [] []))]) fun v31 =>
       zq4 st 5 v2 v31 fun st =>
       qb (zq0 st true 5 v2) fun r_5 => retR R (.tup [r_5, (.bool true)]) st)
       (qb (zqe [.int .i64 0, .int .i64 0, .str [], .nilfn, .nilfn] []) fun v32 =>
       zq4 st 5 v2 v32 fun st =>
       qb (zq0 st true 5 v2) fun r_6 => retR R (.tup [r_6, (.bool false)]) st))))))
theorem c_impl_ruleOf {a0 : PV} {st : St} {R : Res → St → Prop} (h : zqfu a0 st R) : zq5 prog n_impl_ruleOf [a0] st R := hcc (fn := Go.Proofs.Tryz.f63) (ann := []) (by kernel_rfl) (by kernel_rfl) (by kernel_rfl) (by kernel_rfl) h
end Go.H.Tryz
