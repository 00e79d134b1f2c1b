/- Part of a proof that the program answers as the reference does: ZHS5. -/
import Derived.Test.YtmjpemdbkenebaaGreatDoorHT
set_option linter.unusedVariables false
set_option maxRecDepth 100000
namespace Go.H.Tryz
open Go Go.H
def zqin (a0 : PV) (st : St) (R : Res → St → Prop) : Prop :=
 qb (zq1j a0) fun v6 =>
 qb (zqc .gtr v6 (.int .i64 40)) fun v7 =>
 cb v7 fun b => br b
  (retR R (.bool false) st)
  (qb (zq1j a0) fun v9 =>
  hFix (fun ls st X =>
   qb (zqc .lss (ls.getD 0 .junk) v9) fun v11 =>
   cb v11 fun b_1 => br b_1
    (qb (q_ia 6 a0 (ls.getD 0 .junk)) fun v13 =>
    qb (zq0 st true 6 v13) fun v14 =>
    zq8 st [.str [], .bool false, .int .i64 0, .int .i64 0, .str [], .sl 0 true []] fun v4 st =>
    zq4 st 6 v4 v14 fun st =>
    qb (zq0 st true 6 v4) fun v15 =>
    zqb prog n_impl_declForm [v15] st (fun v16 st =>
    qb (q_un .not v16) fun v17 =>
    cb v17 fun b_2 => br b_2
     (retR R (.bool false) st)
     (qb (zq1y 6 a0 none (some (ls.getD 0 .junk)) none) fun v21 =>
     qb (q_fa 0 v4) fun v22 =>
     qb (zq0 st false 1 v22) fun v23 =>
     zqb prog n_impl_has [v21, v23] st (fun v24 st =>
     cb v24 fun b_3 => br b_3
      (retR R (.bool false) st)
      (qb (zq1y 6 a0 none (some (ls.getD 0 .junk)) none) fun v29 =>
      qb (zq0 st true 6 v4) fun v30 =>
      zqb prog n_impl_declFault [v29, v30] st (fun v31 st =>
      qb (zqcf false 1 0 v31) fun v32 =>
      qb (zqc .neq v32 (.int .i64 0)) fun v33 =>
      cb v33 fun b_4 => br b_4
       (retR R (.bool false) st)
       (qb (zqc .add (ls.getD 0 .junk) (.int .i64 1)) fun v35 =>
       X [v35] st)) (panR R))) (panR R))) (panR R))
    (retR R (.bool true) st))
   [(.int .i64 0)] st)
theorem c_impl_SigOK {a0 : PV} {st : St} {R : Res → St → Prop} (h : zqin a0 st R) : zq5 prog n_impl_SigOK [a0] st R := hcc (fn := Go.Proofs.Tryz.f104) (ann := [(16, [10])]) (by kernel_rfl) (by kernel_rfl) (by kernel_rfl) (by kernel_rfl) h
def zq9n (a0 a1 : PV) (st : St) (R : Res → St → Prop) : Prop :=
 qb (zq1d a0) fun v6 =>
 qb (q_fa 1 v6) fun v7 =>
 qb (zq0 st false 1 v7) fun v8 =>
 qb (zqc .eql v8 (.int .i64 0)) fun v9 =>
 cb v9 fun b => br b
  (qb (zq1d a0) fun v12 =>
  qb (q_fa 2 v12) fun v13 =>
  qb (zq0 st false 1 v13) fun v14 =>
  qb (zqc .eql v14 (.str [])) fun v15 =>
  cb v15 fun b_1 => br b_1
   (qb (zq1d a0) fun v19 =>
   qb (q_fa 3 v19) fun v20 =>
   qb (zq0 st false 1 v20) fun v21 =>
   qb (zq1j v21) fun v22 =>
   qb (zqc .eql v22 a1) fun v24 =>
   retR R v24 st)
   (retR R (.bool false) st))
  (retR R (.bool false) st)
theorem zqif {a0 a1 : PV} {st : St} {R : Res → St → Prop} (h : zq9n a0 a1 st R) : zq5 prog n_impl_Tree_bare [a0, a1] st R := hcc (fn := Go.Proofs.Tryz.f105) (ann := []) (by kernel_rfl) (by kernel_rfl) (by kernel_rfl) (by kernel_rfl) h
def zq7m (a0 a1 : PV) (st : St) (R : Res → St → Prop) : Prop :=
 qb (zq1j a1) fun v8 =>
 hFix (fun ls st X =>
  qb (zqc .lss (ls.getD 0 .junk) v8) fun v10 =>
  cb v10 fun b => br b
   (qb (q_ia 4 a1 (ls.getD 0 .junk)) fun v11 =>
   qb (zq0 st true 4 v11) fun v12 =>
   zq8 st [.int .i64 0, .int .i64 0, .str [], .sl 0 true []] fun v6 st =>
   zq4 st 4 v6 v12 fun st =>
   hJ (fun ls_1 st =>
    cb (ls_1.getD 0 .junk) fun b_1 => br b_1
     (zqb prog n_impl_Tree_bare [v6, (.int .i64 0)] st (fun v22 st =>
     qb (q_un .not v22) fun v23 =>
     cb v23 fun b_2 => br b_2
      (retR R (.bool false) st)
      (zqb prog n_impl_looker_node [a0] st (fun v26 st =>
      qb (q_un .not v26) fun v27 =>
      cb v27 fun b_3 => br b_3
       (retR R (.bool false) st)
       (qb (zqc .add (ls.getD 0 .junk) (.int .i64 1)) fun v33 =>
       X [v33] st)) (panR R))) (panR R))
     (qb (zq0 st true 4 v6) fun v30 =>
     zqb prog n_impl_looker_term [a0, v30] st (fun v31 st =>
     qb (q_un .not v31) fun v32 =>
     cb v32 fun b_4 => br b_4
      (retR R (.bool false) st)
      (qb (zqc .add (ls.getD 0 .junk) (.int .i64 1)) fun v33_1 =>
      X [v33_1] st)) (panR R)))
    (fun k =>
   qb (zq1d a0) fun v14 =>
   qb (q_fa 1 v14) fun v15 =>
   qb (zq0 st false 1 v15) fun v16 =>
   cb v16 fun b_5 => br b_5
    (qb (q_fa 0 v6) fun v18 =>
    qb (zq0 st false 1 v18) fun v19 =>
    qb (zqc .eql v19 (.int .i64 8)) fun v20 =>
    k [v20] st)
    (k [(.bool false)] st)))
   (retR R (.bool true) st))
  [(.int .i64 0)] st
theorem zqel : zqir prog n_impl_looker_args := ⟨Go.Proofs.Tryz.f106, by kernel_rfl, by kernel_rfl, by kernel_rfl⟩
theorem zqez {a0 a1 : PV} {st : St} {R : Res → St → Prop} (h : zq7m a0 a1 st R) : zq5 prog n_impl_looker_args [a0, a1] st R := hcc (fn := Go.Proofs.Tryz.f106) (ann := [(8, [9]), (17, [21])]) (by kernel_rfl) (by kernel_rfl) (by kernel_rfl) (by kernel_rfl) h
def zqg6 (a0 : PV) (st : St) (R : Res → St → Prop) : Prop :=
 zqb prog n_impl_wordOK [a0] st (fun v6 st =>
 qb (q_un .not v6) fun v7 =>
 cb v7 fun b => br b
  (retR R (.bool false) st)
  (qb (zqc .eql a0 (.str [116, 121, 112, 101])) fun v10 =>
  cb v10 fun b_1 => br b_1
   (retR R (.bool false) st)
   (qb (zqc .eql a0 (.str [95])) fun v14 =>
   cb v14 fun b_2 => br b_2
    (retR R (.bool false) st)
    (zqb prog n_strings_CutPrefix [a0, (.str [120])] st (fun v18 st =>
    qb (q_ex v18 0) fun v19 =>
    qb (q_ex v18 1) fun v20 =>
    qb (q_un .not v20) fun v22 =>
    cb v22 fun b_3 => br b_3
     (retR R (.bool true) st)
     (qb (zqc .eql v19 (.str [])) fun v25 =>
     cb v25 fun b_4 => br b_4
      (retR R (.bool true) st)
      (zqb prog n_impl_over [v19, (.str [48, 49, 50, 51, 52, 53, 54, 55, 56, 57])] st (fun v29 st =>
      qb (q_un .not v29) fun v30 =>
      retR R v30 st) (panR R)))) (panR R))))) (panR R)
theorem c_impl_NameOK {a0 : PV} {st : St} {R : Res → St → Prop} (h : zqg6 a0 st R) : zq5 prog n_impl_NameOK [a0] st R := hcc (fn := Go.Proofs.Tryz.f107) (ann := []) (by kernel_rfl) (by kernel_rfl) (by kernel_rfl) (by kernel_rfl) h
def zq5u (a0 a1 a2 : PV) (st : St) (R : Res → St → Prop) : Prop :=
 zq19 st a1 fun v4 st =>
 zqb prog n_impl_looker_node [a0] st (fun v8 st =>
 qb (q_un .not v8) fun v9 =>
 cb v9 fun b => br b
  (retR R (.bool false) st)
  (qb (q_fa 0 v4) fun v10 =>
  qb (zq0 st false 1 v10) fun v11 =>
  qb (zqc .eql v11 (.int .i64 1)) fun v13 =>
  cb v13 fun b_1 => br b_1
   (cb a2 fun b_2 => br b_2
    (zqb prog n_impl_Tree_bare [v4, (.int .i64 0)] st (fun v16 st =>
    retR R v16 st) (panR R))
    (retR R (.bool false) st))
   (qb (zqc .eql v11 (.int .i64 3)) fun v19 =>
   cb v19 fun b_3 => br b_3
    (qb (q_un .not a2) fun v21 =>
    cb v21 fun b_4 => br b_4
     (qb (q_fa 1 v4) fun v23 =>
     qb (zq0 st false 1 v23) fun v24 =>
     qb (zqc .eql v24 (.int .i64 0)) fun v25 =>
     cb v25 fun b_5 => br b_5
      (qb (q_fa 2 v4) fun v28 =>
      qb (zq0 st false 1 v28) fun v29 =>
      zqb prog n_impl_NameOK [v29] st (fun v30 st =>
      cb v30 fun b_6 => br b_6
       (qb (q_fa 3 v4) fun v34 =>
       qb (zq0 st false 1 v34) fun v35 =>
       zqb prog n_impl_looker_args [a0, v35] st (fun v36 st =>
       retR R v36 st) (panR R))
       (retR R (.bool false) st)) (panR R))
      (retR R (.bool false) st))
     (retR R (.bool false) st))
    (qb (zqc .eql v11 (.int .i64 2)) fun v39 =>
    cb v39 fun b_7 => br b_7
     (zqb prog n_impl_Tree_bare [v4, (.int .i64 2)] st (fun v40 st =>
     cb v40 fun b_8 => br b_8
      (qb (q_fa 3 v4) fun v43 =>
      qb (zq0 st false 1 v43) fun v44 =>
      qb (q_ia 4 v44 (.int .i64 0)) fun v45 =>
      qb (zq0 st true 4 v45) fun v46 =>
      zqb prog n_impl_looker_family [a0, v46, (.bool false)] st (fun v47 st =>
      cb v47 fun b_9 => br b_9
       (qb (q_fa 3 v4) fun v51 =>
       qb (zq0 st false 1 v51) fun v52 =>
       qb (q_ia 4 v52 (.int .i64 1)) fun v53 =>
       qb (zq0 st true 4 v53) fun v54 =>
       zqb prog n_impl_looker_family [a0, v54, a2] st (fun v56 st =>
       retR R v56 st) (panR R))
       (retR R (.bool false) st)) (panR R))
      (retR R (.bool false) st)) (panR R))
     (retR R (.bool false) st))))) (panR R)
theorem zqbx {a0 a1 a2 : PV} {st : St} {R : Res → St → Prop} (h : zq5u a0 a1 a2 st R) : zq5 prog n_impl_looker_family [a0, a1, a2] st R := hcc (fn := Go.Proofs.Tryz.f108) (ann := []) (by kernel_rfl) (by kernel_rfl) (by kernel_rfl) (by kernel_rfl) h
def zq5v (a0 a1 a2 : PV) (st : St) (R : Res → St → Prop) : Prop :=
 qb (zq0 st false 1 a0) fun v3 =>
 qb (zqe [.int .i64 0, .sl 0 true []] [(1, 1, v3)]) fun v4 =>
 zq19 st v4 fun v5 st =>
 qb (zq0 st false 1 a1) fun v6 =>
 qb (zq0 st true 4 a2) fun v7 =>
 zqb prog n_impl_checker_family [v5, v6, v7, (.int .i64 0)] st (fun v8 st =>
 retR R (.tup []) st) (panR R)
theorem zqby {a0 a1 a2 : PV} {st : St} {R : Res → St → Prop} (h : zq5v a0 a1 a2 st R) : zq5 prog n_impl_familyFault_1 [a0, a1, a2] st R := hcc (fn := Go.Proofs.Tryz.f109) (ann := []) (by kernel_rfl) (by kernel_rfl) (by kernel_rfl) (by kernel_rfl) h
def zq54 (a0 a1 a2 a3 : PV) (st : St) (R : Res → St → Prop) : Prop :=
 zq19 st a2 fun v6 st =>
 qb (q_fa 0 v6) fun v11 =>
 qb (zq0 st false 1 v11) fun v12 =>
 qb (zqc .eql v12 (.int .i64 2)) fun v14 =>
 cb v14 fun b => br b
  (qb (q_fa 3 v6) fun v17 =>
  qb (zq0 st false 1 v17) fun v18 =>
  qb (q_ia 4 v18 (.int .i64 0)) fun v19 =>
  qb (zq0 st true 4 v19) fun v20 =>
  qb (zqc .add a3 (.int .i64 1)) fun v22 =>
  zqb prog n_impl_checker_family [a0, a1, v20, v22] st (fun v23 st =>
  qb (q_fa 3 v6) fun v26 =>
  qb (zq0 st false 1 v26) fun v27 =>
  qb (q_ia 4 v27 (.int .i64 0)) fun v28 =>
  qb (zq0 st true 4 v28) fun v29 =>
  qb (q_fa 3 v6) fun v31 =>
  qb (zq0 st false 1 v31) fun v32 =>
  qb (q_ia 4 v32 (.int .i64 1)) fun v33 =>
  qb (zq0 st true 4 v33) fun v34 =>
  qb (zqc .add a3 (.int .i64 1)) fun v36 =>
  qb (q_fa 3 v6) fun v37 =>
  qb (zq0 st false 1 v37) fun v38 =>
  qb (q_ia 4 v38 (.int .i64 0)) fun v39 =>
  qb (zq0 st true 4 v39) fun v40 =>
  zqb prog n_impl_behind [a1, v29] st (fun v30 st =>
  zq0 st true 4 v39 = some v40 ∧ zq0 st false 1 v37 = some v38 ∧ zq0 st true 4 v33 = some v34 ∧ zq0 st false 1 v31 = some v32 ∧ (zqb prog n_impl_Size [v40] st (fun v41 st =>
  zq0 st true 4 v33 = some v34 ∧ zq0 st false 1 v31 = some v32 ∧ (qb (zqc .add v36 v41) fun v42 =>
  zqb prog n_impl_checker_family [a0, v30, v34, v42] st (fun v43 st =>
  retR R (.tup []) st) (panR R))) (panR R))) (panR R)) (panR R))
  (qb (zqc .eql v12 (.int .i64 3)) fun v45 =>
  cb v45 fun b_1 => br b_1
   (qb (q_fa 2 v6) fun v48 =>
   qb (zq0 st false 1 v48) fun v49 =>
   zqb prog n_impl_checker_declared [a0, v49, (.bool true)] st (fun v50 st =>
   qb (q_ex v50 0) fun v51 =>
   qb (q_ex v50 1) fun v52 =>
   zq8 st [.int .i64 0, .int .i64 0, .str [], .sl 0 true []] fun v8 st =>
   zq4 st 4 v8 v51 fun st =>
   qb (q_un .not v52) fun v54 =>
   hJ (fun ls st =>
    qb (q_fa 3 v6) fun v59 =>
    qb (zq0 st false 1 v59) fun v60 =>
    qb (zq0 st true 4 v8) fun v61 =>
    qb (zqc .add a3 (.int .i64 1)) fun v63 =>
    zqb prog n_impl_checker_args [a0, a1, v60, v61, v63] st (fun v64 st =>
    zq8 st [.int .i64 0, .int .i64 0, .str [], .sl 0 true []] fun v10 st =>
    zq4 st 4 v10 v64 fun st =>
    qb (q_fa 0 v10) fun v65 =>
    qb (zq0 st false 1 v65) fun v66 =>
    qb (zqc .neq v66 (.int .i64 1)) fun v67 =>
    cb v67 fun b_3 => br b_3
     (zqb prog n_impl_stop [(.int .i64 8), a3] st (fun v69 st =>
     retR R (.tup []) st) (panR R))
     (retR R (.tup []) st)) (panR R))
    (fun k =>
   cb v54 fun b_2 => br b_2
    (zqb prog n_impl_stop [(.int .i64 5), a3] st (fun v56 st =>
    k [] st) (panR R))
    (k [] st))) (panR R))
   (retR R (.tup []) st))
theorem zqa9 {a0 a1 a2 a3 : PV} {st : St} {R : Res → St → Prop} (h : zq54 a0 a1 a2 a3 st R) : zq5 prog n_impl_checker_family [a0, a1, a2, a3] st R := hcc (fn := Go.Proofs.Tryz.f110) (ann := [(34, [])]) (by kernel_rfl) (by kernel_rfl) (by kernel_rfl) (by kernel_rfl) h
def zq25 (a0 : PV) (st : St) (R : Res → St → Prop) : Prop :=
 qb (zq1j a0) fun v5 =>
 qb (zq1j a0) fun v7 =>
 qb (zq1y 4 a0 none (some v5) (some v7)) fun v8 =>
 retR R v8 st
theorem zq43 {a0 : PV} {st : St} {R : Res → St → Prop} (h : zq25 a0 st R) : zq5 prog n_slices_Clip_impl_Tree_impl_Tree [a0] st R := hcc (fn := Go.Proofs.Tryz.f111) (ann := []) (by kernel_rfl) (by kernel_rfl) (by kernel_rfl) (by kernel_rfl) h
def zq6j (a0 a1 a2 a3 a4 : PV) (st : St) (R : Res → St → Prop) : Prop :=
 zq19 st a3 fun v8 st =>
 zq8 st [.int .i64 0, .int .i64 0, .str [], .sl 0 true []] fun v10 st =>
 qb (zq1j a2) fun v14 =>
 hFix (fun ls st X =>
  qb (zqc .lss (ls.getD 1 .junk) v14) fun v16 =>
  cb v16 fun b => br b
   (qb (q_ia 4 a2 (ls.getD 1 .junk)) fun v17 =>
   qb (zq0 st true 4 v17) fun v18 =>
   zq8 st [.int .i64 0, .int .i64 0, .str [], .sl 0 true []] fun v12 st =>
   zq4 st 4 v12 v18 fun st =>
   qb (q_fa 0 v8) fun v19 =>
   qb (zq0 st false 1 v19) fun v20 =>
   qb (zqc .neq v20 (.int .i64 2)) fun v21 =>
   hJ (fun ls_1 st =>
    qb (zq0 st true 4 v12) fun v26 =>
    qb (q_fa 3 v8) fun v27 =>
    qb (zq0 st false 1 v27) fun v28 =>
    qb (q_ia 4 v28 (.int .i64 0)) fun v29 =>
    qb (zq0 st true 4 v29) fun v30 =>
    zqb prog n_impl_checker_term [a0, a1, v26, v30, (ls.getD 0 .junk)] st (fun v32 st =>
    qb (zq0 st true 4 v12) fun v34 =>
    qb (zq0 st true 4 v8) fun v35 =>
    zqb prog n_impl_checker_left [a0, v34, v35, (ls.getD 0 .junk)] st (fun v37 st =>
    zq4 st 4 v8 v37 fun st =>
    qb (zq0 st true 4 v12) fun v39 =>
    zqb prog n_impl_Size [v39] st (fun v40 st =>
    qb (zqc .add (ls.getD 0 .junk) v40) fun v41 =>
    qb (zqc .add (ls.getD 1 .junk) (.int .i64 1)) fun v42 =>
    X [v41, v42] st) (panR R)) (panR R)) (panR R))
    (fun k =>
   cb v21 fun b_1 => br b_1
    (zqb prog n_impl_stop [(.int .i64 8), (ls.getD 0 .junk)] st (fun v23 st =>
    k [] st) (panR R))
    (k [] st)))
   (qb (zq0 st true 4 v8) fun v43 =>
   zq4 st 4 v10 v43 fun st =>
   qb (zq0 st true 4 v10) fun r => retR R r st))
  [a4, (.int .i64 0)] st
theorem zqdl {a0 a1 a2 a3 a4 : PV} {st : St} {R : Res → St → Prop} (h : zq6j a0 a1 a2 a3 a4 st R) : zq5 prog n_impl_checker_args [a0, a1, a2, a3, a4] st R := hcc (fn := Go.Proofs.Tryz.f112) (ann := [(8, [4, 15]), (22, [])]) (by kernel_rfl) (by kernel_rfl) (by kernel_rfl) (by kernel_rfl) h
def zq6i (a0 a1 a2 a3 : PV) (st : St) (R : Res → St → Prop) : Prop :=
 zq19 st a2 fun v6 st =>
 zq8 st [.int .i64 0, .int .i64 0, .str [], .sl 0 true []] fun v8 st =>
 qb (q_fa 0 v6) fun v12 =>
 qb (zq0 st false 1 v12) fun v13 =>
 qb (zqc .eql v13 (.int .i64 5)) fun v15 =>
 cb v15 fun b => br b
  (qb (q_fa 1 v6) fun v16 =>
  qb (zq0 st false 1 v16) fun v17 =>
  qb (zq1j a1) fun v19 =>
  qb (zqc .geq v17 v19) fun v20 =>
  hJ (fun ls st =>
   hJ (fun ls_1 st =>
    qb (zq0 st true 4 (ls_1.getD 0 .junk)) fun v36 =>
    zqb prog n_impl_tooBig [v36] st (fun v37 st =>
    cb v37 fun b_2 => br b_2
     (zqb prog n_impl_stop [(.int .i64 11), a3] st (fun v39 st =>
     qb (zq0 st true 4 (ls_1.getD 0 .junk)) fun v40 =>
     zq4 st 4 v8 v40 fun st =>
     qb (zq0 st true 4 v8) fun r => retR R r st) (panR R))
     (qb (zq0 st true 4 (ls_1.getD 0 .junk)) fun v40_1 =>
     zq4 st 4 v8 v40_1 fun st =>
     qb (zq0 st true 4 v8) fun r_1 => retR R r_1 st)) (panR R))
    (fun k_1 =>
   qb (zq1j a1) fun v25 =>
   qb (zqc .sub v25 (.int .i64 1)) fun v26 =>
   qb (q_fa 1 v6) fun v27 =>
   qb (zq0 st false 1 v27) fun v28 =>
   qb (zqc .sub v26 v28) fun v29 =>
   qb (q_ia 4 a1 v29) fun v30 =>
   qb (zq0 st true 4 v30) fun v31 =>
   qb (q_fa 1 v6) fun v32 =>
   qb (zq0 st false 1 v32) fun v33 =>
   qb (zqc .add v33 (.int .i64 1)) fun v34 =>
   (zqb prog n_impl_lift [v31, (.int .i64 0), v34] st (fun v35 st =>
   zq8 st [.int .i64 0, .int .i64 0, .str [], .sl 0 true []] fun v9 st =>
   zq0 st false 1 v32 = some v33 ∧ zq0 st true 4 v30 = some v31 ∧ zq0 st false 1 v27 = some v28 ∧ (zq4 st 4 v9 v35 fun st =>
   k_1 [v9] st)) (panR R)) ∧
   (zq8 st [.int .i64 0, .int .i64 0, .str [], .sl 0 true []] fun v9_1 st =>
   zq0 st false 1 v32 = some v33 ∧ zq0 st true 4 v30 = some v31 ∧ zq0 st false 1 v27 = some v28 ∧ (zqb prog n_impl_lift [v31, (.int .i64 0), v34] st (fun v35_1 st =>
   zq4 st 4 v9_1 v35_1 fun st =>
   k_1 [v9_1] st) (panR R)))))
   (fun k =>
  cb v20 fun b_1 => br b_1
   (zqb prog n_impl_stop [(.int .i64 7), a3] st (fun v22 st =>
   k [] st) (panR R))
   (k [] st)))
  (qb (zqc .eql v13 (.int .i64 6)) fun v42 =>
  cb v42 fun b_3 => br b_3
   (qb (q_fa 2 v6) fun v45 =>
   qb (zq0 st false 1 v45) fun v46 =>
   zqb prog n_impl_checker_declared [a0, v46, (.bool false)] st (fun v47 st =>
   qb (q_ex v47 0) fun v48 =>
   qb (q_ex v47 1) fun v49 =>
   zq8 st [.int .i64 0, .int .i64 0, .str [], .sl 0 true []] fun v10 st =>
   zq4 st 4 v10 v48 fun st =>
   qb (q_un .not v49) fun v51 =>
   cb v51 fun b_4 => br b_4
    (zqb prog n_impl_stop [(.int .i64 5), a3] st (fun v53 st =>
    qb (zq0 st true 4 v10) fun v54 =>
    zq4 st 4 v8 v54 fun st =>
    qb (zq0 st true 4 v8) fun r_2 => retR R r_2 st) (panR R))
    (qb (zq0 st true 4 v10) fun v54_1 =>
    zq4 st 4 v8 v54_1 fun st =>
    qb (zq0 st true 4 v8) fun r_3 => retR R r_3 st)) (panR R))
   (zqb prog n_impl_stop [(.int .i64 15), a3] st (fun v56 st =>
   qb (zqe [.int .i64 0, .int .i64 0, .str [], .sl 0 true []] []) fun v57 =>
   zq4 st 4 v8 v57 fun st =>
   qb (zq0 st true 4 v8) fun r_4 => retR R r_4 st) (panR R)))
theorem zqdk {a0 a1 a2 a3 : PV} {st : St} {R : Res → St → Prop} (h : zq6i a0 a1 a2 a3 st R) : zq5 prog n_impl_checker_head [a0, a1, a2, a3] st R := hcc (fn := Go.Proofs.Tryz.f113) (ann := [(18, []), (21, [9])]) (by kernel_rfl) (by kernel_rfl) (by kernel_rfl) (by kernel_rfl) h
def zqb8 (a0 : PV) (st : St) (R : Res → St → Prop) : Prop :=
 qb (zq4b a0) fun v4 =>
 qb (zqc .gtr v4 (.int .i64 65536)) fun v5 =>
 retR R v5 st
theorem zqjx {a0 : PV} {st : St} {R : Res → St → Prop} (h : zqb8 a0 st R) : zq5 prog n_impl_longText [a0] st R := hcc (fn := Go.Proofs.Tryz.f114) (ann := []) (by kernel_rfl) (by kernel_rfl) (by kernel_rfl) (by kernel_rfl) h
def zqam (a0 : PV) (st : St) (R : Res → St → Prop) : Prop :=
 zq19 st a0 fun v1 st =>
 retR R (.fn (.func n_strings_Lines_1) [] [v1]) st
theorem zqjb {a0 : PV} {st : St} {R : Res → St → Prop} (h : zqam a0 st R) : zq5 prog n_strings_Lines [a0] st R := hcc (fn := Go.Proofs.Tryz.f115) (ann := []) (by kernel_rfl) (by kernel_rfl) (by kernel_rfl) (by kernel_rfl) h
def zq5o (a0 a1 : PV) (st : St) (R : Res → St → Prop) : Prop :=
 zqb prog n_internal_stringslite_TrimSuffix [a0, a1] st (fun v7 st =>
 retR R v7 st) (panR R)
theorem zqbr {a0 a1 : PV} {st : St} {R : Res → St → Prop} (h : zq5o a0 a1 st R) : zq5 prog n_strings_TrimSuffix [a0, a1] st R := hcc (fn := Go.Proofs.Tryz.f116) (ann := []) (by kernel_rfl) (by kernel_rfl) (by kernel_rfl) (by kernel_rfl) h
def zql7 (a0 : PV) (st : St) (R : Res → St → Prop) : Prop :=
 zqb prog n_impl_blankEnd [a0, (.int .i64 0)] st (fun v5 st =>
 qb (zq4b a0) fun v8 =>
 qb (zqc .lss v5 v8) fun v9 =>
 cb v9 fun b => br b
  (qb (q_ix a0 v5) fun v13 =>
  qb (zqc .neq v13 (.int .u8 37)) fun v14 =>
  retR R v14 st)
  (retR R (.bool false) st)) (panR R)
theorem c_impl_says {a0 : PV} {st : St} {R : Res → St → Prop} (h : zql7 a0 st R) : zq5 prog n_impl_says [a0] st R := hcc (fn := Go.Proofs.Tryz.f117) (ann := []) (by kernel_rfl) (by kernel_rfl) (by kernel_rfl) (by kernel_rfl) h
def zq9o (a0 a1 : PV) (st : St) (R : Res → St → Prop) : Prop :=
 qb (zq0 st false 1 a0) fun v2 =>
 qb (zq0 st false 1 a1) fun v3 =>
 zqb prog n_impl_addLine [v2, v3] st (fun v4 st =>
 zq4 st 1 a0 v4 fun st =>
 retR R (.tup []) st) (panR R)
theorem zqig {a0 a1 : PV} {st : St} {R : Res → St → Prop} (h : zq9o a0 a1 st R) : zq5 prog n_impl_ReadSig_1 [a0, a1] st R := hcc (fn := Go.Proofs.Tryz.f118) (ann := []) (by kernel_rfl) (by kernel_rfl) (by kernel_rfl) (by kernel_rfl) h
def zqdy (a0 a1 : PV) (st : St) (R : Res → St → Prop) : Prop :=
 zqb prog n_impl_readDecl [a1] st (fun v8 st =>
 zq8 st [.str [], .bool false, .int .i64 0, .int .i64 0, .str [], .sl 0 true []] fun v5 st =>
 zq4 st 6 v5 v8 fun st =>
 qb (zq0 st true 6 v5) fun v10 =>
 zqb prog n_impl_addFault [a0, v10] st (fun v11 st =>
 zq8 st [.int .i64 0, .int .i64 0] fun v6 st =>
 zq4 st 2 v6 v11 fun st =>
 qb (q_fa 0 v6) fun v12 =>
 qb (zq0 st false 1 v12) fun v13 =>
 qb (zqc .neq v13 (.int .i64 0)) fun v14 =>
 cb v14 fun b => br b
  (qb (q_fa 0 v6) fun v15 =>
  qb (zq0 st false 1 v15) fun v16 =>
  qb (q_fa 1 v6) fun v17 =>
  qb (zq0 st false 1 v17) fun v18 =>
  zqb prog n_impl_stop [v16, v18] st (fun v19 st =>
  qb (zq0 st true 6 v5) fun v21 =>
  qb (zq24 6 1 0 [] [(0, v21)]) fun v22 =>
  zqo st 6 80 a0 v22 (fun v23 st =>
  retR R v23 st)) (panR R))
  (qb (zq0 st true 6 v5) fun v21_1 =>
  qb (zq24 6 1 0 [] [(0, v21_1)]) fun v22_1 =>
  zqo st 6 80 a0 v22_1 (fun v23_1 st =>
  retR R v23_1 st))) (panR R)) (panR R)
theorem zqmm {a0 a1 : PV} {st : St} {R : Res → St → Prop} (h : zqdy a0 a1 st R) : zq5 prog n_impl_addLine [a0, a1] st R := hcc (fn := Go.Proofs.Tryz.f119) (ann := []) (by kernel_rfl) (by kernel_rfl) (by kernel_rfl) (by kernel_rfl) h
def zq8i (a0 a1 : PV) (st : St) (R : Res → St → Prop) : Prop :=
 qb (zq1d a0) fun v6 =>
 qb (q_fa 0 v6) fun v7 =>
 qb (zq0 st false 1 v7) fun v8 =>
 qb (zqc .eql v8 (.int .i64 4)) fun v9 =>
 cb v9 fun b => br b
  (retR R (.bool true) st)
  (qb (zq1d a0) fun v12 =>
  qb (q_fa 0 v12) fun v13 =>
  qb (zq0 st false 1 v13) fun v14 =>
  qb (zqc .eql v14 (.int .i64 2)) fun v15 =>
  cb v15 fun b_1 => br b_1
   (qb (zqc .eql a1 (.int .i64 1)) fun v18 =>
   retR R v18 st)
   (retR R (.bool false) st))
theorem zqgo {a0 a1 : PV} {st : St} {R : Res → St → Prop} (h : zq8i a0 a1 st R) : zq5 prog n_impl_Tree_binds [a0, a1] st R := hcc (fn := Go.Proofs.Tryz.f120) (ann := []) (by kernel_rfl) (by kernel_rfl) (by kernel_rfl) (by kernel_rfl) h
def zqb9 (a0 : PV) (st : St) (R : Res → St → Prop) : Prop :=
 zq19 st a0 fun v1 st =>
 qb (q_fa 1 v1) fun v3 =>
 qb (zq0 st false 1 v3) fun v4 =>
 cb v4 fun b => br b
  (qb (q_fa 0 v1) fun v5 =>
  qb (zq0 st false 1 v5) fun v6 =>
  zqb prog n_impl_NameOK [v6] st (fun v7 st =>
  cb v7 fun b_1 => br b_1
   (qb (q_fa 2 v1) fun v9 =>
   qb (zq0 st true 4 v9) fun v10 =>
   zqb prog n_impl_KindOK [v10] st (fun v11 st =>
   retR R v11 st) (panR R))
   (retR R (.bool false) st)) (panR R))
  (qb (q_fa 0 v1) fun v13 =>
  qb (zq0 st false 1 v13) fun v14 =>
  zqb prog n_impl_NameOK [v14] st (fun v15 st =>
  cb v15 fun b_2 => br b_2
   (qb (q_fa 2 v1) fun v17 =>
   qb (zq0 st true 4 v17) fun v18 =>
   zqb prog n_impl_FamilyOK [v18] st (fun v19 st =>
   retR R v19 st) (panR R))
   (retR R (.bool false) st)) (panR R))
theorem zqjy {a0 : PV} {st : St} {R : Res → St → Prop} (h : zqb9 a0 st R) : zq5 prog n_impl_declForm [a0] st R := hcc (fn := Go.Proofs.Tryz.f121) (ann := []) (by kernel_rfl) (by kernel_rfl) (by kernel_rfl) (by kernel_rfl) h
def b_impl_has (a0 a1 : PV) (st : St) (R : Res → St → Prop) : Prop :=
 zq19 st a1 fun v3 st =>
 zqb prog n_slices_ContainsFunc_impl_Decl_impl_Decl [a0, (.fn (.func n_impl_has_1) [] [v3])] st (fun v7 st =>
 retR R v7 st) (panR R)
theorem c_impl_has {a0 a1 : PV} {st : St} {R : Res → St → Prop} (h : b_impl_has a0 a1 st R) : zq5 prog n_impl_has [a0, a1] st R := hcc (fn := Go.Proofs.Tryz.f122) (ann := []) (by kernel_rfl) (by kernel_rfl) (by kernel_rfl) (by kernel_rfl) h
def zq9k (a0 a1 : PV) (st : St) (R : Res → St → Prop) : Prop :=
 zq19 st a0 fun v2 st =>
 zq19 st a1 fun v3 st =>
 zq8 st [.int .i64 0, .int .i64 0] fun v4 st =>
 zqb prog n_impl_caught [(.fn (.func n_impl_declFault_1) [] [v2, v3])] st (fun v6 st =>
 zq4 st 2 v4 v6 fun st =>
 qb (zq0 st true 2 v4) fun r => retR R r st) (panR R)
theorem zqic {a0 a1 : PV} {st : St} {R : Res → St → Prop} (h : zq9k a0 a1 st R) : zq5 prog n_impl_declFault [a0, a1] st R := hcc (fn := Go.Proofs.Tryz.f123) (ann := []) (by kernel_rfl) (by kernel_rfl) (by kernel_rfl) (by kernel_rfl) h
end Go.H.Tryz
