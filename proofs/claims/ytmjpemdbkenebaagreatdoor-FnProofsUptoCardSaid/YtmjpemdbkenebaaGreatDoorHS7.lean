/- Part of a proof that the program answers as the reference does: ZHS7. -/
import Derived.Test.YtmjpemdbkenebaaGreatDoorHT
set_option linter.unusedVariables false
set_option maxRecDepth 100000
namespace Go.H.Tryz
open Go Go.H
def zq1q (a0 a1 : PV) (st : St) (R : Res → St → Prop) : Prop :=
 qb (zq1j a0) fun v7 =>
 hFix (fun ls st X =>
  qb (zqc .lss (ls.getD 0 .junk) v7) fun v9 =>
  cb v9 fun b => br b
   (qb (q_ia 6 a0 (ls.getD 0 .junk)) fun v14 =>
   qb (zq0 st true 6 v14) fun v15 =>
   zq57 prog st a1 [v15] (fun v16 st =>
   cb v16 fun b_1 => br b_1
    (retR R (ls.getD 0 .junk) st)
    (qb (zqc .add (ls.getD 0 .junk) (.int .i64 1)) fun v18 =>
    X [v18] st)) (panR R))
   (retR R (.int .i64 (-1)) st))
  [(.int .i64 0)] st
theorem zq3a {a0 a1 : PV} {st : St} {R : Res → St → Prop} (h : zq1q a0 a1 st R) : zq5 prog n_slices_IndexFunc_impl_Decl_impl_Decl [a0, a1] st R := hcc (fn := Go.Proofs.Tryz.f144) (ann := [(8, [8])]) (by kernel_rfl) (by kernel_rfl) (by kernel_rfl) (by kernel_rfl) h
def zq3s (a0 a1 a2 : PV) (st : St) (R : Res → St → Prop) : Prop :=
 zq19 st a0 fun v3 st =>
 qb (q_fa 0 v3) fun v5 =>
 qb (zq0 st false 1 v5) fun v6 =>
 qb (zq0 st false 1 a1) fun v7 =>
 qb (zqc .eql v6 v7) fun v8 =>
 cb v8 fun b => br b
  (qb (q_fa 1 v3) fun v10 =>
  qb (zq0 st false 1 v10) fun v11 =>
  qb (zq0 st false 1 a2) fun v12 =>
  qb (q_beq .eql v11 v12) fun v13 =>
  retR R v13 st)
  (retR R (.bool false) st)
theorem zq7a {a0 a1 a2 : PV} {st : St} {R : Res → St → Prop} (h : zq3s a0 a1 a2 st R) : zq5 prog n_impl_checker_declared_1 [a0, a1, a2] st R := hcc (fn := Go.Proofs.Tryz.f145) (ann := []) (by kernel_rfl) (by kernel_rfl) (by kernel_rfl) (by kernel_rfl) h
def b_impl_at (a0 a1 : PV) (st : St) (R : Res → St → Prop) : Prop :=
 zqb prog n_impl_caught [a1] st (fun v6 st =>
 zq8 st [.int .i64 0, .int .i64 0] fun v4 st =>
 zq4 st 2 v4 v6 fun st =>
 qb (q_fa 0 v4) fun v7 =>
 qb (zq0 st false 1 v7) fun v8 =>
 qb (zqc .neq v8 (.int .i64 0)) fun v9 =>
 cb v9 fun b => br b
  (qb (q_fa 0 v4) fun v10 =>
  qb (zq0 st false 1 v10) fun v11 =>
  zqb prog n_impl_stop [v11, a0] st (fun v13 st =>
  retR R (.tup []) st) (panR R))
  (retR R (.tup []) st)) (panR R)
theorem c_impl_at {a0 a1 : PV} {st : St} {R : Res → St → Prop} (h : b_impl_at a0 a1 st R) : zq5 prog n_impl_at [a0, a1] st R := hcc (fn := Go.Proofs.Tryz.f146) (ann := []) (by kernel_rfl) (by kernel_rfl) (by kernel_rfl) (by kernel_rfl) h
def zq53 (a0 a1 a2 a3 : PV) (st : St) (R : Res → St → Prop) : Prop :=
 qb (zq0 st false 1 a0) fun v4 =>
 qb (zq1d v4) fun v5 =>
 qb (q_fa 0 v5) fun v6 =>
 qb (zq0 st true 4 a1) fun v7 =>
 qb (q_fa 3 a2) fun v8 =>
 qb (zq0 st false 1 v8) fun v9 =>
 qb (q_ia 4 v9 (.int .i64 0)) fun v10 =>
 qb (zq0 st true 4 v10) fun v11 =>
 qb (q_fa 3 a2) fun v13 =>
 qb (zq0 st false 1 v13) fun v14 =>
 qb (q_ia 4 v14 (.int .i64 1)) fun v15 =>
 qb (zq0 st true 4 v15) fun v16 =>
 zqb prog n_impl_erase [v11] st (fun v12 st =>
 zq0 st true 4 v15 = some v16 ∧ zq0 st false 1 v13 = some v14 ∧ zq0 st true 4 a1 = some v7 ∧ zq0 st false 1 a0 = some v4 ∧ (zqb prog n_impl_work_put [v6, v7, v12, (.int .i64 0), v16] st (fun v17 st =>
 zq4 st 4 a3 v17 fun st =>
 retR R (.tup []) st) (panR R))) (panR R)
theorem zqa8 {a0 a1 a2 a3 : PV} {st : St} {R : Res → St → Prop} (h : zq53 a0 a1 a2 a3 st R) : zq5 prog n_impl_checker_left_1 [a0, a1, a2, a3] st R := hcc (fn := Go.Proofs.Tryz.f147) (ann := []) (by kernel_rfl) (by kernel_rfl) (by kernel_rfl) (by kernel_rfl) h
def zqas (a0 a1 a2 a3 a4 : PV) (st : St) (R : Res → St → Prop) : Prop :=
 zq19 st a1 fun v6 st =>
 zq19 st a2 fun v7 st =>
 zq19 st a4 fun v9 st =>
 zq8 st [.int .i64 0, .int .i64 0, .str [], .sl 0 true []] fun v10 st =>
 qb (zq24 4 0 0 [] []) fun v14 =>
 qb (q_fa 3 v9) fun v15 =>
 qb (zq0 st false 1 v15) fun v16 =>
 qb (zq1j v16) fun v17 =>
 hJ (fun ls st =>
  hJ (fun ls_1 st =>
   cb (ls_1.getD 0 .junk) fun b => br b
    (qb (zq0 st true 4 v6) fun v46 =>
    qb (zq0 st true 4 v7) fun v50 =>
    zqb prog n_impl_lift [v46, (.int .i64 0), a3] st (fun v48 st =>
    zq0 st true 4 v7 = some v50 ∧ (zqb prog n_impl_formed [v48] st (fun v49 st =>
    zq0 st true 4 v7 = some v50 ∧ (zqb prog n_impl_work_apply [a0, v49, v50, (ls.getD 0 .junk)] st (fun v52 st =>
    zq4 st 4 v10 v52 fun st =>
    qb (zq0 st true 4 v10) fun r => retR R r st) (panR R))) (panR R))) (panR R))
    (hJ (fun ls_2 st =>
     hJ (fun ls_3 st =>
      qb (q_fa 3 v9) fun v67 =>
      zq4 st 1 v67 (ls.getD 0 .junk) fun st =>
      qb (zq0 st true 4 v9) fun v68 =>
      zqb prog n_impl_formed [v68] st (fun v69 st =>
      zq4 st 4 v10 v69 fun st =>
      qb (zq0 st true 4 v10) fun r_1 => retR R r_1 st) (panR R))
      (fun k_3 =>
     cb (ls_2.getD 0 .junk) fun b_1 => br b_1
      (qb (q_fa 1 v9) fun v62 =>
      qb (zq0 st false 1 v62) fun v63 =>
      qb (zqc .sub v63 (.int .i64 1)) fun v64 =>
      qb (q_fa 1 v9) fun v65 =>
      zq4 st 1 v65 v64 fun st =>
      k_3 [] st)
      (k_3 [] st)))
     (fun k_2 =>
    qb (q_fa 0 v9) fun v53 =>
    qb (zq0 st false 1 v53) fun v54 =>
    qb (zqc .eql v54 (.int .i64 5)) fun v55 =>
    cb v55 fun b_2 => br b_2
     (qb (q_fa 1 v9) fun v57 =>
     qb (zq0 st false 1 v57) fun v58 =>
     qb (zqc .gtr v58 a3) fun v60 =>
     k_2 [v60] st)
     (k_2 [(.bool false)] st))))
   (fun k_1 =>
  qb (q_fa 0 v9) fun v36 =>
  qb (zq0 st false 1 v36) fun v37 =>
  qb (zqc .eql v37 (.int .i64 5)) fun v38 =>
  cb v38 fun b_3 => br b_3
   (qb (q_fa 1 v9) fun v40 =>
   qb (zq0 st false 1 v40) fun v41 =>
   qb (zqc .eql v41 a3) fun v43 =>
   k_1 [v43] st)
   (k_1 [(.bool false)] st)))
  (fun k =>
 hFix (fun ls_4 st X =>
  qb (zqc .lss (ls_4.getD 1 .junk) v17) fun v19 =>
  cb v19 fun b_4 => br b_4
   (qb (q_ia 4 v16 (ls_4.getD 1 .junk)) fun v21 =>
   qb (zq0 st true 4 v21) fun v22 =>
   zq8 st [.int .i64 0, .int .i64 0, .str [], .sl 0 true []] fun v13 st =>
   zq4 st 4 v13 v22 fun st =>
   qb (zq0 st true 4 v6) fun v25 =>
   qb (zq0 st true 4 v7) fun v26 =>
   qb (zq0 st true 4 v13) fun v31 =>
   zqb prog n_impl_Tree_under [v9, (ls_4.getD 1 .junk)] st (fun v29 st =>
   zq0 st true 4 v13 = some v31 ∧ zq0 st true 4 v7 = some v26 ∧ zq0 st true 4 v6 = some v25 ∧ (qb (zqc .add a3 v29) fun v30 =>
   zqb prog n_impl_work_put [a0, v25, v26, v30, v31] st (fun v32 st =>
   qb (zq24 4 1 0 [] [(0, v32)]) fun v33 =>
   zqo st 4 56 (ls_4.getD 0 .junk) v33 (fun v34 st =>
   qb (zqc .add (ls_4.getD 1 .junk) (.int .i64 1)) fun v35 =>
   X [v34, v35] st)) (panR R))) (panR R))
   (k [(ls_4.getD 0 .junk)] st))
  [v14, (.int .i64 0)] st)
theorem zqjh {a0 a1 a2 a3 a4 : PV} {st : St} {R : Res → St → Prop} (h : zqas a0 a1 a2 a3 a4 st R) : zq5 prog n_impl_work_put [a0, a1, a2, a3, a4] st R := hcc (fn := Go.Proofs.Tryz.f148) (ann := [(12, [11, 18]), (3, [11]), (29, [44]), (37, [61]), (42, [])]) (by kernel_rfl) (by kernel_rfl) (by kernel_rfl) (by kernel_rfl) h
def zqil (a0 : PV) (st : St) (R : Res → St → Prop) : Prop :=
 zq19 st a0 fun v1 st =>
 zq8 st [.int .i64 0, .int .i64 0, .str [], .sl 0 true []] fun v2 st =>
 qb (q_fa 0 v1) fun v3 =>
 qb (zq0 st false 1 v3) fun v4 =>
 qb (zqc .eql v4 (.int .i64 2)) fun v5 =>
 cb v5 fun b => br b
  (qb (q_fa 3 v1) fun v6 =>
  qb (zq0 st false 1 v6) fun v7 =>
  qb (q_ia 4 v7 (.int .i64 0)) fun v8 =>
  qb (zq0 st true 4 v8) fun v9 =>
  qb (q_fa 3 v1) fun v11 =>
  qb (zq0 st false 1 v11) fun v12 =>
  qb (q_ia 4 v12 (.int .i64 1)) fun v13 =>
  qb (zq0 st true 4 v13) fun v14 =>
  zqb prog n_impl_erase [v9] st (fun v10 st =>
  zq0 st true 4 v13 = some v14 ∧ zq0 st false 1 v11 = some v12 ∧ (zqb prog n_impl_erase [v14] st (fun v15 st =>
  qb (zq24 4 2 0 [] [(0, v10), (1, v15)]) fun v16 =>
  qb (zqe [.int .i64 0, .int .i64 0, .str [], .sl 0 true []] [(0, 1, (.int .i64 10)), (3, 1, v16)]) fun v17 =>
  zq4 st 4 v2 v17 fun st =>
  qb (zq0 st true 4 v2) fun r => retR R r st) (panR R))) (panR R))
  (qb (q_fa 2 v1) fun v18 =>
  qb (zq0 st false 1 v18) fun v19 =>
  qb (zqe [.int .i64 0, .int .i64 0, .str [], .sl 0 true []] [(0, 1, (.int .i64 9)), (2, 1, v19)]) fun v20 =>
  zq4 st 4 v2 v20 fun st =>
  qb (zq0 st true 4 v2) fun r_1 => retR R r_1 st)
theorem c_impl_erase {a0 : PV} {st : St} {R : Res → St → Prop} (h : zqil a0 st R) : zq5 prog n_impl_erase [a0] st R := hcc (fn := Go.Proofs.Tryz.f149) (ann := []) (by kernel_rfl) (by kernel_rfl) (by kernel_rfl) (by kernel_rfl) h
def zqfs (a0 a1 a2 : PV) (st : St) (R : Res → St → Prop) : Prop :=
 zq19 st a0 fun v3 st =>
 zq8 st [.int .i64 0, .int .i64 0, .str [], .sl 0 true []] fun v6 st =>
 qb (zq24 4 0 0 [] []) fun v10 =>
 qb (q_fa 3 v3) fun v11 =>
 qb (zq0 st false 1 v11) fun v12 =>
 qb (zq1j v12) fun v13 =>
 hJ (fun ls st =>
  qb (q_fa 3 v3) fun v31 =>
  zq4 st 1 v31 (ls.getD 0 .junk) fun st =>
  qb (q_fa 0 v3) fun v32 =>
  qb (zq0 st false 1 v32) fun v33 =>
  qb (zqc .eql v33 (.int .i64 5)) fun v34 =>
  cb v34 fun b => br b
   (qb (zq0 st true 4 v3) fun v36 =>
   zq57 prog st a2 [v36, a1] (fun v38 st =>
   zq4 st 4 v6 v38 fun st =>
   qb (zq0 st true 4 v6) fun r => retR R r st) (panR R))
   (qb (zq0 st true 4 v3) fun v39 =>
   zq4 st 4 v6 v39 fun st =>
   qb (zq0 st true 4 v6) fun r_1 => retR R r_1 st))
  (fun k =>
 hFix (fun ls_1 st X =>
  qb (zqc .lss (ls_1.getD 1 .junk) v13) fun v15 =>
  cb v15 fun b_1 => br b_1
   (qb (q_ia 4 v12 (ls_1.getD 1 .junk)) fun v17 =>
   qb (zq0 st true 4 v17) fun v18 =>
   zq8 st [.int .i64 0, .int .i64 0, .str [], .sl 0 true []] fun v9 st =>
   zq4 st 4 v9 v18 fun st =>
   qb (zq0 st true 4 v9) fun v20 =>
   zqb prog n_impl_Tree_under [v3, (ls_1.getD 1 .junk)] st (fun v23 st =>
   zq0 st true 4 v9 = some v20 ∧ (qb (zqc .add a1 v23) fun v24 =>
   zqb prog n_impl_turned [v20, v24, a2] st (fun v26 st =>
   qb (zq24 4 1 0 [] [(0, v26)]) fun v27 =>
   zqo st 4 56 (ls_1.getD 0 .junk) v27 (fun v28 st =>
   qb (zqc .add (ls_1.getD 1 .junk) (.int .i64 1)) fun v29 =>
   X [v28, v29] st)) (panR R))) (panR R))
   (k [(ls_1.getD 0 .junk)] st))
  [v10, (.int .i64 0)] st)
theorem c_impl_turned {a0 a1 a2 : PV} {st : St} {R : Res → St → Prop} (h : zqfs a0 a1 a2 st R) : zq5 prog n_impl_turned [a0, a1, a2] st R := hcc (fn := Go.Proofs.Tryz.f150) (ann := [(12, [7, 14]), (3, [7])]) (by kernel_rfl) (by kernel_rfl) (by kernel_rfl) (by kernel_rfl) h
def zqfx (a0 a1 a2 a3 : PV) (st : St) (R : Res → St → Prop) : Prop :=
 zq19 st a0 fun v4 st =>
 zq8 st [.int .i64 0, .int .i64 0, .str [], .sl 0 true []] fun v6 st =>
 qb (q_fa 1 v4) fun v7 =>
 qb (zq0 st false 1 v7) fun v8 =>
 qb (zq0 st false 1 a2) fun v9 =>
 qb (zqc .add v9 a1) fun v11 =>
 qb (zqc .geq v8 v11) fun v12 =>
 cb v12 fun b => br b
  (qb (q_fa 1 v4) fun v13 =>
  qb (zq0 st false 1 v13) fun v14 =>
  qb (zq0 st false 1 a3) fun v15 =>
  qb (zqc .add v14 v15) fun v16 =>
  qb (q_fa 1 v4) fun v17 =>
  zq4 st 1 v17 v16 fun st =>
  qb (zq0 st true 4 v4) fun v18 =>
  zq4 st 4 v6 v18 fun st =>
  qb (zq0 st true 4 v6) fun r => retR R r st)
  (qb (zq0 st true 4 v4) fun v18_1 =>
  zq4 st 4 v6 v18_1 fun st =>
  qb (zq0 st true 4 v6) fun r_1 => retR R r_1 st)
theorem c_impl_lift_1 {a0 a1 a2 a3 : PV} {st : St} {R : Res → St → Prop} (h : zqfx a0 a1 a2 a3 st R) : zq5 prog n_impl_lift_1 [a0, a1, a2, a3] st R := hcc (fn := Go.Proofs.Tryz.f151) (ann := []) (by kernel_rfl) (by kernel_rfl) (by kernel_rfl) (by kernel_rfl) h
def zq2d (a0 a1 : PV) (st : St) (R : Res → St → Prop) : Prop :=
 qb (zq4b a0) fun v6 =>
 qb (zq4b a1) fun v8 =>
 qb (zqc .geq v6 v8) fun v9 =>
 cb v9 fun b => br b
  (qb (zq4b a0) fun v13 =>
  qb (zq4b a1) fun v15 =>
  qb (zqc .sub v13 v15) fun v16 =>
  qb (zq17 a0 (some v16) none none) fun v17 =>
  qb (zqc .eql v17 a1) fun v19 =>
  retR R v19 st)
  (retR R (.bool false) st)
theorem zq4i {a0 a1 : PV} {st : St} {R : Res → St → Prop} (h : zq2d a0 a1 st R) : zq5 prog n_internal_stringslite_HasSuffix [a0, a1] st R := hcc (fn := Go.Proofs.Tryz.f153) (ann := []) (by kernel_rfl) (by kernel_rfl) (by kernel_rfl) (by kernel_rfl) h
def zq7p (a0 a1 : PV) (st : St) (R : Res → St → Prop) : Prop :=
 zq8 st [.int .i64 0, .int .i64 0, .str [], .sl 0 true []] fun v4 st =>
 zqb prog n_impl_parsed [a0, a1, (.fn (.func n_impl_parser_family) [] [])] st (fun v9 st =>
 qb (q_ex v9 0) fun v10 =>
 qb (q_ex v9 1) fun v11 =>
 qb (q_ex v9 2) fun v12 =>
 zq4 st 4 v4 v10 fun st =>
 qb (zq0 st true 4 v4) fun r => retR R (.tup [r, v11, v12]) st) (panR R)
theorem zqf2 {a0 a1 : PV} {st : St} {R : Res → St → Prop} (h : zq7p a0 a1 st R) : zq5 prog n_impl_ParseFamily [a0, a1] st R := hcc (fn := Go.Proofs.Tryz.f154) (ann := []) (by kernel_rfl) (by kernel_rfl) (by kernel_rfl) (by kernel_rfl) h
def zqfy (a0 : PV) (st : St) (R : Res → St → Prop) : Prop :=
 zq19 st a0 fun v1 st =>
 hFix (fun ls st X =>
  qb (q_fa 0 v1) fun v3 =>
  qb (zq0 st false 1 v3) fun v4 =>
  qb (zqc .eql v4 (.int .i64 2)) fun v5 =>
  cb v5 fun b => br b
   (qb (q_fa 3 v1) fun v6 =>
   qb (zq0 st false 1 v6) fun v7 =>
   qb (q_ia 4 v7 (.int .i64 1)) fun v8 =>
   qb (zq0 st true 4 v8) fun v9 =>
   zq4 st 4 v1 v9 fun st =>
   X [] st)
   (qb (q_fa 0 v1) fun v10 =>
   qb (zq0 st false 1 v10) fun v11 =>
   qb (zqc .eql v11 (.int .i64 1)) fun v12 =>
   retR R v12 st))
  [] st
theorem c_impl_isKind {a0 : PV} {st : St} {R : Res → St → Prop} (h : zqfy a0 st R) : zq5 prog n_impl_isKind [a0] st R := hcc (fn := Go.Proofs.Tryz.f155) (ann := [(4, [])]) (by kernel_rfl) (by kernel_rfl) (by kernel_rfl) (by kernel_rfl) h
def zq2e (a0 a1 : PV) (st : St) (R : Res → St → Prop) : Prop :=
 qb (zq4b a0) fun v6 =>
 qb (zq4b a1) fun v8 =>
 qb (zqc .geq v6 v8) fun v9 =>
 cb v9 fun b => br b
  (qb (zq4b a1) fun v13 =>
  qb (zq17 a0 none (some v13) none) fun v14 =>
  qb (zqc .eql v14 a1) fun v16 =>
  retR R v16 st)
  (retR R (.bool false) st)
theorem zq4j {a0 a1 : PV} {st : St} {R : Res → St → Prop} (h : zq2e a0 a1 st R) : zq5 prog n_internal_stringslite_HasPrefix [a0, a1] st R := hcc (fn := Go.Proofs.Tryz.f156) (ann := []) (by kernel_rfl) (by kernel_rfl) (by kernel_rfl) (by kernel_rfl) h
end Go.H.Tryz
