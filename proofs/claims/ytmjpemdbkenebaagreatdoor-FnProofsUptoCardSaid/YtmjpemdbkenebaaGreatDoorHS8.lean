/- Part of a proof that the program answers as the reference does: ZHS8. -/
import Derived.Test.YtmjpemdbkenebaaGreatDoorHT
set_option linter.unusedVariables false
set_option maxRecDepth 100000
namespace Go.H.Tryz
open Go Go.H
def zq8c (a0 a1 a2 a3 : PV) (st : St) (R : Res → St → Prop) : Prop :=
 zq19 st a1 fun v5 st =>
 zq19 st a2 fun v6 st =>
 zq8 st [.int .i64 0, .int .i64 0, .str [], .sl 0 true []] fun v8 st =>
 qb (zq1j a3) fun v12 =>
 hFix (fun ls st X =>
  qb (zqc .lss (ls.getD 0 .junk) v12) fun v14 =>
  cb v14 fun b => br b
   (qb (q_ia 4 a3 (ls.getD 0 .junk)) fun v15 =>
   qb (zq0 st true 4 v15) fun v16 =>
   zq8 st [.int .i64 0, .int .i64 0, .str [], .sl 0 true []] fun v10 st =>
   zq4 st 4 v10 v16 fun st =>
   hJ (fun ls_1 st =>
    cb (ls_1.getD 0 .junk) fun b_1 => br b_1
     (zqb prog n_impl_stop [(.int .i64 12), (.int .i64 0)] st (fun v25 st =>
     qb (zq1d a0) fun v27 =>
     qb (q_fa 0 v27) fun v28 =>
     qb (zq0 st false 1 v28) fun v29 =>
     qb (zqc .add v29 (.int .i64 1)) fun v30 =>
     qb (zq1d a0) fun v31 =>
     qb (q_fa 0 v31) fun v32 =>
     zq4 st 1 v32 v30 fun st =>
     qb (zq1d a0) fun v34 =>
     qb (q_fa 0 v34) fun v35 =>
     qb (zq0 st false 1 v35) fun v36 =>
     qb (zqc .gtr v36 (.int .i64 20000)) fun v37 =>
     hJ (fun ls_2 st =>
      qb (zq0 st true 4 v10) fun v40 =>
      qb (q_fa 3 v6) fun v41 =>
      qb (zq0 st false 1 v41) fun v42 =>
      qb (q_ia 4 v42 (.int .i64 0)) fun v43 =>
      qb (zq0 st true 4 v43) fun v44 =>
      qb (q_fa 3 v5) fun v45 =>
      qb (zq0 st false 1 v45) fun v46 =>
      qb (q_ia 4 v46 (.int .i64 0)) fun v47 =>
      qb (zq0 st true 4 v47) fun v48 =>
      zqb prog n_impl_work_put [a0, v40, v44, (.int .i64 0), v48] st (fun v49 st =>
      zq4 st 4 v5 v49 fun st =>
      qb (q_fa 3 v6) fun v50 =>
      qb (zq0 st false 1 v50) fun v51 =>
      qb (q_ia 4 v51 (.int .i64 1)) fun v52 =>
      qb (zq0 st true 4 v52) fun v53 =>
      zq4 st 4 v6 v53 fun st =>
      qb (zqc .add (ls.getD 0 .junk) (.int .i64 1)) fun v54 =>
      X [v54] st) (panR R))
      (fun k_1 =>
     cb v37 fun b_2 => br b_2
      (zqb prog n_impl_stop [(.int .i64 17), (.int .i64 0)] st (fun v38 st =>
      k_1 [] st) (panR R))
      (k_1 [] st))) (panR R))
     (qb (zq1d a0) fun v27_1 =>
     qb (q_fa 0 v27_1) fun v28_1 =>
     qb (zq0 st false 1 v28_1) fun v29_1 =>
     qb (zqc .add v29_1 (.int .i64 1)) fun v30_1 =>
     qb (zq1d a0) fun v31_1 =>
     qb (q_fa 0 v31_1) fun v32_1 =>
     zq4 st 1 v32_1 v30_1 fun st =>
     qb (zq1d a0) fun v34_1 =>
     qb (q_fa 0 v34_1) fun v35_1 =>
     qb (zq0 st false 1 v35_1) fun v36_1 =>
     qb (zqc .gtr v36_1 (.int .i64 20000)) fun v37_1 =>
     hJ (fun ls_3 st =>
      qb (zq0 st true 4 v10) fun v40_1 =>
      qb (q_fa 3 v6) fun v41_1 =>
      qb (zq0 st false 1 v41_1) fun v42_1 =>
      qb (q_ia 4 v42_1 (.int .i64 0)) fun v43_1 =>
      qb (zq0 st true 4 v43_1) fun v44_1 =>
      qb (q_fa 3 v5) fun v45_1 =>
      qb (zq0 st false 1 v45_1) fun v46_1 =>
      qb (q_ia 4 v46_1 (.int .i64 0)) fun v47_1 =>
      qb (zq0 st true 4 v47_1) fun v48_1 =>
      zqb prog n_impl_work_put [a0, v40_1, v44_1, (.int .i64 0), v48_1] st (fun v49_1 st =>
      zq4 st 4 v5 v49_1 fun st =>
      qb (q_fa 3 v6) fun v50_1 =>
      qb (zq0 st false 1 v50_1) fun v51_1 =>
      qb (q_ia 4 v51_1 (.int .i64 1)) fun v52_1 =>
      qb (zq0 st true 4 v52_1) fun v53_1 =>
      zq4 st 4 v6 v53_1 fun st =>
      qb (zqc .add (ls.getD 0 .junk) (.int .i64 1)) fun v54_1 =>
      X [v54_1] st) (panR R))
      (fun k_2 =>
     cb v37_1 fun b_3 => br b_3
      (zqb prog n_impl_stop [(.int .i64 17), (.int .i64 0)] st (fun v38_1 st =>
      k_2 [] st) (panR R))
      (k_2 [] st))))
    (fun k =>
   qb (q_fa 0 v6) fun v17 =>
   qb (zq0 st false 1 v17) fun v18 =>
   qb (zqc .neq v18 (.int .i64 10)) fun v19 =>
   cb v19 fun b_4 => br b_4
    (k [(.bool true)] st)
    (qb (q_fa 0 v5) fun v21 =>
    qb (zq0 st false 1 v21) fun v22 =>
    qb (zqc .neq v22 (.int .i64 4)) fun v23 =>
    k [v23] st)))
   (qb (zq0 st true 4 v5) fun v55 =>
   zq4 st 4 v8 v55 fun st =>
   qb (zq0 st true 4 v8) fun r => retR R r st))
  [(.int .i64 0)] st
theorem zqgi {a0 a1 a2 a3 : PV} {st : St} {R : Res → St → Prop} (h : zq8c a0 a1 a2 a3 st R) : zq5 prog n_impl_work_apply [a0, a1, a2, a3] st R := hcc (fn := Go.Proofs.Tryz.f164) (ann := [(8, [13]), (17, [24]), (34, [])]) (by kernel_rfl) (by kernel_rfl) (by kernel_rfl) (by kernel_rfl) h
def zqg1 (a0 : PV) (st : St) (R : Res → St → Prop) : Prop :=
 zq19 st a0 fun v1 st =>
 zq8 st [.int .i64 0, .int .i64 0, .str [], .sl 0 true []] fun v2 st =>
 qb (zq0 st true 4 v1) fun v3 =>
 zqb prog n_impl_tooBig [v3] st (fun v4 st =>
 cb v4 fun b => br b
  (zqb prog n_impl_stop [(.int .i64 11), (.int .i64 0)] st (fun v5 st =>
  qb (zq0 st true 4 v1) fun v6 =>
  zq4 st 4 v2 v6 fun st =>
  qb (zq0 st true 4 v2) fun r => retR R r st) (panR R))
  (qb (zq0 st true 4 v1) fun v6_1 =>
  zq4 st 4 v2 v6_1 fun st =>
  qb (zq0 st true 4 v2) fun r_1 => retR R r_1 st)) (panR R)
theorem c_impl_formed {a0 : PV} {st : St} {R : Res → St → Prop} (h : zqg1 a0 st R) : zq5 prog n_impl_formed [a0] st R := hcc (fn := Go.Proofs.Tryz.f165) (ann := []) (by kernel_rfl) (by kernel_rfl) (by kernel_rfl) (by kernel_rfl) h
def zqfw (a0 a1 a2 : PV) (st : St) (R : Res → St → Prop) : Prop :=
 zq19 st a0 fun v3 st =>
 zq19 st a1 fun v4 st =>
 zq19 st a2 fun v5 st =>
 zq8 st [.int .i64 0, .int .i64 0, .str [], .sl 0 true []] fun v6 st =>
 qb (zq0 st false 1 v3) fun v12 =>
 zqb prog n_impl_longText [v12] st (fun v13 st =>
 cb v13 fun b => br b
  (qb (zqe [.int .i64 0, .int .i64 0, .str [], .sl 0 true []] []) fun v14 =>
  zq4 st 4 v6 v14 fun st =>
  qb (zq0 st true 4 v6) fun r => retR R (.tup [r, (.int .i64 2), (.int .i64 0)]) st)
  (qb (zq0 st false 1 v4) fun v16 =>
  zqb prog n_impl_in [v16, (.int .i64 0), (.int .i64 100)] st (fun v17 st =>
  qb (q_un .not v17) fun v18 =>
  cb v18 fun b_1 => br b_1
   (qb (zqe [.int .i64 0, .int .i64 0, .str [], .sl 0 true []] []) fun v19 =>
   zq4 st 4 v6 v19 fun st =>
   qb (zq0 st true 4 v6) fun r_1 => retR R (.tup [r_1, (.int .i64 16), (.int .i64 0)]) st)
   (qb (zqe [.int .i64 0, .int .i64 0, .str [], .sl 0 true []] []) fun v20 =>
   zq8 st [.int .i64 0, .int .i64 0, .str [], .sl 0 true []] fun v9 st =>
   zq4 st 4 v9 v20 fun st =>
   zqb prog n_impl_caught [(.fn (.func n_impl_parsed_1) [] [v3, v4, v5, v9])] st (fun v22 st =>
   zq8 st [.int .i64 0, .int .i64 0] fun v10 st =>
   zq4 st 2 v10 v22 fun st =>
   qb (q_fa 0 v10) fun v23 =>
   qb (zq0 st false 1 v23) fun v24 =>
   qb (zqc .neq v24 (.int .i64 0)) fun v25 =>
   cb v25 fun b_2 => br b_2
    (qb (zqe [.int .i64 0, .int .i64 0, .str [], .sl 0 true []] []) fun v26 =>
    qb (q_fa 0 v10) fun v27 =>
    qb (zq0 st false 1 v27) fun v28 =>
    qb (q_fa 1 v10) fun v29 =>
    qb (zq0 st false 1 v29) fun v30 =>
    zq4 st 4 v6 v26 fun st =>
    zq0 st false 1 v29 = some v30 ∧ zq0 st false 1 v27 = some v28 ∧ (qb (zq0 st true 4 v6) fun r_2 => retR R (.tup [r_2, v28, v30]) st))
    (qb (zq0 st true 4 v9) fun v31 =>
    zqb prog n_impl_clone [v31] st (fun v32 st =>
    zq4 st 4 v6 v32 fun st =>
    qb (zq0 st true 4 v6) fun r_3 => retR R (.tup [r_3, (.int .i64 0), (.int .i64 0)]) st) (panR R))) (panR R))) (panR R))) (panR R)
theorem c_impl_parsed {a0 a1 a2 : PV} {st : St} {R : Res → St → Prop} (h : zqfw a0 a1 a2 st R) : zq5 prog n_impl_parsed [a0, a1, a2] st R := hcc (fn := Go.Proofs.Tryz.f167) (ann := []) (by kernel_rfl) (by kernel_rfl) (by kernel_rfl) (by kernel_rfl) h
def zq5r (a0 : PV) (st : St) (R : Res → St → Prop) : Prop :=
 zq8 st [.int .i64 0, .int .i64 0, .str [], .sl 0 true []] fun v2 st =>
 zqb prog n_impl_parser_next [a0] st (fun v9 st =>
 qb (zq1d a0) fun v11 =>
 qb (q_fa 1 v11) fun v12 =>
 qb (zq0 st false 1 v12) fun v13 =>
 qb (zqc .eql v9 (.int .i64 123)) fun v15 =>
 cb v15 fun b => br b
  (zqb prog n_impl_parser_node [a0, v13] st (fun v18 st =>
  qb (zq1d a0) fun v20 =>
  qb (q_fa 1 v20) fun v21 =>
  qb (zq0 st false 1 v21) fun v22 =>
  qb (zqc .add v22 (.int .i64 1)) fun v23 =>
  qb (zq1d a0) fun v24 =>
  qb (q_fa 1 v24) fun v25 =>
  zq4 st 1 v25 v23 fun st =>
  zqb prog n_impl_parser_binder [a0] st (fun v27 st =>
  zqb prog n_impl_parser_expect [a0, (.int .i64 58)] st (fun v29 st =>
  zqb prog n_impl_parser_due [a0] st (fun v31 st =>
  zq8 st [.int .i64 0, .int .i64 0, .str [], .sl 0 true []] fun v6 st =>
  zq4 st 4 v6 v31 fun st =>
  zqb prog n_impl_parser_expect [a0, (.int .i64 125)] st (fun v33 st =>
  qb (zq0 st true 4 v6) fun v34 =>
  zqb prog n_impl_parser_under [a0, v27, (.fn (.func n_impl_parser_family) [a0] [])] st (fun v39 st =>
  zq0 st true 4 v6 = some v34 ∧ (zqb prog n_impl_pi [v34, v39] st (fun v40 st =>
  zq4 st 4 v2 v40 fun st =>
  qb (zq0 st true 4 v2) fun r => retR R r st) (panR R))) (panR R)) (panR R)) (panR R)) (panR R)) (panR R)) (panR R))
  (zqb prog n_impl_parser_first [a0] st (fun v42 st =>
  zq8 st [.int .i64 0, .int .i64 0, .str [], .sl 0 true []] fun v7 st =>
  zq4 st 4 v7 v42 fun st =>
  zqb prog n_impl_parser_next [a0] st (fun v44 st =>
  qb (zqc .neq v44 (.int .i64 45)) fun v45 =>
  cb v45 fun b_1 => br b_1
   (qb (zq0 st true 4 v7) fun v46 =>
   zq4 st 4 v2 v46 fun st =>
   qb (zq0 st true 4 v2) fun r_1 => retR R r_1 st)
   (qb (zq1d a0) fun v49 =>
   qb (q_fa 1 v49) fun v50 =>
   qb (zq0 st false 1 v50) fun v51 =>
   qb (zqc .add v51 (.int .i64 1)) fun v52 =>
   zqb prog n_impl_parser_byte [a0, v52] st (fun v53 st =>
   qb (zqc .neq v53 (.int .i64 62)) fun v54 =>
   hJ (fun ls st =>
    qb (zq0 st true 4 v7) fun v61 =>
    zqb prog n_impl_isKind [v61] st (fun v62 st =>
    hJ (fun ls_1 st =>
     qb (zq1d a0) fun v67 =>
     qb (q_fa 1 v67) fun v68 =>
     qb (zq0 st false 1 v68) fun v69 =>
     zqb prog n_impl_parser_node [a0, v69] st (fun v70 st =>
     qb (zq1d a0) fun v72 =>
     qb (q_fa 1 v72) fun v73 =>
     qb (zq0 st false 1 v73) fun v74 =>
     qb (zqc .add v74 (.int .i64 2)) fun v75 =>
     qb (zq1d a0) fun v76 =>
     qb (q_fa 1 v76) fun v77 =>
     zq4 st 1 v77 v75 fun st =>
     qb (zq0 st true 4 v7) fun v78 =>
     zqb prog n_impl_parser_family [a0] st (fun v80 st =>
     zq0 st true 4 v7 = some v78 ∧ (zqb prog n_impl_lift [v80, (.int .i64 0), (.int .i64 1)] st (fun v81 st =>
     zq0 st true 4 v7 = some v78 ∧ (zqb prog n_impl_pi [v78, v81] st (fun v82 st =>
     zq4 st 4 v2 v82 fun st =>
     qb (zq0 st true 4 v2) fun r_2 => retR R r_2 st) (panR R))) (panR R))) (panR R)) (panR R))
     (fun k_1 =>
    cb v62 fun b_3 => br b_3
     (zqb prog n_impl_stop [(.int .i64 3), v13] st (fun v64 st =>
     k_1 [] st) (panR R))
     (k_1 [] st))) (panR R))
    (fun k =>
   cb v54 fun b_2 => br b_2
    (qb (zq1d a0) fun v56 =>
    qb (q_fa 1 v56) fun v57 =>
    qb (zq0 st false 1 v57) fun v58 =>
    qb (zqc .add v58 (.int .i64 1)) fun v59 =>
    zqb prog n_impl_stop [(.int .i64 4), v59] st (fun v60 st =>
    k [] st) (panR R))
    (k [] st))) (panR R))) (panR R)) (panR R))) (panR R)
theorem zqbu {a0 : PV} {st : St} {R : Res → St → Prop} (h : zq5r a0 st R) : zq5 prog n_impl_parser_family [a0] st R := hcc (fn := Go.Proofs.Tryz.f168) (ann := [(62, []), (70, [])]) (by kernel_rfl) (by kernel_rfl) (by kernel_rfl) (by kernel_rfl) h
def zqb7 (a0 a1 a2 a3 : PV) (st : St) (R : Res → St → Prop) : Prop :=
 qb (zq0 st false 1 a0) fun v5 =>
 qb (zq0 st false 1 a1) fun v6 =>
 zqb prog n_impl_parserOf [v5, v6] st (fun v7 st =>
 qb (zq0 st false 1 a2) fun v8 =>
 zq57 prog st v8 [v7] (fun v10 st =>
 zq4 st 4 a3 v10 fun st =>
 qb (zq0 st true 4 a3) fun v12 =>
 qb (zq24 4 1 0 [] [(0, v12)]) fun v13 =>
 zqb prog n_impl_parser_end [v7, v13] st (fun v14 st =>
 retR R (.tup []) st) (panR R)) (panR R)) (panR R)
theorem zqjw {a0 a1 a2 a3 : PV} {st : St} {R : Res → St → Prop} (h : zqb7 a0 a1 a2 a3 st R) : zq5 prog n_impl_parsed_1 [a0, a1, a2, a3] st R := hcc (fn := Go.Proofs.Tryz.f173) (ann := []) (by kernel_rfl) (by kernel_rfl) (by kernel_rfl) (by kernel_rfl) h
def zqb6 (a0 a1 : PV) (st : St) (R : Res → St → Prop) : Prop :=
 qb (zqe [.str [], .int .i64 0, .sl 0 true [], .int .i64 0, .bool false] [(0, 1, a0)]) fun v8 =>
 zq19 st v8 fun v9 st =>
 hFix (fun ls st X =>
  qb (zqc .lss (ls.getD 0 .junk) a1) fun v12 =>
  cb v12 fun b => br b
   (qb (zq1d v9) fun v16 =>
   qb (q_fa 2 v16) fun v17 =>
   qb (zq0 st false 1 v17) fun v18 =>
   zqb prog n_impl_binderName [(ls.getD 0 .junk)] st (fun v20 st =>
   zq0 st false 1 v17 = some v18 ∧ (qb (zq24 1 1 0 [] [(0, v20)]) fun v21 =>
   zqo st 1 16 v18 v21 (fun v22 st =>
   qb (zq1d v9) fun v23 =>
   qb (q_fa 2 v23) fun v24 =>
   zq4 st 1 v24 v22 fun st =>
   qb (zqc .add (ls.getD 0 .junk) (.int .i64 1)) fun v25 =>
   X [v25] st))) (panR R))
   (retR R v9 st))
  [(.int .i64 0)] st
theorem zqjv {a0 a1 : PV} {st : St} {R : Res → St → Prop} (h : zqb6 a0 a1 st R) : zq5 prog n_impl_parserOf [a0, a1] st R := hcc (fn := Go.Proofs.Tryz.f174) (ann := [(12, [11])]) (by kernel_rfl) (by kernel_rfl) (by kernel_rfl) (by kernel_rfl) h
def zq8e (a0 a1 : PV) (st : St) (R : Res → St → Prop) : Prop :=
 zqb prog n_impl_parser_next [a0] st (fun v7 st =>
 qb (zqc .neq v7 (.int .i64 (-1))) fun v8 =>
 hJ (fun ls st =>
  qb (zq1j a1) fun v15 =>
  hFix (fun ls_1 st X =>
   qb (zqc .lss (ls_1.getD 0 .junk) v15) fun v17 =>
   cb v17 fun b_1 => br b_1
    (qb (q_ia 4 a1 (ls_1.getD 0 .junk)) fun v18 =>
    qb (zq0 st true 4 v18) fun v19 =>
    zq8 st [.int .i64 0, .int .i64 0, .str [], .sl 0 true []] fun v5 st =>
    zq4 st 4 v5 v19 fun st =>
    zqb prog n_impl_Tree_each [v5, (.int .i64 0), (.fn (.func n_impl_parser_end_1) [] [])] st (fun v20 st =>
    cb v20 fun b_2 => br b_2
     (zqb prog n_impl_stop [(.int .i64 11), (.int .i64 0)] st (fun v21 st =>
     qb (zqc .add (ls_1.getD 0 .junk) (.int .i64 1)) fun v22 =>
     X [v22] st) (panR R))
     (qb (zqc .add (ls_1.getD 0 .junk) (.int .i64 1)) fun v22_1 =>
     X [v22_1] st)) (panR R))
    (retR R (.tup []) st))
   [(.int .i64 0)] st)
  (fun k =>
 cb v8 fun b => br b
  (qb (zq1d a0) fun v10 =>
  qb (q_fa 1 v10) fun v11 =>
  qb (zq0 st false 1 v11) fun v12 =>
  zqb prog n_impl_stop [(.int .i64 4), v12] st (fun v13 st =>
  k [] st) (panR R))
  (k [] st))) (panR R)
theorem zqgk {a0 a1 : PV} {st : St} {R : Res → St → Prop} (h : zq8e a0 a1 st R) : zq5 prog n_impl_parser_end [a0, a1] st R := hcc (fn := Go.Proofs.Tryz.f175) (ann := [(12, [16]), (6, [])]) (by kernel_rfl) (by kernel_rfl) (by kernel_rfl) (by kernel_rfl) h
def zqim (a0 : PV) (st : St) (R : Res → St → Prop) : Prop :=
 zq19 st a0 fun v1 st =>
 zq8 st [.int .i64 0, .int .i64 0, .str [], .sl 0 true []] fun v2 st =>
 qb (q_fa 3 v1) fun v3 =>
 qb (zq0 st false 1 v3) fun v4 =>
 zqb prog n_impl_cloneAll [v4] st (fun v5 st =>
 qb (q_fa 3 v1) fun v6 =>
 zq4 st 1 v6 v5 fun st =>
 qb (zq0 st true 4 v1) fun v7 =>
 zq4 st 4 v2 v7 fun st =>
 qb (zq0 st true 4 v2) fun r => retR R r st) (panR R)
theorem c_impl_clone {a0 : PV} {st : St} {R : Res → St → Prop} (h : zqim a0 st R) : zq5 prog n_impl_clone [a0] st R := hcc (fn := Go.Proofs.Tryz.f176) (ann := []) (by kernel_rfl) (by kernel_rfl) (by kernel_rfl) (by kernel_rfl) h
def zq7g (a0 : PV) (st : St) (R : Res → St → Prop) : Prop :=
 hJ (fun ls st =>
  qb (zq1d a0) fun v35 =>
  qb (q_fa 1 v35) fun v36 =>
  qb (zq0 st false 1 v36) fun v37 =>
  zqb prog n_impl_parser_byte [a0, v37] st (fun v38 st =>
  retR R v38 st) (panR R))
  (fun k =>
 hFix (fun ls_1 st X =>
  hJ (fun ls_2 st =>
   cb (ls_2.getD 0 .junk) fun b => br b
    (qb (zq1d a0) fun v27 =>
    qb (q_fa 1 v27) fun v28 =>
    qb (zq0 st false 1 v28) fun v29 =>
    qb (zqc .add v29 (.int .i64 1)) fun v30 =>
    qb (zq1d a0) fun v31 =>
    qb (q_fa 1 v31) fun v32 =>
    zq4 st 1 v32 v30 fun st =>
    X [] st)
    (k [] st))
   (fun k_1 =>
  qb (zq1d a0) fun v4 =>
  qb (q_fa 1 v4) fun v5 =>
  qb (zq0 st false 1 v5) fun v6 =>
  qb (zq1d a0) fun v8 =>
  qb (q_fa 0 v8) fun v9 =>
  qb (zq0 st false 1 v9) fun v10 =>
  qb (zq4b v10) fun v11 =>
  qb (zqc .lss v6 v11) fun v12 =>
  cb v12 fun b_1 => br b_1
   (qb (zq1d a0) fun v15 =>
   qb (q_fa 0 v15) fun v16 =>
   qb (zq0 st false 1 v16) fun v17 =>
   qb (zq1d a0) fun v19 =>
   qb (q_fa 1 v19) fun v20 =>
   qb (zq0 st false 1 v20) fun v21 =>
   qb (q_ix v17 v21) fun v22 =>
   zqb prog n_strings_IndexByte [(.str [32, 9, 10, 13]), v22] st (fun v23 st =>
   qb (zqc .geq v23 (.int .i64 0)) fun v24 =>
   k_1 [v24] st) (panR R))
   (k_1 [(.bool false)] st)))
  [] st)
theorem zqet {a0 : PV} {st : St} {R : Res → St → Prop} (h : zq7g a0 st R) : zq5 prog n_impl_parser_next [a0] st R := hcc (fn := Go.Proofs.Tryz.f177) (ann := [(4, []), (3, []), (5, [25])]) (by kernel_rfl) (by kernel_rfl) (by kernel_rfl) (by kernel_rfl) h
def zq7f (a0 a1 : PV) (st : St) (R : Res → St → Prop) : Prop :=
 qb (zq1d a0) fun v5 =>
 qb (q_fa 3 v5) fun v6 =>
 qb (zq0 st false 1 v6) fun v7 =>
 qb (zqc .add v7 (.int .i64 1)) fun v8 =>
 qb (zq1d a0) fun v9 =>
 qb (q_fa 3 v9) fun v10 =>
 zq4 st 1 v10 v8 fun st =>
 qb (zq1d a0) fun v12 =>
 qb (q_fa 3 v12) fun v13 =>
 qb (zq0 st false 1 v13) fun v14 =>
 qb (zqc .gtr v14 (.int .i64 150)) fun v15 =>
 cb v15 fun b => br b
  (zqb prog n_impl_stop [(.int .i64 11), a1] st (fun v17 st =>
  retR R (.tup []) st) (panR R))
  (retR R (.tup []) st)
theorem zqes {a0 a1 : PV} {st : St} {R : Res → St → Prop} (h : zq7f a0 a1 st R) : zq5 prog n_impl_parser_node [a0, a1] st R := hcc (fn := Go.Proofs.Tryz.f178) (ann := []) (by kernel_rfl) (by kernel_rfl) (by kernel_rfl) (by kernel_rfl) h
def zq5t (a0 : PV) (st : St) (R : Res → St → Prop) : Prop :=
 zqb prog n_impl_parser_next [a0] st (fun v7 st =>
 qb (zq1d a0) fun v9 =>
 qb (q_fa 1 v9) fun v10 =>
 qb (zq0 st false 1 v10) fun v11 =>
 hJ (fun ls st =>
  cb (ls.getD 0 .junk) fun b => br b
   (zqb prog n_impl_stop [(.int .i64 4), v11] st (fun v21 st =>
   zqb prog n_impl_parser_run [a0, (.str [97, 98, 99, 100, 101, 102, 103, 104, 105, 106, 107, 108, 109, 110, 111, 112, 113, 114, 115, 116, 117, 118, 119, 120, 121, 122, 65, 66, 67, 68, 69, 70, 71, 72, 73, 74, 75, 76, 77, 78, 79, 80, 81, 82, 83, 84, 85, 86, 87, 88, 89, 90, 95, 48, 49, 50, 51, 52, 53, 54, 55, 56, 57])] st (fun v23 st =>
   zqb prog n_impl_wordOK [v23] st (fun v25 st =>
   qb (q_un .not v25) fun v26 =>
   cb v26 fun b_1 => br b_1
    (zqb prog n_impl_stop [(.int .i64 4), v11] st (fun v36 st =>
    retR R v23 st) (panR R))
    (qb (zqc .eql v23 (.str [116, 121, 112, 101])) fun v29 =>
    cb v29 fun b_2 => br b_2
     (zqb prog n_impl_stop [(.int .i64 4), v11] st (fun v36_1 st =>
     retR R v23 st) (panR R))
     (qb (zqc .eql v23 (.str [95])) fun v33 =>
     cb v33 fun b_3 => br b_3
      (zqb prog n_impl_stop [(.int .i64 4), v11] st (fun v36_2 st =>
      retR R v23 st) (panR R))
      (retR R v23 st)))) (panR R)) (panR R)) (panR R))
   (zqb prog n_impl_parser_run [a0, (.str [97, 98, 99, 100, 101, 102, 103, 104, 105, 106, 107, 108, 109, 110, 111, 112, 113, 114, 115, 116, 117, 118, 119, 120, 121, 122, 65, 66, 67, 68, 69, 70, 71, 72, 73, 74, 75, 76, 77, 78, 79, 80, 81, 82, 83, 84, 85, 86, 87, 88, 89, 90, 95, 48, 49, 50, 51, 52, 53, 54, 55, 56, 57])] st (fun v23_1 st =>
   zqb prog n_impl_wordOK [v23_1] st (fun v25_1 st =>
   qb (q_un .not v25_1) fun v26_1 =>
   cb v26_1 fun b_4 => br b_4
    (zqb prog n_impl_stop [(.int .i64 4), v11] st (fun v36_3 st =>
    retR R v23_1 st) (panR R))
    (qb (zqc .eql v23_1 (.str [116, 121, 112, 101])) fun v29_1 =>
    cb v29_1 fun b_5 => br b_5
     (zqb prog n_impl_stop [(.int .i64 4), v11] st (fun v36_4 st =>
     retR R v23_1 st) (panR R))
     (qb (zqc .eql v23_1 (.str [95])) fun v33_1 =>
     cb v33_1 fun b_6 => br b_6
      (zqb prog n_impl_stop [(.int .i64 4), v11] st (fun v36_5 st =>
      retR R v23_1 st) (panR R))
      (retR R v23_1 st)))) (panR R)) (panR R)))
  (fun k =>
 qb (zqc .eql v7 (.int .i64 (-1))) fun v13 =>
 cb v13 fun b_7 => br b_7
  (k [(.bool true)] st)
  (qb (zqe5 .u8 v7) fun v16 =>
  zqb prog n_impl_isHead [v16] st (fun v17 st =>
  qb (q_un .not v17) fun v18 =>
  k [v18] st) (panR R)))) (panR R)
theorem zqbw {a0 : PV} {st : St} {R : Res → St → Prop} (h : zq5t a0 st R) : zq5 prog n_impl_parser_binder [a0] st R := hcc (fn := Go.Proofs.Tryz.f179) (ann := [(13, [19])]) (by kernel_rfl) (by kernel_rfl) (by kernel_rfl) (by kernel_rfl) h
def zq5s (a0 a1 : PV) (st : St) (R : Res → St → Prop) : Prop :=
 zqb prog n_impl_parser_next [a0] st (fun v5 st =>
 qb (zqc .neq v5 a1) fun v7 =>
 hJ (fun ls st =>
  qb (zq1d a0) fun v14 =>
  qb (q_fa 1 v14) fun v15 =>
  qb (zq0 st false 1 v15) fun v16 =>
  qb (zqc .add v16 (.int .i64 1)) fun v17 =>
  qb (zq1d a0) fun v18 =>
  qb (q_fa 1 v18) fun v19 =>
  zq4 st 1 v19 v17 fun st =>
  retR R (.tup []) st)
  (fun k =>
 cb v7 fun b => br b
  (qb (zq1d a0) fun v9 =>
  qb (q_fa 1 v9) fun v10 =>
  qb (zq0 st false 1 v10) fun v11 =>
  zqb prog n_impl_stop [(.int .i64 4), v11] st (fun v12 st =>
  k [] st) (panR R))
  (k [] st))) (panR R)
theorem zqbv {a0 a1 : PV} {st : St} {R : Res → St → Prop} (h : zq5s a0 a1 st R) : zq5 prog n_impl_parser_expect [a0, a1] st R := hcc (fn := Go.Proofs.Tryz.f180) (ann := [(6, [])]) (by kernel_rfl) (by kernel_rfl) (by kernel_rfl) (by kernel_rfl) h
def zq8f (a0 : PV) (st : St) (R : Res → St → Prop) : Prop :=
 zq8 st [.int .i64 0, .int .i64 0, .str [], .sl 0 true []] fun v2 st =>
 zqb prog n_impl_parser_next [a0] st (fun v6 st =>
 qb (zq1d a0) fun v8 =>
 qb (q_fa 1 v8) fun v9 =>
 qb (zq0 st false 1 v9) fun v10 =>
 zqb prog n_impl_parser_family [a0] st (fun v12 st =>
 zq8 st [.int .i64 0, .int .i64 0, .str [], .sl 0 true []] fun v4 st =>
 zq4 st 4 v4 v12 fun st =>
 qb (zq0 st true 4 v4) fun v13 =>
 zqb prog n_impl_isKind [v13] st (fun v14 st =>
 cb v14 fun b => br b
  (zqb prog n_impl_stop [(.int .i64 3), v10] st (fun v16 st =>
  qb (zq0 st true 4 v4) fun v17 =>
  zq4 st 4 v2 v17 fun st =>
  qb (zq0 st true 4 v2) fun r => retR R r st) (panR R))
  (qb (zq0 st true 4 v4) fun v17_1 =>
  zq4 st 4 v2 v17_1 fun st =>
  qb (zq0 st true 4 v2) fun r_1 => retR R r_1 st)) (panR R)) (panR R)) (panR R)
theorem zqgl {a0 : PV} {st : St} {R : Res → St → Prop} (h : zq8f a0 st R) : zq5 prog n_impl_parser_due [a0] st R := hcc (fn := Go.Proofs.Tryz.f181) (ann := []) (by kernel_rfl) (by kernel_rfl) (by kernel_rfl) (by kernel_rfl) h
def b_impl_pi (a0 a1 : PV) (st : St) (R : Res → St → Prop) : Prop :=
 zq19 st a0 fun v2 st =>
 zq19 st a1 fun v3 st =>
 zq8 st [.int .i64 0, .int .i64 0, .str [], .sl 0 true []] fun v4 st =>
 qb (zq0 st true 4 v2) fun v5 =>
 qb (zq0 st true 4 v3) fun v6 =>
 qb (zq24 4 2 0 [] [(0, v5), (1, v6)]) fun v7 =>
 qb (zqe [.int .i64 0, .int .i64 0, .str [], .sl 0 true []] [(0, 1, (.int .i64 2)), (3, 1, v7)]) fun v8 =>
 zq4 st 4 v4 v8 fun st =>
 qb (zq0 st true 4 v4) fun r => retR R r st
theorem c_impl_pi {a0 a1 : PV} {st : St} {R : Res → St → Prop} (h : b_impl_pi a0 a1 st R) : zq5 prog n_impl_pi [a0, a1] st R := hcc (fn := Go.Proofs.Tryz.f182) (ann := []) (by kernel_rfl) (by kernel_rfl) (by kernel_rfl) (by kernel_rfl) h
def zq6b (a0 a1 a2 : PV) (st : St) (R : Res → St → Prop) : Prop :=
 zq8 st [.int .i64 0, .int .i64 0, .str [], .sl 0 true []] fun v6 st =>
 qb (zq1d a0) fun v10 =>
 qb (q_fa 2 v10) fun v11 =>
 qb (zq0 st false 1 v11) fun v12 =>
 qb (zq24 1 1 0 [] [(0, a1)]) fun v14 =>
 zqo st 1 16 v12 v14 (fun v15 st =>
 qb (zq1d a0) fun v16 =>
 qb (q_fa 2 v16) fun v17 =>
 zq4 st 1 v17 v15 fun st =>
 zq57 prog st a2 [] (fun v19 st =>
 zq8 st [.int .i64 0, .int .i64 0, .str [], .sl 0 true []] fun v7 st =>
 zq4 st 4 v7 v19 fun st =>
 qb (zq1d a0) fun v22 =>
 qb (q_fa 2 v22) fun v23 =>
 qb (zq0 st false 1 v23) fun v24 =>
 qb (zq1d a0) fun v26 =>
 qb (q_fa 2 v26) fun v27 =>
 qb (zq0 st false 1 v27) fun v28 =>
 qb (zq1j v28) fun v29 =>
 qb (zqc .sub v29 (.int .i64 1)) fun v30 =>
 qb (zq1y 1 v24 none (some v30) none) fun v31 =>
 qb (zq1d a0) fun v32 =>
 qb (q_fa 2 v32) fun v33 =>
 zq4 st 1 v33 v31 fun st =>
 qb (zq0 st true 4 v7) fun v34 =>
 zq4 st 4 v6 v34 fun st =>
 qb (zq0 st true 4 v6) fun r => retR R r st) (panR R))
theorem zqdd {a0 a1 a2 : PV} {st : St} {R : Res → St → Prop} (h : zq6b a0 a1 a2 st R) : zq5 prog n_impl_parser_under [a0, a1, a2] st R := hcc (fn := Go.Proofs.Tryz.f183) (ann := []) (by kernel_rfl) (by kernel_rfl) (by kernel_rfl) (by kernel_rfl) h
def zq6c (a0 : PV) (st : St) (R : Res → St → Prop) : Prop :=
 zq8 st [.int .i64 0, .int .i64 0, .str [], .sl 0 true []] fun v2 st =>
 zqb prog n_impl_parser_next [a0] st (fun v8 st =>
 qb (zq1d a0) fun v10 =>
 qb (q_fa 1 v10) fun v11 =>
 qb (zq0 st false 1 v11) fun v12 =>
 hJ (fun ls st =>
  zqb prog n_impl_parser_run [a0, (.str [97, 98, 99, 100, 101, 102, 103, 104, 105, 106, 107, 108, 109, 110, 111, 112, 113, 114, 115, 116, 117, 118, 119, 120, 121, 122, 65, 66, 67, 68, 69, 70, 71, 72, 73, 74, 75, 76, 77, 78, 79, 80, 81, 82, 83, 84, 85, 86, 87, 88, 89, 90, 95, 48, 49, 50, 51, 52, 53, 54, 55, 56, 57])] st (fun v40 st =>
  hJ (fun ls_1 st =>
   zqb prog n_impl_parser_node [a0, v12] st (fun v60 st =>
   zqb prog n_impl_NameOK [v40] st (fun v62 st =>
   qb (q_un .not v62) fun v63 =>
   hJ (fun ls_2 st =>
    zqb prog n_impl_parser_args [a0] st (fun v68 st =>
    qb (zqe [.int .i64 0, .int .i64 0, .str [], .sl 0 true []] [(0, 1, (.int .i64 3)), (2, 1, v40), (3, 1, v68)]) fun v69 =>
    zq4 st 4 v2 v69 fun st =>
    qb (zq0 st true 4 v2) fun r => retR R r st) (panR R))
    (fun k_2 =>
   cb v63 fun b => br b
    (zqb prog n_impl_stop [(.int .i64 5), v12] st (fun v65 st =>
    k_2 [] st) (panR R))
    (k_2 [] st))) (panR R)) (panR R))
   (fun k_1 =>
  qb (zqc .eql v40 (.str [116, 121, 112, 101])) fun v43 =>
  cb v43 fun b_1 => br b_1
   (zqb prog n_impl_parser_node [a0, v12] st (fun v46 st =>
   qb (zqe [.int .i64 0, .int .i64 0, .str [], .sl 0 true []] [(0, 1, (.int .i64 1))]) fun v47 =>
   zq4 st 4 v2 v47 fun st =>
   qb (zq0 st true 4 v2) fun r_1 => retR R r_1 st) (panR R))
   (qb (zqc .eql v40 (.str [95])) fun v50 =>
   cb v50 fun b_2 => br b_2
    (zqb prog n_impl_stop [(.int .i64 4), v12] st (fun v57 st =>
    k_1 [] st) (panR R))
    (qb (zq4b v40) fun v53 =>
    qb (zqc .gtr v53 (.int .i64 40)) fun v54 =>
    cb v54 fun b_3 => br b_3
     (zqb prog n_impl_stop [(.int .i64 4), v12] st (fun v57_1 st =>
     k_1 [] st) (panR R))
     (k_1 [] st))))) (panR R))
  (fun k =>
 qb (zqc .eql v8 (.int .i64 40)) fun v15 =>
 cb v15 fun b_4 => br b_4
  (qb (zq1d a0) fun v17 =>
  qb (q_fa 1 v17) fun v18 =>
  qb (zq0 st false 1 v18) fun v19 =>
  qb (zqc .add v19 (.int .i64 1)) fun v20 =>
  qb (zq1d a0) fun v21 =>
  qb (q_fa 1 v21) fun v22 =>
  zq4 st 1 v22 v20 fun st =>
  zqb prog n_impl_parser_family [a0] st (fun v24 st =>
  zq8 st [.int .i64 0, .int .i64 0, .str [], .sl 0 true []] fun v5 st =>
  zq4 st 4 v5 v24 fun st =>
  zqb prog n_impl_parser_expect [a0, (.int .i64 41)] st (fun v26 st =>
  qb (zq0 st true 4 v5) fun v27 =>
  zq4 st 4 v2 v27 fun st =>
  qb (zq0 st true 4 v2) fun r_2 => retR R r_2 st) (panR R)) (panR R))
  (qb (zqc .eql v8 (.int .i64 (-1))) fun v30 =>
  cb v30 fun b_5 => br b_5
   (zqb prog n_impl_stop [(.int .i64 4), v12] st (fun v38 st =>
   k [] st) (panR R))
   (qb (zqe5 .u8 v8) fun v33 =>
   zqb prog n_impl_isHead [v33] st (fun v34 st =>
   qb (q_un .not v34) fun v35 =>
   cb v35 fun b_6 => br b_6
    (zqb prog n_impl_stop [(.int .i64 4), v12] st (fun v38_1 st =>
    k [] st) (panR R))
    (k [] st)) (panR R))))) (panR R)
theorem zqde {a0 : PV} {st : St} {R : Res → St → Prop} (h : zq6c a0 st R) : zq5 prog n_impl_parser_first [a0] st R := hcc (fn := Go.Proofs.Tryz.f184) (ann := [(3, []), (7, []), (74, [])]) (by kernel_rfl) (by kernel_rfl) (by kernel_rfl) (by kernel_rfl) h
def zq7i (a0 a1 : PV) (st : St) (R : Res → St → Prop) : Prop :=
 qb (zq1d a0) fun v7 =>
 qb (q_fa 0 v7) fun v8 =>
 qb (zq0 st false 1 v8) fun v9 =>
 qb (zq4b v9) fun v10 =>
 qb (zqc .geq a1 v10) fun v11 =>
 cb v11 fun b => br b
  (retR R (.int .i64 (-1)) st)
  (qb (zq1d a0) fun v13 =>
  qb (q_fa 0 v13) fun v14 =>
  qb (zq0 st false 1 v14) fun v15 =>
  qb (q_ix v15 a1) fun v17 =>
  qb (zqe5 .i64 v17) fun v18 =>
  retR R v18 st)
theorem zqev {a0 a1 : PV} {st : St} {R : Res → St → Prop} (h : zq7i a0 a1 st R) : zq5 prog n_impl_parser_byte [a0, a1] st R := hcc (fn := Go.Proofs.Tryz.f185) (ann := []) (by kernel_rfl) (by kernel_rfl) (by kernel_rfl) (by kernel_rfl) h
end Go.H.Tryz
