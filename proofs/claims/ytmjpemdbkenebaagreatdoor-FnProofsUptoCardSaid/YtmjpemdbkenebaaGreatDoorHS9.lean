/- Part of a proof that the program answers as the reference does: ZHS9. -/
import Derived.Test.YtmjpemdbkenebaaGreatDoorHT
set_option linter.unusedVariables false
set_option maxRecDepth 100000
namespace Go.H.Tryz
open Go Go.H
def zq6d (a0 a1 : PV) (st : St) (R : Res → St → Prop) : Prop :=
 qb (zq1d a0) fun v6 =>
 qb (q_fa 0 v6) fun v7 =>
 qb (zq0 st false 1 v7) fun v8 =>
 qb (zqc .eql v8 (.int .i64 5)) fun v9 =>
 cb v9 fun b => br b
  (qb (zq1d a0) fun v12 =>
  qb (q_fa 1 v12) fun v13 =>
  qb (zq0 st false 1 v13) fun v14 =>
  qb (zqc .gtr v14 (.int .i64 100)) fun v15 =>
  retR R v15 st)
  (retR R (.bool false) st)
theorem zqdf {a0 a1 : PV} {st : St} {R : Res → St → Prop} (h : zq6d a0 a1 st R) : zq5 prog n_impl_parser_end_1 [a0, a1] st R := hcc (fn := Go.Proofs.Tryz.f190) (ann := []) (by kernel_rfl) (by kernel_rfl) (by kernel_rfl) (by kernel_rfl) h
def zqba (a0 : PV) (st : St) (R : Res → St → Prop) : Prop :=
 qb (zq24 4 0 0 [] []) fun v6 =>
 qb (zq1j a0) fun v8 =>
 hFix (fun ls st X =>
  qb (zqc .lss (ls.getD 1 .junk) v8) fun v10 =>
  cb v10 fun b => br b
   (qb (q_ia 4 a0 (ls.getD 1 .junk)) fun v11 =>
   qb (zq0 st true 4 v11) fun v12 =>
   zq8 st [.int .i64 0, .int .i64 0, .str [], .sl 0 true []] fun v5 st =>
   zq4 st 4 v5 v12 fun st =>
   qb (zq0 st true 4 v5) fun v14 =>
   zqb prog n_impl_clone [v14] st (fun v15 st =>
   qb (zq24 4 1 0 [] [(0, v15)]) fun v16 =>
   zqo st 4 56 (ls.getD 0 .junk) v16 (fun v17 st =>
   qb (zqc .add (ls.getD 1 .junk) (.int .i64 1)) fun v18 =>
   X [v17, v18] st)) (panR R))
   (retR R (ls.getD 0 .junk) st))
  [v6, (.int .i64 0)] st
theorem zqjz {a0 : PV} {st : St} {R : Res → St → Prop} (h : zqba a0 st R) : zq5 prog n_impl_cloneAll [a0] st R := hcc (fn := Go.Proofs.Tryz.f191) (ann := [(12, [3, 9])]) (by kernel_rfl) (by kernel_rfl) (by kernel_rfl) (by kernel_rfl) h
def zq8d (a0 a1 : PV) (st : St) (R : Res → St → Prop) : Prop :=
 qb (zq1d a0) fun v7 =>
 qb (q_fa 1 v7) fun v8 =>
 qb (zq0 st false 1 v8) fun v9 =>
 hJ (fun ls st =>
  qb (zq1d a0) fun v42 =>
  qb (q_fa 0 v42) fun v43 =>
  qb (zq0 st false 1 v43) fun v44 =>
  qb (zq1d a0) fun v47 =>
  qb (q_fa 1 v47) fun v48 =>
  qb (zq0 st false 1 v48) fun v49 =>
  qb (zq17 v44 (some v9) (some v49) none) fun v50 =>
  retR R v50 st)
  (fun k =>
 hFix (fun ls_1 st X =>
  hJ (fun ls_2 st =>
   cb (ls_2.getD 0 .junk) fun b => br b
    (qb (zq1d a0) fun v35 =>
    qb (q_fa 1 v35) fun v36 =>
    qb (zq0 st false 1 v36) fun v37 =>
    qb (zqc .add v37 (.int .i64 1)) fun v38 =>
    qb (zq1d a0) fun v39 =>
    qb (q_fa 1 v39) fun v40 =>
    zq4 st 1 v40 v38 fun st =>
    X [] st)
    (k [] st))
   (fun k_1 =>
  qb (zq1d a0) fun v11 =>
  qb (q_fa 1 v11) fun v12 =>
  qb (zq0 st false 1 v12) fun v13 =>
  qb (zq1d a0) fun v15 =>
  qb (q_fa 0 v15) fun v16 =>
  qb (zq0 st false 1 v16) fun v17 =>
  qb (zq4b v17) fun v18 =>
  qb (zqc .lss v13 v18) fun v19 =>
  cb v19 fun b_1 => br b_1
   (qb (zq1d a0) fun v23 =>
   qb (q_fa 0 v23) fun v24 =>
   qb (zq0 st false 1 v24) fun v25 =>
   qb (zq1d a0) fun v27 =>
   qb (q_fa 1 v27) fun v28 =>
   qb (zq0 st false 1 v28) fun v29 =>
   qb (q_ix v25 v29) fun v30 =>
   zqb prog n_strings_IndexByte [a1, v30] st (fun v31 st =>
   qb (zqc .geq v31 (.int .i64 0)) fun v32 =>
   k_1 [v32] st) (panR R))
   (k_1 [(.bool false)] st)))
  [] st)
theorem zqgj {a0 a1 : PV} {st : St} {R : Res → St → Prop} (h : zq8d a0 a1 st R) : zq5 prog n_impl_parser_run [a0, a1] st R := hcc (fn := Go.Proofs.Tryz.f192) (ann := [(8, []), (3, []), (9, [33])]) (by kernel_rfl) (by kernel_rfl) (by kernel_rfl) (by kernel_rfl) h
def zq7j (a0 : PV) (st : St) (R : Res → St → Prop) : Prop :=
 qb (zq24 4 0 0 [] []) fun v5 =>
 hFix (fun ls st X =>
  zqb prog n_impl_parser_next [a0] st (fun v7 st =>
  qb (zqc .eql v7 (.int .i64 40)) fun v11 =>
  cb v11 fun b => br b
   (qb (zq1d a0) fun v13 =>
   qb (q_fa 1 v13) fun v14 =>
   qb (zq0 st false 1 v14) fun v15 =>
   qb (zqc .add v15 (.int .i64 1)) fun v16 =>
   qb (zq1d a0) fun v17 =>
   qb (q_fa 1 v17) fun v18 =>
   zq4 st 1 v18 v16 fun st =>
   zqb prog n_impl_parser_term [a0] st (fun v21 st =>
   qb (zq24 4 1 0 [] [(0, v21)]) fun v22 =>
   zqo st 4 56 (ls.getD 0 .junk) v22 (fun v23 st =>
   zqb prog n_impl_parser_expect [a0, (.int .i64 41)] st (fun v25 st =>
   X [v23] st) (panR R))) (panR R))
   (hJ (fun ls_1 st =>
    cb (ls_1.getD 0 .junk) fun b_1 => br b_1
     (zqb prog n_impl_parser_argument [a0] st (fun v40 st =>
     qb (zq24 4 1 0 [] [(0, v40)]) fun v41 =>
     zqo st 4 56 (ls.getD 0 .junk) v41 (fun v42 st =>
     X [v42] st)) (panR R))
     (retR R (ls.getD 0 .junk) st))
    (fun k =>
   qb (zqc .eql v7 (.int .i64 63)) fun v28 =>
   cb v28 fun b_2 => br b_2
    (k [(.bool true)] st)
    (qb (zqc .neq v7 (.int .i64 (-1))) fun v31 =>
    cb v31 fun b_3 => br b_3
     (qb (zqe5 .u8 v7) fun v34 =>
     zqb prog n_impl_isHead [v34] st (fun v35 st =>
     k [v35] st) (panR R))
     (k [(.bool false)] st))))) (panR R))
  [v5] st
theorem zqew {a0 : PV} {st : St} {R : Res → St → Prop} (h : zq7j a0 st R) : zq5 prog n_impl_parser_args [a0] st R := hcc (fn := Go.Proofs.Tryz.f193) (ann := [(8, [3]), (33, [26])]) (by kernel_rfl) (by kernel_rfl) (by kernel_rfl) (by kernel_rfl) h
def zq7e (a0 : PV) (st : St) (R : Res → St → Prop) : Prop :=
 zq8 st [.int .i64 0, .int .i64 0, .str [], .sl 0 true []] fun v2 st =>
 zqb prog n_impl_parser_next [a0] st (fun v7 st =>
 qb (zqc .eql v7 (.int .i64 91)) fun v9 =>
 cb v9 fun b => br b
  (qb (zq1d a0) fun v12 =>
  qb (q_fa 1 v12) fun v13 =>
  qb (zq0 st false 1 v13) fun v14 =>
  zqb prog n_impl_parser_node [a0, v14] st (fun v15 st =>
  qb (zq1d a0) fun v17 =>
  qb (q_fa 1 v17) fun v18 =>
  qb (zq0 st false 1 v18) fun v19 =>
  qb (zqc .add v19 (.int .i64 1)) fun v20 =>
  qb (zq1d a0) fun v21 =>
  qb (q_fa 1 v21) fun v22 =>
  zq4 st 1 v22 v20 fun st =>
  zqb prog n_impl_parser_binder [a0] st (fun v24 st =>
  zqb prog n_impl_parser_expect [a0, (.int .i64 93)] st (fun v26 st =>
  zqb prog n_impl_parser_under [a0, v24, (.fn (.func n_impl_parser_term) [a0] [])] st (fun v31 st =>
  zqb prog n_impl_lam [v31] st (fun v32 st =>
  zq4 st 4 v2 v32 fun st =>
  qb (zq0 st true 4 v2) fun r => retR R r st) (panR R)) (panR R)) (panR R)) (panR R)) (panR R))
  (qb (zqc .eql v7 (.int .i64 40)) fun v34 =>
  cb v34 fun b_1 => br b_1
   (qb (zq1d a0) fun v36 =>
   qb (q_fa 1 v36) fun v37 =>
   qb (zq0 st false 1 v37) fun v38 =>
   qb (zqc .add v38 (.int .i64 1)) fun v39 =>
   qb (zq1d a0) fun v40 =>
   qb (q_fa 1 v40) fun v41 =>
   zq4 st 1 v41 v39 fun st =>
   zqb prog n_impl_parser_term [a0] st (fun v43 st =>
   zq8 st [.int .i64 0, .int .i64 0, .str [], .sl 0 true []] fun v4 st =>
   zq4 st 4 v4 v43 fun st =>
   zqb prog n_impl_parser_expect [a0, (.int .i64 41)] st (fun v45 st =>
   qb (zq0 st true 4 v4) fun v46 =>
   zq4 st 4 v2 v46 fun st =>
   qb (zq0 st true 4 v2) fun r_1 => retR R r_1 st) (panR R)) (panR R))
   (zqb prog n_impl_parser_head [a0] st (fun v48 st =>
   zq8 st [.int .i64 0, .int .i64 0, .str [], .sl 0 true []] fun v5 st =>
   zq4 st 4 v5 v48 fun st =>
   zqb prog n_impl_parser_args [a0] st (fun v50 st =>
   qb (q_fa 3 v5) fun v51 =>
   zq4 st 1 v51 v50 fun st =>
   qb (zq0 st true 4 v5) fun v52 =>
   zq4 st 4 v2 v52 fun st =>
   qb (zq0 st true 4 v2) fun r_2 => retR R r_2 st) (panR R)) (panR R)))) (panR R)
theorem zqer {a0 : PV} {st : St} {R : Res → St → Prop} (h : zq7e a0 st R) : zq5 prog n_impl_parser_term [a0] st R := hcc (fn := Go.Proofs.Tryz.f198) (ann := []) (by kernel_rfl) (by kernel_rfl) (by kernel_rfl) (by kernel_rfl) h
def zq4w (a0 : PV) (st : St) (R : Res → St → Prop) : Prop :=
 zq8 st [.int .i64 0, .int .i64 0, .str [], .sl 0 true []] fun v2 st =>
 qb (zq1d a0) fun v5 =>
 qb (q_fa 1 v5) fun v6 =>
 qb (zq0 st false 1 v6) fun v7 =>
 hJ (fun ls st =>
  cb (ls.getD 0 .junk) fun b => br b
   (zqb prog n_impl_parser_node [a0, v7] st (fun v19 st =>
   qb (zqe [.int .i64 0, .int .i64 0, .str [], .sl 0 true []] [(0, 1, (.int .i64 8))]) fun v20 =>
   zq4 st 4 v2 v20 fun st =>
   qb (zq0 st true 4 v2) fun r => retR R r st) (panR R))
   (qb (zq1d a0) fun v23 =>
   qb (q_fa 1 v23) fun v24 =>
   zq4 st 1 v24 v7 fun st =>
   zqb prog n_impl_parser_head [a0] st (fun v26 st =>
   zq4 st 4 v2 v26 fun st =>
   qb (zq0 st true 4 v2) fun r_1 => retR R r_1 st) (panR R)))
  (fun k =>
 qb (zq1d a0) fun v9 =>
 qb (q_fa 4 v9) fun v10 =>
 qb (zq0 st false 1 v10) fun v11 =>
 cb v11 fun b_1 => br b_1
  (zqb prog n_impl_parser_run [a0, (.str [97, 98, 99, 100, 101, 102, 103, 104, 105, 106, 107, 108, 109, 110, 111, 112, 113, 114, 115, 116, 117, 118, 119, 120, 121, 122, 65, 66, 67, 68, 69, 70, 71, 72, 73, 74, 75, 76, 77, 78, 79, 80, 81, 82, 83, 84, 85, 86, 87, 88, 89, 90, 95, 48, 49, 50, 51, 52, 53, 54, 55, 56, 57])] st (fun v14 st =>
  qb (zqc .eql v14 (.str [95])) fun v15 =>
  k [v15] st) (panR R))
  (k [(.bool false)] st))
theorem zq9a {a0 : PV} {st : St} {R : Res → St → Prop} (h : zq4w a0 st R) : zq5 prog n_impl_parser_argument [a0] st R := hcc (fn := Go.Proofs.Tryz.f199) (ann := [(9, [16])]) (by kernel_rfl) (by kernel_rfl) (by kernel_rfl) (by kernel_rfl) h
def zq7h (a0 : PV) (st : St) (R : Res → St → Prop) : Prop :=
 zq8 st [.int .i64 0, .int .i64 0, .str [], .sl 0 true []] fun v2 st =>
 zqb prog n_impl_parser_next [a0] st (fun v8 st =>
 qb (zq1d a0) fun v10 =>
 qb (q_fa 1 v10) fun v11 =>
 qb (zq0 st false 1 v11) fun v12 =>
 hJ (fun ls st =>
  zqb prog n_impl_parser_run [a0, (.str [97, 98, 99, 100, 101, 102, 103, 104, 105, 106, 107, 108, 109, 110, 111, 112, 113, 114, 115, 116, 117, 118, 119, 120, 121, 122, 65, 66, 67, 68, 69, 70, 71, 72, 73, 74, 75, 76, 77, 78, 79, 80, 81, 82, 83, 84, 85, 86, 87, 88, 89, 90, 95, 48, 49, 50, 51, 52, 53, 54, 55, 56, 57])] st (fun v30 st =>
  hJ (fun ls_1 st =>
   cb (ls_1.getD 0 .junk) fun b => br b
    (zqb prog n_impl_stop [(.int .i64 4), v12] st (fun v43 st =>
    zqb prog n_impl_parser_node [a0, v12] st (fun v46 st =>
    zqb prog n_impl_parser_bound [a0, v30] st (fun v49 st =>
    hJ (fun ls_2 st =>
     hJ (fun ls_3 st =>
      qb (zqc .geq v49 (.int .i64 0)) fun v60 =>
      cb v60 fun b_2 => br b_2
       (zqb prog n_impl_variable [v49, (.sl 0 true [])] st (fun v62 st =>
       zq4 st 4 v2 v62 fun st =>
       qb (zq0 st true 4 v2) fun r => retR R r st) (panR R))
       (zqb prog n_impl_constant [v30, (.sl 0 true [])] st (fun v64 st =>
       zq4 st 4 v2 v64 fun st =>
       qb (zq0 st true 4 v2) fun r_1 => retR R r_1 st) (panR R)))
      (fun k_3 =>
     cb (ls_2.getD 0 .junk) fun b_1 => br b_1
      (zqb prog n_impl_stop [(.int .i64 5), v12] st (fun v58 st =>
      k_3 [] st) (panR R))
      (k_3 [] st)))
     (fun k_2 =>
    qb (zqc .lss v49 (.int .i64 0)) fun v51 =>
    cb v51 fun b_3 => br b_3
     (zqb prog n_impl_NameOK [v30] st (fun v54 st =>
     qb (q_un .not v54) fun v55 =>
     k_2 [v55] st) (panR R))
     (k_2 [(.bool false)] st))) (panR R)) (panR R)) (panR R))
    (zqb prog n_impl_parser_node [a0, v12] st (fun v46_1 st =>
    zqb prog n_impl_parser_bound [a0, v30] st (fun v49_1 st =>
    hJ (fun ls_4 st =>
     hJ (fun ls_5 st =>
      qb (zqc .geq v49_1 (.int .i64 0)) fun v60_1 =>
      cb v60_1 fun b_5 => br b_5
       (zqb prog n_impl_variable [v49_1, (.sl 0 true [])] st (fun v62_1 st =>
       zq4 st 4 v2 v62_1 fun st =>
       qb (zq0 st true 4 v2) fun r_2 => retR R r_2 st) (panR R))
       (zqb prog n_impl_constant [v30, (.sl 0 true [])] st (fun v64_1 st =>
       zq4 st 4 v2 v64_1 fun st =>
       qb (zq0 st true 4 v2) fun r_3 => retR R r_3 st) (panR R)))
      (fun k_5 =>
     cb (ls_4.getD 0 .junk) fun b_4 => br b_4
      (zqb prog n_impl_stop [(.int .i64 5), v12] st (fun v58_1 st =>
      k_5 [] st) (panR R))
      (k_5 [] st)))
     (fun k_4 =>
    qb (zqc .lss v49_1 (.int .i64 0)) fun v51_1 =>
    cb v51_1 fun b_6 => br b_6
     (zqb prog n_impl_NameOK [v30] st (fun v54_1 st =>
     qb (q_un .not v54_1) fun v55_1 =>
     k_4 [v55_1] st) (panR R))
     (k_4 [(.bool false)] st))) (panR R)) (panR R)))
   (fun k_1 =>
  qb (zqc .eql v30 (.str [116, 121, 112, 101])) fun v32 =>
  cb v32 fun b_7 => br b_7
   (k_1 [(.bool true)] st)
   (qb (zqc .eql v30 (.str [95])) fun v35 =>
   cb v35 fun b_8 => br b_8
    (k_1 [(.bool true)] st)
    (qb (zq4b v30) fun v39 =>
    qb (zqc .gtr v39 (.int .i64 40)) fun v40 =>
    k_1 [v40] st)))) (panR R))
  (fun k =>
 qb (zqc .eql v8 (.int .i64 63)) fun v15 =>
 cb v15 fun b_9 => br b_9
  (zqb prog n_impl_parser_hole [a0] st (fun v17 st =>
  zq4 st 4 v2 v17 fun st =>
  qb (zq0 st true 4 v2) fun r_4 => retR R r_4 st) (panR R))
  (qb (zqc .eql v8 (.int .i64 (-1))) fun v20 =>
  cb v20 fun b_10 => br b_10
   (zqb prog n_impl_stop [(.int .i64 4), v12] st (fun v28 st =>
   k [] st) (panR R))
   (qb (zqe5 .u8 v8) fun v23 =>
   zqb prog n_impl_isHead [v23] st (fun v24 st =>
   qb (q_un .not v24) fun v25 =>
   cb v25 fun b_11 => br b_11
    (zqb prog n_impl_stop [(.int .i64 4), v12] st (fun v28_1 st =>
    k [] st) (panR R))
    (k [] st)) (panR R))))) (panR R)
theorem zqeu {a0 : PV} {st : St} {R : Res → St → Prop} (h : zq7h a0 st R) : zq5 prog n_impl_parser_head [a0] st R := hcc (fn := Go.Proofs.Tryz.f201) (ann := [(3, []), (33, [41]), (49, [56]), (54, [])]) (by kernel_rfl) (by kernel_rfl) (by kernel_rfl) (by kernel_rfl) h
def zq6e (a0 a1 : PV) (st : St) (R : Res → St → Prop) : Prop :=
 zq19 st a0 fun v2 st =>
 zq19 st a1 fun v3 st =>
 zq8 st [.int .i64 0] fun v4 st =>
 qb (zq0 st false 1 v2) fun v7 =>
 qb (zq1d v7) fun v8 =>
 qb (q_fa 2 v8) fun v9 =>
 qb (zq0 st false 1 v9) fun v10 =>
 zqb prog n_slices_Backward_string_string [v10] st (fun v11 st =>
 hRange prog v11 st (fun ar st B X => if ar.length = 2 then
  B st fun st =>
  qb (zq0 st false 1 v3) fun v15 =>
  qb (zqc .eql (ar.getD 1 .junk) v15) fun v16 =>
  cb v16 fun b => br b
   (qb (zq0 st false 1 v2) fun v17 =>
   qb (zq1d v17) fun v18 =>
   qb (q_fa 2 v18) fun v19 =>
   qb (zq0 st false 1 v19) fun v20 =>
   qb (zq1j v20) fun v21 =>
   qb (zqc .sub v21 (.int .i64 1)) fun v22 =>
   qb (zqc .sub v22 (ar.getD 0 .junk)) fun v24 =>
   zq4 st 1 v4 v24 fun st =>
   X .ret st)
   (X .normal st)
  else False)
  (fun st =>
  zq4 st 1 v4 (.int .i64 (-1)) fun st =>
  qb (zq0 st false 1 v4) fun r => retR R r st)
  [(.ret, fun st =>
  qb (zq0 st false 1 v4) fun r_1 => retR R r_1 st)]) (panR R)
theorem zqdg {a0 a1 : PV} {st : St} {R : Res → St → Prop} (h : zq6e a0 a1 st R) : zq5 prog n_impl_parser_bound [a0, a1] st R := hcc (fn := Go.Proofs.Tryz.f204) (ann := []) (by kernel_rfl) (by kernel_rfl) (by kernel_rfl) (by kernel_rfl) h
def zq2i (a0 : PV) (st : St) (R : Res → St → Prop) : Prop :=
 zq19 st a0 fun v1 st =>
 retR R (.fn (.func n_slices_Backward_string_string_1) [] [v1]) st
theorem zq4v {a0 : PV} {st : St} {R : Res → St → Prop} (h : zq2i a0 st R) : zq5 prog n_slices_Backward_string_string [a0] st R := hcc (fn := Go.Proofs.Tryz.f210) (ann := []) (by kernel_rfl) (by kernel_rfl) (by kernel_rfl) (by kernel_rfl) h
end Go.H.Tryz
