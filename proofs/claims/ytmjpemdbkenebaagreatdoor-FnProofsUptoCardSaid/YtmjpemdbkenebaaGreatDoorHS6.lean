/- Part of a proof that the program answers as the reference does: ZHS6. -/
import Derived.Test.YtmjpemdbkenebaaGreatDoorHT
set_option linter.unusedVariables false
set_option maxRecDepth 100000
namespace Go.H.Tryz
open Go Go.H
def zqfr (a0 : PV) (st : St) (R : Res → St → Prop) : Prop :=
 qb (zq4b a0) fun v4 =>
 zqb prog n_impl_in [v4, (.int .i64 1), (.int .i64 40)] st (fun v5 st =>
 cb v5 fun b => br b
  (qb (q_ix a0 (.int .i64 0)) fun v8 =>
  zqb prog n_impl_isHead [v8] st (fun v9 st =>
  cb v9 fun b_1 => br b_1
   (zqb prog n_impl_over [a0, (.str [97, 98, 99, 100, 101, 102, 103, 104, 105, 106, 107, 108, 109, 110, 111, 112, 113, 114, 115, 116, 117, 118, 119, 120, 121, 122, 65, 66, 67, 68, 69, 70, 71, 72, 73, 74, 75, 76, 77, 78, 79, 80, 81, 82, 83, 84, 85, 86, 87, 88, 89, 90, 95, 48, 49, 50, 51, 52, 53, 54, 55, 56, 57])] st (fun v13 st =>
   retR R v13 st) (panR R))
   (retR R (.bool false) st)) (panR R))
  (retR R (.bool false) st)) (panR R)
theorem c_impl_wordOK {a0 : PV} {st : St} {R : Res → St → Prop} (h : zqfr a0 st R) : zq5 prog n_impl_wordOK [a0] st R := hcc (fn := Go.Proofs.Tryz.f124) (ann := []) (by kernel_rfl) (by kernel_rfl) (by kernel_rfl) (by kernel_rfl) h
def zq69 (a0 a1 : PV) (st : St) (R : Res → St → Prop) : Prop :=
 zqb prog n_internal_stringslite_CutPrefix [a0, a1] st (fun v8 st =>
 qb (q_ex v8 0) fun v9 =>
 qb (q_ex v8 1) fun v10 =>
 retR R (.tup [v9, v10]) st) (panR R)
theorem zqdb {a0 a1 : PV} {st : St} {R : Res → St → Prop} (h : zq69 a0 a1 st R) : zq5 prog n_strings_CutPrefix [a0, a1] st R := hcc (fn := Go.Proofs.Tryz.f125) (ann := []) (by kernel_rfl) (by kernel_rfl) (by kernel_rfl) (by kernel_rfl) h
def zql9 (a0 a1 : PV) (st : St) (R : Res → St → Prop) : Prop :=
 zqb prog n_strings_Trim [a0, a1] st (fun v7 st =>
 qb (zqc .eql v7 (.str [])) fun v8 =>
 retR R v8 st) (panR R)
theorem c_impl_over {a0 a1 : PV} {st : St} {R : Res → St → Prop} (h : zql9 a0 a1 st R) : zq5 prog n_impl_over [a0, a1] st R := hcc (fn := Go.Proofs.Tryz.f126) (ann := []) (by kernel_rfl) (by kernel_rfl) (by kernel_rfl) (by kernel_rfl) h
def zq48 (a0 a1 a2 : PV) (st : St) (R : Res → St → Prop) : Prop :=
 zq19 st a1 fun v4 st =>
 zq19 st a2 fun v5 st =>
 zq8 st [.int .i64 0, .int .i64 0, .str [], .sl 0 true []] fun v6 st =>
 qb (zq1d a0) fun v10 =>
 qb (q_fa 1 v10) fun v11 =>
 qb (zq0 st false 1 v11) fun v12 =>
 zqb prog n_slices_IndexFunc_impl_Decl_impl_Decl [v12, (.fn (.func n_impl_checker_declared_1) [] [v4, v5])] st (fun v14 st =>
 qb (zqc .lss v14 (.int .i64 0)) fun v16 =>
 cb v16 fun b => br b
  (qb (zqe [.int .i64 0, .int .i64 0, .str [], .sl 0 true []] []) fun v17 =>
  zq4 st 4 v6 v17 fun st =>
  qb (zq0 st true 4 v6) fun r => retR R (.tup [r, (.bool false)]) st)
  (qb (zq1d a0) fun v19 =>
  qb (q_fa 1 v19) fun v20 =>
  qb (zq0 st false 1 v20) fun v21 =>
  qb (q_ia 6 v21 v14) fun v23 =>
  qb (q_fa 2 v23) fun v24 =>
  qb (zq0 st true 4 v24) fun v25 =>
  zq4 st 4 v6 v25 fun st =>
  qb (zq0 st true 4 v6) fun r_1 => retR R (.tup [r_1, (.bool true)]) st)) (panR R)
theorem zq8o {a0 a1 a2 : PV} {st : St} {R : Res → St → Prop} (h : zq48 a0 a1 a2 st R) : zq5 prog n_impl_checker_declared [a0, a1, a2] st R := hcc (fn := Go.Proofs.Tryz.f128) (ann := []) (by kernel_rfl) (by kernel_rfl) (by kernel_rfl) (by kernel_rfl) h
def zq6h (a0 a1 a2 a3 : PV) (st : St) (R : Res → St → Prop) : Prop :=
 zq19 st a0 fun v4 st =>
 zq19 st a1 fun v5 st =>
 zq19 st a2 fun v6 st =>
 zq8 st [.int .i64 0, .int .i64 0, .str [], .sl 0 true []] fun v8 st =>
 qb (zqe [.int .i64 0, .int .i64 0, .str [], .sl 0 true []] []) fun v10 =>
 zq8 st [.int .i64 0, .int .i64 0, .str [], .sl 0 true []] fun v9 st =>
 zq4 st 4 v9 v10 fun st =>
 zqb prog n_impl_at [a3, (.fn (.func n_impl_checker_left_1) [] [v4, v5, v6, v9])] st (fun v13 st =>
 qb (zq0 st true 4 v9) fun v14 =>
 zq4 st 4 v8 v14 fun st =>
 qb (zq0 st true 4 v8) fun r => retR R r st) (panR R)
theorem zqdj {a0 a1 a2 a3 : PV} {st : St} {R : Res → St → Prop} (h : zq6h a0 a1 a2 a3 st R) : zq5 prog n_impl_checker_left [a0, a1, a2, a3] st R := hcc (fn := Go.Proofs.Tryz.f129) (ann := []) (by kernel_rfl) (by kernel_rfl) (by kernel_rfl) (by kernel_rfl) h
def zqla (a0 a1 a2 : PV) (st : St) (R : Res → St → Prop) : Prop :=
 zq19 st a0 fun v3 st =>
 zq19 st a1 fun v4 st =>
 zq19 st a2 fun v5 st =>
 zq8 st [.int .i64 0, .int .i64 0, .str [], .sl 0 true []] fun v6 st =>
 qb (zq0 st true 4 v3) fun v7 =>
 zqb prog n_impl_turned [v7, (.int .i64 0), (.fn (.func n_impl_lift_1) [] [v4, v5])] st (fun v9 st =>
 zq4 st 4 v6 v9 fun st =>
 qb (zq0 st true 4 v6) fun r => retR R r st) (panR R)
theorem c_impl_lift {a0 a1 a2 : PV} {st : St} {R : Res → St → Prop} (h : zqla a0 a1 a2 st R) : zq5 prog n_impl_lift [a0, a1, a2] st R := hcc (fn := Go.Proofs.Tryz.f130) (ann := []) (by kernel_rfl) (by kernel_rfl) (by kernel_rfl) (by kernel_rfl) h
def zq8b (a0 a1 : PV) (st : St) (R : Res → St → Prop) : Prop :=
 hFix (fun ls st X =>
  qb (zq0 st false 1 a1) fun v5 =>
  qb (zq4b v5) fun v6 =>
  qb (zqc .gtr v6 (.int .i64 0)) fun v7 =>
  cb v7 fun b => br b
   (qb (zq0 st false 1 a1) fun v8 =>
   zqb prog n_strings_IndexByte [v8, (.int .u8 10)] st (fun v9 st =>
   qb (zqc .geq v9 (.int .i64 0)) fun v11 =>
   cb v11 fun b_1 => br b_1
    (qb (zq0 st false 1 a1) fun v12 =>
    qb (zqc .add v9 (.int .i64 1)) fun v14 =>
    qb (zq17 v12 none (some v14) none) fun v15 =>
    qb (zq0 st false 1 a1) fun v16 =>
    qb (zqc .add v9 (.int .i64 1)) fun v18 =>
    qb (zq17 v16 (some v18) none none) fun v19 =>
    zq4 st 1 a1 v19 fun st =>
    zq57 prog st a0 [v15] (fun v23 st =>
    qb (q_un .not v23) fun v24 =>
    cb v24 fun b_2 => br b_2
     (retR R (.tup []) st)
     (X [] st)) (panR R))
    (qb (zq0 st false 1 a1) fun v20 =>
    zq4 st 1 a1 (.str []) fun st =>
    zq57 prog st a0 [v20] (fun v23_1 st =>
    qb (q_un .not v23_1) fun v24_1 =>
    cb v24_1 fun b_3 => br b_3
     (retR R (.tup []) st)
     (X [] st)) (panR R))) (panR R))
   (retR R (.tup []) st))
  [] st
theorem zqgh {a0 a1 : PV} {st : St} {R : Res → St → Prop} (h : zq8b a0 a1 st R) : zq5 prog n_strings_Lines_1 [a0, a1] st R := hcc (fn := Go.Proofs.Tryz.f131) (ann := [(0, [])]) (by kernel_rfl) (by kernel_rfl) (by kernel_rfl) (by kernel_rfl) h
theorem zqd7 : zqir prog n_strings_IndexByte := ⟨Go.Proofs.Tryz.f132, by kernel_rfl, by kernel_rfl, by kernel_rfl⟩
def zq28 (a0 a1 : PV) (st : St) (R : Res → St → Prop) : Prop :=
 zqb prog n_internal_stringslite_HasSuffix [a0, a1] st (fun v7 st =>
 cb v7 fun b => br b
  (qb (zq4b a0) fun v10 =>
  qb (zq4b a1) fun v12 =>
  qb (zqc .sub v10 v12) fun v13 =>
  qb (zq17 a0 none (some v13) none) fun v14 =>
  retR R v14 st)
  (retR R a0 st)) (panR R)
theorem zq46 {a0 a1 : PV} {st : St} {R : Res → St → Prop} (h : zq28 a0 a1 st R) : zq5 prog n_internal_stringslite_TrimSuffix [a0, a1] st R := hcc (fn := Go.Proofs.Tryz.f133) (ann := []) (by kernel_rfl) (by kernel_rfl) (by kernel_rfl) (by kernel_rfl) h
def zqbb (a0 a1 : PV) (st : St) (R : Res → St → Prop) : Prop :=
 hFix (fun ls st X =>
  qb (zq4b a0) fun v7 =>
  qb (zqc .lss (ls.getD 0 .junk) v7) fun v8 =>
  cb v8 fun b => br b
   (qb (q_ix a0 (ls.getD 0 .junk)) fun v12 =>
   zqb prog n_strings_IndexByte [(.str [32, 9, 13]), v12] st (fun v13 st =>
   qb (zqc .geq v13 (.int .i64 0)) fun v14 =>
   cb v14 fun b_1 => br b_1
    (qb (zqc .add (ls.getD 0 .junk) (.int .i64 1)) fun v17 =>
    X [v17] st)
    (retR R (ls.getD 0 .junk) st)) (panR R))
   (retR R (ls.getD 0 .junk) st))
  [a1] st
theorem zqk0 {a0 a1 : PV} {st : St} {R : Res → St → Prop} (h : zqbb a0 a1 st R) : zq5 prog n_impl_blankEnd [a0, a1] st R := hcc (fn := Go.Proofs.Tryz.f134) (ann := [(4, [1])]) (by kernel_rfl) (by kernel_rfl) (by kernel_rfl) (by kernel_rfl) h
def zqb5 (a0 : PV) (st : St) (R : Res → St → Prop) : Prop :=
 zq8 st [.str [], .bool false, .int .i64 0, .int .i64 0, .str [], .sl 0 true []] fun v2 st =>
 zqb prog n_impl_blankEnd [a0, (.int .i64 0)] st (fun v10 st =>
 hJ (fun ls st =>
  qb (zq17 a0 (some v10) (some (ls.getD 0 .junk)) none) fun v28 =>
  zqb prog n_impl_NameOK [v28] st (fun v29 st =>
  qb (q_un .not v29) fun v30 =>
  hJ (fun ls_1 st =>
   zqb prog n_impl_blankEnd [a0, (ls.getD 0 .junk)] st (fun v35 st =>
   hJ (fun ls_2 st =>
    cb (ls_2.getD 0 .junk) fun b_1 => br b_1
     (zqb prog n_impl_stop [(.int .i64 4), v35] st (fun v47 st =>
     qb (zqc .add v35 (.int .i64 1)) fun v51 =>
     qb (zq17 a0 (some v51) none none) fun v52 =>
     zqb prog n_impl_ParseFamily [v52, (.int .i64 0)] st (fun v53 st =>
     qb (q_ex v53 0) fun v54 =>
     qb (q_ex v53 1) fun v55 =>
     qb (q_ex v53 2) fun v56 =>
     zq8 st [.int .i64 0, .int .i64 0, .str [], .sl 0 true []] fun v6 st =>
     zq4 st 4 v6 v54 fun st =>
     qb (zqc .neq v55 (.int .i64 0)) fun v58 =>
     hJ (fun ls_3 st =>
      qb (zq17 a0 (some v10) (some (ls.getD 0 .junk)) none) fun v75 =>
      qb (zq0 st true 4 v6) fun v76 =>
      qb (zq0 st true 4 v6) fun v78 =>
      zqb prog n_impl_isKind [v76] st (fun v77 st =>
      zq0 st true 4 v6 = some v78 ∧ (qb (zqe [.str [], .bool false, .int .i64 0, .int .i64 0, .str [], .sl 0 true []] [(0, 1, v75), (1, 1, v77), (2, 4, v78)]) fun v79 =>
      zq4 st 6 v2 v79 fun st =>
      qb (zq0 st true 6 v2) fun r => retR R r st)) (panR R))
      (fun k_3 =>
     cb v58 fun b_2 => br b_2
      (qb (zqc .neq v55 (.int .i64 11)) fun v60 =>
      cb v60 fun b_3 => br b_3
       (qb (zqc .add v35 (.int .i64 1)) fun v67 =>
       qb (zqc .add v56 v67) fun v68 =>
       zqb prog n_impl_stop [v55, v68] st (fun v71 st =>
       k_3 [] st) (panR R))
       (qb (zqc .gtr v56 (.int .i64 0)) fun v63 =>
       cb v63 fun b_4 => br b_4
        (qb (zqc .add v35 (.int .i64 1)) fun v67_1 =>
        qb (zqc .add v56 v67_1) fun v68_1 =>
        zqb prog n_impl_stop [v55, v68_1] st (fun v71_1 st =>
        k_3 [] st) (panR R))
        (zqb prog n_impl_stop [v55, v56] st (fun v71_2 st =>
        k_3 [] st) (panR R))))
      (k_3 [] st))) (panR R)) (panR R))
     (qb (zqc .add v35 (.int .i64 1)) fun v51_1 =>
     qb (zq17 a0 (some v51_1) none none) fun v52_1 =>
     zqb prog n_impl_ParseFamily [v52_1, (.int .i64 0)] st (fun v53_1 st =>
     qb (q_ex v53_1 0) fun v54_1 =>
     qb (q_ex v53_1 1) fun v55_1 =>
     qb (q_ex v53_1 2) fun v56_1 =>
     zq8 st [.int .i64 0, .int .i64 0, .str [], .sl 0 true []] fun v6_1 st =>
     zq4 st 4 v6_1 v54_1 fun st =>
     qb (zqc .neq v55_1 (.int .i64 0)) fun v58_1 =>
     hJ (fun ls_4 st =>
      qb (zq17 a0 (some v10) (some (ls.getD 0 .junk)) none) fun v75_1 =>
      qb (zq0 st true 4 v6_1) fun v76_1 =>
      qb (zq0 st true 4 v6_1) fun v78_1 =>
      zqb prog n_impl_isKind [v76_1] st (fun v77_1 st =>
      zq0 st true 4 v6_1 = some v78_1 ∧ (qb (zqe [.str [], .bool false, .int .i64 0, .int .i64 0, .str [], .sl 0 true []] [(0, 1, v75_1), (1, 1, v77_1), (2, 4, v78_1)]) fun v79_1 =>
      zq4 st 6 v2 v79_1 fun st =>
      qb (zq0 st true 6 v2) fun r_1 => retR R r_1 st)) (panR R))
      (fun k_4 =>
     cb v58_1 fun b_5 => br b_5
      (qb (zqc .neq v55_1 (.int .i64 11)) fun v60_1 =>
      cb v60_1 fun b_6 => br b_6
       (qb (zqc .add v35 (.int .i64 1)) fun v67_2 =>
       qb (zqc .add v56_1 v67_2) fun v68_2 =>
       zqb prog n_impl_stop [v55_1, v68_2] st (fun v71_3 st =>
       k_4 [] st) (panR R))
       (qb (zqc .gtr v56_1 (.int .i64 0)) fun v63_1 =>
       cb v63_1 fun b_7 => br b_7
        (qb (zqc .add v35 (.int .i64 1)) fun v67_3 =>
        qb (zqc .add v56_1 v67_3) fun v68_3 =>
        zqb prog n_impl_stop [v55_1, v68_3] st (fun v71_4 st =>
        k_4 [] st) (panR R))
        (zqb prog n_impl_stop [v55_1, v56_1] st (fun v71_5 st =>
        k_4 [] st) (panR R))))
      (k_4 [] st))) (panR R)))
    (fun k_2 =>
   qb (zq4b a0) fun v38 =>
   qb (zqc .eql v35 v38) fun v39 =>
   cb v39 fun b_8 => br b_8
    (k_2 [(.bool true)] st)
    (qb (q_ix a0 v35) fun v43 =>
    qb (zqc .neq v43 (.int .u8 58)) fun v44 =>
    k_2 [v44] st))) (panR R))
   (fun k_1 =>
  cb v30 fun b => br b
   (zqb prog n_impl_stop [(.int .i64 4), v10] st (fun v32 st =>
   k_1 [] st) (panR R))
   (k_1 [] st))) (panR R))
  (fun k =>
 hFix (fun ls_5 st X =>
  qb (zq4b a0) fun v14 =>
  qb (zqc .lss (ls_5.getD 0 .junk) v14) fun v15 =>
  cb v15 fun b_9 => br b_9
   (qb (q_ix a0 (ls_5.getD 0 .junk)) fun v19 =>
   zqb prog n_strings_IndexByte [(.str [97, 98, 99, 100, 101, 102, 103, 104, 105, 106, 107, 108, 109, 110, 111, 112, 113, 114, 115, 116, 117, 118, 119, 120, 121, 122, 65, 66, 67, 68, 69, 70, 71, 72, 73, 74, 75, 76, 77, 78, 79, 80, 81, 82, 83, 84, 85, 86, 87, 88, 89, 90, 95, 48, 49, 50, 51, 52, 53, 54, 55, 56, 57]), v19] st (fun v20 st =>
   qb (zqc .geq v20 (.int .i64 0)) fun v21 =>
   cb v21 fun b_10 => br b_10
    (qb (zqc .add (ls_5.getD 0 .junk) (.int .i64 1)) fun v24 =>
    X [v24] st)
    (k [(ls_5.getD 0 .junk)] st)) (panR R))
   (k [(ls_5.getD 0 .junk)] st))
  [v10] st)) (panR R)
theorem zqju {a0 : PV} {st : St} {R : Res → St → Prop} (h : zqb5 a0 st R) : zq5 prog n_impl_readDecl [a0] st R := hcc (fn := Go.Proofs.Tryz.f135) (ann := [(12, [4]), (3, [4]), (26, []), (33, [45]), (50, [])]) (by kernel_rfl) (by kernel_rfl) (by kernel_rfl) (by kernel_rfl) h
def zqbc (a0 a1 : PV) (st : St) (R : Res → St → Prop) : Prop :=
 zq19 st a1 fun v3 st =>
 zq8 st [.int .i64 0, .int .i64 0] fun v4 st =>
 qb (zq0 st true 6 v3) fun v7 =>
 zqb prog n_impl_declForm [v7] st (fun v8 st =>
 qb (q_un .not v8) fun v9 =>
 cb v9 fun b => br b
  (qb (zqe [.int .i64 0, .int .i64 0] [(0, 1, (.int .i64 1))]) fun v10 =>
  zq4 st 2 v4 v10 fun st =>
  qb (zq0 st true 2 v4) fun r => retR R r st)
  (qb (q_fa 0 v3) fun v13 =>
  qb (zq0 st false 1 v13) fun v14 =>
  zqb prog n_impl_has [a0, v14] st (fun v15 st =>
  cb v15 fun b_1 => br b_1
   (qb (zqe [.int .i64 0, .int .i64 0] [(0, 1, (.int .i64 6))]) fun v16 =>
   zq4 st 2 v4 v16 fun st =>
   qb (zq0 st true 2 v4) fun r_1 => retR R r_1 st)
   (qb (zq0 st true 6 v3) fun v18 =>
   zqb prog n_impl_declFault [a0, v18] st (fun v19 st =>
   zq8 st [.int .i64 0, .int .i64 0] fun v5 st =>
   zq4 st 2 v5 v19 fun st =>
   qb (q_fa 0 v5) fun v20 =>
   qb (zq0 st false 1 v20) fun v21 =>
   qb (zqc .neq v21 (.int .i64 0)) fun v22 =>
   cb v22 fun b_2 => br b_2
    (qb (zq0 st true 2 v5) fun v23 =>
    zq4 st 2 v4 v23 fun st =>
    qb (zq0 st true 2 v4) fun r_2 => retR R r_2 st)
    (qb (zq1j a0) fun v25 =>
    qb (zqc .geq v25 (.int .i64 40)) fun v26 =>
    cb v26 fun b_3 => br b_3
     (qb (zqe [.int .i64 0, .int .i64 0] [(0, 1, (.int .i64 17))]) fun v27 =>
     zq4 st 2 v4 v27 fun st =>
     qb (zq0 st true 2 v4) fun r_3 => retR R r_3 st)
     (qb (zqe [.int .i64 0, .int .i64 0] []) fun v28 =>
     zq4 st 2 v4 v28 fun st =>
     qb (zq0 st true 2 v4) fun r_4 => retR R r_4 st))) (panR R))) (panR R))) (panR R)
theorem zqk1 {a0 a1 : PV} {st : St} {R : Res → St → Prop} (h : zqbc a0 a1 st R) : zq5 prog n_impl_addFault [a0, a1] st R := hcc (fn := Go.Proofs.Tryz.f136) (ann := []) (by kernel_rfl) (by kernel_rfl) (by kernel_rfl) (by kernel_rfl) h
def zqg7 (a0 : PV) (st : St) (R : Res → St → Prop) : Prop :=
 zq19 st a0 fun v1 st =>
 qb (zq0 st true 4 v1) fun v4 =>
 zqb prog n_impl_fresh [] st (fun v3 st =>
 zq0 st true 4 v1 = some v4 ∧ (zqb prog n_impl_looker_family [v3, v4, (.bool true)] st (fun v5 st =>
 retR R v5 st) (panR R))) (panR R)
theorem c_impl_KindOK {a0 : PV} {st : St} {R : Res → St → Prop} (h : zqg7 a0 st R) : zq5 prog n_impl_KindOK [a0] st R := hcc (fn := Go.Proofs.Tryz.f137) (ann := []) (by kernel_rfl) (by kernel_rfl) (by kernel_rfl) (by kernel_rfl) h
def zq1g (a0 a1 : PV) (st : St) (R : Res → St → Prop) : Prop :=
 zqb prog n_slices_IndexFunc_impl_Decl_impl_Decl [a0, a1] st (fun v7 st =>
 qb (zqc .geq v7 (.int .i64 0)) fun v8 =>
 retR R v8 st) (panR R)
theorem zq2u {a0 a1 : PV} {st : St} {R : Res → St → Prop} (h : zq1g a0 a1 st R) : zq5 prog n_slices_ContainsFunc_impl_Decl_impl_Decl [a0, a1] st R := hcc (fn := Go.Proofs.Tryz.f138) (ann := []) (by kernel_rfl) (by kernel_rfl) (by kernel_rfl) (by kernel_rfl) h
def zqij (a0 a1 : PV) (st : St) (R : Res → St → Prop) : Prop :=
 zq19 st a0 fun v2 st =>
 qb (q_fa 0 v2) fun v4 =>
 qb (zq0 st false 1 v4) fun v5 =>
 qb (zq0 st false 1 a1) fun v6 =>
 qb (zqc .eql v5 v6) fun v7 =>
 retR R v7 st
theorem c_impl_has_1 {a0 a1 : PV} {st : St} {R : Res → St → Prop} (h : zqij a0 a1 st R) : zq5 prog n_impl_has_1 [a0, a1] st R := hcc (fn := Go.Proofs.Tryz.f139) (ann := []) (by kernel_rfl) (by kernel_rfl) (by kernel_rfl) (by kernel_rfl) h
def zq7o (a0 a1 : PV) (st : St) (R : Res → St → Prop) : Prop :=
 qb (zq0 st false 1 a0) fun v2 =>
 qb (zqe [.int .i64 0, .sl 0 true []] [(1, 1, v2)]) fun v3 =>
 zq19 st v3 fun v4 st =>
 qb (q_fa 2 a1) fun v5 =>
 qb (zq0 st true 4 v5) fun v6 =>
 zqb prog n_impl_checker_family [v4, (.sl 0 true []), v6, (.int .i64 0)] st (fun v7 st =>
 retR R (.tup []) st) (panR R)
theorem zqf1 {a0 a1 : PV} {st : St} {R : Res → St → Prop} (h : zq7o a0 a1 st R) : zq5 prog n_impl_declFault_1 [a0, a1] st R := hcc (fn := Go.Proofs.Tryz.f140) (ann := []) (by kernel_rfl) (by kernel_rfl) (by kernel_rfl) (by kernel_rfl) h
def zqfz (a0 : PV) (st : St) (R : Res → St → Prop) : Prop :=
 zqb prog n_strings_IndexByte [(.str [97, 98, 99, 100, 101, 102, 103, 104, 105, 106, 107, 108, 109, 110, 111, 112, 113, 114, 115, 116, 117, 118, 119, 120, 121, 122, 65, 66, 67, 68, 69, 70, 71, 72, 73, 74, 75, 76, 77, 78, 79, 80, 81, 82, 83, 84, 85, 86, 87, 88, 89, 90, 95]), a0] st (fun v4 st =>
 qb (zqc .geq v4 (.int .i64 0)) fun v5 =>
 retR R v5 st) (panR R)
theorem c_impl_isHead {a0 : PV} {st : St} {R : Res → St → Prop} (h : zqfz a0 st R) : zq5 prog n_impl_isHead [a0] st R := hcc (fn := Go.Proofs.Tryz.f141) (ann := []) (by kernel_rfl) (by kernel_rfl) (by kernel_rfl) (by kernel_rfl) h
def zq2f (a0 a1 : PV) (st : St) (R : Res → St → Prop) : Prop :=
 zqb prog n_internal_stringslite_HasPrefix [a0, a1] st (fun v8 st =>
 qb (q_un .not v8) fun v9 =>
 cb v9 fun b => br b
  (retR R (.tup [a0, (.bool false)]) st)
  (qb (zq4b a1) fun v13 =>
  qb (zq17 a0 (some v13) none none) fun v14 =>
  retR R (.tup [v14, (.bool true)]) st)) (panR R)
theorem zq4k {a0 a1 : PV} {st : St} {R : Res → St → Prop} (h : zq2f a0 a1 st R) : zq5 prog n_internal_stringslite_CutPrefix [a0, a1] st R := hcc (fn := Go.Proofs.Tryz.f142) (ann := []) (by kernel_rfl) (by kernel_rfl) (by kernel_rfl) (by kernel_rfl) h
theorem zqm9 : zqir prog n_strings_Trim := ⟨Go.Proofs.Tryz.f143, by kernel_rfl, by kernel_rfl, by kernel_rfl⟩
end Go.H.Tryz
