/- Part of a proof that the program answers as the reference does: ZHS4. -/
import Derived.Test.YtmjpemdbkenebaaGreatDoorHT
set_option linter.unusedVariables false
set_option maxRecDepth 100000
namespace Go.H.Tryz
open Go Go.H
def zql8 (a0 a1 : PV) (st : St) (R : Res → St → Prop) : Prop :=
 zq19 st a0 fun v2 st =>
 zq19 st a1 fun v3 st =>
 qb (q_fa 0 v2) fun v6 =>
 qb (zq0 st false 1 v6) fun v7 =>
 qb (q_fa 0 v3) fun v8 =>
 qb (zq0 st false 1 v8) fun v9 =>
 qb (zqc .neq v7 v9) fun v10 =>
 cb v10 fun b => br b
  (retR R (.bool false) st)
  (qb (q_fa 1 v2) fun v12 =>
  qb (zq0 st false 1 v12) fun v13 =>
  qb (q_fa 1 v3) fun v14 =>
  qb (zq0 st false 1 v14) fun v15 =>
  qb (zqc .neq v13 v15) fun v16 =>
  cb v16 fun b_1 => br b_1
   (retR R (.bool false) st)
   (qb (q_fa 2 v2) fun v19 =>
   qb (zq0 st false 1 v19) fun v20 =>
   qb (q_fa 2 v3) fun v21 =>
   qb (zq0 st false 1 v21) fun v22 =>
   qb (zqc .neq v20 v22) fun v23 =>
   cb v23 fun b_2 => br b_2
    (retR R (.bool false) st)
    (qb (q_fa 3 v2) fun v26 =>
    qb (zq0 st false 1 v26) fun v27 =>
    qb (zq1j v27) fun v28 =>
    qb (q_fa 3 v3) fun v29 =>
    qb (zq0 st false 1 v29) fun v30 =>
    qb (zq1j v30) fun v31 =>
    qb (zqc .neq v28 v31) fun v32 =>
    cb v32 fun b_3 => br b_3
     (retR R (.bool false) st)
     (qb (q_fa 3 v2) fun v34 =>
     qb (zq0 st false 1 v34) fun v35 =>
     qb (zq1j v35) fun v36 =>
     hFix (fun ls st X =>
      qb (zqc .lss (ls.getD 0 .junk) v36) fun v38 =>
      cb v38 fun b_4 => br b_4
       (qb (q_fa 3 v2) fun v40 =>
       qb (zq0 st false 1 v40) fun v41 =>
       qb (q_ia 4 v41 (ls.getD 0 .junk)) fun v43 =>
       qb (zq0 st true 4 v43) fun v44 =>
       qb (q_fa 3 v3) fun v45 =>
       qb (zq0 st false 1 v45) fun v46 =>
       qb (q_ia 4 v46 (ls.getD 0 .junk)) fun v48 =>
       qb (zq0 st true 4 v48) fun v49 =>
       zqb prog n_impl_same [v44, v49] st (fun v50 st =>
       qb (q_un .not v50) fun v51 =>
       cb v51 fun b_5 => br b_5
        (retR R (.bool false) st)
        (qb (zqc .add (ls.getD 0 .junk) (.int .i64 1)) fun v52 =>
        X [v52] st)) (panR R))
       (retR R (.bool true) st))
      [(.int .i64 0)] st))))
theorem e_impl_same : zqir prog n_impl_same := ⟨Go.Proofs.Tryz.f84, by kernel_rfl, by kernel_rfl, by kernel_rfl⟩
theorem c_impl_same {a0 a1 : PV} {st : St} {R : Res → St → Prop} (h : zql8 a0 a1 st R) : zq5 prog n_impl_same [a0, a1] st R := hcc (fn := Go.Proofs.Tryz.f84) (ann := [(16, [37])]) (by kernel_rfl) (by kernel_rfl) (by kernel_rfl) (by kernel_rfl) h
def zq5w (a0 a1 a2 a3 : PV) (st : St) (R : Res → St → Prop) : Prop :=
 zq19 st a2 fun v6 st =>
 zq8 st [.int .i64 0, .int .i64 0, .str [], .sl 0 true []] fun v8 st =>
 hJ (fun ls st =>
  qb (q_fa 0 (ls.getD 0 .junk)) fun v22 =>
  qb (zq0 st false 1 v22) fun v23 =>
  qb (zqc .neq v23 (.int .i64 3)) fun v24 =>
  cb v24 fun b => br b
   (zqb prog n_impl_stop [(.int .i64 8), a3] st (fun v26 st =>
   qb (zq0 st true 4 (ls.getD 0 .junk)) fun v27 =>
   zq4 st 4 v8 v27 fun st =>
   qb (zq0 st true 4 v8) fun r => retR R r st) (panR R))
   (qb (zq0 st true 4 (ls.getD 0 .junk)) fun v27_1 =>
   zq4 st 4 v8 v27_1 fun st =>
   qb (zq0 st true 4 v8) fun r_1 => retR R r_1 st))
  (fun k =>
 qb (q_fa 3 v6) fun v12 =>
 qb (zq0 st false 1 v12) fun v13 =>
 qb (zq0 st true 4 v6) fun v16 =>
 qb (zqc .add a3 (.int .i64 1)) fun v20 =>
 (zqb prog n_impl_checker_head [a0, a1, v16, a3] st (fun v18 st =>
 zq0 st false 1 v12 = some v13 ∧ ((zqb prog n_impl_checker_args [a0, a1, v13, v18, v20] st (fun v21 st =>
 zq8 st [.int .i64 0, .int .i64 0, .str [], .sl 0 true []] fun v9 st =>
 zq0 st true 4 v6 = some v16 ∧ zq0 st false 1 v12 = some v13 ∧ (zq4 st 4 v9 v21 fun st =>
 k [v9] st)) (panR R)) ∧
 (zq8 st [.int .i64 0, .int .i64 0, .str [], .sl 0 true []] fun v9_1 st =>
 zq0 st true 4 v6 = some v16 ∧ zq0 st false 1 v12 = some v13 ∧ (zqb prog n_impl_checker_args [a0, a1, v13, v18, v20] st (fun v21_1 st =>
 zq4 st 4 v9_1 v21_1 fun st =>
 k [v9_1] st) (panR R))))) (panR R)) ∧
 (zq8 st [.int .i64 0, .int .i64 0, .str [], .sl 0 true []] fun v9_2 st =>
 zq0 st true 4 v6 = some v16 ∧ zq0 st false 1 v12 = some v13 ∧ (zqb prog n_impl_checker_head [a0, a1, v16, a3] st (fun v18_1 st =>
 zq0 st false 1 v12 = some v13 ∧ (zqb prog n_impl_checker_args [a0, a1, v13, v18_1, v20] st (fun v21_2 st =>
 zq4 st 4 v9_2 v21_2 fun st =>
 k [v9_2] st) (panR R))) (panR R))))
theorem zqbz {a0 a1 a2 a3 : PV} {st : St} {R : Res → St → Prop} (h : zq5w a0 a1 a2 a3 st R) : zq5 prog n_impl_checker_found [a0, a1, a2, a3] st R := hcc (fn := Go.Proofs.Tryz.f85) (ann := [(5, [9])]) (by kernel_rfl) (by kernel_rfl) (by kernel_rfl) (by kernel_rfl) h
def zqdz (a0 : PV) (st : St) (R : Res → St → Prop) : Prop :=
 zq8 st [.sl 0 true []] fun v2 st =>
 zq8 st [.int .i64 0] fun v3 st =>
 zq8 st [.int .i64 0] fun v4 st =>
 zq8 st [.int .i64 0] fun v5 st =>
 zqb prog n_impl_longText [a0] st (fun v11 st =>
 cb v11 fun b => br b
  (zq4 st 1 v2 (.sl 0 true []) fun st =>
  zq4 st 1 v3 (.int .i64 2) fun st =>
  zq4 st 1 v4 (.int .i64 0) fun st =>
  zq4 st 1 v5 (.int .i64 0) fun st =>
  qb (zq0 st false 1 v2) fun r => qb (zq0 st false 1 v3) fun r_1 => qb (zq0 st false 1 v4) fun r_2 => qb (zq0 st false 1 v5) fun r_3 => retR R (.tup [r, r_1, r_2, r_3]) st)
  (qb (zq24 6 0 0 [] []) fun v12 =>
  zq8 st [.sl 0 true []] fun v6 st =>
  zq8 st [.int .i64 0] fun v7 st =>
  zq4 st 1 v6 v12 fun st =>
  zq4 st 1 v7 (.int .i64 0) fun st =>
  zqb prog n_strings_Lines [a0] st (fun v14 st =>
  hRange prog v14 st (fun ar st B X => if ar.length = 1 then
   zq8 st [.str []] fun v8 st =>
   zq4 st 1 v8 (ar.getD 0 .junk) fun st =>
   B st fun st =>
   qb (zq0 st false 1 v7) fun v16 =>
   qb (zqc .add v16 (.int .i64 1)) fun v17 =>
   zq4 st 1 v7 v17 fun st =>
   qb (zq0 st false 1 v8) fun v18 =>
   zqb prog n_strings_TrimSuffix [v18, (.str [10])] st (fun v19 st =>
   zq4 st 1 v8 v19 fun st =>
   qb (zq0 st false 1 v8) fun v20 =>
   zqb prog n_impl_says [v20] st (fun v21 st =>
   qb (q_un .not v21) fun v22 =>
   cb v22 fun b_1 => br b_1
    (X .normal st)
    (qb (zq0 st false 1 v8) fun v23 =>
    qb (zq4b v23) fun v24 =>
    qb (zqc .gtr v24 (.int .i64 4096)) fun v25 =>
    cb v25 fun b_2 => br b_2
     (qb (zq0 st false 1 v7) fun v26 =>
     zq4 st 1 v2 (.sl 0 true []) fun st =>
     zq0 st false 1 v7 = some v26 ∧ (zq4 st 1 v3 (.int .i64 11) fun st =>
     zq0 st false 1 v7 = some v26 ∧ (zq4 st 1 v4 v26 fun st =>
     zq4 st 1 v5 (.int .i64 0) fun st =>
     X .ret st)))
     (zqb prog n_impl_caught [(.fn (.func n_impl_ReadSig_1) [] [v6, v8])] st (fun v28 st =>
     zq8 st [.int .i64 0, .int .i64 0] fun v9 st =>
     zq4 st 2 v9 v28 fun st =>
     qb (q_fa 0 v9) fun v29 =>
     qb (zq0 st false 1 v29) fun v30 =>
     qb (zqc .neq v30 (.int .i64 0)) fun v31 =>
     cb v31 fun b_3 => br b_3
      (qb (q_fa 0 v9) fun v32 =>
      qb (zq0 st false 1 v32) fun v33 =>
      qb (zq0 st false 1 v7) fun v34 =>
      qb (q_fa 1 v9) fun v35 =>
      qb (zq0 st false 1 v35) fun v36 =>
      zq4 st 1 v2 (.sl 0 true []) fun st =>
      zq0 st false 1 v35 = some v36 ∧ zq0 st false 1 v7 = some v34 ∧ zq0 st false 1 v32 = some v33 ∧ (zq4 st 1 v3 v33 fun st =>
      zq0 st false 1 v35 = some v36 ∧ zq0 st false 1 v7 = some v34 ∧ (zq4 st 1 v4 v34 fun st =>
      zq0 st false 1 v35 = some v36 ∧ (zq4 st 1 v5 v36 fun st =>
      X .ret st))))
      (X .normal st)) (fun p st => X (.pan p) st)))) (fun p st => X (.pan p) st)) (fun p st => X (.pan p) st)
   else False)
   (fun st =>
   qb (zq0 st false 1 v6) fun v37 =>
   zq4 st 1 v2 v37 fun st =>
   zq4 st 1 v3 (.int .i64 0) fun st =>
   zq4 st 1 v4 (.int .i64 0) fun st =>
   zq4 st 1 v5 (.int .i64 0) fun st =>
   qb (zq0 st false 1 v2) fun r_4 => qb (zq0 st false 1 v3) fun r_5 => qb (zq0 st false 1 v4) fun r_6 => qb (zq0 st false 1 v5) fun r_7 => retR R (.tup [r_4, r_5, r_6, r_7]) st)
   [((.exit 1), fun st =>
   False), (.ret, fun st =>
   qb (zq0 st false 1 v2) fun r_8 => qb (zq0 st false 1 v3) fun r_9 => qb (zq0 st false 1 v4) fun r_10 => qb (zq0 st false 1 v5) fun r_11 => retR R (.tup [r_8, r_9, r_10, r_11]) st), (.ret, fun st =>
   qb (zq0 st false 1 v2) fun r_12 => qb (zq0 st false 1 v3) fun r_13 => qb (zq0 st false 1 v4) fun r_14 => qb (zq0 st false 1 v5) fun r_15 => retR R (.tup [r_12, r_13, r_14, r_15]) st)]) (panR R))) (panR R)
theorem zqmn {a0 : PV} {st : St} {R : Res → St → Prop} (h : zqdz a0 st R) : zq5 prog n_impl_ReadSig [a0] st R := hcc (fn := Go.Proofs.Tryz.f86) (ann := []) (by kernel_rfl) (by kernel_rfl) (by kernel_rfl) (by kernel_rfl) h
def zq5p (a0 a1 : PV) (st : St) (R : Res → St → Prop) : Prop :=
 zqb prog n_spec_l00Src_next [a0, a1] st (fun v7 st =>
 qb (zqc .sub a1 (.int .i64 1)) fun v9 =>
 qb (zqc .eql v7 v9) fun v10 =>
 retR R v10 st) (panR R)
theorem zqbs {a0 a1 : PV} {st : St} {R : Res → St → Prop} (h : zq5p a0 a1 st R) : zq5 prog n_spec_l00Src_chance [a0, a1] st R := hcc (fn := Go.Proofs.Tryz.f87) (ann := []) (by kernel_rfl) (by kernel_rfl) (by kernel_rfl) (by kernel_rfl) h
def zq1p (a0 a1 : PV) (st : St) (R : Res → St → Prop) : Prop :=
 qb (zq1j a0) fun v7 =>
 hFix (fun ls st X =>
  qb (zqc .lss (ls.getD 0 .junk) v7) fun v9 =>
  cb v9 fun b => br b
   (qb (q_ia 3 a0 (ls.getD 0 .junk)) fun v14 =>
   qb (zq0 st true 3 v14) fun v15 =>
   zq57 prog st a1 [v15] (fun v16 st =>
   cb v16 fun b_1 => br b_1
    (retR R (ls.getD 0 .junk) st)
    (qb (zqc .add (ls.getD 0 .junk) (.int .i64 1)) fun v18 =>
    X [v18] st)) (panR R))
   (retR R (.int .i64 (-1)) st))
  [(.int .i64 0)] st
theorem zq39 {a0 a1 : PV} {st : St} {R : Res → St → Prop} (h : zq1p a0 a1 st R) : zq5 prog n_slices_IndexFunc_impl_Form_impl_Form [a0, a1] st R := hcc (fn := Go.Proofs.Tryz.f88) (ann := [(8, [8])]) (by kernel_rfl) (by kernel_rfl) (by kernel_rfl) (by kernel_rfl) h
def zq7l (a0 : PV) (st : St) (R : Res → St → Prop) : Prop :=
 qb (zq1d a0) fun v4 =>
 qb (q_fa 0 v4) fun v5 =>
 qb (zq0 st false 1 v5) fun v6 =>
 qb (zqc .sub v6 (.int .i64 1)) fun v7 =>
 qb (zq1d a0) fun v8 =>
 qb (q_fa 0 v8) fun v9 =>
 zq4 st 1 v9 v7 fun st =>
 qb (zq1d a0) fun v11 =>
 qb (q_fa 0 v11) fun v12 =>
 qb (zq0 st false 1 v12) fun v13 =>
 qb (zqc .geq v13 (.int .i64 0)) fun v14 =>
 retR R v14 st
theorem zqey {a0 : PV} {st : St} {R : Res → St → Prop} (h : zq7l a0 st R) : zq5 prog n_impl_looker_node [a0] st R := hcc (fn := Go.Proofs.Tryz.f89) (ann := []) (by kernel_rfl) (by kernel_rfl) (by kernel_rfl) (by kernel_rfl) h
def zqb4 (a0 : PV) (st : St) (R : Res → St → Prop) : Prop :=
 qb (q_ia 3 a0 (.int .i64 0)) fun v4 =>
 qb (zq0 st true 3 v4) fun v5 =>
 qb (q_ia 3 a0 (.int .i64 1)) fun v7 =>
 qb (zq0 st true 3 v7) fun v8 =>
 zqb prog n_impl_and [v5, v8] st (fun v9 st =>
 qb (zq24 3 1 0 [] [(0, v9)]) fun v10 =>
 retR R v10 st) (panR R)
theorem zqjt {a0 : PV} {st : St} {R : Res → St → Prop} (h : zqb4 a0 st R) : zq5 prog n_impl_ruleOf_1 [a0] st R := hcc (fn := Go.Proofs.Tryz.f90) (ann := []) (by kernel_rfl) (by kernel_rfl) (by kernel_rfl) (by kernel_rfl) h
def b_impl_and (a0 a1 : PV) (st : St) (R : Res → St → Prop) : Prop :=
 zq19 st a0 fun v2 st =>
 zq19 st a1 fun v3 st =>
 zq8 st [.int .i64 0, .int .i64 0, .sl 0 true []] fun v4 st =>
 qb (zq0 st true 3 v2) fun v5 =>
 qb (zq0 st true 3 v3) fun v6 =>
 qb (zq24 3 2 0 [] [(0, v5), (1, v6)]) fun v7 =>
 qb (zqe [.int .i64 0, .int .i64 0, .sl 0 true []] [(0, 1, (.int .i64 2)), (2, 1, v7)]) fun v8 =>
 zq4 st 3 v4 v8 fun st =>
 qb (zq0 st true 3 v4) fun r => retR R r st
theorem c_impl_and {a0 a1 : PV} {st : St} {R : Res → St → Prop} (h : b_impl_and a0 a1 st R) : zq5 prog n_impl_and [a0, a1] st R := hcc (fn := Go.Proofs.Tryz.f91) (ann := []) (by kernel_rfl) (by kernel_rfl) (by kernel_rfl) (by kernel_rfl) h
def zqb3 (a0 : PV) (st : St) (R : Res → St → Prop) : Prop :=
 zq8 st [.int .i64 0, .int .i64 0, .sl 0 true []] fun v2 st =>
 qb (q_ia 3 a0 (.int .i64 0)) fun v4 =>
 qb (zq0 st true 3 v4) fun v5 =>
 zq4 st 3 v2 v5 fun st =>
 qb (zq0 st true 3 v2) fun r => retR R r st
theorem zqjs {a0 : PV} {st : St} {R : Res → St → Prop} (h : zqb3 a0 st R) : zq5 prog n_impl_ruleOf_2 [a0] st R := hcc (fn := Go.Proofs.Tryz.f92) (ann := []) (by kernel_rfl) (by kernel_rfl) (by kernel_rfl) (by kernel_rfl) h
def zqb2 (a0 : PV) (st : St) (R : Res → St → Prop) : Prop :=
 zq8 st [.int .i64 0, .int .i64 0, .sl 0 true []] fun v2 st =>
 qb (q_ia 3 a0 (.int .i64 1)) fun v4 =>
 qb (zq0 st true 3 v4) fun v5 =>
 zq4 st 3 v2 v5 fun st =>
 qb (zq0 st true 3 v2) fun r => retR R r st
theorem zqjr {a0 : PV} {st : St} {R : Res → St → Prop} (h : zqb2 a0 st R) : zq5 prog n_impl_ruleOf_3 [a0] st R := hcc (fn := Go.Proofs.Tryz.f93) (ann := []) (by kernel_rfl) (by kernel_rfl) (by kernel_rfl) (by kernel_rfl) h
def zqb1 (a0 : PV) (st : St) (R : Res → St → Prop) : Prop :=
 retR R a0 st
theorem zqjq {a0 : PV} {st : St} {R : Res → St → Prop} (h : zqb1 a0 st R) : zq5 prog n_impl_ruleOf_4 [a0] st R := hcc (fn := Go.Proofs.Tryz.f94) (ann := []) (by kernel_rfl) (by kernel_rfl) (by kernel_rfl) (by kernel_rfl) h
def zqb0 (a0 : PV) (st : St) (R : Res → St → Prop) : Prop :=
 zq8 st [.int .i64 0, .int .i64 0, .sl 0 true []] fun v2 st =>
 qb (q_ia 3 a0 (.int .i64 0)) fun v4 =>
 qb (zq0 st true 3 v4) fun v5 =>
 qb (q_ia 3 a0 (.int .i64 1)) fun v7 =>
 qb (zq0 st true 3 v7) fun v8 =>
 zqb prog n_impl_and [v5, v8] st (fun v9 st =>
 zq4 st 3 v2 v9 fun st =>
 qb (zq0 st true 3 v2) fun r => retR R r st) (panR R)
theorem zqjp {a0 : PV} {st : St} {R : Res → St → Prop} (h : zqb0 a0 st R) : zq5 prog n_impl_ruleOf_5 [a0] st R := hcc (fn := Go.Proofs.Tryz.f95) (ann := []) (by kernel_rfl) (by kernel_rfl) (by kernel_rfl) (by kernel_rfl) h
def zqaz (a0 : PV) (st : St) (R : Res → St → Prop) : Prop :=
 qb (zq1y 3 a0 (some (.int .i64 1)) none none) fun v4 =>
 retR R v4 st
theorem zqjo {a0 : PV} {st : St} {R : Res → St → Prop} (h : zqaz a0 st R) : zq5 prog n_impl_ruleOf_6 [a0] st R := hcc (fn := Go.Proofs.Tryz.f96) (ann := []) (by kernel_rfl) (by kernel_rfl) (by kernel_rfl) (by kernel_rfl) h
def zqay (a0 : PV) (st : St) (R : Res → St → Prop) : Prop :=
 zq8 st [.int .i64 0, .int .i64 0, .sl 0 true []] fun v2 st =>
 qb (q_ia 3 a0 (.int .i64 0)) fun v4 =>
 qb (zq0 st true 3 v4) fun v5 =>
 qb (q_ia 3 a0 (.int .i64 1)) fun v7 =>
 qb (zq0 st true 3 v7) fun v8 =>
 zqb prog n_impl_implies [v5, v8] st (fun v9 st =>
 zq4 st 3 v2 v9 fun st =>
 qb (zq0 st true 3 v2) fun r => retR R r st) (panR R)
theorem zqjn {a0 : PV} {st : St} {R : Res → St → Prop} (h : zqay a0 st R) : zq5 prog n_impl_ruleOf_7 [a0] st R := hcc (fn := Go.Proofs.Tryz.f97) (ann := []) (by kernel_rfl) (by kernel_rfl) (by kernel_rfl) (by kernel_rfl) h
def zqds (a0 a1 : PV) (st : St) (R : Res → St → Prop) : Prop :=
 zq19 st a0 fun v2 st =>
 zq19 st a1 fun v3 st =>
 zq8 st [.int .i64 0, .int .i64 0, .sl 0 true []] fun v4 st =>
 qb (zq0 st true 3 v2) fun v5 =>
 qb (zq0 st true 3 v3) fun v6 =>
 qb (zq24 3 2 0 [] [(0, v5), (1, v6)]) fun v7 =>
 qb (zqe [.int .i64 0, .int .i64 0, .sl 0 true []] [(0, 1, (.int .i64 3)), (2, 1, v7)]) fun v8 =>
 zq4 st 3 v4 v8 fun st =>
 qb (zq0 st true 3 v4) fun r => retR R r st
theorem zqmg {a0 a1 : PV} {st : St} {R : Res → St → Prop} (h : zqds a0 a1 st R) : zq5 prog n_impl_implies [a0, a1] st R := hcc (fn := Go.Proofs.Tryz.f98) (ann := []) (by kernel_rfl) (by kernel_rfl) (by kernel_rfl) (by kernel_rfl) h
def zqax (a0 : PV) (st : St) (R : Res → St → Prop) : Prop :=
 qb (q_ia 3 a0 (.int .i64 0)) fun v4 =>
 qb (zq0 st true 3 v4) fun v5 =>
 qb (q_ia 3 a0 (.int .i64 1)) fun v7 =>
 qb (zq0 st true 3 v7) fun v8 =>
 qb (q_ia 3 a0 (.int .i64 0)) fun v11 =>
 qb (zq0 st true 3 v11) fun v12 =>
 zqb prog n_impl_implies [v5, v8] st (fun v9 st =>
 zq0 st true 3 v11 = some v12 ∧ (qb (zq24 3 2 0 [] [(0, v9), (1, v12)]) fun v13 =>
 retR R v13 st)) (panR R)
theorem zqjm {a0 : PV} {st : St} {R : Res → St → Prop} (h : zqax a0 st R) : zq5 prog n_impl_ruleOf_8 [a0] st R := hcc (fn := Go.Proofs.Tryz.f99) (ann := []) (by kernel_rfl) (by kernel_rfl) (by kernel_rfl) (by kernel_rfl) h
def zqaw (a0 : PV) (st : St) (R : Res → St → Prop) : Prop :=
 zqb prog n_impl_bottom [] st (fun v3 st =>
 qb (zq24 3 1 0 [] [(0, v3)]) fun v4 =>
 retR R v4 st) (panR R)
theorem zqjl {a0 : PV} {st : St} {R : Res → St → Prop} (h : zqaw a0 st R) : zq5 prog n_impl_ruleOf_9 [a0] st R := hcc (fn := Go.Proofs.Tryz.f100) (ann := []) (by kernel_rfl) (by kernel_rfl) (by kernel_rfl) (by kernel_rfl) h
def zqg2 (st : St) (R : Res → St → Prop) : Prop :=
 zq8 st [.int .i64 0, .int .i64 0, .sl 0 true []] fun v0 st =>
 qb (zqe [.int .i64 0, .int .i64 0, .sl 0 true []] [(0, 1, (.int .i64 4))]) fun v1 =>
 zq4 st 3 v0 v1 fun st =>
 qb (zq0 st true 3 v0) fun r => retR R r st
theorem c_impl_bottom {st : St} {R : Res → St → Prop} (h : zqg2  st R) : zq5 prog n_impl_bottom [] st R := hcc (fn := Go.Proofs.Tryz.f101) (ann := []) (by kernel_rfl) (by kernel_rfl) (by kernel_rfl) (by kernel_rfl) h
def zqr (a0 a1 a2 : PV) (st : St) (R : Res → St → Prop) : Prop :=
 qb (zq1j a0) fun v11 =>
 qb (zq1j a1) fun v13 =>
 qb (zqc .neq v11 v13) fun v14 =>
 cb v14 fun b => br b
  (retR R (.bool false) st)
  (qb (zq1j a0) fun v16 =>
  hFix (fun ls st X =>
   qb (zqc .lss (ls.getD 0 .junk) v16) fun v18 =>
   cb v18 fun b_1 => br b_1
    (qb (q_ia 3 a0 (ls.getD 0 .junk)) fun v20 =>
    qb (zq0 st true 3 v20) fun v21 =>
    zq8 st [.int .i64 0, .int .i64 0, .sl 0 true []] fun v8 st =>
    zq4 st 3 v8 v21 fun st =>
    qb (q_ia 3 a1 (ls.getD 0 .junk)) fun v24 =>
    qb (zq0 st true 3 v24) fun v25 =>
    zq8 st [.int .i64 0, .int .i64 0, .sl 0 true []] fun v9 st =>
    zq4 st 3 v9 v25 fun st =>
    qb (zq0 st true 3 v8) fun v27 =>
    qb (zq0 st true 3 v9) fun v28 =>
    zq57 prog st a2 [v27, v28] (fun v29 st =>
    qb (q_un .not v29) fun v30 =>
    cb v30 fun b_2 => br b_2
     (retR R (.bool false) st)
     (qb (zqc .add (ls.getD 0 .junk) (.int .i64 1)) fun v31 =>
     X [v31] st)) (panR R))
    (retR R (.bool true) st))
   [(.int .i64 0)] st)
theorem zq1i {a0 a1 a2 : PV} {st : St} {R : Res → St → Prop} (h : zqr a0 a1 a2 st R) : zq5 prog n_slices_EqualFunc_impl_Form_impl_Form_impl_Form_impl_Form [a0, a1, a2] st R := hcc (fn := Go.Proofs.Tryz.f102) (ann := [(16, [17])]) (by kernel_rfl) (by kernel_rfl) (by kernel_rfl) (by kernel_rfl) h
def zq8h (a0 a1 : PV) (st : St) (R : Res → St → Prop) : Prop :=
 zqb prog n_impl_Tree_binds [a0, a1] st (fun v7 st =>
 cb v7 fun b => br b
  (retR R (.int .i64 1) st)
  (retR R (.int .i64 0) st)) (panR R)
theorem zqgn {a0 a1 : PV} {st : St} {R : Res → St → Prop} (h : zq8h a0 a1 st R) : zq5 prog n_impl_Tree_under [a0, a1] st R := hcc (fn := Go.Proofs.Tryz.f103) (ann := []) (by kernel_rfl) (by kernel_rfl) (by kernel_rfl) (by kernel_rfl) h
end Go.H.Tryz
