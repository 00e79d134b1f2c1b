/- Part of a proof that the program answers as the reference does: FS9. -/
import Derived.Test.YtemgbochnkpihaaGreatDoorHT
/- MADE BY PROGRAM (hgen.py): what the functions compute, over pure values. -/
set_option linter.unusedVariables false
set_option maxRecDepth 100000
namespace Go.H.Tryz
open Go Go.H
def b_impl_turned (a0 a1 a2 : PV) (st : St) (R : Res → St → Prop) : Prop :=
 e_box st a0 fun v3 st =>
 e_alloc st [.int .i64 0, .int .i64 0, .str [], .sl 0 true []] fun v6 st =>
 qb (q_lit 4 0 0 [] []) fun v10 =>
 qb (q_fa 3 v3) fun v11 =>
 qb (q_load st false 1 v11) fun v12 =>
 qb (q_len v12) fun v13 =>
 hJ (fun ls st =>
  qb (q_fa 3 v3) fun v31 =>
  e_store st 1 v31 (ls.getD 0 .junk) fun st =>
  qb (q_fa 0 v3) fun v32 =>
  qb (q_load st false 1 v32) fun v33 =>
  qb (q_bin .eql v33 (.int .i64 5)) fun v34 =>
  cb v34 fun b => br b
   (qb (q_load st true 4 v3) fun v36 =>
   e_call prog st a2 [v36, a1] (fun v38 st =>
   e_store st 4 v6 v38 fun st =>
   qb (q_load st true 4 v6) fun r => retR R r st) (panR R))
   (qb (q_load st true 4 v3) fun v39 =>
   e_store st 4 v6 v39 fun st =>
   qb (q_load st true 4 v6) fun r_1 => retR R r_1 st))
  (fun k =>
 hFix (fun ls_1 st X =>
  qb (q_bin .lss (ls_1.getD 1 .junk) v13) fun v15 =>
  cb v15 fun b_1 => br b_1
   (qb (q_ia 4 v12 (ls_1.getD 1 .junk)) fun v17 =>
   qb (q_load st true 4 v17) fun v18 =>
   e_alloc st [.int .i64 0, .int .i64 0, .str [], .sl 0 true []] fun v9 st =>
   e_store st 4 v9 v18 fun st =>
   qb (q_load st true 4 v9) fun v20 =>
   callK prog n_impl_Tree_under [v3, (ls_1.getD 1 .junk)] st (fun v23 st =>
   q_load st true 4 v9 = some v20 ∧ (qb (q_bin .add a1 v23) fun v24 =>
   callK prog n_impl_turned [v20, v24, a2] st (fun v26 st =>
   qb (q_lit 4 1 0 [] [(0, v26)]) fun v27 =>
   e_append st 4 56 (ls_1.getD 0 .junk) v27 (fun v28 st =>
   qb (q_bin .add (ls_1.getD 1 .junk) (.int .i64 1)) fun v29 =>
   X [v28, v29] st)) (panR R))) (panR R))
   (k [(ls_1.getD 0 .junk)] st))
  [v10, (.int .i64 0)] st)
theorem c_impl_turned {a0 a1 a2 : PV} {st : St} {R : Res → St → Prop} (h : b_impl_turned a0 a1 a2 st R) : HCalls prog n_impl_turned [a0, a1, a2] st R :=
 hcalls_of_func tyOK mixed (fn := Go.Proofs.Tryz.f189) (by kernel_rfl) (by kernel_rfl) (by kernel_rfl) (ann := [(12, [7, 14]), (3, [7])])
  (show hFunc prog TT [(12, [7, 14]), (3, [7])] Go.Proofs.Tryz.f189 [a0, a1, a2] st R from (show hFunc prog TT [(12, [7, 14]), (3, [7])] Go.Proofs.Tryz.f189 [a0, a1, a2] st R = b_impl_turned a0 a1 a2 st R by kernel_rfl) ▸ h)
def b_impl_lift_1 (a0 a1 a2 a3 : PV) (st : St) (R : Res → St → Prop) : Prop :=
 e_box st a0 fun v4 st =>
 e_alloc st [.int .i64 0, .int .i64 0, .str [], .sl 0 true []] fun v6 st =>
 qb (q_fa 1 v4) fun v7 =>
 qb (q_load st false 1 v7) fun v8 =>
 qb (q_load st false 1 a2) fun v9 =>
 qb (q_bin .add v9 a1) fun v11 =>
 qb (q_bin .geq v8 v11) fun v12 =>
 cb v12 fun b => br b
  (qb (q_fa 1 v4) fun v13 =>
  qb (q_load st false 1 v13) fun v14 =>
  qb (q_load st false 1 a3) fun v15 =>
  qb (q_bin .add v14 v15) fun v16 =>
  qb (q_fa 1 v4) fun v17 =>
  e_store st 1 v17 v16 fun st =>
  qb (q_load st true 4 v4) fun v18 =>
  e_store st 4 v6 v18 fun st =>
  qb (q_load st true 4 v6) fun r => retR R r st)
  (qb (q_load st true 4 v4) fun v18_1 =>
  e_store st 4 v6 v18_1 fun st =>
  qb (q_load st true 4 v6) fun r_1 => retR R r_1 st)
theorem c_impl_lift_1 {a0 a1 a2 a3 : PV} {st : St} {R : Res → St → Prop} (h : b_impl_lift_1 a0 a1 a2 a3 st R) : HCalls prog n_impl_lift_1 [a0, a1, a2, a3] st R :=
 hcalls_of_func tyOK mixed (fn := Go.Proofs.Tryz.f190) (by kernel_rfl) (by kernel_rfl) (by kernel_rfl) (ann := [])
  (show hFunc prog TT [] Go.Proofs.Tryz.f190 [a0, a1, a2, a3] st R from (show hFunc prog TT [] Go.Proofs.Tryz.f190 [a0, a1, a2, a3] st R = b_impl_lift_1 a0 a1 a2 a3 st R by kernel_rfl) ▸ h)
def b_spec_l00Letter (a0 : PV) (st : St) (R : Res → St → Prop) : Prop :=
 qb (q_bin .geq a0 (.int .u8 97)) fun v4 =>
 cb v4 fun b => br b
  (qb (q_bin .leq a0 (.int .u8 122)) fun v7 =>
  cb v7 fun b_1 => br b_1
   (retR R (.bool true) st)
   (qb (q_bin .geq a0 (.int .u8 65)) fun v11 =>
   cb v11 fun b_2 => br b_2
    (qb (q_bin .leq a0 (.int .u8 90)) fun v14 =>
    cb v14 fun b_3 => br b_3
     (retR R (.bool true) st)
     (qb (q_bin .eql a0 (.int .u8 95)) fun v19 =>
     retR R v19 st))
    (qb (q_bin .eql a0 (.int .u8 95)) fun v19_1 =>
    retR R v19_1 st)))
  (qb (q_bin .geq a0 (.int .u8 65)) fun v11_1 =>
  cb v11_1 fun b_4 => br b_4
   (qb (q_bin .leq a0 (.int .u8 90)) fun v14_1 =>
   cb v14_1 fun b_5 => br b_5
    (retR R (.bool true) st)
    (qb (q_bin .eql a0 (.int .u8 95)) fun v19_2 =>
    retR R v19_2 st))
   (qb (q_bin .eql a0 (.int .u8 95)) fun v19_3 =>
   retR R v19_3 st))
theorem c_spec_l00Letter {a0 : PV} {st : St} {R : Res → St → Prop} (h : b_spec_l00Letter a0 st R) : HCalls prog n_spec_l00Letter [a0] st R :=
 hcalls_of_func tyOK mixed (fn := Go.Proofs.Tryz.f191) (by kernel_rfl) (by kernel_rfl) (by kernel_rfl) (ann := [])
  (show hFunc prog TT [] Go.Proofs.Tryz.f191 [a0] st R from (show hFunc prog TT [] Go.Proofs.Tryz.f191 [a0] st R = b_spec_l00Letter a0 st R by kernel_rfl) ▸ h)
def b_spec_l00Digit (a0 : PV) (st : St) (R : Res → St → Prop) : Prop :=
 qb (q_bin .geq a0 (.int .u8 48)) fun v4 =>
 cb v4 fun b => br b
  (qb (q_bin .leq a0 (.int .u8 57)) fun v7 =>
  retR R v7 st)
  (retR R (.bool false) st)
theorem c_spec_l00Digit {a0 : PV} {st : St} {R : Res → St → Prop} (h : b_spec_l00Digit a0 st R) : HCalls prog n_spec_l00Digit [a0] st R :=
 hcalls_of_func tyOK mixed (fn := Go.Proofs.Tryz.f192) (by kernel_rfl) (by kernel_rfl) (by kernel_rfl) (ann := [])
  (show hFunc prog TT [] Go.Proofs.Tryz.f192 [a0] st R from (show hFunc prog TT [] Go.Proofs.Tryz.f192 [a0] st R = b_spec_l00Digit a0 st R by kernel_rfl) ▸ h)
def b_spec_l00Word (a0 : PV) (st : St) (R : Res → St → Prop) : Prop :=
 qb (q_lenS a0) fun v5 =>
 qb (q_bin .lss v5 (.int .i64 1)) fun v6 =>
 cb v6 fun b => br b
  (retR R (.bool false) st)
  (qb (q_lenS a0) fun v9 =>
  qb (q_bin .gtr v9 (.int .i64 40)) fun v10 =>
  cb v10 fun b_1 => br b_1
   (retR R (.bool false) st)
   (qb (q_ix a0 (.int .i64 0)) fun v14 =>
   callK prog n_spec_l00Letter [v14] st (fun v15 st =>
   qb (q_un .not v15) fun v16 =>
   cb v16 fun b_2 => br b_2
    (retR R (.bool false) st)
    (hFix (fun ls st X =>
     qb (q_lenS a0) fun v20 =>
     qb (q_bin .lss (ls.getD 0 .junk) v20) fun v21 =>
     cb v21 fun b_3 => br b_3
      (qb (q_ix a0 (ls.getD 0 .junk)) fun v26 =>
      callK prog n_spec_l00Letter [v26] st (fun v27 st =>
      qb (q_un .not v27) fun v28 =>
      cb v28 fun b_4 => br b_4
       (qb (q_ix a0 (ls.getD 0 .junk)) fun v32 =>
       callK prog n_spec_l00Digit [v32] st (fun v33 st =>
       qb (q_un .not v33) fun v34 =>
       cb v34 fun b_5 => br b_5
        (retR R (.bool false) st)
        (qb (q_bin .add (ls.getD 0 .junk) (.int .i64 1)) fun v23 =>
        X [v23] st)) (panR R))
       (qb (q_bin .add (ls.getD 0 .junk) (.int .i64 1)) fun v23_1 =>
       X [v23_1] st)) (panR R))
      (retR R (.bool true) st))
     [(.int .i64 1)] st)) (panR R)))
theorem c_spec_l00Word {a0 : PV} {st : St} {R : Res → St → Prop} (h : b_spec_l00Word a0 st R) : HCalls prog n_spec_l00Word [a0] st R :=
 hcalls_of_func tyOK mixed (fn := Go.Proofs.Tryz.f193) (by kernel_rfl) (by kernel_rfl) (by kernel_rfl) (ann := [(16, [3])])
  (show hFunc prog TT [(16, [3])] Go.Proofs.Tryz.f193 [a0] st R from (show hFunc prog TT [(16, [3])] Go.Proofs.Tryz.f193 [a0] st R = b_spec_l00Word a0 st R by kernel_rfl) ▸ h)
def b_spec_l01Terms (a0 a1 : PV) (st : St) (R : Res → St → Prop) : Prop :=
 hFix (fun ls st X =>
  qb (q_len a0) fun v8 =>
  qb (q_bin .lss (ls.getD 0 .junk) v8) fun v9 =>
  cb v9 fun b => br b
   (hJ (fun ls_1 st =>
    cb (ls_1.getD 0 .junk) fun b_1 => br b_1
     (qb (q_ia 4 a0 (ls.getD 0 .junk)) fun v23 =>
     qb (q_fa 1 v23) fun v24 =>
     qb (q_load st false 1 v24) fun v25 =>
     qb (q_bin .neq v25 (.int .i64 0)) fun v26 =>
     cb v26 fun b_2 => br b_2
      (retR R (.bool false) st)
      (qb (q_ia 4 a0 (ls.getD 0 .junk)) fun v30 =>
      qb (q_fa 2 v30) fun v31 =>
      qb (q_load st false 1 v31) fun v32 =>
      qb (q_bin .neq v32 (.str [])) fun v33 =>
      cb v33 fun b_3 => br b_3
       (retR R (.bool false) st)
       (qb (q_ia 4 a0 (ls.getD 0 .junk)) fun v38 =>
       qb (q_fa 3 v38) fun v39 =>
       qb (q_load st false 1 v39) fun v40 =>
       qb (q_len v40) fun v41 =>
       qb (q_bin .neq v41 (.int .i64 0)) fun v42 =>
       cb v42 fun b_4 => br b_4
        (retR R (.bool false) st)
        (qb (q_bin .add (ls.getD 0 .junk) (.int .i64 1)) fun v11 =>
        X [v11] st))))
     (qb (q_ia 4 a0 (ls.getD 0 .junk)) fun v46 =>
     qb (q_load st true 4 v46) fun v47 =>
     callK prog n_spec_l01Term [v47, a1] st (fun v49 st =>
     qb (q_un .not v49) fun v50 =>
     cb v50 fun b_5 => br b_5
      (retR R (.bool false) st)
      (qb (q_bin .add (ls.getD 0 .junk) (.int .i64 1)) fun v11_1 =>
      X [v11_1] st)) (panR R)))
    (fun k =>
   cb a1 fun b_6 => br b_6
    (qb (q_ia 4 a0 (ls.getD 0 .junk)) fun v16 =>
    qb (q_fa 0 v16) fun v17 =>
    qb (q_load st false 1 v17) fun v18 =>
    qb (q_bin .eql v18 (.int .i64 8)) fun v19 =>
    k [v19] st)
    (k [(.bool false)] st)))
   (retR R (.bool true) st))
  [(.int .i64 0)] st
theorem e_spec_l01Terms : Enters prog n_spec_l01Terms := ⟨Go.Proofs.Tryz.f194, by kernel_rfl, by kernel_rfl, by kernel_rfl⟩
theorem c_spec_l01Terms {a0 a1 : PV} {st : St} {R : Res → St → Prop} (h : b_spec_l01Terms a0 a1 st R) : HCalls prog n_spec_l01Terms [a0, a1] st R :=
 hcalls_of_func tyOK mixed (fn := Go.Proofs.Tryz.f194) (by kernel_rfl) (by kernel_rfl) (by kernel_rfl) (ann := [(8, [5]), (17, [20])])
  (show hFunc prog TT [(8, [5]), (17, [20])] Go.Proofs.Tryz.f194 [a0, a1] st R from (show hFunc prog TT [(8, [5]), (17, [20])] Go.Proofs.Tryz.f194 [a0, a1] st R = b_spec_l01Terms a0 a1 st R by kernel_rfl) ▸ h)
def b_spec_l01Small (a0 : PV) (st : St) (R : Res → St → Prop) : Prop :=
 e_box st a0 fun v1 st =>
 qb (q_load st true 4 v1) fun v3 =>
 callK prog n_spec_l01Count [v3, (.int .i64 150)] st (fun v4 st =>
 qb (q_bin .geq v4 (.int .i64 0)) fun v5 =>
 retR R v5 st) (panR R)
theorem c_spec_l01Small {a0 : PV} {st : St} {R : Res → St → Prop} (h : b_spec_l01Small a0 st R) : HCalls prog n_spec_l01Small [a0] st R :=
 hcalls_of_func tyOK mixed (fn := Go.Proofs.Tryz.f195) (by kernel_rfl) (by kernel_rfl) (by kernel_rfl) (ann := [])
  (show hFunc prog TT [] Go.Proofs.Tryz.f195 [a0] st R from (show hFunc prog TT [] Go.Proofs.Tryz.f195 [a0] st R = b_spec_l01Small a0 st R by kernel_rfl) ▸ h)
def b_spec_l01Kind (a0 : PV) (st : St) (R : Res → St → Prop) : Prop :=
 e_box st a0 fun v1 st =>
 qb (q_fa 0 v1) fun v3 =>
 qb (q_load st false 1 v3) fun v4 =>
 qb (q_bin .eql v4 (.int .i64 2)) fun v6 =>
 cb v6 fun b => br b
  (qb (q_fa 1 v1) fun v7 =>
  qb (q_load st false 1 v7) fun v8 =>
  qb (q_bin .eql v8 (.int .i64 0)) fun v9 =>
  cb v9 fun b_1 => br b_1
   (qb (q_fa 2 v1) fun v11 =>
   qb (q_load st false 1 v11) fun v12 =>
   qb (q_bin .eql v12 (.str [])) fun v13 =>
   cb v13 fun b_2 => br b_2
    (qb (q_fa 3 v1) fun v16 =>
    qb (q_load st false 1 v16) fun v17 =>
    qb (q_len v17) fun v18 =>
    qb (q_bin .eql v18 (.int .i64 2)) fun v19 =>
    cb v19 fun b_3 => br b_3
     (qb (q_fa 3 v1) fun v22 =>
     qb (q_load st false 1 v22) fun v23 =>
     qb (q_ia 4 v23 (.int .i64 0)) fun v24 =>
     qb (q_load st true 4 v24) fun v25 =>
     callK prog n_spec_l01Family [v25] st (fun v26 st =>
     cb v26 fun b_4 => br b_4
      (qb (q_fa 3 v1) fun v29 =>
      qb (q_load st false 1 v29) fun v30 =>
      qb (q_ia 4 v30 (.int .i64 1)) fun v31 =>
      qb (q_load st true 4 v31) fun v32 =>
      callK prog n_spec_l01Kind [v32] st (fun v33 st =>
      retR R v33 st) (panR R))
      (retR R (.bool false) st)) (panR R))
     (retR R (.bool false) st))
    (retR R (.bool false) st))
   (retR R (.bool false) st))
  (qb (q_bin .eql v4 (.int .i64 1)) fun v36 =>
  cb v36 fun b_5 => br b_5
   (qb (q_fa 1 v1) fun v37 =>
   qb (q_load st false 1 v37) fun v38 =>
   qb (q_bin .eql v38 (.int .i64 0)) fun v39 =>
   cb v39 fun b_6 => br b_6
    (qb (q_fa 2 v1) fun v41 =>
    qb (q_load st false 1 v41) fun v42 =>
    qb (q_bin .eql v42 (.str [])) fun v43 =>
    cb v43 fun b_7 => br b_7
     (qb (q_fa 3 v1) fun v46 =>
     qb (q_load st false 1 v46) fun v47 =>
     qb (q_len v47) fun v48 =>
     qb (q_bin .eql v48 (.int .i64 0)) fun v49 =>
     retR R v49 st)
     (retR R (.bool false) st))
    (retR R (.bool false) st))
   (retR R (.bool false) st))
theorem c_spec_l01Kind {a0 : PV} {st : St} {R : Res → St → Prop} (h : b_spec_l01Kind a0 st R) : HCalls prog n_spec_l01Kind [a0] st R :=
 hcalls_of_func tyOK mixed (fn := Go.Proofs.Tryz.f196) (by kernel_rfl) (by kernel_rfl) (by kernel_rfl) (ann := [])
  (show hFunc prog TT [] Go.Proofs.Tryz.f196 [a0] st R from (show hFunc prog TT [] Go.Proofs.Tryz.f196 [a0] st R = b_spec_l01Kind a0 st R by kernel_rfl) ▸ h)
def b_spec_l04More (a0 a1 : PV) (st : St) (R : Res → St → Prop) : Prop :=
 e_box st a1 fun v3 st =>
 qb (q_lit 4 0 0 [] []) fun v5 =>
 qb (q_load st true 4 v3) fun v8 =>
 qb (q_lit 4 1 0 [] [(0, v8)]) fun v9 =>
 e_append st 4 56 v5 a0 (fun v7 st =>
 q_load st true 4 v3 = some v8 ∧ (e_append st 4 56 v7 v9 (fun v10 st =>
 retR R v10 st)))
theorem c_spec_l04More {a0 a1 : PV} {st : St} {R : Res → St → Prop} (h : b_spec_l04More a0 a1 st R) : HCalls prog n_spec_l04More [a0, a1] st R :=
 hcalls_of_func tyOK mixed (fn := Go.Proofs.Tryz.f197) (by kernel_rfl) (by kernel_rfl) (by kernel_rfl) (ann := [])
  (show hFunc prog TT [] Go.Proofs.Tryz.f197 [a0, a1] st R from (show hFunc prog TT [] Go.Proofs.Tryz.f197 [a0, a1] st R = b_spec_l04More a0 a1 st R by kernel_rfl) ▸ h)
def b_spec_l01Size (a0 : PV) (st : St) (R : Res → St → Prop) : Prop :=
 e_box st a0 fun v1 st =>
 hFix (fun ls st X =>
  qb (q_fa 3 v1) fun v6 =>
  qb (q_load st false 1 v6) fun v7 =>
  qb (q_len v7) fun v8 =>
  qb (q_bin .lss (ls.getD 1 .junk) v8) fun v9 =>
  cb v9 fun b => br b
   (qb (q_fa 3 v1) fun v13 =>
   qb (q_load st false 1 v13) fun v14 =>
   qb (q_ia 4 v14 (ls.getD 1 .junk)) fun v16 =>
   qb (q_load st true 4 v16) fun v17 =>
   callK prog n_spec_l01Size [v17] st (fun v18 st =>
   qb (q_bin .add (ls.getD 0 .junk) v18) fun v19 =>
   qb (q_bin .add (ls.getD 1 .junk) (.int .i64 1)) fun v11 =>
   X [v19, v11] st) (panR R))
   (retR R (ls.getD 0 .junk) st))
  [(.int .i64 1), (.int .i64 0)] st
theorem c_spec_l01Size {a0 : PV} {st : St} {R : Res → St → Prop} (h : b_spec_l01Size a0 st R) : HCalls prog n_spec_l01Size [a0] st R :=
 hcalls_of_func tyOK mixed (fn := Go.Proofs.Tryz.f198) (by kernel_rfl) (by kernel_rfl) (by kernel_rfl) (ann := [(12, [3, 4])])
  (show hFunc prog TT [(12, [3, 4])] Go.Proofs.Tryz.f198 [a0] st R from (show hFunc prog TT [(12, [3, 4])] Go.Proofs.Tryz.f198 [a0] st R = b_spec_l01Size a0 st R by kernel_rfl) ▸ h)
def b_spec_l04Run_fail (a0 a1 a2 : PV) (st : St) (R : Res → St → Prop) : Prop :=
 qb (q_nil a0) fun v8 =>
 qb (q_fa 2 v8) fun v9 =>
 qb (q_load st false 1 v9) fun v10 =>
 qb (q_bin .eql v10 (.int .i64 0)) fun v11 =>
 cb v11 fun b => br b
  (qb (q_nil a0) fun v14 =>
  qb (q_fa 2 v14) fun v15 =>
  e_store st 1 v15 a1 fun st =>
  qb (q_nil a0) fun v18 =>
  qb (q_fa 3 v18) fun v19 =>
  e_store st 1 v19 a2 fun st =>
  retR R (.bool false) st)
  (retR R (.bool false) st)
theorem c_spec_l04Run_fail {a0 a1 a2 : PV} {st : St} {R : Res → St → Prop} (h : b_spec_l04Run_fail a0 a1 a2 st R) : HCalls prog n_spec_l04Run_fail [a0, a1, a2] st R :=
 hcalls_of_func tyOK mixed (fn := Go.Proofs.Tryz.f199) (by kernel_rfl) (by kernel_rfl) (by kernel_rfl) (ann := [])
  (show hFunc prog TT [] Go.Proofs.Tryz.f199 [a0, a1, a2] st R from (show hFunc prog TT [] Go.Proofs.Tryz.f199 [a0, a1, a2] st R = b_spec_l04Run_fail a0 a1 a2 st R by kernel_rfl) ▸ h)
def b_spec_l04Run_spine (a0 a1 a2 a3 a4 : PV) (st : St) (R : Res → St → Prop) : Prop :=
 e_box st a2 fun v7 st =>
 e_alloc st [.int .i64 0, .int .i64 0, .str [], .sl 0 true []] fun v10 st =>
 qb (q_bin .add a4 (.int .i64 1)) fun v16 =>
 hFix (fun ls st X =>
  qb (q_len a3) fun v19 =>
  qb (q_bin .lss (ls.getD 1 .junk) v19) fun v20 =>
  cb v20 fun b => br b
   (qb (q_fa 0 v7) fun v23 =>
   qb (q_load st false 1 v23) fun v24 =>
   qb (q_bin .neq v24 (.int .i64 2)) fun v25 =>
   cb v25 fun b_1 => br b_1
    (qb (q_struct [.int .i64 0, .int .i64 0, .str [], .sl 0 true []] []) fun v26 =>
    callK prog n_spec_l04Run_fail [a0, (.int .i64 8), (ls.getD 0 .junk)] st (fun v29 st =>
    e_store st 4 v10 v26 fun st =>
    qb (q_load st true 4 v10) fun r => retR R (.tup [r, v29]) st) (panR R))
    (qb (q_ia 4 a3 (ls.getD 1 .junk)) fun v34 =>
    qb (q_load st true 4 v34) fun v35 =>
    qb (q_fa 3 v7) fun v36 =>
    qb (q_load st false 1 v36) fun v37 =>
    qb (q_ia 4 v37 (.int .i64 0)) fun v38 =>
    qb (q_load st true 4 v38) fun v39 =>
    callK prog n_spec_l04Run_term [a0, a1, v35, v39, (ls.getD 0 .junk)] st (fun v41 st =>
    qb (q_un .not v41) fun v42 =>
    cb v42 fun b_2 => br b_2
     (qb (q_struct [.int .i64 0, .int .i64 0, .str [], .sl 0 true []] []) fun v43 =>
     e_store st 4 v10 v43 fun st =>
     qb (q_load st true 4 v10) fun r_1 => retR R (.tup [r_1, (.bool false)]) st)
     (hJ (fun ls_1 st =>
      qb (q_bin .neq (ls_1.getD 1 .junk) (.int .i64 0)) fun v66 =>
      cb v66 fun b_3 => br b_3
       (qb (q_struct [.int .i64 0, .int .i64 0, .str [], .sl 0 true []] []) fun v67 =>
       callK prog n_spec_l04Run_fail [a0, (ls_1.getD 1 .junk), (ls.getD 0 .junk)] st (fun v71 st =>
       e_store st 4 v10 v67 fun st =>
       qb (q_load st true 4 v10) fun r_2 => retR R (.tup [r_2, v71]) st) (panR R))
       (qb (q_load st true 4 (ls_1.getD 0 .junk)) fun v72 =>
       e_store st 4 v7 v72 fun st =>
       qb (q_ia 4 a3 (ls.getD 1 .junk)) fun v76 =>
       qb (q_load st true 4 v76) fun v77 =>
       callK prog n_spec_l01Size [v77] st (fun v78 st =>
       qb (q_bin .add (ls.getD 0 .junk) v78) fun v79 =>
       qb (q_bin .add (ls.getD 1 .junk) (.int .i64 1)) fun v22 =>
       X [v79, v22] st) (panR R)))
      (fun k =>
     qb (q_nil a0) fun v46 =>
     qb (q_fa 1 v46) fun v47 =>
     qb (q_load st false 1 v47) fun v48 =>
     qb (q_ia 4 a3 (ls.getD 1 .junk)) fun v51 =>
     qb (q_load st true 4 v51) fun v52 =>
     qb (q_fa 3 v7) fun v53 =>
     qb (q_load st false 1 v53) fun v54 =>
     qb (q_ia 4 v54 (.int .i64 0)) fun v55 =>
     qb (q_load st true 4 v55) fun v56 =>
     qb (q_fa 3 v7) fun v58 =>
     qb (q_load st false 1 v58) fun v59 =>
     qb (q_ia 4 v59 (.int .i64 1)) fun v60 =>
     qb (q_load st true 4 v60) fun v61 =>
     (callK prog n_spec_l01Erase [v56] st (fun v57 st =>
     q_load st true 4 v60 = some v61 ∧ q_load st false 1 v58 = some v59 ∧ q_load st true 4 v51 = some v52 ∧ q_load st false 1 v47 = some v48 ∧ ((callK prog n_spec_l03Run_sub [v48, v52, v57, v61, (.int .i64 0)] st (fun v62 st =>
     qb (q_ex v62 0) fun v63 =>
     qb (q_ex v62 1) fun v64 =>
     e_alloc st [.int .i64 0, .int .i64 0, .str [], .sl 0 true []] fun v13 st =>
     q_load st true 4 v60 = some v61 ∧ q_load st false 1 v58 = some v59 ∧ q_load st true 4 v55 = some v56 ∧ q_load st false 1 v53 = some v54 ∧ q_load st true 4 v51 = some v52 ∧ q_load st false 1 v47 = some v48 ∧ (e_store st 4 v13 v63 fun st =>
     k [v13, v64] st)) (panR R)) ∧
     (e_alloc st [.int .i64 0, .int .i64 0, .str [], .sl 0 true []] fun v13_1 st =>
     q_load st true 4 v60 = some v61 ∧ q_load st false 1 v58 = some v59 ∧ q_load st true 4 v55 = some v56 ∧ q_load st false 1 v53 = some v54 ∧ q_load st true 4 v51 = some v52 ∧ q_load st false 1 v47 = some v48 ∧ (callK prog n_spec_l03Run_sub [v48, v52, v57, v61, (.int .i64 0)] st (fun v62_1 st =>
     qb (q_ex v62_1 0) fun v63_1 =>
     qb (q_ex v62_1 1) fun v64_1 =>
     e_store st 4 v13_1 v63_1 fun st =>
     k [v13_1, v64_1] st) (panR R))))) (panR R)) ∧
     (e_alloc st [.int .i64 0, .int .i64 0, .str [], .sl 0 true []] fun v13_2 st =>
     q_load st true 4 v60 = some v61 ∧ q_load st false 1 v58 = some v59 ∧ q_load st true 4 v55 = some v56 ∧ q_load st false 1 v53 = some v54 ∧ q_load st true 4 v51 = some v52 ∧ q_load st false 1 v47 = some v48 ∧ (callK prog n_spec_l01Erase [v56] st (fun v57_1 st =>
     q_load st true 4 v60 = some v61 ∧ q_load st false 1 v58 = some v59 ∧ q_load st true 4 v51 = some v52 ∧ q_load st false 1 v47 = some v48 ∧ (callK prog n_spec_l03Run_sub [v48, v52, v57_1, v61, (.int .i64 0)] st (fun v62_2 st =>
     qb (q_ex v62_2 0) fun v63_2 =>
     qb (q_ex v62_2 1) fun v64_2 =>
     e_store st 4 v13_2 v63_2 fun st =>
     k [v13_2, v64_2] st) (panR R))) (panR R)))))) (panR R)))
   (qb (q_load st true 4 v7) fun v80 =>
   e_store st 4 v10 v80 fun st =>
   qb (q_load st true 4 v10) fun r_3 => retR R (.tup [r_3, (.bool true)]) st))
  [v16, (.int .i64 0)] st
theorem c_spec_l04Run_spine {a0 a1 a2 a3 a4 : PV} {st : St} {R : Res → St → Prop} (h : b_spec_l04Run_spine a0 a1 a2 a3 a4 st R) : HCalls prog n_spec_l04Run_spine [a0, a1, a2, a3, a4] st R :=
 hcalls_of_func tyOK mixed (fn := Go.Proofs.Tryz.f200) (by kernel_rfl) (by kernel_rfl) (by kernel_rfl) (ann := [(12, [4, 12]), (37, [13, 14])])
  (show hFunc prog TT [(12, [4, 12]), (37, [13, 14])] Go.Proofs.Tryz.f200 [a0, a1, a2, a3, a4] st R from (show hFunc prog TT [(12, [4, 12]), (37, [13, 14])] Go.Proofs.Tryz.f200 [a0, a1, a2, a3, a4] st R = b_spec_l04Run_spine a0 a1 a2 a3 a4 st R by kernel_rfl) ▸ h)
def b_strings_CutPrefix (a0 a1 : PV) (st : St) (R : Res → St → Prop) : Prop :=
 callK prog n_internal_stringslite_CutPrefix [a0, a1] st (fun v8 st =>
 qb (q_ex v8 0) fun v9 =>
 qb (q_ex v8 1) fun v10 =>
 retR R (.tup [v9, v10]) st) (panR R)
theorem c_strings_CutPrefix {a0 a1 : PV} {st : St} {R : Res → St → Prop} (h : b_strings_CutPrefix a0 a1 st R) : HCalls prog n_strings_CutPrefix [a0, a1] st R :=
 hcalls_of_func tyOK mixed (fn := Go.Proofs.Tryz.f203) (by kernel_rfl) (by kernel_rfl) (by kernel_rfl) (ann := [])
  (show hFunc prog TT [] Go.Proofs.Tryz.f203 [a0, a1] st R from (show hFunc prog TT [] Go.Proofs.Tryz.f203 [a0, a1] st R = b_strings_CutPrefix a0 a1 st R by kernel_rfl) ▸ h)
def b_impl_over (a0 a1 : PV) (st : St) (R : Res → St → Prop) : Prop :=
 callK prog n_strings_Trim [a0, a1] st (fun v7 st =>
 qb (q_bin .eql v7 (.str [])) fun v8 =>
 retR R v8 st) (panR R)
theorem c_impl_over {a0 a1 : PV} {st : St} {R : Res → St → Prop} (h : b_impl_over a0 a1 st R) : HCalls prog n_impl_over [a0, a1] st R :=
 hcalls_of_func tyOK mixed (fn := Go.Proofs.Tryz.f204) (by kernel_rfl) (by kernel_rfl) (by kernel_rfl) (ann := [])
  (show hFunc prog TT [] Go.Proofs.Tryz.f204 [a0, a1] st R from (show hFunc prog TT [] Go.Proofs.Tryz.f204 [a0, a1] st R = b_impl_over a0 a1 st R by kernel_rfl) ▸ h)
def b_impl_fresh (st : St) (R : Res → St → Prop) : Prop :=
 qb (q_struct [.int .i64 0, .bool false] [(0, 1, (.int .i64 150))]) fun v1 =>
 e_box st v1 fun v2 st =>
 retR R v2 st
theorem c_impl_fresh {st : St} {R : Res → St → Prop} (h : b_impl_fresh  st R) : HCalls prog n_impl_fresh [] st R :=
 hcalls_of_func tyOK mixed (fn := Go.Proofs.Tryz.f205) (by kernel_rfl) (by kernel_rfl) (by kernel_rfl) (ann := [])
  (show hFunc prog TT [] Go.Proofs.Tryz.f205 [] st R from (show hFunc prog TT [] Go.Proofs.Tryz.f205 [] st R = b_impl_fresh  st R by kernel_rfl) ▸ h)
def b_impl_looker_family (a0 a1 a2 : PV) (st : St) (R : Res → St → Prop) : Prop :=
 e_box st a1 fun v4 st =>
 callK prog n_impl_looker_node [a0] st (fun v8 st =>
 qb (q_un .not v8) fun v9 =>
 cb v9 fun b => br b
  (retR R (.bool false) st)
  (qb (q_fa 0 v4) fun v10 =>
  qb (q_load st false 1 v10) fun v11 =>
  qb (q_bin .eql v11 (.int .i64 1)) fun v13 =>
  cb v13 fun b_1 => br b_1
   (cb a2 fun b_2 => br b_2
    (callK prog n_impl_Tree_bare [v4, (.int .i64 0)] st (fun v16 st =>
    retR R v16 st) (panR R))
    (retR R (.bool false) st))
   (qb (q_bin .eql v11 (.int .i64 3)) fun v19 =>
   cb v19 fun b_3 => br b_3
    (qb (q_un .not a2) fun v21 =>
    cb v21 fun b_4 => br b_4
     (qb (q_fa 1 v4) fun v23 =>
     qb (q_load st false 1 v23) fun v24 =>
     qb (q_bin .eql v24 (.int .i64 0)) fun v25 =>
     cb v25 fun b_5 => br b_5
      (qb (q_fa 2 v4) fun v28 =>
      qb (q_load st false 1 v28) fun v29 =>
      callK prog n_impl_NameOK [v29] st (fun v30 st =>
      cb v30 fun b_6 => br b_6
       (qb (q_fa 3 v4) fun v34 =>
       qb (q_load st false 1 v34) fun v35 =>
       callK prog n_impl_looker_args [a0, v35] st (fun v36 st =>
       retR R v36 st) (panR R))
       (retR R (.bool false) st)) (panR R))
      (retR R (.bool false) st))
     (retR R (.bool false) st))
    (qb (q_bin .eql v11 (.int .i64 2)) fun v39 =>
    cb v39 fun b_7 => br b_7
     (callK prog n_impl_Tree_bare [v4, (.int .i64 2)] st (fun v40 st =>
     cb v40 fun b_8 => br b_8
      (qb (q_fa 3 v4) fun v43 =>
      qb (q_load st false 1 v43) fun v44 =>
      qb (q_ia 4 v44 (.int .i64 0)) fun v45 =>
      qb (q_load st true 4 v45) fun v46 =>
      callK prog n_impl_looker_family [a0, v46, (.bool false)] st (fun v47 st =>
      cb v47 fun b_9 => br b_9
       (qb (q_fa 3 v4) fun v51 =>
       qb (q_load st false 1 v51) fun v52 =>
       qb (q_ia 4 v52 (.int .i64 1)) fun v53 =>
       qb (q_load st true 4 v53) fun v54 =>
       callK prog n_impl_looker_family [a0, v54, a2] st (fun v56 st =>
       retR R v56 st) (panR R))
       (retR R (.bool false) st)) (panR R))
      (retR R (.bool false) st)) (panR R))
     (retR R (.bool false) st))))) (panR R)
theorem c_impl_looker_family {a0 a1 a2 : PV} {st : St} {R : Res → St → Prop} (h : b_impl_looker_family a0 a1 a2 st R) : HCalls prog n_impl_looker_family [a0, a1, a2] st R :=
 hcalls_of_func tyOK mixed (fn := Go.Proofs.Tryz.f206) (by kernel_rfl) (by kernel_rfl) (by kernel_rfl) (ann := [])
  (show hFunc prog TT [] Go.Proofs.Tryz.f206 [a0, a1, a2] st R from (show hFunc prog TT [] Go.Proofs.Tryz.f206 [a0, a1, a2] st R = b_impl_looker_family a0 a1 a2 st R by kernel_rfl) ▸ h)
end Go.H.Tryz
