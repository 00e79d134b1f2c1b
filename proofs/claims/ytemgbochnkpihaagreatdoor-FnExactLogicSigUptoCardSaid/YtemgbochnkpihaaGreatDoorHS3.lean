/- Part of a proof that the program answers as the reference does: FS3. -/
import Derived.Test.YtemgbochnkpihaaGreatDoorHT
/- MADE BY PROGRAM (hgen.py): what the functions compute, over pure values. -/
set_option linter.unusedVariables false
set_option maxRecDepth 100000
namespace Go.H.Tryz
open Go Go.H
def b_impl_parser_term (a0 : PV) (st : St) (R : Res → St → Prop) : Prop :=
 e_alloc st [.int .i64 0, .int .i64 0, .str [], .sl 0 true []] fun v2 st =>
 callK prog n_impl_parser_next [a0] st (fun v7 st =>
 qb (q_bin .eql v7 (.int .i64 91)) fun v9 =>
 cb v9 fun b => br b
  (qb (q_nil a0) fun v12 =>
  qb (q_fa 1 v12) fun v13 =>
  qb (q_load st false 1 v13) fun v14 =>
  callK prog n_impl_parser_node [a0, v14] st (fun v15 st =>
  qb (q_nil a0) fun v17 =>
  qb (q_fa 1 v17) fun v18 =>
  qb (q_load st false 1 v18) fun v19 =>
  qb (q_bin .add v19 (.int .i64 1)) fun v20 =>
  qb (q_nil a0) fun v21 =>
  qb (q_fa 1 v21) fun v22 =>
  e_store st 1 v22 v20 fun st =>
  callK prog n_impl_parser_binder [a0] st (fun v24 st =>
  callK prog n_impl_parser_expect [a0, (.int .i64 93)] st (fun v26 st =>
  callK prog n_impl_parser_under [a0, v24, (.fn (.func n_impl_parser_term) [a0] [])] st (fun v31 st =>
  callK prog n_impl_lam [v31] st (fun v32 st =>
  e_store st 4 v2 v32 fun st =>
  qb (q_load st true 4 v2) fun r => retR R r st) (panR R)) (panR R)) (panR R)) (panR R)) (panR R))
  (qb (q_bin .eql v7 (.int .i64 40)) fun v34 =>
  cb v34 fun b_1 => br b_1
   (qb (q_nil a0) fun v36 =>
   qb (q_fa 1 v36) fun v37 =>
   qb (q_load st false 1 v37) fun v38 =>
   qb (q_bin .add v38 (.int .i64 1)) fun v39 =>
   qb (q_nil a0) fun v40 =>
   qb (q_fa 1 v40) fun v41 =>
   e_store st 1 v41 v39 fun st =>
   callK prog n_impl_parser_term [a0] st (fun v43 st =>
   e_alloc st [.int .i64 0, .int .i64 0, .str [], .sl 0 true []] fun v4 st =>
   e_store st 4 v4 v43 fun st =>
   callK prog n_impl_parser_expect [a0, (.int .i64 41)] st (fun v45 st =>
   qb (q_load st true 4 v4) fun v46 =>
   e_store st 4 v2 v46 fun st =>
   qb (q_load st true 4 v2) fun r_1 => retR R r_1 st) (panR R)) (panR R))
   (callK prog n_impl_parser_head [a0] st (fun v48 st =>
   e_alloc st [.int .i64 0, .int .i64 0, .str [], .sl 0 true []] fun v5 st =>
   e_store st 4 v5 v48 fun st =>
   callK prog n_impl_parser_args [a0] st (fun v50 st =>
   qb (q_fa 3 v5) fun v51 =>
   e_store st 1 v51 v50 fun st =>
   qb (q_load st true 4 v5) fun v52 =>
   e_store st 4 v2 v52 fun st =>
   qb (q_load st true 4 v2) fun r_2 => retR R r_2 st) (panR R)) (panR R)))) (panR R)
theorem c_impl_parser_term {a0 : PV} {st : St} {R : Res → St → Prop} (h : b_impl_parser_term a0 st R) : HCalls prog n_impl_parser_term [a0] st R :=
 hcalls_of_func tyOK mixed (fn := Go.Proofs.Tryz.f62) (by kernel_rfl) (by kernel_rfl) (by kernel_rfl) (ann := [])
  (show hFunc prog TT [] Go.Proofs.Tryz.f62 [a0] st R from (show hFunc prog TT [] Go.Proofs.Tryz.f62 [a0] st R = b_impl_parser_term a0 st R by kernel_rfl) ▸ h)
def b_laws_eqTreeS (a0 a1 : PV) (st : St) (R : Res → St → Prop) : Prop :=
 qb (q_len a0) fun v7 =>
 qb (q_len a1) fun v9 =>
 qb (q_bin .neq v7 v9) fun v10 =>
 cb v10 fun b => br b
  (retR R (.bool false) st)
  (hFix (fun ls st X =>
   qb (q_len a0) fun v13 =>
   qb (q_bin .lss (ls.getD 0 .junk) v13) fun v14 =>
   cb v14 fun b_1 => br b_1
    (qb (q_ia 4 a0 (ls.getD 0 .junk)) fun v19 =>
    qb (q_load st true 4 v19) fun v20 =>
    qb (q_ia 4 a1 (ls.getD 0 .junk)) fun v23 =>
    qb (q_load st true 4 v23) fun v24 =>
    callK prog n_laws_eqTree [v20, v24] st (fun v25 st =>
    qb (q_un .not v25) fun v26 =>
    cb v26 fun b_2 => br b_2
     (retR R (.bool false) st)
     (qb (q_bin .add (ls.getD 0 .junk) (.int .i64 1)) fun v16 =>
     X [v16] st)) (panR R))
    (retR R (.bool true) st))
   [(.int .i64 0)] st)
theorem c_laws_eqTreeS {a0 a1 : PV} {st : St} {R : Res → St → Prop} (h : b_laws_eqTreeS a0 a1 st R) : HCalls prog n_laws_eqTreeS [a0, a1] st R :=
 hcalls_of_func tyOK mixed (fn := Go.Proofs.Tryz.f63) (by kernel_rfl) (by kernel_rfl) (by kernel_rfl) (ann := [(16, [5])])
  (show hFunc prog TT [(16, [5])] Go.Proofs.Tryz.f63 [a0, a1] st R from (show hFunc prog TT [(16, [5])] Go.Proofs.Tryz.f63 [a0, a1] st R = b_laws_eqTreeS a0 a1 st R by kernel_rfl) ▸ h)
def b_impl_parser_family (a0 : PV) (st : St) (R : Res → St → Prop) : Prop :=
 e_alloc st [.int .i64 0, .int .i64 0, .str [], .sl 0 true []] fun v2 st =>
 callK prog n_impl_parser_next [a0] st (fun v9 st =>
 qb (q_nil a0) fun v11 =>
 qb (q_fa 1 v11) fun v12 =>
 qb (q_load st false 1 v12) fun v13 =>
 qb (q_bin .eql v9 (.int .i64 123)) fun v15 =>
 cb v15 fun b => br b
  (callK prog n_impl_parser_node [a0, v13] st (fun v18 st =>
  qb (q_nil a0) fun v20 =>
  qb (q_fa 1 v20) fun v21 =>
  qb (q_load st false 1 v21) fun v22 =>
  qb (q_bin .add v22 (.int .i64 1)) fun v23 =>
  qb (q_nil a0) fun v24 =>
  qb (q_fa 1 v24) fun v25 =>
  e_store st 1 v25 v23 fun st =>
  callK prog n_impl_parser_binder [a0] st (fun v27 st =>
  callK prog n_impl_parser_expect [a0, (.int .i64 58)] st (fun v29 st =>
  callK prog n_impl_parser_due [a0] st (fun v31 st =>
  e_alloc st [.int .i64 0, .int .i64 0, .str [], .sl 0 true []] fun v6 st =>
  e_store st 4 v6 v31 fun st =>
  callK prog n_impl_parser_expect [a0, (.int .i64 125)] st (fun v33 st =>
  qb (q_load st true 4 v6) fun v34 =>
  callK prog n_impl_parser_under [a0, v27, (.fn (.func n_impl_parser_family) [a0] [])] st (fun v39 st =>
  q_load st true 4 v6 = some v34 ∧ (callK prog n_impl_pi [v34, v39] st (fun v40 st =>
  e_store st 4 v2 v40 fun st =>
  qb (q_load st true 4 v2) fun r => retR R r st) (panR R))) (panR R)) (panR R)) (panR R)) (panR R)) (panR R)) (panR R))
  (callK prog n_impl_parser_first [a0] st (fun v42 st =>
  e_alloc st [.int .i64 0, .int .i64 0, .str [], .sl 0 true []] fun v7 st =>
  e_store st 4 v7 v42 fun st =>
  callK prog n_impl_parser_next [a0] st (fun v44 st =>
  qb (q_bin .neq v44 (.int .i64 45)) fun v45 =>
  cb v45 fun b_1 => br b_1
   (qb (q_load st true 4 v7) fun v46 =>
   e_store st 4 v2 v46 fun st =>
   qb (q_load st true 4 v2) fun r_1 => retR R r_1 st)
   (qb (q_nil a0) fun v49 =>
   qb (q_fa 1 v49) fun v50 =>
   qb (q_load st false 1 v50) fun v51 =>
   qb (q_bin .add v51 (.int .i64 1)) fun v52 =>
   callK prog n_impl_parser_byte [a0, v52] st (fun v53 st =>
   qb (q_bin .neq v53 (.int .i64 62)) fun v54 =>
   hJ (fun ls st =>
    qb (q_load st true 4 v7) fun v61 =>
    callK prog n_impl_isKind [v61] st (fun v62 st =>
    hJ (fun ls_1 st =>
     qb (q_nil a0) fun v67 =>
     qb (q_fa 1 v67) fun v68 =>
     qb (q_load st false 1 v68) fun v69 =>
     callK prog n_impl_parser_node [a0, v69] st (fun v70 st =>
     qb (q_nil a0) fun v72 =>
     qb (q_fa 1 v72) fun v73 =>
     qb (q_load st false 1 v73) fun v74 =>
     qb (q_bin .add v74 (.int .i64 2)) fun v75 =>
     qb (q_nil a0) fun v76 =>
     qb (q_fa 1 v76) fun v77 =>
     e_store st 1 v77 v75 fun st =>
     qb (q_load st true 4 v7) fun v78 =>
     callK prog n_impl_parser_family [a0] st (fun v80 st =>
     q_load st true 4 v7 = some v78 ∧ (callK prog n_impl_lift [v80, (.int .i64 0), (.int .i64 1)] st (fun v81 st =>
     q_load st true 4 v7 = some v78 ∧ (callK prog n_impl_pi [v78, v81] st (fun v82 st =>
     e_store st 4 v2 v82 fun st =>
     qb (q_load st true 4 v2) fun r_2 => retR R r_2 st) (panR R))) (panR R))) (panR R)) (panR R))
     (fun k_1 =>
    cb v62 fun b_3 => br b_3
     (callK prog n_impl_stop [(.int .i64 3), v13] st (fun v64 st =>
     k_1 [] st) (panR R))
     (k_1 [] st))) (panR R))
    (fun k =>
   cb v54 fun b_2 => br b_2
    (qb (q_nil a0) fun v56 =>
    qb (q_fa 1 v56) fun v57 =>
    qb (q_load st false 1 v57) fun v58 =>
    qb (q_bin .add v58 (.int .i64 1)) fun v59 =>
    callK prog n_impl_stop [(.int .i64 4), v59] st (fun v60 st =>
    k [] st) (panR R))
    (k [] st))) (panR R))) (panR R)) (panR R))) (panR R)
theorem c_impl_parser_family {a0 : PV} {st : St} {R : Res → St → Prop} (h : b_impl_parser_family a0 st R) : HCalls prog n_impl_parser_family [a0] st R :=
 hcalls_of_func tyOK mixed (fn := Go.Proofs.Tryz.f66) (by kernel_rfl) (by kernel_rfl) (by kernel_rfl) (ann := [(62, []), (70, [])])
  (show hFunc prog TT [(62, []), (70, [])] Go.Proofs.Tryz.f66 [a0] st R from (show hFunc prog TT [(62, []), (70, [])] Go.Proofs.Tryz.f66 [a0] st R = b_impl_parser_family a0 st R by kernel_rfl) ▸ h)
def b_spec_l01Fam (a0 a1 : PV) (st : St) (R : Res → St → Prop) : Prop :=
 e_alloc st [.int .i64 0, .int .i64 0, .str [], .sl 0 true []] fun v4 st =>
 qb (q_struct [.int .i64 0, .int .i64 0, .str [], .sl 0 true []] [(0, 1, (.int .i64 3)), (2, 1, a0), (3, 1, a1)]) fun v7 =>
 e_store st 4 v4 v7 fun st =>
 qb (q_load st true 4 v4) fun r => retR R r st
theorem c_spec_l01Fam {a0 a1 : PV} {st : St} {R : Res → St → Prop} (h : b_spec_l01Fam a0 a1 st R) : HCalls prog n_spec_l01Fam [a0, a1] st R :=
 hcalls_of_func tyOK mixed (fn := Go.Proofs.Tryz.f67) (by kernel_rfl) (by kernel_rfl) (by kernel_rfl) (ann := [])
  (show hFunc prog TT [] Go.Proofs.Tryz.f67 [a0, a1] st R from (show hFunc prog TT [] Go.Proofs.Tryz.f67 [a0, a1] st R = b_spec_l01Fam a0 a1 st R by kernel_rfl) ▸ h)
def b_spec_l01Var (a0 a1 : PV) (st : St) (R : Res → St → Prop) : Prop :=
 e_alloc st [.int .i64 0, .int .i64 0, .str [], .sl 0 true []] fun v4 st =>
 qb (q_struct [.int .i64 0, .int .i64 0, .str [], .sl 0 true []] [(0, 1, (.int .i64 5)), (1, 1, a0), (3, 1, a1)]) fun v7 =>
 e_store st 4 v4 v7 fun st =>
 qb (q_load st true 4 v4) fun r => retR R r st
theorem c_spec_l01Var {a0 a1 : PV} {st : St} {R : Res → St → Prop} (h : b_spec_l01Var a0 a1 st R) : HCalls prog n_spec_l01Var [a0, a1] st R :=
 hcalls_of_func tyOK mixed (fn := Go.Proofs.Tryz.f68) (by kernel_rfl) (by kernel_rfl) (by kernel_rfl) (ann := [])
  (show hFunc prog TT [] Go.Proofs.Tryz.f68 [a0, a1] st R from (show hFunc prog TT [] Go.Proofs.Tryz.f68 [a0, a1] st R = b_spec_l01Var a0 a1 st R by kernel_rfl) ▸ h)
def b_spec_l01Type (st : St) (R : Res → St → Prop) : Prop :=
 e_alloc st [.int .i64 0, .int .i64 0, .str [], .sl 0 true []] fun v0 st =>
 qb (q_struct [.int .i64 0, .int .i64 0, .str [], .sl 0 true []] [(0, 1, (.int .i64 1))]) fun v1 =>
 e_store st 4 v0 v1 fun st =>
 qb (q_load st true 4 v0) fun r => retR R r st
theorem c_spec_l01Type {st : St} {R : Res → St → Prop} (h : b_spec_l01Type  st R) : HCalls prog n_spec_l01Type [] st R :=
 hcalls_of_func tyOK mixed (fn := Go.Proofs.Tryz.f69) (by kernel_rfl) (by kernel_rfl) (by kernel_rfl) (ann := [])
  (show hFunc prog TT [] Go.Proofs.Tryz.f69 [] st R from (show hFunc prog TT [] Go.Proofs.Tryz.f69 [] st R = b_spec_l01Type  st R by kernel_rfl) ▸ h)
def b_spec_l00Digits (a0 : PV) (st : St) (R : Res → St → Prop) : Prop :=
 qb (q_bin .eql a0 (.int .i64 (-9223372036854775808))) fun v4 =>
 cb v4 fun b => br b
  (retR R (.str [45, 57, 50, 50, 51, 51, 55, 50, 48, 51, 54, 56, 53, 52, 55, 55, 53, 56, 48, 56]) st)
  (qb (q_bin .lss a0 (.int .i64 0)) fun v6 =>
  cb v6 fun b_1 => br b_1
   (qb (q_un .neg a0) fun v8 =>
   callK prog n_spec_l00Digits [v8] st (fun v9 st =>
   qb (q_bin .add (.str [45]) v9) fun v10 =>
   retR R v10 st) (panR R))
   (qb (q_bin .lss a0 (.int .i64 10)) fun v12 =>
   cb v12 fun b_2 => br b_2
    (qb (q_bin .add (.int .i64 48) a0) fun v14 =>
    qb (q_conv .u8 v14) fun v15 =>
    qb (q_lit 1 1 0 [] [(0, v15)]) fun v16 =>
    qb (q_bstr v16) fun v17 =>
    retR R v17 st)
    (qb (q_bin .quo a0 (.int .i64 10)) fun v19 =>
    qb (q_bin .rem a0 (.int .i64 10)) fun v22 =>
    qb (q_bin .add (.int .i64 48) v22) fun v23 =>
    qb (q_conv .u8 v23) fun v24 =>
    qb (q_lit 1 1 0 [] [(0, v24)]) fun v25 =>
    qb (q_bstr v25) fun v26 =>
    callK prog n_spec_l00Digits [v19] st (fun v20 st =>
    qb (q_bin .add v20 v26) fun v27 =>
    retR R v27 st) (panR R))))
theorem c_spec_l00Digits {a0 : PV} {st : St} {R : Res → St → Prop} (h : b_spec_l00Digits a0 st R) : HCalls prog n_spec_l00Digits [a0] st R :=
 hcalls_of_func tyOK mixed (fn := Go.Proofs.Tryz.f70) (by kernel_rfl) (by kernel_rfl) (by kernel_rfl) (ann := [])
  (show hFunc prog TT [] Go.Proofs.Tryz.f70 [a0] st R from (show hFunc prog TT [] Go.Proofs.Tryz.f70 [a0] st R = b_spec_l00Digits a0 st R by kernel_rfl) ▸ h)
def b_spec_l04Neutral (a0 a1 : PV) (st : St) (R : Res → St → Prop) : Prop :=
 e_alloc st [.int .i64 0, .int .i64 0, .str [], .sl 0 true []] fun v4 st =>
 callK prog n_spec_l01Const [a0, a1] st (fun v7 st =>
 e_store st 4 v4 v7 fun st =>
 qb (q_load st true 4 v4) fun r => retR R r st) (panR R)
theorem c_spec_l04Neutral {a0 a1 : PV} {st : St} {R : Res → St → Prop} (h : b_spec_l04Neutral a0 a1 st R) : HCalls prog n_spec_l04Neutral [a0, a1] st R :=
 hcalls_of_func tyOK mixed (fn := Go.Proofs.Tryz.f71) (by kernel_rfl) (by kernel_rfl) (by kernel_rfl) (ann := [])
  (show hFunc prog TT [] Go.Proofs.Tryz.f71 [a0, a1] st R from (show hFunc prog TT [] Go.Proofs.Tryz.f71 [a0, a1] st R = b_spec_l04Neutral a0 a1 st R by kernel_rfl) ▸ h)
def b_spec_func2 (a0 : PV) (st : St) (R : Res → St → Prop) : Prop :=
 e_alloc st [.int .i64 0, .int .i64 0, .str [], .sl 0 true []] fun v2 st =>
 callK prog n_spec_l01Fam [a0, (.sl 0 true [])] st (fun v5 st =>
 e_alloc st [.int .i64 0, .int .i64 0, .str [], .sl 0 true []] fun v3 st =>
 e_store st 4 v3 v5 fun st =>
 qb (q_load st true 4 v3) fun v6 =>
 qb (q_load st true 4 v3) fun v7 =>
 qb (q_load st true 4 v3) fun v8 =>
 callK prog n_spec_l01Pi [v7, v8] st (fun v9 st =>
 q_load st true 4 v3 = some v6 ∧ (callK prog n_spec_l01Pi [v6, v9] st (fun v10 st =>
 e_store st 4 v2 v10 fun st =>
 qb (q_load st true 4 v2) fun r => retR R r st) (panR R))) (panR R)) (panR R)
theorem c_spec_func2 {a0 : PV} {st : St} {R : Res → St → Prop} (h : b_spec_func2 a0 st R) : HCalls prog n_spec_func2 [a0] st R :=
 hcalls_of_func tyOK mixed (fn := Go.Proofs.Tryz.f73) (by kernel_rfl) (by kernel_rfl) (by kernel_rfl) (ann := [])
  (show hFunc prog TT [] Go.Proofs.Tryz.f73 [a0] st R from (show hFunc prog TT [] Go.Proofs.Tryz.f73 [a0] st R = b_spec_func2 a0 st R by kernel_rfl) ▸ h)
def b_spec_l01Pi (a0 a1 : PV) (st : St) (R : Res → St → Prop) : Prop :=
 e_box st a0 fun v2 st =>
 e_box st a1 fun v3 st =>
 e_alloc st [.int .i64 0, .int .i64 0, .str [], .sl 0 true []] fun v4 st =>
 qb (q_load st true 4 v2) fun v5 =>
 qb (q_load st true 4 v3) fun v6 =>
 qb (q_lit 4 2 0 [] [(0, v5), (1, v6)]) fun v7 =>
 qb (q_struct [.int .i64 0, .int .i64 0, .str [], .sl 0 true []] [(0, 1, (.int .i64 2)), (3, 1, v7)]) fun v8 =>
 e_store st 4 v4 v8 fun st =>
 qb (q_load st true 4 v4) fun r => retR R r st
theorem c_spec_l01Pi {a0 a1 : PV} {st : St} {R : Res → St → Prop} (h : b_spec_l01Pi a0 a1 st R) : HCalls prog n_spec_l01Pi [a0, a1] st R :=
 hcalls_of_func tyOK mixed (fn := Go.Proofs.Tryz.f74) (by kernel_rfl) (by kernel_rfl) (by kernel_rfl) (ann := [])
  (show hFunc prog TT [] Go.Proofs.Tryz.f74 [a0, a1] st R from (show hFunc prog TT [] Go.Proofs.Tryz.f74 [a0, a1] st R = b_spec_l01Pi a0 a1 st R by kernel_rfl) ▸ h)
def b_spec_l04Fam (a0 a1 : PV) (st : St) (R : Res → St → Prop) : Prop :=
 e_alloc st [.int .i64 0, .int .i64 0, .str [], .sl 0 true []] fun v4 st =>
 callK prog n_spec_l01Fam [a0, a1] st (fun v7 st =>
 e_store st 4 v4 v7 fun st =>
 qb (q_load st true 4 v4) fun r => retR R r st) (panR R)
theorem c_spec_l04Fam {a0 a1 : PV} {st : St} {R : Res → St → Prop} (h : b_spec_l04Fam a0 a1 st R) : HCalls prog n_spec_l04Fam [a0, a1] st R :=
 hcalls_of_func tyOK mixed (fn := Go.Proofs.Tryz.f75) (by kernel_rfl) (by kernel_rfl) (by kernel_rfl) (ann := [])
  (show hFunc prog TT [] Go.Proofs.Tryz.f75 [a0, a1] st R from (show hFunc prog TT [] Go.Proofs.Tryz.f75 [a0, a1] st R = b_spec_l04Fam a0 a1 st R by kernel_rfl) ▸ h)
def b_impl_builtIn (a0 : PV) (st : St) (R : Res → St → Prop) : Prop :=
 callK prog n_impl_ReadSig [a0] st (fun v9 st =>
 qb (q_ex v9 0) fun v10 =>
 qb (q_ex v9 1) fun v11 =>
 qb (q_ex v9 2) fun v12 =>
 qb (q_ex v9 3) fun v13 =>
 retR R v10 st) (panR R)
theorem c_impl_builtIn {a0 : PV} {st : St} {R : Res → St → Prop} (h : b_impl_builtIn a0 st R) : HCalls prog n_impl_builtIn [a0] st R :=
 hcalls_of_func tyOK mixed (fn := Go.Proofs.Tryz.f76) (by kernel_rfl) (by kernel_rfl) (by kernel_rfl) (ann := [])
  (show hFunc prog TT [] Go.Proofs.Tryz.f76 [a0] st R from (show hFunc prog TT [] Go.Proofs.Tryz.f76 [a0] st R = b_impl_builtIn a0 st R by kernel_rfl) ▸ h)
def b_spec_l08Pf (a0 : PV) (st : St) (R : Res → St → Prop) : Prop :=
 e_box st a0 fun v1 st =>
 e_alloc st [.int .i64 0, .int .i64 0, .str [], .sl 0 true []] fun v2 st =>
 qb (q_load st true 4 v1) fun v3 =>
 qb (q_lit 4 1 0 [] [(0, v3)]) fun v4 =>
 callK prog n_spec_l04Fam [(.str [112, 102]), v4] st (fun v5 st =>
 e_store st 4 v2 v5 fun st =>
 qb (q_load st true 4 v2) fun r => retR R r st) (panR R)
theorem c_spec_l08Pf {a0 : PV} {st : St} {R : Res → St → Prop} (h : b_spec_l08Pf a0 st R) : HCalls prog n_spec_l08Pf [a0] st R :=
 hcalls_of_func tyOK mixed (fn := Go.Proofs.Tryz.f77) (by kernel_rfl) (by kernel_rfl) (by kernel_rfl) (ann := [])
  (show hFunc prog TT [] Go.Proofs.Tryz.f77 [a0] st R from (show hFunc prog TT [] Go.Proofs.Tryz.f77 [a0] st R = b_spec_l08Pf a0 st R by kernel_rfl) ▸ h)
def b_spec_l01Const (a0 a1 : PV) (st : St) (R : Res → St → Prop) : Prop :=
 e_alloc st [.int .i64 0, .int .i64 0, .str [], .sl 0 true []] fun v4 st =>
 qb (q_struct [.int .i64 0, .int .i64 0, .str [], .sl 0 true []] [(0, 1, (.int .i64 6)), (2, 1, a0), (3, 1, a1)]) fun v7 =>
 e_store st 4 v4 v7 fun st =>
 qb (q_load st true 4 v4) fun r => retR R r st
theorem c_spec_l01Const {a0 a1 : PV} {st : St} {R : Res → St → Prop} (h : b_spec_l01Const a0 a1 st R) : HCalls prog n_spec_l01Const [a0, a1] st R :=
 hcalls_of_func tyOK mixed (fn := Go.Proofs.Tryz.f78) (by kernel_rfl) (by kernel_rfl) (by kernel_rfl) (ann := [])
  (show hFunc prog TT [] Go.Proofs.Tryz.f78 [a0, a1] st R from (show hFunc prog TT [] Go.Proofs.Tryz.f78 [a0, a1] st R = b_spec_l01Const a0 a1 st R by kernel_rfl) ▸ h)
end Go.H.Tryz
