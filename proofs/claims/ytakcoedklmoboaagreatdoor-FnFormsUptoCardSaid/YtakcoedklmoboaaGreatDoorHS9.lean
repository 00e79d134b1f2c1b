/- Part of a proof that the program answers as the reference does: ZFS9. -/
import Derived.Test.YtakcoedklmoboaaGreatDoorHT
/- MADE BY PROGRAM (hgen.py): what the functions compute, over pure values. -/
set_option linter.unusedVariables false
set_option maxRecDepth 100000
namespace Go.H.Tryz
open Go Go.H
def b_impl_parsed (a0 a1 a2 : PV) (st : St) (R : Res → St → Prop) : Prop :=
 e_box st a0 fun v3 st =>
 e_box st a1 fun v4 st =>
 e_box st a2 fun v5 st =>
 e_alloc st [.int .i64 0, .int .i64 0, .str [], .sl 0 true []] fun v6 st =>
 qb (q_load st false 1 v3) fun v12 =>
 callK prog n_impl_longText [v12] st (fun v13 st =>
 cb v13 fun b => br b
  (qb (q_struct [.int .i64 0, .int .i64 0, .str [], .sl 0 true []] []) fun v14 =>
  e_store st 4 v6 v14 fun st =>
  qb (q_load st true 4 v6) fun r => retR R (.tup [r, (.int .i64 2), (.int .i64 0)]) st)
  (qb (q_load st false 1 v4) fun v16 =>
  callK prog n_impl_in [v16, (.int .i64 0), (.int .i64 100)] st (fun v17 st =>
  qb (q_un .not v17) fun v18 =>
  cb v18 fun b_1 => br b_1
   (qb (q_struct [.int .i64 0, .int .i64 0, .str [], .sl 0 true []] []) fun v19 =>
   e_store st 4 v6 v19 fun st =>
   qb (q_load st true 4 v6) fun r_1 => retR R (.tup [r_1, (.int .i64 16), (.int .i64 0)]) st)
   (qb (q_struct [.int .i64 0, .int .i64 0, .str [], .sl 0 true []] []) fun v20 =>
   e_alloc st [.int .i64 0, .int .i64 0, .str [], .sl 0 true []] fun v9 st =>
   e_store st 4 v9 v20 fun st =>
   callK prog n_impl_caught [(.fn (.func n_impl_parsed_1) [] [v3, v4, v5, v9])] st (fun v22 st =>
   e_alloc st [.int .i64 0, .int .i64 0] fun v10 st =>
   e_store st 2 v10 v22 fun st =>
   qb (q_fa 0 v10) fun v23 =>
   qb (q_load st false 1 v23) fun v24 =>
   qb (q_bin .neq v24 (.int .i64 0)) fun v25 =>
   cb v25 fun b_2 => br b_2
    (qb (q_struct [.int .i64 0, .int .i64 0, .str [], .sl 0 true []] []) fun v26 =>
    qb (q_fa 0 v10) fun v27 =>
    qb (q_load st false 1 v27) fun v28 =>
    qb (q_fa 1 v10) fun v29 =>
    qb (q_load st false 1 v29) fun v30 =>
    e_store st 4 v6 v26 fun st =>
    q_load st false 1 v29 = some v30 ∧ q_load st false 1 v27 = some v28 ∧ (qb (q_load st true 4 v6) fun r_2 => retR R (.tup [r_2, v28, v30]) st))
    (qb (q_load st true 4 v9) fun v31 =>
    callK prog n_impl_clone [v31] st (fun v32 st =>
    e_store st 4 v6 v32 fun st =>
    qb (q_load st true 4 v6) fun r_3 => retR R (.tup [r_3, (.int .i64 0), (.int .i64 0)]) st) (panR R))) (panR R))) (panR R))) (panR R)
theorem c_impl_parsed {a0 a1 a2 : PV} {st : St} {R : Res → St → Prop} (h : b_impl_parsed a0 a1 a2 st R) : HCalls prog n_impl_parsed [a0, a1, a2] st R :=
 hcalls_of_func tyOK mixed (fn := Go.Proofs.Tryz.f187) (by kernel_rfl) (by kernel_rfl) (by kernel_rfl) (ann := [])
  (show hFunc prog TT [] Go.Proofs.Tryz.f187 [a0, a1, a2] st R from (show hFunc prog TT [] Go.Proofs.Tryz.f187 [a0, a1, a2] st R = b_impl_parsed a0 a1 a2 st R by kernel_rfl) ▸ h)
def b_impl_parser_family (a0 : PV) (st : St) (R : Res → St → Prop) : Prop :=
 e_alloc st [.int .i64 0, .int .i64 0, .str [], .sl 0 true []] fun v2 st =>
 callK prog n_impl_parser_next [a0] st (fun v9 st =>
 qb (q_nil a0) fun v11 =>
 qb (q_fa 1 v11) fun v12 =>
 qb (q_load st false 1 v12) fun v13 =>
 qb (q_bin .eql v9 (.int .i64 123)) fun v15 =>
 cb v15 fun b => br b
  (callK prog n_impl_parser_node [a0, v13] st (fun v18 st =>
  qb (q_nil a0) fun v20 =>
  qb (q_fa 1 v20) fun v21 =>
  qb (q_load st false 1 v21) fun v22 =>
  qb (q_bin .add v22 (.int .i64 1)) fun v23 =>
  qb (q_nil a0) fun v24 =>
  qb (q_fa 1 v24) fun v25 =>
  e_store st 1 v25 v23 fun st =>
  callK prog n_impl_parser_binder [a0] st (fun v27 st =>
  callK prog n_impl_parser_expect [a0, (.int .i64 58)] st (fun v29 st =>
  callK prog n_impl_parser_due [a0] st (fun v31 st =>
  e_alloc st [.int .i64 0, .int .i64 0, .str [], .sl 0 true []] fun v6 st =>
  e_store st 4 v6 v31 fun st =>
  callK prog n_impl_parser_expect [a0, (.int .i64 125)] st (fun v33 st =>
  qb (q_load st true 4 v6) fun v34 =>
  callK prog n_impl_parser_under [a0, v27, (.fn (.func n_impl_parser_family) [a0] [])] st (fun v39 st =>
  q_load st true 4 v6 = some v34 ∧ (callK prog n_impl_pi [v34, v39] st (fun v40 st =>
  e_store st 4 v2 v40 fun st =>
  qb (q_load st true 4 v2) fun r => retR R r st) (panR R))) (panR R)) (panR R)) (panR R)) (panR R)) (panR R)) (panR R))
  (callK prog n_impl_parser_first [a0] st (fun v42 st =>
  e_alloc st [.int .i64 0, .int .i64 0, .str [], .sl 0 true []] fun v7 st =>
  e_store st 4 v7 v42 fun st =>
  callK prog n_impl_parser_next [a0] st (fun v44 st =>
  qb (q_bin .neq v44 (.int .i64 45)) fun v45 =>
  cb v45 fun b_1 => br b_1
   (qb (q_load st true 4 v7) fun v46 =>
   e_store st 4 v2 v46 fun st =>
   qb (q_load st true 4 v2) fun r_1 => retR R r_1 st)
   (qb (q_nil a0) fun v49 =>
   qb (q_fa 1 v49) fun v50 =>
   qb (q_load st false 1 v50) fun v51 =>
   qb (q_bin .add v51 (.int .i64 1)) fun v52 =>
   callK prog n_impl_parser_byte [a0, v52] st (fun v53 st =>
   qb (q_bin .neq v53 (.int .i64 62)) fun v54 =>
   hJ (fun ls st =>
    qb (q_load st true 4 v7) fun v61 =>
    callK prog n_impl_isKind [v61] st (fun v62 st =>
    hJ (fun ls_1 st =>
     qb (q_nil a0) fun v67 =>
     qb (q_fa 1 v67) fun v68 =>
     qb (q_load st false 1 v68) fun v69 =>
     callK prog n_impl_parser_node [a0, v69] st (fun v70 st =>
     qb (q_nil a0) fun v72 =>
     qb (q_fa 1 v72) fun v73 =>
     qb (q_load st false 1 v73) fun v74 =>
     qb (q_bin .add v74 (.int .i64 2)) fun v75 =>
     qb (q_nil a0) fun v76 =>
     qb (q_fa 1 v76) fun v77 =>
     e_store st 1 v77 v75 fun st =>
     qb (q_load st true 4 v7) fun v78 =>
     callK prog n_impl_parser_family [a0] st (fun v80 st =>
     q_load st true 4 v7 = some v78 ∧ (callK prog n_impl_lift [v80, (.int .i64 0), (.int .i64 1)] st (fun v81 st =>
     q_load st true 4 v7 = some v78 ∧ (callK prog n_impl_pi [v78, v81] st (fun v82 st =>
     e_store st 4 v2 v82 fun st =>
     qb (q_load st true 4 v2) fun r_2 => retR R r_2 st) (panR R))) (panR R))) (panR R)) (panR R))
     (fun k_1 =>
    cb v62 fun b_3 => br b_3
     (callK prog n_impl_stop [(.int .i64 3), v13] st (fun v64 st =>
     k_1 [] st) (panR R))
     (k_1 [] st))) (panR R))
    (fun k =>
   cb v54 fun b_2 => br b_2
    (qb (q_nil a0) fun v56 =>
    qb (q_fa 1 v56) fun v57 =>
    qb (q_load st false 1 v57) fun v58 =>
    qb (q_bin .add v58 (.int .i64 1)) fun v59 =>
    callK prog n_impl_stop [(.int .i64 4), v59] st (fun v60 st =>
    k [] st) (panR R))
    (k [] st))) (panR R))) (panR R)) (panR R))) (panR R)
theorem c_impl_parser_family {a0 : PV} {st : St} {R : Res → St → Prop} (h : b_impl_parser_family a0 st R) : HCalls prog n_impl_parser_family [a0] st R :=
 hcalls_of_func tyOK mixed (fn := Go.Proofs.Tryz.f188) (by kernel_rfl) (by kernel_rfl) (by kernel_rfl) (ann := [(62, []), (70, [])])
  (show hFunc prog TT [(62, []), (70, [])] Go.Proofs.Tryz.f188 [a0] st R from (show hFunc prog TT [(62, []), (70, [])] Go.Proofs.Tryz.f188 [a0] st R = b_impl_parser_family a0 st R by kernel_rfl) ▸ h)
def b_impl_parsed_1 (a0 a1 a2 a3 : PV) (st : St) (R : Res → St → Prop) : Prop :=
 qb (q_load st false 1 a0) fun v5 =>
 qb (q_load st false 1 a1) fun v6 =>
 callK prog n_impl_parserOf [v5, v6] st (fun v7 st =>
 qb (q_load st false 1 a2) fun v8 =>
 e_call prog st v8 [v7] (fun v10 st =>
 e_store st 4 a3 v10 fun st =>
 qb (q_load st true 4 a3) fun v12 =>
 qb (q_lit 4 1 0 [] [(0, v12)]) fun v13 =>
 callK prog n_impl_parser_end [v7, v13] st (fun v14 st =>
 retR R (.tup []) st) (panR R)) (panR R)) (panR R)
theorem c_impl_parsed_1 {a0 a1 a2 a3 : PV} {st : St} {R : Res → St → Prop} (h : b_impl_parsed_1 a0 a1 a2 a3 st R) : HCalls prog n_impl_parsed_1 [a0, a1, a2, a3] st R :=
 hcalls_of_func tyOK mixed (fn := Go.Proofs.Tryz.f193) (by kernel_rfl) (by kernel_rfl) (by kernel_rfl) (ann := [])
  (show hFunc prog TT [] Go.Proofs.Tryz.f193 [a0, a1, a2, a3] st R from (show hFunc prog TT [] Go.Proofs.Tryz.f193 [a0, a1, a2, a3] st R = b_impl_parsed_1 a0 a1 a2 a3 st R by kernel_rfl) ▸ h)
def b_impl_parserOf (a0 a1 : PV) (st : St) (R : Res → St → Prop) : Prop :=
 qb (q_struct [.str [], .int .i64 0, .sl 0 true [], .int .i64 0, .bool false] [(0, 1, a0)]) fun v8 =>
 e_box st v8 fun v9 st =>
 hFix (fun ls st X =>
  qb (q_bin .lss (ls.getD 0 .junk) a1) fun v12 =>
  cb v12 fun b => br b
   (qb (q_nil v9) fun v16 =>
   qb (q_fa 2 v16) fun v17 =>
   qb (q_load st false 1 v17) fun v18 =>
   callK prog n_impl_binderName [(ls.getD 0 .junk)] st (fun v20 st =>
   q_load st false 1 v17 = some v18 ∧ (qb (q_lit 1 1 0 [] [(0, v20)]) fun v21 =>
   e_append st 1 16 v18 v21 (fun v22 st =>
   qb (q_nil v9) fun v23 =>
   qb (q_fa 2 v23) fun v24 =>
   e_store st 1 v24 v22 fun st =>
   qb (q_bin .add (ls.getD 0 .junk) (.int .i64 1)) fun v25 =>
   X [v25] st))) (panR R))
   (retR R v9 st))
  [(.int .i64 0)] st
theorem c_impl_parserOf {a0 a1 : PV} {st : St} {R : Res → St → Prop} (h : b_impl_parserOf a0 a1 st R) : HCalls prog n_impl_parserOf [a0, a1] st R :=
 hcalls_of_func tyOK mixed (fn := Go.Proofs.Tryz.f194) (by kernel_rfl) (by kernel_rfl) (by kernel_rfl) (ann := [(12, [11])])
  (show hFunc prog TT [(12, [11])] Go.Proofs.Tryz.f194 [a0, a1] st R from (show hFunc prog TT [(12, [11])] Go.Proofs.Tryz.f194 [a0, a1] st R = b_impl_parserOf a0 a1 st R by kernel_rfl) ▸ h)
def b_impl_parser_end (a0 a1 : PV) (st : St) (R : Res → St → Prop) : Prop :=
 callK prog n_impl_parser_next [a0] st (fun v7 st =>
 qb (q_bin .neq v7 (.int .i64 (-1))) fun v8 =>
 hJ (fun ls st =>
  qb (q_len a1) fun v15 =>
  hFix (fun ls_1 st X =>
   qb (q_bin .lss (ls_1.getD 0 .junk) v15) fun v17 =>
   cb v17 fun b_1 => br b_1
    (qb (q_ia 4 a1 (ls_1.getD 0 .junk)) fun v18 =>
    qb (q_load st true 4 v18) fun v19 =>
    e_alloc st [.int .i64 0, .int .i64 0, .str [], .sl 0 true []] fun v5 st =>
    e_store st 4 v5 v19 fun st =>
    callK prog n_impl_Tree_each [v5, (.int .i64 0), (.fn (.func n_impl_parser_end_1) [] [])] st (fun v20 st =>
    cb v20 fun b_2 => br b_2
     (callK prog n_impl_stop [(.int .i64 11), (.int .i64 0)] st (fun v21 st =>
     qb (q_bin .add (ls_1.getD 0 .junk) (.int .i64 1)) fun v22 =>
     X [v22] st) (panR R))
     (qb (q_bin .add (ls_1.getD 0 .junk) (.int .i64 1)) fun v22_1 =>
     X [v22_1] st)) (panR R))
    (retR R (.tup []) st))
   [(.int .i64 0)] st)
  (fun k =>
 cb v8 fun b => br b
  (qb (q_nil a0) fun v10 =>
  qb (q_fa 1 v10) fun v11 =>
  qb (q_load st false 1 v11) fun v12 =>
  callK prog n_impl_stop [(.int .i64 4), v12] st (fun v13 st =>
  k [] st) (panR R))
  (k [] st))) (panR R)
theorem c_impl_parser_end {a0 a1 : PV} {st : St} {R : Res → St → Prop} (h : b_impl_parser_end a0 a1 st R) : HCalls prog n_impl_parser_end [a0, a1] st R :=
 hcalls_of_func tyOK mixed (fn := Go.Proofs.Tryz.f195) (by kernel_rfl) (by kernel_rfl) (by kernel_rfl) (ann := [(12, [16]), (6, [])])
  (show hFunc prog TT [(12, [16]), (6, [])] Go.Proofs.Tryz.f195 [a0, a1] st R from (show hFunc prog TT [(12, [16]), (6, [])] Go.Proofs.Tryz.f195 [a0, a1] st R = b_impl_parser_end a0 a1 st R by kernel_rfl) ▸ h)
def b_impl_parser_next (a0 : PV) (st : St) (R : Res → St → Prop) : Prop :=
 hJ (fun ls st =>
  qb (q_nil a0) fun v35 =>
  qb (q_fa 1 v35) fun v36 =>
  qb (q_load st false 1 v36) fun v37 =>
  callK prog n_impl_parser_byte [a0, v37] st (fun v38 st =>
  retR R v38 st) (panR R))
  (fun k =>
 hFix (fun ls_1 st X =>
  hJ (fun ls_2 st =>
   cb (ls_2.getD 0 .junk) fun b => br b
    (qb (q_nil a0) fun v27 =>
    qb (q_fa 1 v27) fun v28 =>
    qb (q_load st false 1 v28) fun v29 =>
    qb (q_bin .add v29 (.int .i64 1)) fun v30 =>
    qb (q_nil a0) fun v31 =>
    qb (q_fa 1 v31) fun v32 =>
    e_store st 1 v32 v30 fun st =>
    X [] st)
    (k [] st))
   (fun k_1 =>
  qb (q_nil a0) fun v4 =>
  qb (q_fa 1 v4) fun v5 =>
  qb (q_load st false 1 v5) fun v6 =>
  qb (q_nil a0) fun v8 =>
  qb (q_fa 0 v8) fun v9 =>
  qb (q_load st false 1 v9) fun v10 =>
  qb (q_lenS v10) fun v11 =>
  qb (q_bin .lss v6 v11) fun v12 =>
  cb v12 fun b_1 => br b_1
   (qb (q_nil a0) fun v15 =>
   qb (q_fa 0 v15) fun v16 =>
   qb (q_load st false 1 v16) fun v17 =>
   qb (q_nil a0) fun v19 =>
   qb (q_fa 1 v19) fun v20 =>
   qb (q_load st false 1 v20) fun v21 =>
   qb (q_ix v17 v21) fun v22 =>
   callK prog n_strings_IndexByte [(.str [32, 9, 10, 13]), v22] st (fun v23 st =>
   qb (q_bin .geq v23 (.int .i64 0)) fun v24 =>
   k_1 [v24] st) (panR R))
   (k_1 [(.bool false)] st)))
  [] st)
theorem c_impl_parser_next {a0 : PV} {st : St} {R : Res → St → Prop} (h : b_impl_parser_next a0 st R) : HCalls prog n_impl_parser_next [a0] st R :=
 hcalls_of_func tyOK mixed (fn := Go.Proofs.Tryz.f196) (by kernel_rfl) (by kernel_rfl) (by kernel_rfl) (ann := [(4, []), (3, []), (5, [25])])
  (show hFunc prog TT [(4, []), (3, []), (5, [25])] Go.Proofs.Tryz.f196 [a0] st R from (show hFunc prog TT [(4, []), (3, []), (5, [25])] Go.Proofs.Tryz.f196 [a0] st R = b_impl_parser_next a0 st R by kernel_rfl) ▸ h)
def b_impl_parser_node (a0 a1 : PV) (st : St) (R : Res → St → Prop) : Prop :=
 qb (q_nil a0) fun v5 =>
 qb (q_fa 3 v5) fun v6 =>
 qb (q_load st false 1 v6) fun v7 =>
 qb (q_bin .add v7 (.int .i64 1)) fun v8 =>
 qb (q_nil a0) fun v9 =>
 qb (q_fa 3 v9) fun v10 =>
 e_store st 1 v10 v8 fun st =>
 qb (q_nil a0) fun v12 =>
 qb (q_fa 3 v12) fun v13 =>
 qb (q_load st false 1 v13) fun v14 =>
 qb (q_bin .gtr v14 (.int .i64 150)) fun v15 =>
 cb v15 fun b => br b
  (callK prog n_impl_stop [(.int .i64 11), a1] st (fun v17 st =>
  retR R (.tup []) st) (panR R))
  (retR R (.tup []) st)
theorem c_impl_parser_node {a0 a1 : PV} {st : St} {R : Res → St → Prop} (h : b_impl_parser_node a0 a1 st R) : HCalls prog n_impl_parser_node [a0, a1] st R :=
 hcalls_of_func tyOK mixed (fn := Go.Proofs.Tryz.f197) (by kernel_rfl) (by kernel_rfl) (by kernel_rfl) (ann := [])
  (show hFunc prog TT [] Go.Proofs.Tryz.f197 [a0, a1] st R from (show hFunc prog TT [] Go.Proofs.Tryz.f197 [a0, a1] st R = b_impl_parser_node a0 a1 st R by kernel_rfl) ▸ h)
def b_impl_parser_binder (a0 : PV) (st : St) (R : Res → St → Prop) : Prop :=
 callK prog n_impl_parser_next [a0] st (fun v7 st =>
 qb (q_nil a0) fun v9 =>
 qb (q_fa 1 v9) fun v10 =>
 qb (q_load st false 1 v10) fun v11 =>
 hJ (fun ls st =>
  cb (ls.getD 0 .junk) fun b => br b
   (callK prog n_impl_stop [(.int .i64 4), v11] st (fun v21 st =>
   callK prog n_impl_parser_run [a0, (.str [97, 98, 99, 100, 101, 102, 103, 104, 105, 106, 107, 108, 109, 110, 111, 112, 113, 114, 115, 116, 117, 118, 119, 120, 121, 122, 65, 66, 67, 68, 69, 70, 71, 72, 73, 74, 75, 76, 77, 78, 79, 80, 81, 82, 83, 84, 85, 86, 87, 88, 89, 90, 95, 48, 49, 50, 51, 52, 53, 54, 55, 56, 57])] st (fun v23 st =>
   callK prog n_impl_wordOK [v23] st (fun v25 st =>
   qb (q_un .not v25) fun v26 =>
   cb v26 fun b_1 => br b_1
    (callK prog n_impl_stop [(.int .i64 4), v11] st (fun v36 st =>
    retR R v23 st) (panR R))
    (qb (q_bin .eql v23 (.str [116, 121, 112, 101])) fun v29 =>
    cb v29 fun b_2 => br b_2
     (callK prog n_impl_stop [(.int .i64 4), v11] st (fun v36_1 st =>
     retR R v23 st) (panR R))
     (qb (q_bin .eql v23 (.str [95])) fun v33 =>
     cb v33 fun b_3 => br b_3
      (callK prog n_impl_stop [(.int .i64 4), v11] st (fun v36_2 st =>
      retR R v23 st) (panR R))
      (retR R v23 st)))) (panR R)) (panR R)) (panR R))
   (callK prog n_impl_parser_run [a0, (.str [97, 98, 99, 100, 101, 102, 103, 104, 105, 106, 107, 108, 109, 110, 111, 112, 113, 114, 115, 116, 117, 118, 119, 120, 121, 122, 65, 66, 67, 68, 69, 70, 71, 72, 73, 74, 75, 76, 77, 78, 79, 80, 81, 82, 83, 84, 85, 86, 87, 88, 89, 90, 95, 48, 49, 50, 51, 52, 53, 54, 55, 56, 57])] st (fun v23_1 st =>
   callK prog n_impl_wordOK [v23_1] st (fun v25_1 st =>
   qb (q_un .not v25_1) fun v26_1 =>
   cb v26_1 fun b_4 => br b_4
    (callK prog n_impl_stop [(.int .i64 4), v11] st (fun v36_3 st =>
    retR R v23_1 st) (panR R))
    (qb (q_bin .eql v23_1 (.str [116, 121, 112, 101])) fun v29_1 =>
    cb v29_1 fun b_5 => br b_5
     (callK prog n_impl_stop [(.int .i64 4), v11] st (fun v36_4 st =>
     retR R v23_1 st) (panR R))
     (qb (q_bin .eql v23_1 (.str [95])) fun v33_1 =>
     cb v33_1 fun b_6 => br b_6
      (callK prog n_impl_stop [(.int .i64 4), v11] st (fun v36_5 st =>
      retR R v23_1 st) (panR R))
      (retR R v23_1 st)))) (panR R)) (panR R)))
  (fun k =>
 qb (q_bin .eql v7 (.int .i64 (-1))) fun v13 =>
 cb v13 fun b_7 => br b_7
  (k [(.bool true)] st)
  (qb (q_conv .u8 v7) fun v16 =>
  callK prog n_impl_isHead [v16] st (fun v17 st =>
  qb (q_un .not v17) fun v18 =>
  k [v18] st) (panR R)))) (panR R)
theorem c_impl_parser_binder {a0 : PV} {st : St} {R : Res → St → Prop} (h : b_impl_parser_binder a0 st R) : HCalls prog n_impl_parser_binder [a0] st R :=
 hcalls_of_func tyOK mixed (fn := Go.Proofs.Tryz.f198) (by kernel_rfl) (by kernel_rfl) (by kernel_rfl) (ann := [(13, [19])])
  (show hFunc prog TT [(13, [19])] Go.Proofs.Tryz.f198 [a0] st R from (show hFunc prog TT [(13, [19])] Go.Proofs.Tryz.f198 [a0] st R = b_impl_parser_binder a0 st R by kernel_rfl) ▸ h)
def b_impl_parser_expect (a0 a1 : PV) (st : St) (R : Res → St → Prop) : Prop :=
 callK prog n_impl_parser_next [a0] st (fun v5 st =>
 qb (q_bin .neq v5 a1) fun v7 =>
 hJ (fun ls st =>
  qb (q_nil a0) fun v14 =>
  qb (q_fa 1 v14) fun v15 =>
  qb (q_load st false 1 v15) fun v16 =>
  qb (q_bin .add v16 (.int .i64 1)) fun v17 =>
  qb (q_nil a0) fun v18 =>
  qb (q_fa 1 v18) fun v19 =>
  e_store st 1 v19 v17 fun st =>
  retR R (.tup []) st)
  (fun k =>
 cb v7 fun b => br b
  (qb (q_nil a0) fun v9 =>
  qb (q_fa 1 v9) fun v10 =>
  qb (q_load st false 1 v10) fun v11 =>
  callK prog n_impl_stop [(.int .i64 4), v11] st (fun v12 st =>
  k [] st) (panR R))
  (k [] st))) (panR R)
theorem c_impl_parser_expect {a0 a1 : PV} {st : St} {R : Res → St → Prop} (h : b_impl_parser_expect a0 a1 st R) : HCalls prog n_impl_parser_expect [a0, a1] st R :=
 hcalls_of_func tyOK mixed (fn := Go.Proofs.Tryz.f199) (by kernel_rfl) (by kernel_rfl) (by kernel_rfl) (ann := [(6, [])])
  (show hFunc prog TT [(6, [])] Go.Proofs.Tryz.f199 [a0, a1] st R from (show hFunc prog TT [(6, [])] Go.Proofs.Tryz.f199 [a0, a1] st R = b_impl_parser_expect a0 a1 st R by kernel_rfl) ▸ h)
def b_impl_parser_due (a0 : PV) (st : St) (R : Res → St → Prop) : Prop :=
 e_alloc st [.int .i64 0, .int .i64 0, .str [], .sl 0 true []] fun v2 st =>
 callK prog n_impl_parser_next [a0] st (fun v6 st =>
 qb (q_nil a0) fun v8 =>
 qb (q_fa 1 v8) fun v9 =>
 qb (q_load st false 1 v9) fun v10 =>
 callK prog n_impl_parser_family [a0] st (fun v12 st =>
 e_alloc st [.int .i64 0, .int .i64 0, .str [], .sl 0 true []] fun v4 st =>
 e_store st 4 v4 v12 fun st =>
 qb (q_load st true 4 v4) fun v13 =>
 callK prog n_impl_isKind [v13] st (fun v14 st =>
 cb v14 fun b => br b
  (callK prog n_impl_stop [(.int .i64 3), v10] st (fun v16 st =>
  qb (q_load st true 4 v4) fun v17 =>
  e_store st 4 v2 v17 fun st =>
  qb (q_load st true 4 v2) fun r => retR R r st) (panR R))
  (qb (q_load st true 4 v4) fun v17_1 =>
  e_store st 4 v2 v17_1 fun st =>
  qb (q_load st true 4 v2) fun r_1 => retR R r_1 st)) (panR R)) (panR R)) (panR R)
theorem c_impl_parser_due {a0 : PV} {st : St} {R : Res → St → Prop} (h : b_impl_parser_due a0 st R) : HCalls prog n_impl_parser_due [a0] st R :=
 hcalls_of_func tyOK mixed (fn := Go.Proofs.Tryz.f200) (by kernel_rfl) (by kernel_rfl) (by kernel_rfl) (ann := [])
  (show hFunc prog TT [] Go.Proofs.Tryz.f200 [a0] st R from (show hFunc prog TT [] Go.Proofs.Tryz.f200 [a0] st R = b_impl_parser_due a0 st R by kernel_rfl) ▸ h)
def b_impl_pi (a0 a1 : PV) (st : St) (R : Res → St → Prop) : Prop :=
 e_box st a0 fun v2 st =>
 e_box st a1 fun v3 st =>
 e_alloc st [.int .i64 0, .int .i64 0, .str [], .sl 0 true []] fun v4 st =>
 qb (q_load st true 4 v2) fun v5 =>
 qb (q_load st true 4 v3) fun v6 =>
 qb (q_lit 4 2 0 [] [(0, v5), (1, v6)]) fun v7 =>
 qb (q_struct [.int .i64 0, .int .i64 0, .str [], .sl 0 true []] [(0, 1, (.int .i64 2)), (3, 1, v7)]) fun v8 =>
 e_store st 4 v4 v8 fun st =>
 qb (q_load st true 4 v4) fun r => retR R r st
theorem c_impl_pi {a0 a1 : PV} {st : St} {R : Res → St → Prop} (h : b_impl_pi a0 a1 st R) : HCalls prog n_impl_pi [a0, a1] st R :=
 hcalls_of_func tyOK mixed (fn := Go.Proofs.Tryz.f201) (by kernel_rfl) (by kernel_rfl) (by kernel_rfl) (ann := [])
  (show hFunc prog TT [] Go.Proofs.Tryz.f201 [a0, a1] st R from (show hFunc prog TT [] Go.Proofs.Tryz.f201 [a0, a1] st R = b_impl_pi a0 a1 st R by kernel_rfl) ▸ h)
def b_impl_parser_under (a0 a1 a2 : PV) (st : St) (R : Res → St → Prop) : Prop :=
 e_alloc st [.int .i64 0, .int .i64 0, .str [], .sl 0 true []] fun v6 st =>
 qb (q_nil a0) fun v10 =>
 qb (q_fa 2 v10) fun v11 =>
 qb (q_load st false 1 v11) fun v12 =>
 qb (q_lit 1 1 0 [] [(0, a1)]) fun v14 =>
 e_append st 1 16 v12 v14 (fun v15 st =>
 qb (q_nil a0) fun v16 =>
 qb (q_fa 2 v16) fun v17 =>
 e_store st 1 v17 v15 fun st =>
 e_call prog st a2 [] (fun v19 st =>
 e_alloc st [.int .i64 0, .int .i64 0, .str [], .sl 0 true []] fun v7 st =>
 e_store st 4 v7 v19 fun st =>
 qb (q_nil a0) fun v22 =>
 qb (q_fa 2 v22) fun v23 =>
 qb (q_load st false 1 v23) fun v24 =>
 qb (q_nil a0) fun v26 =>
 qb (q_fa 2 v26) fun v27 =>
 qb (q_load st false 1 v27) fun v28 =>
 qb (q_len v28) fun v29 =>
 qb (q_bin .sub v29 (.int .i64 1)) fun v30 =>
 qb (q_sliceE 1 v24 none (some v30) none) fun v31 =>
 qb (q_nil a0) fun v32 =>
 qb (q_fa 2 v32) fun v33 =>
 e_store st 1 v33 v31 fun st =>
 qb (q_load st true 4 v7) fun v34 =>
 e_store st 4 v6 v34 fun st =>
 qb (q_load st true 4 v6) fun r => retR R r st) (panR R))
theorem c_impl_parser_under {a0 a1 a2 : PV} {st : St} {R : Res → St → Prop} (h : b_impl_parser_under a0 a1 a2 st R) : HCalls prog n_impl_parser_under [a0, a1, a2] st R :=
 hcalls_of_func tyOK mixed (fn := Go.Proofs.Tryz.f202) (by kernel_rfl) (by kernel_rfl) (by kernel_rfl) (ann := [])
  (show hFunc prog TT [] Go.Proofs.Tryz.f202 [a0, a1, a2] st R from (show hFunc prog TT [] Go.Proofs.Tryz.f202 [a0, a1, a2] st R = b_impl_parser_under a0 a1 a2 st R by kernel_rfl) ▸ h)
def b_impl_parser_first (a0 : PV) (st : St) (R : Res → St → Prop) : Prop :=
 e_alloc st [.int .i64 0, .int .i64 0, .str [], .sl 0 true []] fun v2 st =>
 callK prog n_impl_parser_next [a0] st (fun v8 st =>
 qb (q_nil a0) fun v10 =>
 qb (q_fa 1 v10) fun v11 =>
 qb (q_load st false 1 v11) fun v12 =>
 hJ (fun ls st =>
  callK prog n_impl_parser_run [a0, (.str [97, 98, 99, 100, 101, 102, 103, 104, 105, 106, 107, 108, 109, 110, 111, 112, 113, 114, 115, 116, 117, 118, 119, 120, 121, 122, 65, 66, 67, 68, 69, 70, 71, 72, 73, 74, 75, 76, 77, 78, 79, 80, 81, 82, 83, 84, 85, 86, 87, 88, 89, 90, 95, 48, 49, 50, 51, 52, 53, 54, 55, 56, 57])] st (fun v40 st =>
  hJ (fun ls_1 st =>
   callK prog n_impl_parser_node [a0, v12] st (fun v60 st =>
   callK prog n_impl_NameOK [v40] st (fun v62 st =>
   qb (q_un .not v62) fun v63 =>
   hJ (fun ls_2 st =>
    callK prog n_impl_parser_args [a0] st (fun v68 st =>
    qb (q_struct [.int .i64 0, .int .i64 0, .str [], .sl 0 true []] [(0, 1, (.int .i64 3)), (2, 1, v40), (3, 1, v68)]) fun v69 =>
    e_store st 4 v2 v69 fun st =>
    qb (q_load st true 4 v2) fun r => retR R r st) (panR R))
    (fun k_2 =>
   cb v63 fun b => br b
    (callK prog n_impl_stop [(.int .i64 5), v12] st (fun v65 st =>
    k_2 [] st) (panR R))
    (k_2 [] st))) (panR R)) (panR R))
   (fun k_1 =>
  qb (q_bin .eql v40 (.str [116, 121, 112, 101])) fun v43 =>
  cb v43 fun b_1 => br b_1
   (callK prog n_impl_parser_node [a0, v12] st (fun v46 st =>
   qb (q_struct [.int .i64 0, .int .i64 0, .str [], .sl 0 true []] [(0, 1, (.int .i64 1))]) fun v47 =>
   e_store st 4 v2 v47 fun st =>
   qb (q_load st true 4 v2) fun r_1 => retR R r_1 st) (panR R))
   (qb (q_bin .eql v40 (.str [95])) fun v50 =>
   cb v50 fun b_2 => br b_2
    (callK prog n_impl_stop [(.int .i64 4), v12] st (fun v57 st =>
    k_1 [] st) (panR R))
    (qb (q_lenS v40) fun v53 =>
    qb (q_bin .gtr v53 (.int .i64 40)) fun v54 =>
    cb v54 fun b_3 => br b_3
     (callK prog n_impl_stop [(.int .i64 4), v12] st (fun v57_1 st =>
     k_1 [] st) (panR R))
     (k_1 [] st))))) (panR R))
  (fun k =>
 qb (q_bin .eql v8 (.int .i64 40)) fun v15 =>
 cb v15 fun b_4 => br b_4
  (qb (q_nil a0) fun v17 =>
  qb (q_fa 1 v17) fun v18 =>
  qb (q_load st false 1 v18) fun v19 =>
  qb (q_bin .add v19 (.int .i64 1)) fun v20 =>
  qb (q_nil a0) fun v21 =>
  qb (q_fa 1 v21) fun v22 =>
  e_store st 1 v22 v20 fun st =>
  callK prog n_impl_parser_family [a0] st (fun v24 st =>
  e_alloc st [.int .i64 0, .int .i64 0, .str [], .sl 0 true []] fun v5 st =>
  e_store st 4 v5 v24 fun st =>
  callK prog n_impl_parser_expect [a0, (.int .i64 41)] st (fun v26 st =>
  qb (q_load st true 4 v5) fun v27 =>
  e_store st 4 v2 v27 fun st =>
  qb (q_load st true 4 v2) fun r_2 => retR R r_2 st) (panR R)) (panR R))
  (qb (q_bin .eql v8 (.int .i64 (-1))) fun v30 =>
  cb v30 fun b_5 => br b_5
   (callK prog n_impl_stop [(.int .i64 4), v12] st (fun v38 st =>
   k [] st) (panR R))
   (qb (q_conv .u8 v8) fun v33 =>
   callK prog n_impl_isHead [v33] st (fun v34 st =>
   qb (q_un .not v34) fun v35 =>
   cb v35 fun b_6 => br b_6
    (callK prog n_impl_stop [(.int .i64 4), v12] st (fun v38_1 st =>
    k [] st) (panR R))
    (k [] st)) (panR R))))) (panR R)
theorem c_impl_parser_first {a0 : PV} {st : St} {R : Res → St → Prop} (h : b_impl_parser_first a0 st R) : HCalls prog n_impl_parser_first [a0] st R :=
 hcalls_of_func tyOK mixed (fn := Go.Proofs.Tryz.f203) (by kernel_rfl) (by kernel_rfl) (by kernel_rfl) (ann := [(3, []), (7, []), (74, [])])
  (show hFunc prog TT [(3, []), (7, []), (74, [])] Go.Proofs.Tryz.f203 [a0] st R from (show hFunc prog TT [(3, []), (7, []), (74, [])] Go.Proofs.Tryz.f203 [a0] st R = b_impl_parser_first a0 st R by kernel_rfl) ▸ h)
def b_impl_parser_byte (a0 a1 : PV) (st : St) (R : Res → St → Prop) : Prop :=
 qb (q_nil a0) fun v7 =>
 qb (q_fa 0 v7) fun v8 =>
 qb (q_load st false 1 v8) fun v9 =>
 qb (q_lenS v9) fun v10 =>
 qb (q_bin .geq a1 v10) fun v11 =>
 cb v11 fun b => br b
  (retR R (.int .i64 (-1)) st)
  (qb (q_nil a0) fun v13 =>
  qb (q_fa 0 v13) fun v14 =>
  qb (q_load st false 1 v14) fun v15 =>
  qb (q_ix v15 a1) fun v17 =>
  qb (q_conv .i64 v17) fun v18 =>
  retR R v18 st)
theorem c_impl_parser_byte {a0 a1 : PV} {st : St} {R : Res → St → Prop} (h : b_impl_parser_byte a0 a1 st R) : HCalls prog n_impl_parser_byte [a0, a1] st R :=
 hcalls_of_func tyOK mixed (fn := Go.Proofs.Tryz.f204) (by kernel_rfl) (by kernel_rfl) (by kernel_rfl) (ann := [])
  (show hFunc prog TT [] Go.Proofs.Tryz.f204 [a0, a1] st R from (show hFunc prog TT [] Go.Proofs.Tryz.f204 [a0, a1] st R = b_impl_parser_byte a0 a1 st R by kernel_rfl) ▸ h)
end Go.H.Tryz
