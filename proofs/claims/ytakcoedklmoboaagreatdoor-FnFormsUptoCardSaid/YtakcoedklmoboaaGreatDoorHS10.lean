/- Part of a proof that the program answers as the reference does: ZFS10. -/
import Derived.Test.YtakcoedklmoboaaGreatDoorHT
/- MADE BY PROGRAM (hgen.py): what the functions compute, over pure values. -/
set_option linter.unusedVariables false
set_option maxRecDepth 100000
namespace Go.H.Tryz
open Go Go.H
def b_impl_parser_end_1 (a0 a1 : PV) (st : St) (R : Res → St → Prop) : Prop :=
 qb (q_nil a0) fun v6 =>
 qb (q_fa 0 v6) fun v7 =>
 qb (q_load st false 1 v7) fun v8 =>
 qb (q_bin .eql v8 (.int .i64 5)) fun v9 =>
 cb v9 fun b => br b
  (qb (q_nil a0) fun v12 =>
  qb (q_fa 1 v12) fun v13 =>
  qb (q_load st false 1 v13) fun v14 =>
  qb (q_bin .gtr v14 (.int .i64 100)) fun v15 =>
  retR R v15 st)
  (retR R (.bool false) st)
theorem c_impl_parser_end_1 {a0 a1 : PV} {st : St} {R : Res → St → Prop} (h : b_impl_parser_end_1 a0 a1 st R) : HCalls prog n_impl_parser_end_1 [a0, a1] st R :=
 hcalls_of_func tyOK mixed (fn := Go.Proofs.Tryz.f209) (by kernel_rfl) (by kernel_rfl) (by kernel_rfl) (ann := [])
  (show hFunc prog TT [] Go.Proofs.Tryz.f209 [a0, a1] st R from (show hFunc prog TT [] Go.Proofs.Tryz.f209 [a0, a1] st R = b_impl_parser_end_1 a0 a1 st R by kernel_rfl) ▸ h)
def b_impl_parser_run (a0 a1 : PV) (st : St) (R : Res → St → Prop) : Prop :=
 qb (q_nil a0) fun v7 =>
 qb (q_fa 1 v7) fun v8 =>
 qb (q_load st false 1 v8) fun v9 =>
 hJ (fun ls st =>
  qb (q_nil a0) fun v42 =>
  qb (q_fa 0 v42) fun v43 =>
  qb (q_load st false 1 v43) fun v44 =>
  qb (q_nil a0) fun v47 =>
  qb (q_fa 1 v47) fun v48 =>
  qb (q_load st false 1 v48) fun v49 =>
  qb (q_sliceS v44 (some v9) (some v49) none) fun v50 =>
  retR R v50 st)
  (fun k =>
 hFix (fun ls_1 st X =>
  hJ (fun ls_2 st =>
   cb (ls_2.getD 0 .junk) fun b => br b
    (qb (q_nil a0) fun v35 =>
    qb (q_fa 1 v35) fun v36 =>
    qb (q_load st false 1 v36) fun v37 =>
    qb (q_bin .add v37 (.int .i64 1)) fun v38 =>
    qb (q_nil a0) fun v39 =>
    qb (q_fa 1 v39) fun v40 =>
    e_store st 1 v40 v38 fun st =>
    X [] st)
    (k [] st))
   (fun k_1 =>
  qb (q_nil a0) fun v11 =>
  qb (q_fa 1 v11) fun v12 =>
  qb (q_load st false 1 v12) fun v13 =>
  qb (q_nil a0) fun v15 =>
  qb (q_fa 0 v15) fun v16 =>
  qb (q_load st false 1 v16) fun v17 =>
  qb (q_lenS v17) fun v18 =>
  qb (q_bin .lss v13 v18) fun v19 =>
  cb v19 fun b_1 => br b_1
   (qb (q_nil a0) fun v23 =>
   qb (q_fa 0 v23) fun v24 =>
   qb (q_load st false 1 v24) fun v25 =>
   qb (q_nil a0) fun v27 =>
   qb (q_fa 1 v27) fun v28 =>
   qb (q_load st false 1 v28) fun v29 =>
   qb (q_ix v25 v29) fun v30 =>
   callK prog n_strings_IndexByte [a1, v30] st (fun v31 st =>
   qb (q_bin .geq v31 (.int .i64 0)) fun v32 =>
   k_1 [v32] st) (panR R))
   (k_1 [(.bool false)] st)))
  [] st)
theorem c_impl_parser_run {a0 a1 : PV} {st : St} {R : Res → St → Prop} (h : b_impl_parser_run a0 a1 st R) : HCalls prog n_impl_parser_run [a0, a1] st R :=
 hcalls_of_func tyOK mixed (fn := Go.Proofs.Tryz.f210) (by kernel_rfl) (by kernel_rfl) (by kernel_rfl) (ann := [(8, []), (3, []), (9, [33])])
  (show hFunc prog TT [(8, []), (3, []), (9, [33])] Go.Proofs.Tryz.f210 [a0, a1] st R from (show hFunc prog TT [(8, []), (3, []), (9, [33])] Go.Proofs.Tryz.f210 [a0, a1] st R = b_impl_parser_run a0 a1 st R by kernel_rfl) ▸ h)
def b_impl_parser_args (a0 : PV) (st : St) (R : Res → St → Prop) : Prop :=
 qb (q_lit 4 0 0 [] []) fun v5 =>
 hFix (fun ls st X =>
  callK prog n_impl_parser_next [a0] st (fun v7 st =>
  qb (q_bin .eql v7 (.int .i64 40)) fun v11 =>
  cb v11 fun b => br b
   (qb (q_nil a0) fun v13 =>
   qb (q_fa 1 v13) fun v14 =>
   qb (q_load st false 1 v14) fun v15 =>
   qb (q_bin .add v15 (.int .i64 1)) fun v16 =>
   qb (q_nil a0) fun v17 =>
   qb (q_fa 1 v17) fun v18 =>
   e_store st 1 v18 v16 fun st =>
   callK prog n_impl_parser_term [a0] st (fun v21 st =>
   qb (q_lit 4 1 0 [] [(0, v21)]) fun v22 =>
   e_append st 4 56 (ls.getD 0 .junk) v22 (fun v23 st =>
   callK prog n_impl_parser_expect [a0, (.int .i64 41)] st (fun v25 st =>
   X [v23] st) (panR R))) (panR R))
   (hJ (fun ls_1 st =>
    cb (ls_1.getD 0 .junk) fun b_1 => br b_1
     (callK prog n_impl_parser_argument [a0] st (fun v40 st =>
     qb (q_lit 4 1 0 [] [(0, v40)]) fun v41 =>
     e_append st 4 56 (ls.getD 0 .junk) v41 (fun v42 st =>
     X [v42] st)) (panR R))
     (retR R (ls.getD 0 .junk) st))
    (fun k =>
   qb (q_bin .eql v7 (.int .i64 63)) fun v28 =>
   cb v28 fun b_2 => br b_2
    (k [(.bool true)] st)
    (qb (q_bin .neq v7 (.int .i64 (-1))) fun v31 =>
    cb v31 fun b_3 => br b_3
     (qb (q_conv .u8 v7) fun v34 =>
     callK prog n_impl_isHead [v34] st (fun v35 st =>
     k [v35] st) (panR R))
     (k [(.bool false)] st))))) (panR R))
  [v5] st
theorem c_impl_parser_args {a0 : PV} {st : St} {R : Res → St → Prop} (h : b_impl_parser_args a0 st R) : HCalls prog n_impl_parser_args [a0] st R :=
 hcalls_of_func tyOK mixed (fn := Go.Proofs.Tryz.f211) (by kernel_rfl) (by kernel_rfl) (by kernel_rfl) (ann := [(8, [3]), (33, [26])])
  (show hFunc prog TT [(8, [3]), (33, [26])] Go.Proofs.Tryz.f211 [a0] st R from (show hFunc prog TT [(8, [3]), (33, [26])] Go.Proofs.Tryz.f211 [a0] st R = b_impl_parser_args a0 st R by kernel_rfl) ▸ h)
def b_impl_parser_term (a0 : PV) (st : St) (R : Res → St → Prop) : Prop :=
 e_alloc st [.int .i64 0, .int .i64 0, .str [], .sl 0 true []] fun v2 st =>
 callK prog n_impl_parser_next [a0] st (fun v7 st =>
 qb (q_bin .eql v7 (.int .i64 91)) fun v9 =>
 cb v9 fun b => br b
  (qb (q_nil a0) fun v12 =>
  qb (q_fa 1 v12) fun v13 =>
  qb (q_load st false 1 v13) fun v14 =>
  callK prog n_impl_parser_node [a0, v14] st (fun v15 st =>
  qb (q_nil a0) fun v17 =>
  qb (q_fa 1 v17) fun v18 =>
  qb (q_load st false 1 v18) fun v19 =>
  qb (q_bin .add v19 (.int .i64 1)) fun v20 =>
  qb (q_nil a0) fun v21 =>
  qb (q_fa 1 v21) fun v22 =>
  e_store st 1 v22 v20 fun st =>
  callK prog n_impl_parser_binder [a0] st (fun v24 st =>
  callK prog n_impl_parser_expect [a0, (.int .i64 93)] st (fun v26 st =>
  callK prog n_impl_parser_under [a0, v24, (.fn (.func n_impl_parser_term) [a0] [])] st (fun v31 st =>
  callK prog n_impl_lam [v31] st (fun v32 st =>
  e_store st 4 v2 v32 fun st =>
  qb (q_load st true 4 v2) fun r => retR R r st) (panR R)) (panR R)) (panR R)) (panR R)) (panR R))
  (qb (q_bin .eql v7 (.int .i64 40)) fun v34 =>
  cb v34 fun b_1 => br b_1
   (qb (q_nil a0) fun v36 =>
   qb (q_fa 1 v36) fun v37 =>
   qb (q_load st false 1 v37) fun v38 =>
   qb (q_bin .add v38 (.int .i64 1)) fun v39 =>
   qb (q_nil a0) fun v40 =>
   qb (q_fa 1 v40) fun v41 =>
   e_store st 1 v41 v39 fun st =>
   callK prog n_impl_parser_term [a0] st (fun v43 st =>
   e_alloc st [.int .i64 0, .int .i64 0, .str [], .sl 0 true []] fun v4 st =>
   e_store st 4 v4 v43 fun st =>
   callK prog n_impl_parser_expect [a0, (.int .i64 41)] st (fun v45 st =>
   qb (q_load st true 4 v4) fun v46 =>
   e_store st 4 v2 v46 fun st =>
   qb (q_load st true 4 v2) fun r_1 => retR R r_1 st) (panR R)) (panR R))
   (callK prog n_impl_parser_head [a0] st (fun v48 st =>
   e_alloc st [.int .i64 0, .int .i64 0, .str [], .sl 0 true []] fun v5 st =>
   e_store st 4 v5 v48 fun st =>
   callK prog n_impl_parser_args [a0] st (fun v50 st =>
   qb (q_fa 3 v5) fun v51 =>
   e_store st 1 v51 v50 fun st =>
   qb (q_load st true 4 v5) fun v52 =>
   e_store st 4 v2 v52 fun st =>
   qb (q_load st true 4 v2) fun r_2 => retR R r_2 st) (panR R)) (panR R)))) (panR R)
theorem c_impl_parser_term {a0 : PV} {st : St} {R : Res → St → Prop} (h : b_impl_parser_term a0 st R) : HCalls prog n_impl_parser_term [a0] st R :=
 hcalls_of_func tyOK mixed (fn := Go.Proofs.Tryz.f216) (by kernel_rfl) (by kernel_rfl) (by kernel_rfl) (ann := [])
  (show hFunc prog TT [] Go.Proofs.Tryz.f216 [a0] st R from (show hFunc prog TT [] Go.Proofs.Tryz.f216 [a0] st R = b_impl_parser_term a0 st R by kernel_rfl) ▸ h)
def b_impl_parser_argument (a0 : PV) (st : St) (R : Res → St → Prop) : Prop :=
 e_alloc st [.int .i64 0, .int .i64 0, .str [], .sl 0 true []] fun v2 st =>
 qb (q_nil a0) fun v5 =>
 qb (q_fa 1 v5) fun v6 =>
 qb (q_load st false 1 v6) fun v7 =>
 hJ (fun ls st =>
  cb (ls.getD 0 .junk) fun b => br b
   (callK prog n_impl_parser_node [a0, v7] st (fun v19 st =>
   qb (q_struct [.int .i64 0, .int .i64 0, .str [], .sl 0 true []] [(0, 1, (.int .i64 8))]) fun v20 =>
   e_store st 4 v2 v20 fun st =>
   qb (q_load st true 4 v2) fun r => retR R r st) (panR R))
   (qb (q_nil a0) fun v23 =>
   qb (q_fa 1 v23) fun v24 =>
   e_store st 1 v24 v7 fun st =>
   callK prog n_impl_parser_head [a0] st (fun v26 st =>
   e_store st 4 v2 v26 fun st =>
   qb (q_load st true 4 v2) fun r_1 => retR R r_1 st) (panR R)))
  (fun k =>
 qb (q_nil a0) fun v9 =>
 qb (q_fa 4 v9) fun v10 =>
 qb (q_load st false 1 v10) fun v11 =>
 cb v11 fun b_1 => br b_1
  (callK prog n_impl_parser_run [a0, (.str [97, 98, 99, 100, 101, 102, 103, 104, 105, 106, 107, 108, 109, 110, 111, 112, 113, 114, 115, 116, 117, 118, 119, 120, 121, 122, 65, 66, 67, 68, 69, 70, 71, 72, 73, 74, 75, 76, 77, 78, 79, 80, 81, 82, 83, 84, 85, 86, 87, 88, 89, 90, 95, 48, 49, 50, 51, 52, 53, 54, 55, 56, 57])] st (fun v14 st =>
  qb (q_bin .eql v14 (.str [95])) fun v15 =>
  k [v15] st) (panR R))
  (k [(.bool false)] st))
theorem c_impl_parser_argument {a0 : PV} {st : St} {R : Res → St → Prop} (h : b_impl_parser_argument a0 st R) : HCalls prog n_impl_parser_argument [a0] st R :=
 hcalls_of_func tyOK mixed (fn := Go.Proofs.Tryz.f217) (by kernel_rfl) (by kernel_rfl) (by kernel_rfl) (ann := [(9, [16])])
  (show hFunc prog TT [(9, [16])] Go.Proofs.Tryz.f217 [a0] st R from (show hFunc prog TT [(9, [16])] Go.Proofs.Tryz.f217 [a0] st R = b_impl_parser_argument a0 st R by kernel_rfl) ▸ h)
def b_impl_parser_head (a0 : PV) (st : St) (R : Res → St → Prop) : Prop :=
 e_alloc st [.int .i64 0, .int .i64 0, .str [], .sl 0 true []] fun v2 st =>
 callK prog n_impl_parser_next [a0] st (fun v8 st =>
 qb (q_nil a0) fun v10 =>
 qb (q_fa 1 v10) fun v11 =>
 qb (q_load st false 1 v11) fun v12 =>
 hJ (fun ls st =>
  callK prog n_impl_parser_run [a0, (.str [97, 98, 99, 100, 101, 102, 103, 104, 105, 106, 107, 108, 109, 110, 111, 112, 113, 114, 115, 116, 117, 118, 119, 120, 121, 122, 65, 66, 67, 68, 69, 70, 71, 72, 73, 74, 75, 76, 77, 78, 79, 80, 81, 82, 83, 84, 85, 86, 87, 88, 89, 90, 95, 48, 49, 50, 51, 52, 53, 54, 55, 56, 57])] st (fun v30 st =>
  hJ (fun ls_1 st =>
   cb (ls_1.getD 0 .junk) fun b => br b
    (callK prog n_impl_stop [(.int .i64 4), v12] st (fun v43 st =>
    callK prog n_impl_parser_node [a0, v12] st (fun v46 st =>
    callK prog n_impl_parser_bound [a0, v30] st (fun v49 st =>
    hJ (fun ls_2 st =>
     hJ (fun ls_3 st =>
      qb (q_bin .geq v49 (.int .i64 0)) fun v60 =>
      cb v60 fun b_2 => br b_2
       (callK prog n_impl_variable [v49, (.sl 0 true [])] st (fun v62 st =>
       e_store st 4 v2 v62 fun st =>
       qb (q_load st true 4 v2) fun r => retR R r st) (panR R))
       (callK prog n_impl_constant [v30, (.sl 0 true [])] st (fun v64 st =>
       e_store st 4 v2 v64 fun st =>
       qb (q_load st true 4 v2) fun r_1 => retR R r_1 st) (panR R)))
      (fun k_3 =>
     cb (ls_2.getD 0 .junk) fun b_1 => br b_1
      (callK prog n_impl_stop [(.int .i64 5), v12] st (fun v58 st =>
      k_3 [] st) (panR R))
      (k_3 [] st)))
     (fun k_2 =>
    qb (q_bin .lss v49 (.int .i64 0)) fun v51 =>
    cb v51 fun b_3 => br b_3
     (callK prog n_impl_NameOK [v30] st (fun v54 st =>
     qb (q_un .not v54) fun v55 =>
     k_2 [v55] st) (panR R))
     (k_2 [(.bool false)] st))) (panR R)) (panR R)) (panR R))
    (callK prog n_impl_parser_node [a0, v12] st (fun v46_1 st =>
    callK prog n_impl_parser_bound [a0, v30] st (fun v49_1 st =>
    hJ (fun ls_4 st =>
     hJ (fun ls_5 st =>
      qb (q_bin .geq v49_1 (.int .i64 0)) fun v60_1 =>
      cb v60_1 fun b_5 => br b_5
       (callK prog n_impl_variable [v49_1, (.sl 0 true [])] st (fun v62_1 st =>
       e_store st 4 v2 v62_1 fun st =>
       qb (q_load st true 4 v2) fun r_2 => retR R r_2 st) (panR R))
       (callK prog n_impl_constant [v30, (.sl 0 true [])] st (fun v64_1 st =>
       e_store st 4 v2 v64_1 fun st =>
       qb (q_load st true 4 v2) fun r_3 => retR R r_3 st) (panR R)))
      (fun k_5 =>
     cb (ls_4.getD 0 .junk) fun b_4 => br b_4
      (callK prog n_impl_stop [(.int .i64 5), v12] st (fun v58_1 st =>
      k_5 [] st) (panR R))
      (k_5 [] st)))
     (fun k_4 =>
    qb (q_bin .lss v49_1 (.int .i64 0)) fun v51_1 =>
    cb v51_1 fun b_6 => br b_6
     (callK prog n_impl_NameOK [v30] st (fun v54_1 st =>
     qb (q_un .not v54_1) fun v55_1 =>
     k_4 [v55_1] st) (panR R))
     (k_4 [(.bool false)] st))) (panR R)) (panR R)))
   (fun k_1 =>
  qb (q_bin .eql v30 (.str [116, 121, 112, 101])) fun v32 =>
  cb v32 fun b_7 => br b_7
   (k_1 [(.bool true)] st)
   (qb (q_bin .eql v30 (.str [95])) fun v35 =>
   cb v35 fun b_8 => br b_8
    (k_1 [(.bool true)] st)
    (qb (q_lenS v30) fun v39 =>
    qb (q_bin .gtr v39 (.int .i64 40)) fun v40 =>
    k_1 [v40] st)))) (panR R))
  (fun k =>
 qb (q_bin .eql v8 (.int .i64 63)) fun v15 =>
 cb v15 fun b_9 => br b_9
  (callK prog n_impl_parser_hole [a0] st (fun v17 st =>
  e_store st 4 v2 v17 fun st =>
  qb (q_load st true 4 v2) fun r_4 => retR R r_4 st) (panR R))
  (qb (q_bin .eql v8 (.int .i64 (-1))) fun v20 =>
  cb v20 fun b_10 => br b_10
   (callK prog n_impl_stop [(.int .i64 4), v12] st (fun v28 st =>
   k [] st) (panR R))
   (qb (q_conv .u8 v8) fun v23 =>
   callK prog n_impl_isHead [v23] st (fun v24 st =>
   qb (q_un .not v24) fun v25 =>
   cb v25 fun b_11 => br b_11
    (callK prog n_impl_stop [(.int .i64 4), v12] st (fun v28_1 st =>
    k [] st) (panR R))
    (k [] st)) (panR R))))) (panR R)
theorem c_impl_parser_head {a0 : PV} {st : St} {R : Res → St → Prop} (h : b_impl_parser_head a0 st R) : HCalls prog n_impl_parser_head [a0] st R :=
 hcalls_of_func tyOK mixed (fn := Go.Proofs.Tryz.f219) (by kernel_rfl) (by kernel_rfl) (by kernel_rfl) (ann := [(3, []), (33, [41]), (49, [56]), (54, [])])
  (show hFunc prog TT [(3, []), (33, [41]), (49, [56]), (54, [])] Go.Proofs.Tryz.f219 [a0] st R from (show hFunc prog TT [(3, []), (33, [41]), (49, [56]), (54, [])] Go.Proofs.Tryz.f219 [a0] st R = b_impl_parser_head a0 st R by kernel_rfl) ▸ h)
def b_impl_parser_bound (a0 a1 : PV) (st : St) (R : Res → St → Prop) : Prop :=
 e_box st a0 fun v2 st =>
 e_box st a1 fun v3 st =>
 e_alloc st [.int .i64 0] fun v4 st =>
 qb (q_load st false 1 v2) fun v7 =>
 qb (q_nil v7) fun v8 =>
 qb (q_fa 2 v8) fun v9 =>
 qb (q_load st false 1 v9) fun v10 =>
 callK prog n_slices_Backward_string_string [v10] st (fun v11 st =>
 hRange prog v11 st (fun ar st B X => if ar.length = 2 then
  B st fun st =>
  qb (q_load st false 1 v3) fun v15 =>
  qb (q_bin .eql (ar.getD 1 .junk) v15) fun v16 =>
  cb v16 fun b => br b
   (qb (q_load st false 1 v2) fun v17 =>
   qb (q_nil v17) fun v18 =>
   qb (q_fa 2 v18) fun v19 =>
   qb (q_load st false 1 v19) fun v20 =>
   qb (q_len v20) fun v21 =>
   qb (q_bin .sub v21 (.int .i64 1)) fun v22 =>
   qb (q_bin .sub v22 (ar.getD 0 .junk)) fun v24 =>
   e_store st 1 v4 v24 fun st =>
   X .ret st)
   (X .normal st)
  else False)
  (fun st =>
  e_store st 1 v4 (.int .i64 (-1)) fun st =>
  qb (q_load st false 1 v4) fun r => retR R r st)
  [(.ret, fun st =>
  qb (q_load st false 1 v4) fun r_1 => retR R r_1 st)]) (panR R)
theorem c_impl_parser_bound {a0 a1 : PV} {st : St} {R : Res → St → Prop} (h : b_impl_parser_bound a0 a1 st R) : HCalls prog n_impl_parser_bound [a0, a1] st R :=
 hcalls_of_func tyOK mixed (fn := Go.Proofs.Tryz.f222) (by kernel_rfl) (by kernel_rfl) (by kernel_rfl) (ann := [])
  (show hFunc prog TT [] Go.Proofs.Tryz.f222 [a0, a1] st R from (show hFunc prog TT [] Go.Proofs.Tryz.f222 [a0, a1] st R = b_impl_parser_bound a0 a1 st R by kernel_rfl) ▸ h)
def b_slices_Backward_string_string (a0 : PV) (st : St) (R : Res → St → Prop) : Prop :=
 e_box st a0 fun v1 st =>
 retR R (.fn (.func n_slices_Backward_string_string_1) [] [v1]) st
theorem c_slices_Backward_string_string {a0 : PV} {st : St} {R : Res → St → Prop} (h : b_slices_Backward_string_string a0 st R) : HCalls prog n_slices_Backward_string_string [a0] st R :=
 hcalls_of_func tyOK mixed (fn := Go.Proofs.Tryz.f228) (by kernel_rfl) (by kernel_rfl) (by kernel_rfl) (ann := [])
  (show hFunc prog TT [] Go.Proofs.Tryz.f228 [a0] st R from (show hFunc prog TT [] Go.Proofs.Tryz.f228 [a0] st R = b_slices_Backward_string_string a0 st R by kernel_rfl) ▸ h)
end Go.H.Tryz
