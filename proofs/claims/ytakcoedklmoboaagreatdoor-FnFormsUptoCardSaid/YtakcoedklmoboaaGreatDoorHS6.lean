/- Part of a proof that the program answers as the reference does: ZFS6. -/
import Derived.Test.YtakcoedklmoboaaGreatDoorHT
/- MADE BY PROGRAM (hgen.py): what the functions compute, over pure values. -/
set_option linter.unusedVariables false
set_option maxRecDepth 100000
namespace Go.H.Tryz
open Go Go.H
def b_slices_Clip_impl_Tree_impl_Tree (a0 : PV) (st : St) (R : Res → St → Prop) : Prop :=
 qb (q_len a0) fun v5 =>
 qb (q_len a0) fun v7 =>
 qb (q_sliceE 4 a0 none (some v5) (some v7)) fun v8 =>
 retR R v8 st
theorem c_slices_Clip_impl_Tree_impl_Tree {a0 : PV} {st : St} {R : Res → St → Prop} (h : b_slices_Clip_impl_Tree_impl_Tree a0 st R) : HCalls prog n_slices_Clip_impl_Tree_impl_Tree [a0] st R :=
 hcalls_of_func tyOK mixed (fn := Go.Proofs.Tryz.f124) (by kernel_rfl) (by kernel_rfl) (by kernel_rfl) (ann := [])
  (show hFunc prog TT [] Go.Proofs.Tryz.f124 [a0] st R from (show hFunc prog TT [] Go.Proofs.Tryz.f124 [a0] st R = b_slices_Clip_impl_Tree_impl_Tree a0 st R by kernel_rfl) ▸ h)
def b_impl_checker_args (a0 a1 a2 a3 a4 : PV) (st : St) (R : Res → St → Prop) : Prop :=
 e_box st a3 fun v8 st =>
 e_alloc st [.int .i64 0, .int .i64 0, .str [], .sl 0 true []] fun v10 st =>
 qb (q_len a2) fun v14 =>
 hFix (fun ls st X =>
  qb (q_bin .lss (ls.getD 1 .junk) v14) fun v16 =>
  cb v16 fun b => br b
   (qb (q_ia 4 a2 (ls.getD 1 .junk)) fun v17 =>
   qb (q_load st true 4 v17) fun v18 =>
   e_alloc st [.int .i64 0, .int .i64 0, .str [], .sl 0 true []] fun v12 st =>
   e_store st 4 v12 v18 fun st =>
   qb (q_fa 0 v8) fun v19 =>
   qb (q_load st false 1 v19) fun v20 =>
   qb (q_bin .neq v20 (.int .i64 2)) fun v21 =>
   hJ (fun ls_1 st =>
    qb (q_load st true 4 v12) fun v26 =>
    qb (q_fa 3 v8) fun v27 =>
    qb (q_load st false 1 v27) fun v28 =>
    qb (q_ia 4 v28 (.int .i64 0)) fun v29 =>
    qb (q_load st true 4 v29) fun v30 =>
    callK prog n_impl_checker_term [a0, a1, v26, v30, (ls.getD 0 .junk)] st (fun v32 st =>
    qb (q_load st true 4 v12) fun v34 =>
    qb (q_load st true 4 v8) fun v35 =>
    callK prog n_impl_checker_left [a0, v34, v35, (ls.getD 0 .junk)] st (fun v37 st =>
    e_store st 4 v8 v37 fun st =>
    qb (q_load st true 4 v12) fun v39 =>
    callK prog n_impl_Size [v39] st (fun v40 st =>
    qb (q_bin .add (ls.getD 0 .junk) v40) fun v41 =>
    qb (q_bin .add (ls.getD 1 .junk) (.int .i64 1)) fun v42 =>
    X [v41, v42] st) (panR R)) (panR R)) (panR R))
    (fun k =>
   cb v21 fun b_1 => br b_1
    (callK prog n_impl_stop [(.int .i64 8), (ls.getD 0 .junk)] st (fun v23 st =>
    k [] st) (panR R))
    (k [] st)))
   (qb (q_load st true 4 v8) fun v43 =>
   e_store st 4 v10 v43 fun st =>
   qb (q_load st true 4 v10) fun r => retR R r st))
  [a4, (.int .i64 0)] st
theorem c_impl_checker_args {a0 a1 a2 a3 a4 : PV} {st : St} {R : Res → St → Prop} (h : b_impl_checker_args a0 a1 a2 a3 a4 st R) : HCalls prog n_impl_checker_args [a0, a1, a2, a3, a4] st R :=
 hcalls_of_func tyOK mixed (fn := Go.Proofs.Tryz.f125) (by kernel_rfl) (by kernel_rfl) (by kernel_rfl) (ann := [(8, [4, 15]), (22, [])])
  (show hFunc prog TT [(8, [4, 15]), (22, [])] Go.Proofs.Tryz.f125 [a0, a1, a2, a3, a4] st R from (show hFunc prog TT [(8, [4, 15]), (22, [])] Go.Proofs.Tryz.f125 [a0, a1, a2, a3, a4] st R = b_impl_checker_args a0 a1 a2 a3 a4 st R by kernel_rfl) ▸ h)
def b_impl_checker_head (a0 a1 a2 a3 : PV) (st : St) (R : Res → St → Prop) : Prop :=
 e_box st a2 fun v6 st =>
 e_alloc st [.int .i64 0, .int .i64 0, .str [], .sl 0 true []] fun v8 st =>
 qb (q_fa 0 v6) fun v12 =>
 qb (q_load st false 1 v12) fun v13 =>
 qb (q_bin .eql v13 (.int .i64 5)) fun v15 =>
 cb v15 fun b => br b
  (qb (q_fa 1 v6) fun v16 =>
  qb (q_load st false 1 v16) fun v17 =>
  qb (q_len a1) fun v19 =>
  qb (q_bin .geq v17 v19) fun v20 =>
  hJ (fun ls st =>
   hJ (fun ls_1 st =>
    qb (q_load st true 4 (ls_1.getD 0 .junk)) fun v36 =>
    callK prog n_impl_tooBig [v36] st (fun v37 st =>
    cb v37 fun b_2 => br b_2
     (callK prog n_impl_stop [(.int .i64 11), a3] st (fun v39 st =>
     qb (q_load st true 4 (ls_1.getD 0 .junk)) fun v40 =>
     e_store st 4 v8 v40 fun st =>
     qb (q_load st true 4 v8) fun r => retR R r st) (panR R))
     (qb (q_load st true 4 (ls_1.getD 0 .junk)) fun v40_1 =>
     e_store st 4 v8 v40_1 fun st =>
     qb (q_load st true 4 v8) fun r_1 => retR R r_1 st)) (panR R))
    (fun k_1 =>
   qb (q_len a1) fun v25 =>
   qb (q_bin .sub v25 (.int .i64 1)) fun v26 =>
   qb (q_fa 1 v6) fun v27 =>
   qb (q_load st false 1 v27) fun v28 =>
   qb (q_bin .sub v26 v28) fun v29 =>
   qb (q_ia 4 a1 v29) fun v30 =>
   qb (q_load st true 4 v30) fun v31 =>
   qb (q_fa 1 v6) fun v32 =>
   qb (q_load st false 1 v32) fun v33 =>
   qb (q_bin .add v33 (.int .i64 1)) fun v34 =>
   (callK prog n_impl_lift [v31, (.int .i64 0), v34] st (fun v35 st =>
   e_alloc st [.int .i64 0, .int .i64 0, .str [], .sl 0 true []] fun v9 st =>
   q_load st false 1 v32 = some v33 ∧ q_load st true 4 v30 = some v31 ∧ q_load st false 1 v27 = some v28 ∧ (e_store st 4 v9 v35 fun st =>
   k_1 [v9] st)) (panR R)) ∧
   (e_alloc st [.int .i64 0, .int .i64 0, .str [], .sl 0 true []] fun v9_1 st =>
   q_load st false 1 v32 = some v33 ∧ q_load st true 4 v30 = some v31 ∧ q_load st false 1 v27 = some v28 ∧ (callK prog n_impl_lift [v31, (.int .i64 0), v34] st (fun v35_1 st =>
   e_store st 4 v9_1 v35_1 fun st =>
   k_1 [v9_1] st) (panR R)))))
   (fun k =>
  cb v20 fun b_1 => br b_1
   (callK prog n_impl_stop [(.int .i64 7), a3] st (fun v22 st =>
   k [] st) (panR R))
   (k [] st)))
  (qb (q_bin .eql v13 (.int .i64 6)) fun v42 =>
  cb v42 fun b_3 => br b_3
   (qb (q_fa 2 v6) fun v45 =>
   qb (q_load st false 1 v45) fun v46 =>
   callK prog n_impl_checker_declared [a0, v46, (.bool false)] st (fun v47 st =>
   qb (q_ex v47 0) fun v48 =>
   qb (q_ex v47 1) fun v49 =>
   e_alloc st [.int .i64 0, .int .i64 0, .str [], .sl 0 true []] fun v10 st =>
   e_store st 4 v10 v48 fun st =>
   qb (q_un .not v49) fun v51 =>
   cb v51 fun b_4 => br b_4
    (callK prog n_impl_stop [(.int .i64 5), a3] st (fun v53 st =>
    qb (q_load st true 4 v10) fun v54 =>
    e_store st 4 v8 v54 fun st =>
    qb (q_load st true 4 v8) fun r_2 => retR R r_2 st) (panR R))
    (qb (q_load st true 4 v10) fun v54_1 =>
    e_store st 4 v8 v54_1 fun st =>
    qb (q_load st true 4 v8) fun r_3 => retR R r_3 st)) (panR R))
   (callK prog n_impl_stop [(.int .i64 15), a3] st (fun v56 st =>
   qb (q_struct [.int .i64 0, .int .i64 0, .str [], .sl 0 true []] []) fun v57 =>
   e_store st 4 v8 v57 fun st =>
   qb (q_load st true 4 v8) fun r_4 => retR R r_4 st) (panR R)))
theorem c_impl_checker_head {a0 a1 a2 a3 : PV} {st : St} {R : Res → St → Prop} (h : b_impl_checker_head a0 a1 a2 a3 st R) : HCalls prog n_impl_checker_head [a0, a1, a2, a3] st R :=
 hcalls_of_func tyOK mixed (fn := Go.Proofs.Tryz.f126) (by kernel_rfl) (by kernel_rfl) (by kernel_rfl) (ann := [(18, []), (21, [9])])
  (show hFunc prog TT [(18, []), (21, [9])] Go.Proofs.Tryz.f126 [a0, a1, a2, a3] st R from (show hFunc prog TT [(18, []), (21, [9])] Go.Proofs.Tryz.f126 [a0, a1, a2, a3] st R = b_impl_checker_head a0 a1 a2 a3 st R by kernel_rfl) ▸ h)
def b_impl_longText (a0 : PV) (st : St) (R : Res → St → Prop) : Prop :=
 qb (q_lenS a0) fun v4 =>
 qb (q_bin .gtr v4 (.int .i64 65536)) fun v5 =>
 retR R v5 st
theorem c_impl_longText {a0 : PV} {st : St} {R : Res → St → Prop} (h : b_impl_longText a0 st R) : HCalls prog n_impl_longText [a0] st R :=
 hcalls_of_func tyOK mixed (fn := Go.Proofs.Tryz.f127) (by kernel_rfl) (by kernel_rfl) (by kernel_rfl) (ann := [])
  (show hFunc prog TT [] Go.Proofs.Tryz.f127 [a0] st R from (show hFunc prog TT [] Go.Proofs.Tryz.f127 [a0] st R = b_impl_longText a0 st R by kernel_rfl) ▸ h)
def b_strings_Lines (a0 : PV) (st : St) (R : Res → St → Prop) : Prop :=
 e_box st a0 fun v1 st =>
 retR R (.fn (.func n_strings_Lines_1) [] [v1]) st
theorem c_strings_Lines {a0 : PV} {st : St} {R : Res → St → Prop} (h : b_strings_Lines a0 st R) : HCalls prog n_strings_Lines [a0] st R :=
 hcalls_of_func tyOK mixed (fn := Go.Proofs.Tryz.f128) (by kernel_rfl) (by kernel_rfl) (by kernel_rfl) (ann := [])
  (show hFunc prog TT [] Go.Proofs.Tryz.f128 [a0] st R from (show hFunc prog TT [] Go.Proofs.Tryz.f128 [a0] st R = b_strings_Lines a0 st R by kernel_rfl) ▸ h)
def b_strings_TrimSuffix (a0 a1 : PV) (st : St) (R : Res → St → Prop) : Prop :=
 callK prog n_internal_stringslite_TrimSuffix [a0, a1] st (fun v7 st =>
 retR R v7 st) (panR R)
theorem c_strings_TrimSuffix {a0 a1 : PV} {st : St} {R : Res → St → Prop} (h : b_strings_TrimSuffix a0 a1 st R) : HCalls prog n_strings_TrimSuffix [a0, a1] st R :=
 hcalls_of_func tyOK mixed (fn := Go.Proofs.Tryz.f129) (by kernel_rfl) (by kernel_rfl) (by kernel_rfl) (ann := [])
  (show hFunc prog TT [] Go.Proofs.Tryz.f129 [a0, a1] st R from (show hFunc prog TT [] Go.Proofs.Tryz.f129 [a0, a1] st R = b_strings_TrimSuffix a0 a1 st R by kernel_rfl) ▸ h)
def b_impl_says (a0 : PV) (st : St) (R : Res → St → Prop) : Prop :=
 callK prog n_impl_blankEnd [a0, (.int .i64 0)] st (fun v5 st =>
 qb (q_lenS a0) fun v8 =>
 qb (q_bin .lss v5 v8) fun v9 =>
 cb v9 fun b => br b
  (qb (q_ix a0 v5) fun v13 =>
  qb (q_bin .neq v13 (.int .u8 37)) fun v14 =>
  retR R v14 st)
  (retR R (.bool false) st)) (panR R)
theorem c_impl_says {a0 : PV} {st : St} {R : Res → St → Prop} (h : b_impl_says a0 st R) : HCalls prog n_impl_says [a0] st R :=
 hcalls_of_func tyOK mixed (fn := Go.Proofs.Tryz.f130) (by kernel_rfl) (by kernel_rfl) (by kernel_rfl) (ann := [])
  (show hFunc prog TT [] Go.Proofs.Tryz.f130 [a0] st R from (show hFunc prog TT [] Go.Proofs.Tryz.f130 [a0] st R = b_impl_says a0 st R by kernel_rfl) ▸ h)
def b_impl_ReadSig_1 (a0 a1 : PV) (st : St) (R : Res → St → Prop) : Prop :=
 qb (q_load st false 1 a0) fun v2 =>
 qb (q_load st false 1 a1) fun v3 =>
 callK prog n_impl_addLine [v2, v3] st (fun v4 st =>
 e_store st 1 a0 v4 fun st =>
 retR R (.tup []) st) (panR R)
theorem c_impl_ReadSig_1 {a0 a1 : PV} {st : St} {R : Res → St → Prop} (h : b_impl_ReadSig_1 a0 a1 st R) : HCalls prog n_impl_ReadSig_1 [a0, a1] st R :=
 hcalls_of_func tyOK mixed (fn := Go.Proofs.Tryz.f131) (by kernel_rfl) (by kernel_rfl) (by kernel_rfl) (ann := [])
  (show hFunc prog TT [] Go.Proofs.Tryz.f131 [a0, a1] st R from (show hFunc prog TT [] Go.Proofs.Tryz.f131 [a0, a1] st R = b_impl_ReadSig_1 a0 a1 st R by kernel_rfl) ▸ h)
def b_impl_addLine (a0 a1 : PV) (st : St) (R : Res → St → Prop) : Prop :=
 callK prog n_impl_readDecl [a1] st (fun v8 st =>
 e_alloc st [.str [], .bool false, .int .i64 0, .int .i64 0, .str [], .sl 0 true []] fun v5 st =>
 e_store st 6 v5 v8 fun st =>
 qb (q_load st true 6 v5) fun v10 =>
 callK prog n_impl_addFault [a0, v10] st (fun v11 st =>
 e_alloc st [.int .i64 0, .int .i64 0] fun v6 st =>
 e_store st 2 v6 v11 fun st =>
 qb (q_fa 0 v6) fun v12 =>
 qb (q_load st false 1 v12) fun v13 =>
 qb (q_bin .neq v13 (.int .i64 0)) fun v14 =>
 cb v14 fun b => br b
  (qb (q_fa 0 v6) fun v15 =>
  qb (q_load st false 1 v15) fun v16 =>
  qb (q_fa 1 v6) fun v17 =>
  qb (q_load st false 1 v17) fun v18 =>
  callK prog n_impl_stop [v16, v18] st (fun v19 st =>
  qb (q_load st true 6 v5) fun v21 =>
  qb (q_lit 6 1 0 [] [(0, v21)]) fun v22 =>
  e_append st 6 80 a0 v22 (fun v23 st =>
  retR R v23 st)) (panR R))
  (qb (q_load st true 6 v5) fun v21_1 =>
  qb (q_lit 6 1 0 [] [(0, v21_1)]) fun v22_1 =>
  e_append st 6 80 a0 v22_1 (fun v23_1 st =>
  retR R v23_1 st))) (panR R)) (panR R)
theorem c_impl_addLine {a0 a1 : PV} {st : St} {R : Res → St → Prop} (h : b_impl_addLine a0 a1 st R) : HCalls prog n_impl_addLine [a0, a1] st R :=
 hcalls_of_func tyOK mixed (fn := Go.Proofs.Tryz.f132) (by kernel_rfl) (by kernel_rfl) (by kernel_rfl) (ann := [])
  (show hFunc prog TT [] Go.Proofs.Tryz.f132 [a0, a1] st R from (show hFunc prog TT [] Go.Proofs.Tryz.f132 [a0, a1] st R = b_impl_addLine a0 a1 st R by kernel_rfl) ▸ h)
end Go.H.Tryz
